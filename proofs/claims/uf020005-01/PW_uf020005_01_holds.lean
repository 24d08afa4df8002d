import PyProof.Rows.All
import Wide.All
import OpenK.AllK
import Wide.FinOn
import PySem.Challenge.RW_uf020005_01
set_option Elab.async false
set_option autoImplicit false
set_option linter.unusedVariables false
set_option linter.unusedSimpArgs false
set_option maxRecDepth 100000
section
namespace Mine
open PySem

/-! The abstract machine: values, objects, a syntax without places, its weakest preconditions. -/

abbrev Txt := List Nat

inductive V where
  | none
  | bool (b : Bool)
  | int (i : Int)
  | str (t : Txt)
  | ref (n : Nat)
  | glob (g : Str)
  | exn (c : Str)
  deriving DecidableEq

inductive AObj where
  | list (xs : List V)
  | tuple (xs : List V)
  | dict (es : List (Txt × V)) (ep : Nat)
  | inst (cls : Str) (d : Nat)
  | idict (fs : List (Str × V))

abbrev AHeap := List AObj
abbrev Sg := Str → Option V
noncomputable def Sg.set (σ : Sg) (x : Str) (v : V) : Sg := fun y => if y = x then some v else σ y
noncomputable def Sg.sets (σ : Sg) : List (Str × V) → Sg
  | [] => σ
  | (x, v) :: r => (σ.set x v).sets r

inductive Tgt where
  | name (x : Str)
  | tup (xs : List Str)

inductive PE where
  | name (x : Str)
  | glob (x : Str)
  | none
  | bool (b : Bool)
  | int (i : Int)
  | str (x : Str)
  | bin (op : Operator) (l r : PE)
  | cmp1 (op : CmpOp) (l r : PE)
  | cmp2 (o1 o2 : CmpOp) (a b c : PE)
  | and (l r : PE)
  | or (l r : PE)
  | not (e : PE)
  | neg (e : PE)
  | ite (c a b : PE)
  | call (f : PE) (args : PE)
  | sortLen (e : PE)
  | meth (o : PE) (m : Str) (args : PE)
  | attr (o : PE) (a : Str)
  | sub (o i : PE)
  | slice (o lo hi : PE)
  | rev (o : PE)
  | list (es : PE)
  | tuple (es : PE)
  | dict0
  | dict1 (k v : PE)
  | comp0 (elt : PE) (t : Tgt) (it : PE)
  | comp1 (elt : PE) (t : Tgt) (it : PE) (cond : PE)
  | nil
  | cons (h t : PE)
  | itVal (e : PE)
  | itRange1 (hi : PE)
  | itRange2 (lo hi : PE)
  | itRev (e : PE)
  | itEnum (e : PE)

inductive PS where
  | skip
  | seq (a b : PS)
  | assign (t : Tgt) (e : PE)
  | setItem (o i e : PE)
  | setAttr (o : PE) (a : Str) (e : PE)
  | expr (e : PE)
  | ite (c : PE) (a b : PS)
  | for_ (t : Tgt) (it : PE) (body : PS)
  | while_ (c : PE) (body : PS)
  | ret (e : PE)
  | raise (c : Str) (e : PE)
  | try_ (body : PS) (c x : Str) (h : PS)
  | brk

inductive Fl where
  | next | brk | ret (v : V)

inductive Item where
  | one (v : V)
  | many (vs : List V)

abbrev VPost := V → AHeap → Prop
abbrev XPost := Str → AHeap → Prop
abbrev Spec := List V → AHeap → VPost → XPost → Prop

/-- how methods are named: by the kind of the receiver -/
inductive MK where
  | str | list | dict | inst (c : Str)
  deriving DecidableEq

noncomputable def kindA (v : V) (H : AHeap) : Option MK := match v with
  | .str _ => some .str
  | .ref n => (match H[n]? with
    | some (.list _) => some .list
    | some (.dict _ _) => some .dict
    | some (.inst c _) => some (.inst c)
    | _ => none)
  | _ => none

/-- what is known of the globals: their values, the functions' specs, the methods' specs -/
structure Tab where
  gv : Str → Option V
  fn : Str → Spec
  has : MK → Str → Bool
  mt : MK → Str → Spec
  srt : Spec
  rvs : Spec

noncomputable def truthyA : V → Option Bool
  | .none => some false
  | .bool b => some b
  | .int i => some (i != 0)
  | .str t => some (!t.isEmpty)
  | _ => Option.none

/-- the model's lid for sizes, here a lower one -/
abbrev lid : Nat := 1000000

/-- texts: signs are code points, not too many -/
noncomputable def okT (t : Txt) : Bool := decide (t.length ≤ lid) && t.all fun c => decide (c < 1114112)

/-! a value as plain data, read off the heap -/
inductive Dt where
  | none
  | bool (b : Bool)
  | int (i : Int)
  | str (t : Txt)
  | list (xs : List Dt)
  | tuple (xs : List Dt)

noncomputable def rdL (f : V → Option Dt) : List V → Option (List Dt)
  | [] => some []
  | v :: r => match f v, rdL f r with
    | some d, some ds => some (d :: ds)
    | _, _ => Option.none
noncomputable def rd (H : AHeap) : Nat → V → Option Dt
  | _, .none => some .none
  | _, .bool b => some (.bool b)
  | _, .int i => some (.int i)
  | _, .str t => some (.str t)
  | n + 1, .ref a => match H[a]? with
    | some (.list xs) => (rdL (rd H n) xs).map .list
    | some (.tuple xs) => (rdL (rd H n) xs).map .tuple
    | _ => Option.none
  | _, _ => Option.none

mutual
noncomputable def Dt.eqv : Dt → Dt → Bool
  | .none, .none => true
  | .bool a, .bool b => a == b
  | .bool a, .int j => (if a then 1 else 0) == j
  | .int i, .bool b => i == (if b then 1 else 0)
  | .int i, .int j => i == j
  | .str a, .str b => a == b
  | .list a, .list b => Dt.eqvL a b
  | .tuple a, .tuple b => Dt.eqvL a b
  | _, _ => false
noncomputable def Dt.eqvL : List Dt → List Dt → Bool
  | [], [] => true
  | a :: r, b :: t => Dt.eqv a b && Dt.eqvL r t
  | _, _ => false
end

/-- Python's == of two values that read as data (depth at most 6) -/
noncomputable def eqA (H : AHeap) (a b : V) (q : Bool → Prop) : Prop :=
  match rd H 6 a, rd H 6 b with
  | some x, some y => q (Dt.eqv x y)
  | _, _ => False

/-- Python's in: a sign in a text, a value in a list, a key in a dict -/
noncomputable def inA (H : AHeap) (a b : V) (q : Bool → Prop) : Prop :=
  match b with
  | .str u => (match a with | .str [c] => q (decide (c ∈ u)) | _ => False)
  | .ref n => (match H[n]? with
    | some (.list _) => (match rd H 6 b, rd H 6 a with | some (.list ds), some d => q (ds.any fun x => Dt.eqv x d) | _, _ => False)
    | some (.dict es _) => (match a with | .str k => q (es.any fun e => e.1 == k) | _ => False)
    | _ => False)
  | _ => False

noncomputable def cmpA (op : CmpOp) (a b : V) (H : AHeap) (q : Bool → Prop) : Prop :=
  match op with
  | .Eq => eqA H a b q
  | .NotEq => eqA H a b fun c => q (!c)
  | .Is => b = .none ∧ q (decide (a = .none))
  | .IsNot => b = .none ∧ q (!decide (a = .none))
  | .Lt => match a, b with | .int i, .int j => q (decide (i < j)) | _, _ => False
  | .LtE => match a, b with | .int i, .int j => q (decide (i ≤ j)) | _, _ => False
  | .Gt => match a, b with | .int i, .int j => q (decide (i > j)) | _, _ => False
  | .GtE => match a, b with | .int i, .int j => q (decide (i ≥ j)) | _, _ => False
  | .In => inA H a b q
  | .NotIn => inA H a b fun c => q (!c)

noncomputable def binA (op : Operator) (a b : V) (H : AHeap) (Q : VPost) : Prop :=
  match op, a, b with
  | .Add, .int i, .int j => Q (.int (i + j)) H
  | .Sub, .int i, .int j => Q (.int (i - j)) H
  | .Mult, .int i, .int j => (i.natAbs < 2 ^ 63 ∨ j.natAbs < 2 ^ 63) ∧ Q (.int (i * j)) H
  | .FloorDiv, .int i, .int j => 0 < j ∧ j < 1073741824 ∧ Q (.int (i / j)) H
  | .Mod, .int i, .int j => 0 < j ∧ Q (.int (i % j)) H
  | .Add, .str t, .str u => t.length + u.length ≤ lid ∧ Q (.str (t ++ u)) H
  | .Add, .ref m, .ref n => (match H[m]?, H[n]? with
    | some (.list xs), some (.list ys) => xs.length + ys.length ≤ lid ∧ Q (.ref H.length) (H ++ [.list (xs ++ ys)])
    | _, _ => False)
  | .Mult, .ref m, .int j => (match H[m]? with
    | some (.list [x]) => 0 ≤ j ∧ j ≤ lid ∧ Q (.ref H.length) (H ++ [.list (List.replicate j.toNat x)])
    | _ => False)
  | _, _, _ => False

/-- Python's place of an index: negative ones from behind -/
noncomputable def place (i : Int) (n : Nat) : Option Nat :=
  if 0 ≤ i then (if i.toNat < n then some i.toNat else Option.none)
  else if 0 ≤ i + n then some (i + n).toNat else Option.none

noncomputable def subA (o i : V) (H : AHeap) (q : V → Prop) : Prop :=
  match o, i with
  | .str t, .int k => (match place k t.length with
    | some j => q (.str ((t.drop j).take 1))
    | Option.none => False)
  | .ref n, .int k => (match H[n]? with
    | some (.list xs) | some (.tuple xs) => (match place k xs.length with
      | some j => (match xs[j]? with | some v => q v | Option.none => False)
      | Option.none => False)
    | _ => False)
  | .ref n, .str k => (match H[n]? with
    | some (.dict es _) => (match es.find? (fun e => e.1 == k) with | some e => q e.2 | Option.none => False)
    | _ => False)
  | _, _ => False

/-- Python's clipping of a slice's bound -/
noncomputable def clip (i : Int) (n : Nat) : Nat := if 0 ≤ i then min i.toNat n else (i + n).toNat
noncomputable def cut {α : Type} (xs : List α) (lo hi : Nat) : List α := (xs.take hi).drop lo
noncomputable def lowOf (v : V) (n : Nat) : Option Nat := match v with
  | .none => some 0
  | .int i => some (clip i n)
  | _ => Option.none
noncomputable def highOf (v : V) (n : Nat) : Option Nat := match v with
  | .none => some n
  | .int i => some (clip i n)
  | _ => Option.none

noncomputable def sliceA (o lo hi : V) (H : AHeap) (Q : VPost) : Prop :=
  match o with
  | .str t => (match lowOf lo t.length, highOf hi t.length with
    | some i, some j => Q (.str (cut t i j)) H
    | _, _ => False)
  | .ref n => (match H[n]? with
    | some (.list xs) => (match lowOf lo xs.length, highOf hi xs.length with
      | some i, some j => Q (.ref H.length) (H ++ [.list (cut xs i j)])
      | _, _ => False)
    | some (.tuple xs) => (match lo, hi with
      | .int k, .none => 1 ≤ k ∧ k ≤ xs.length ∧ Q (.ref H.length) (H ++ [.tuple (xs.drop k.toNat)])
      | _, _ => False)
    | _ => False)
  | _ => False

noncomputable def attrA (o : V) (a : Str) (H : AHeap) (q : V → Prop) : Prop :=
  match o with
  | .ref n => (match H[n]? with
    | some (.inst _ d) => (match H[d]? with
      | some (.idict fs) => (match fs.lookup a with | some v => q v | Option.none => False)
      | _ => False)
    | _ => False)
  | _ => False

noncomputable def itemsA (v : V) (H : AHeap) (q : List Item → (AHeap → Prop) → Prop) : Prop :=
  match v with
  | .str t => q (t.map fun c => .one (.str [c])) fun _ => True
  | .ref n => (match H[n]? with
    | some (.list xs) => q (xs.map .one) fun H' => H'[n]? = some (.list xs)
    | some (.tuple xs) => q (xs.map .one) fun H' => H'[n]? = some (.tuple xs)
    | some (.dict es ep) => q (es.map fun e => .one (.str e.1)) fun H' => H'[n]? = some (.dict es ep)
    | _ => False)
  | _ => False

noncomputable def bindA (t : Tgt) (x : Item) (H : AHeap) (σ : Sg) : Option Sg :=
  match t, x with
  | .name y, .one v => some (σ.set y v)
  | .tup ys, .many vs => if ys.length = vs.length then some (σ.sets (ys.zip vs)) else Option.none
  | .tup ys, .one (.ref n) => (match H[n]? with
    | some (.tuple vs) => if ys.length = vs.length then some (σ.sets (ys.zip vs)) else Option.none
    | _ => Option.none)
  | _, _ => Option.none

noncomputable def intsFrom (a : Int) (n : Nat) : List Int := (List.range n).map fun i => a + (i : Nat)

/-- a comprehension's turns -/
noncomputable def compGo (K : AHeap → Prop) (bind : Item → AHeap → Option Sg) (test : Sg → AHeap → (Bool → AHeap → Prop) → Prop) (elt : Sg → AHeap → VPost → Prop) (Q : List V → AHeap → Prop) : List Item → List V → AHeap → Prop
  | [], acc, H => K H ∧ Q acc H
  | x :: xs, acc, H => K H ∧ match bind x H with
    | some σ => test σ H fun b H1 => if b then elt σ H1 fun v H2 => compGo K bind test elt Q xs (acc ++ [v]) H2 else compGo K bind test elt Q xs acc H1
    | Option.none => False

/-- what an expression does: as a value, as a test, as a list of arguments, as what a loop goes over -/
structure Me where
  ev : Sg → AHeap → VPost → XPost → Prop
  tt : Sg → AHeap → (Bool → AHeap → Prop) → XPost → Prop
  el : Sg → AHeap → (List V → AHeap → Prop) → XPost → Prop
  it : Sg → AHeap → (List Item → (AHeap → Prop) → AHeap → Prop) → XPost → Prop

noncomputable def Me.ofEv (ev : Sg → AHeap → VPost → XPost → Prop) : Me where
  ev := ev
  tt := fun σ H q X => ev σ H (fun v H1 => match truthyA v with | some b => q b H1 | Option.none => False) X
  el := fun _ _ _ _ => False
  it := fun _ _ _ _ => False

noncomputable def Me.ofEl (el : Sg → AHeap → (List V → AHeap → Prop) → XPost → Prop) : Me := ⟨fun _ _ _ _ => False, fun _ _ _ _ => False, el, fun _ _ _ _ => False⟩
noncomputable def Me.ofIt (i : Sg → AHeap → (List Item → (AHeap → Prop) → AHeap → Prop) → XPost → Prop) : Me := ⟨fun _ _ _ _ => False, fun _ _ _ _ => False, fun _ _ _ _ => False, i⟩

noncomputable def sem (T : Tab) : PE → Me
  | .name x => .ofEv fun σ H Q _ => match σ x with | some v => Q v H | Option.none => False
  | .glob g => .ofEv fun _ H Q _ => match T.gv g with | some v => Q v H | Option.none => False
  | .none => .ofEv fun _ H Q _ => Q .none H
  | .bool b => .ofEv fun _ H Q _ => Q (.bool b) H
  | .int i => .ofEv fun _ H Q _ => Q (.int i) H
  | .str x => .ofEv fun _ H Q _ => Q (.str x.cps.toList) H
  | .bin op l r => .ofEv fun σ H Q X => (sem T l).ev σ H (fun a H1 => (sem T r).ev σ H1 (fun b H2 => binA op a b H2 Q) X) X
  | .cmp1 op l r =>
    let go := fun (σ : Sg) (H : AHeap) (q : Bool → AHeap → Prop) (X : XPost) => (sem T l).ev σ H (fun a H1 => (sem T r).ev σ H1 (fun b H2 => cmpA op a b H2 fun c => q c H2) X) X
    { Me.ofEv (fun σ H Q X => go σ H (fun c H2 => Q (.bool c) H2) X) with tt := go }
  | .cmp2 o1 o2 a b c =>
    let go := fun (σ : Sg) (H : AHeap) (q : Bool → AHeap → Prop) (X : XPost) => (sem T a).ev σ H (fun x H1 => (sem T b).ev σ H1 (fun y H2 => cmpA o1 x y H2 fun c1 =>
      if c1 then (sem T c).ev σ H2 (fun z H3 => cmpA o2 y z H3 fun c2 => q c2 H3) X else q false H2) X) X
    { Me.ofEv (fun σ H Q X => go σ H (fun c H2 => Q (.bool c) H2) X) with tt := go }
  | .and l r =>
    { Me.ofEv (fun σ H Q X => (sem T l).ev σ H (fun v H1 => match truthyA v with | some b => if b then (sem T r).ev σ H1 Q X else Q v H1 | Option.none => False) X) with
      tt := fun σ H q X => (sem T l).tt σ H (fun b H1 => if b then (sem T r).tt σ H1 q X else q false H1) X }
  | .or l r =>
    { Me.ofEv (fun σ H Q X => (sem T l).ev σ H (fun v H1 => match truthyA v with | some b => if b then Q v H1 else (sem T r).ev σ H1 Q X | Option.none => False) X) with
      tt := fun σ H q X => (sem T l).tt σ H (fun b H1 => if b then q true H1 else (sem T r).tt σ H1 q X) X }
  | .not e =>
    { Me.ofEv (fun σ H Q X => (sem T e).ev σ H (fun v H1 => match truthyA v with | some b => Q (.bool !b) H1 | Option.none => False) X) with
      tt := fun σ H q X => (sem T e).tt σ H (fun b H1 => q (!b) H1) X }
  | .neg e => .ofEv fun σ H Q X => (sem T e).ev σ H (fun v H1 => match v with | .int i => Q (.int (-i)) H1 | _ => False) X
  | .ite c a b =>
    { Me.ofEv (fun σ H Q X => (sem T c).tt σ H (fun t H1 => if t then (sem T a).ev σ H1 Q X else (sem T b).ev σ H1 Q X) X) with
      tt := fun σ H q X => (sem T c).tt σ H (fun t H1 => if t then (sem T a).tt σ H1 q X else (sem T b).tt σ H1 q X) X }
  | .call f args => .ofEv fun σ H Q X => (sem T f).ev σ H (fun fv H1 => match fv with
      | .glob g => (sem T args).el σ H1 (fun vs H2 => T.fn g vs H2 Q X) X
      | _ => False) X
  | .sortLen e => .ofEv fun σ H Q X => (sem T e).ev σ H (fun v H1 => T.srt [v] H1 Q X) X
  | .meth o m args => .ofEv fun σ H Q X => (sem T o).ev σ H (fun ov H1 => match kindA ov H1 with
      | some kd => T.has kd m = true ∧ (sem T args).el σ H1 (fun vs H2 => T.mt kd m (ov :: vs) H2 Q X) X
      | Option.none => False) X
  | .attr o a => .ofEv fun σ H Q X => (sem T o).ev σ H (fun ov H1 => attrA ov a H1 fun v => Q v H1) X
  | .sub o i => .ofEv fun σ H Q X => (sem T o).ev σ H (fun ov H1 => (sem T i).ev σ H1 (fun iv H2 => subA ov iv H2 fun v => Q v H2) X) X
  | .slice o lo hi => .ofEv fun σ H Q X => (sem T o).ev σ H (fun ov H1 => (sem T lo).ev σ H1 (fun l H2 => (sem T hi).ev σ H2 (fun h H3 => sliceA ov l h H3 Q) X) X) X
  | .rev o => .ofEv fun σ H Q X => (sem T o).ev σ H (fun ov H1 => T.rvs [ov] H1 Q X) X
  | .list es => .ofEv fun σ H Q X => (sem T es).el σ H (fun vs H1 => vs.length ≤ lid ∧ Q (.ref H1.length) (H1 ++ [.list vs])) X
  | .tuple es => .ofEv fun σ H Q X => (sem T es).el σ H (fun vs H1 => vs.length ≤ lid ∧ Q (.ref H1.length) (H1 ++ [.tuple vs])) X
  | .dict0 => .ofEv fun _ H Q _ => Q (.ref H.length) (H ++ [.dict [] 0])
  | .dict1 k v => .ofEv fun σ H Q X => (sem T k).ev σ H (fun kv H1 => (sem T v).ev σ H1 (fun vv H2 => match kv with | .str t => Q (.ref H2.length) (H2 ++ [.dict [(t, vv)] 1]) | _ => False) X) X
  | .comp0 elt t it => .ofEv fun σ H Q X => (sem T it).it σ H (fun items K H1 =>
      items.length ≤ lid ∧ compGo K (fun x H' => bindA t x H' σ) (fun _ H' q => q true H') (fun σ' H' q => (sem T elt).ev σ' H' q X) (fun acc H' => Q (.ref H'.length) (H' ++ [.list acc])) items [] H1) X
  | .comp1 elt t it cond => .ofEv fun σ H Q X => (sem T it).it σ H (fun items K H1 =>
      items.length ≤ lid ∧ compGo K (fun x H' => bindA t x H' σ) (fun σ' H' q => (sem T cond).tt σ' H' q X) (fun σ' H' q => (sem T elt).ev σ' H' q X) (fun acc H' => Q (.ref H'.length) (H' ++ [.list acc])) items [] H1) X
  | .nil => .ofEl fun _ H q _ => q [] H
  | .cons h t => .ofEl fun σ H q X => (sem T h).ev σ H (fun v H1 => (sem T t).el σ H1 (fun vs H2 => q (v :: vs) H2) X) X
  | .itVal e => .ofIt (fun σ H q X => (sem T e).ev σ H (fun v H1 => itemsA v H1 fun items K => q items K H1) X)
  | .itRange1 e => .ofIt (fun σ H q X => (sem T e).ev σ H (fun v H1 => match v with
      | .int j => 0 ≤ j ∧ j ≤ lid ∧ q ((intsFrom 0 j.toNat).map fun i => .one (.int i)) (fun _ => True) H1
      | _ => False) X)
  | .itRange2 a b => .ofIt (fun σ H q X => (sem T a).ev σ H (fun u H1 => (sem T b).ev σ H1 (fun v H2 => match u, v with
      | .int i, .int j => 0 ≤ i ∧ i ≤ lid ∧ 0 ≤ j ∧ j ≤ lid ∧ q ((intsFrom i (j - i).toNat).map fun i => .one (.int i)) (fun _ => True) H2
      | _, _ => False) X) X)
  | .itRev e => .ofIt (fun σ H q X => (sem T e).ev σ H (fun v H1 => match v with
      | .int j => 0 ≤ j ∧ j ≤ lid ∧ q ((intsFrom 0 j.toNat).reverse.map fun i => .one (.int i)) (fun _ => True) H1
      | _ => False) X)
  | .itEnum e => .ofIt (fun σ H q X => (sem T e).ev σ H (fun v H1 => match v with
      | .ref n => (match H1[n]? with
        | some (.list xs) => q (xs.zipIdx.map fun p => .many [.int p.2, p.1]) (fun H' => H'[n]? = some (.list xs)) H1
        | _ => False)
      | _ => False) X)

abbrev SPost := Fl → Sg → AHeap → Prop

/-- a for's turns -/
noncomputable def forGo (K : AHeap → Prop) (bind : Item → AHeap → Sg → Option Sg) (body : Sg → AHeap → SPost → Prop) (Q : SPost) : List Item → Sg → AHeap → Prop
  | [], σ, H => K H ∧ Q .next σ H
  | x :: xs, σ, H => K H ∧ match bind x H σ with
    | some σ' => body σ' H fun fl σ2 H2 => match fl with
      | .next => forGo K bind body Q xs σ2 H2
      | .brk => Q .next σ2 H2
      | .ret v => Q (.ret v) σ2 H2
    | Option.none => False

/-- a while's turns, so many at the most -/
noncomputable def whileGo (test : Sg → AHeap → (Bool → AHeap → Prop) → Prop) (body : Sg → AHeap → SPost → Prop) (Q : SPost) : Nat → Sg → AHeap → Prop
  | 0, _, _ => False
  | n + 1, σ, H => test σ H fun b H1 => if b then body σ H1 fun fl σ2 H2 => match fl with
      | .next => whileGo test body Q n σ2 H2
      | .brk => Q .next σ2 H2
      | .ret v => Q (.ret v) σ2 H2
    else Q .next σ H1

noncomputable def setItemA (o i v : V) (H : AHeap) (q : AHeap → Prop) : Prop :=
  match o with
  | .ref n => n ≠ 0 ∧ (match H[n]?, i with
    | some (.list xs), .int k => 0 ≤ k ∧ k.toNat < xs.length ∧ q (H.set n (.list (xs.set k.toNat v)))
    | _, _ => False)
  | _ => False

noncomputable def setAttrA (o : V) (a : Str) (v : V) (H : AHeap) (q : AHeap → Prop) : Prop :=
  match o with
  | .ref n => (match H[n]? with
    | some (.inst _ d) => (match H[d]? with
      | some (.idict fs) => q (H.set d (.idict (if fs.any (fun e => e.1 == a) then fs.map (fun e => if e.1 == a then (a, v) else e) else fs ++ [(a, v)])))
      | _ => False)
    | _ => False)
  | _ => False

noncomputable def semS (T : Tab) : PS → Sg → AHeap → SPost → XPost → Prop
  | .skip, σ, H, Q, _ => Q .next σ H
  | .seq a b, σ, H, Q, X => semS T a σ H (fun fl σ1 H1 => match fl with | .next => semS T b σ1 H1 Q X | f => Q f σ1 H1) X
  | .assign t e, σ, H, Q, X => (sem T e).ev σ H (fun v H1 => match bindA t (.one v) H1 σ with | some σ' => Q .next σ' H1 | Option.none => False) X
  | .setItem o i e, σ, H, Q, X => (sem T e).ev σ H (fun v H1 => (sem T o).ev σ H1 (fun ov H2 => (sem T i).ev σ H2 (fun iv H3 => setItemA ov iv v H3 fun H4 => Q .next σ H4) X) X) X
  | .setAttr o a e, σ, H, Q, X => (sem T e).ev σ H (fun v H1 => (sem T o).ev σ H1 (fun ov H2 => setAttrA ov a v H2 fun H3 => Q .next σ H3) X) X
  | .expr e, σ, H, Q, X => (sem T e).ev σ H (fun _ H1 => Q .next σ H1) X
  | .ite c a b, σ, H, Q, X => (sem T c).tt σ H (fun t H1 => if t then semS T a σ H1 Q X else semS T b σ H1 Q X) X
  | .for_ t it body, σ, H, Q, X => (sem T it).it σ H (fun items K H1 => forGo K (fun x H' σ' => bindA t x H' σ') (fun σ' H' q => semS T body σ' H' q X) Q items σ H1) X
  | .while_ c body, σ, H, Q, X => ∃ n, whileGo (fun σ' H' q => (sem T c).tt σ' H' q X) (fun σ' H' q => semS T body σ' H' q X) Q n σ H
  | .ret e, σ, H, Q, X => (sem T e).ev σ H (fun v H1 => Q (.ret v) σ H1) X
  | .raise _ _, _, _, _, _ => False
  | .try_ _ _ _ _, _, _, _, _ => False
  | .brk, σ, H, Q, _ => Q .brk σ H

end Mine
end
section
namespace Mine
open PySem

/-! From the model's syntax to the one without places. -/

abbrev Kd := Str → Option NameKind

noncomputable def tgtNames : List Expr → Option (List Str)
  | [] => some []
  | .Name x _ :: r => (tgtNames r).map (x :: ·)
  | _ => none

noncomputable def dot0 : Str := Str.ofString ".0"
noncomputable def stored (k : Kd) (x : Str) : Bool := (k x == some .local || k x == some .cell) && x != dot0
noncomputable def trT (k : Kd) : Expr → Option Tgt
  | .Name x _ => if stored k x then some (.name x) else none
  | .Tuple es _ _ => match tgtNames es with
    | some xs => if xs.all (stored k) && decide xs.Nodup then some (.tup xs) else none
    | none => none
  | _ => none

/-- the names that a comprehension sees -/
noncomputable def inner (sc : Scope) (k : Kd) : Kd := fun x => (sc.names.map fun p => if p.2 == .free && k p.1 == some .cell then (p.1, NameKind.cell) else (p.1, p.2)).lookup x
noncomputable def scOk (sc : Scope) (k : Kd) : Bool := sc.kind == .function && sc.names.all fun p => match p.2 with
  | .local => sc.names.lookup p.1 == some .local
  | .cell => false
  | .free => k p.1 == some .cell
  | _ => true

noncomputable def Tgt.names : Tgt → List Str
  | .name x => [x]
  | .tup xs => xs
noncomputable def onlyHere (sc : Scope) (t : Tgt) : Bool := (t.names.all fun x => sc.names.lookup x == some .local) && sc.names.all fun p => p.2 != .local || p.1 == dot0 || t.names.contains p.1

noncomputable def isG (k : Kd) (x : Str) (n : String) : Bool := x == Str.ofString n && k x == some .globalImplicit

noncomputable def isSet : Expr → Bool
  | .Set .. => true
  | _ => false

noncomputable def trBool (op : BoolOp) : List PE → Option PE
  | [] => none
  | [e] => some e
  | e :: r => (trBool op r).map fun x => match op with | .And => .and e x | .Or => .or e x

noncomputable def trL (f : Expr → Option PE) : List Expr → Option PE
  | [] => some .nil
  | e :: r => match f e, trL f r with
    | some a, some b => some (.cons a b)
    | _, _ => none

noncomputable def trLs (f : Expr → Option PE) : List Expr → Option (List PE)
  | [] => some []
  | e :: r => match f e, trLs f r with
    | some a, some b => some (a :: b)
    | _, _ => none

noncomputable def trO (f : Expr → Option PE) : Option Expr → Option PE
  | none => some .none
  | some e => f e

noncomputable def bnd2 (a b : Option PE) (f : PE → PE → PE) : Option PE := match a, b with
  | some x, some y => some (f x y)
  | _, _ => none
noncomputable def bnd3 (a b c : Option PE) (f : PE → PE → PE → PE) : Option PE := match a, b, c with
  | some x, some y, some z => some (f x y z)
  | _, _, _ => none

/-! single looks at a tree: each is taken apart in one place alone -/
noncomputable def asName : Expr → Option (Str × Pos)
  | .Name x p => some (x, p)
  | _ => none
noncomputable def asAttr : Expr → Option (Expr × Str × Pos)
  | .Attribute o a p => some (o, a, p)
  | _ => none
noncomputable def asCall : Expr → Option (Expr × List Expr × List Keyword × Pos)
  | .Call f a k p => some (f, a, k, p)
  | _ => none
noncomputable def asSlice : Expr → Option (Option Expr × Option Expr × Option Expr × Pos)
  | .Slice a b c p => some (a, b, c, p)
  | _ => none
noncomputable def asSub : Expr → Option (Expr × Expr × Pos)
  | .Subscript o i p => some (o, i, p)
  | _ => none
noncomputable def isStar : Expr → Bool
  | .Starred .. => true
  | _ => false

noncomputable def isGE (k : Kd) (e : Expr) (n : String) : Bool := match asName e with
  | some (g, _) => isG k g n
  | none => false

/-- what a for, or a comprehension, goes over -/
noncomputable def trI (k : Kd) (f : Expr → Option PE) (e : Expr) : Option PE := if isSet e then none else match asCall e with
  | some (g, [a], [], _) =>
    if isGE k g "range" then (f a).map .itRange1
    else if isGE k g "reversed" then (match asCall a with
      | some (h, [b], [], _) => if isGE k h "range" then (f b).map .itRev else none
      | _ => none)
    else if isGE k g "enumerate" then (f a).map .itEnum
    else (f e).map .itVal
  | some (g, [a, b], [], _) => if isGE k g "range" then bnd2 (f a) (f b) .itRange2 else (f e).map .itVal
  | _ => (f e).map .itVal

noncomputable def trCall (k : Kd) (f : Expr → Option PE) (fn : Expr) (args : List Expr) (kws : List Keyword) (pos : Pos) : Option PE := match kws with
  | [] => if decide (args.length < 20) then (match asAttr fn with
    | some (o, m, apos) => if apos.endLine == pos.line && (asCall o).isNone then bnd2 (f o) (trL f args) fun a b => .meth a m b else none
    | none => if (asName fn).isSome then bnd2 (f fn) (trL f args) .call else none) else none
  | [⟨some x, y, _⟩] => (match args with
    | [a] => if isGE k fn "sorted" && x == Str.ofString "key" && isGE k y "len" then (f a).map .sortLen else none
    | _ => none)
  | _ => none

noncomputable def isNeg1 : Option Expr → Bool
  | some (.UnaryOp .USub (.Constant (.int i) _ _) _) => i == 1
  | _ => false

noncomputable def trSub (f : Expr → Option PE) (o i : Expr) : Option PE := match asSlice i with
  | some (lo, hi, none, _) => bnd3 (f o) (trO f lo) (trO f hi) .slice
  | some (none, none, st, _) => if isNeg1 st then (f o).map .rev else none
  | some _ => none
  | none => bnd2 (f o) (f i) .sub

noncomputable def trComp (k : Kd) (f f' : Expr → Option PE) (elt : Expr) (gens : List Comprehension) (sc : Scope) : Option PE := match gens with
  | [⟨t, it, ifs, 0⟩] => if scOk sc k then (match trT (inner sc k) t, trI k f it, f' elt with
    | some t', some it', some e' => if onlyHere sc t' then (match ifs with
      | [] => some (.comp0 e' t' it')
      | [c] => (f' c).map fun c' => .comp1 e' t' it' c'
      | _ => none) else none
    | _, _, _ => none) else none
  | _ => none

noncomputable def trConst : Const → Option PE
  | .none => some .none
  | .bool b => some (.bool b)
  | .int i => some (.int i)
  | .str s => if okT s.cps.toList then some (.str s) else none
  | _ => none

noncomputable def trName (k : Kd) (x : Str) : Option PE := if x == Str.ofString "__debug__" then none else match k x with
  | some .local | some .cell => some (.name x)
  | some .globalImplicit => some (.glob x)
  | _ => none

noncomputable def trUn (f : Expr → Option PE) (op : UnaryOp) (x : Expr) : Option PE := match op with
  | .Not => (f x).map .not
  | .USub => (f x).map .neg
  | _ => none

noncomputable def trCmp (f : Expr → Option PE) (a : Expr) (ops : List CmpOp) (cs : List Expr) : Option PE := match ops, cs with
  | [op], [r] => if isSet r then none else bnd2 (f a) (f r) (.cmp1 op)
  | [o1, o2], [b, c] => if isSet b || isSet c then none else bnd3 (f a) (f b) (f c) (.cmp2 o1 o2)
  | _, _ => none

noncomputable def trE : Nat → Kd → Expr → Option PE
  | 0, _, _ => none
  | n + 1, k, e => match e with
    | .Name x _ => trName k x
    | .Constant c _ _ => trConst c
    | .BinOp l op r _ => bnd2 (trE n k l) (trE n k r) (.bin op)
    | .UnaryOp op x _ => trUn (trE n k) op x
    | .BoolOp op vs _ => (trLs (trE n k) vs).bind (trBool op)
    | .Compare l ops cs _ => trCmp (trE n k) l ops cs
    | .IfExp c a b _ => bnd3 (trE n k c) (trE n k a) (trE n k b) .ite
    | .Call f args kws pos => trCall k (trE n k) f args kws pos
    | .Attribute o a _ => if (asCall o).isSome then none else (trE n k o).map fun x => .attr x a
    | .Subscript o i _ => trSub (trE n k) o i
    | .List es _ => (trL (trE n k) es).map .list
    | .Tuple es _ _ => (trL (trE n k) es).map .tuple
    | .Dict ks vs _ => if ks.isEmpty && vs.isEmpty then some .dict0 else none
    | .ListComp elt gens sc _ => trComp k (trE n k) (trE n (inner sc k)) elt gens sc
    | _ => none

noncomputable def isComp : Expr → Bool
  | .ListComp .. => true
  | .SetComp .. => true
  | .DictComp .. => true
  | _ => false

/-- a tuple of nothing but constants: its stores' order is not laid down -/
noncomputable def oneTup : Expr → Bool
  | .Tuple vs _ _ => vs.all (constantsAlone 8)
  | _ => false

noncomputable def trAssign (k : Kd) (f : Expr → Option PE) (ts : List Expr) (v : Expr) : Option PS := match ts with
  | [t] => (match asSub t with
    | some (o, i, _) => if isComp v || (asSlice i).isSome then none else (match f v, f o, f i with
      | some a, some b, some c => some (.setItem b c a)
      | _, _, _ => none)
    | none => (match asAttr t with
      | some (o, a, _) => if isComp v then none else (match f v, f o with
        | some x, some y => some (.setAttr y a x)
        | _, _ => none)
      | none => (match trT k t, f v with
        | some (.tup xs), some v' => if isComp v || oneTup v then none else some (.assign (.tup xs) v')
        | some (.name x), some v' => some (.assign (.name x) v')
        | _, _ => none)))
  | _ => none

noncomputable def trRaise (k : Kd) (f : Expr → Option PE) (e c : Option Expr) : Option PS := match e, c with
  | some e, none => (match asCall e with
    | some (g, [m], [], _) => (match asName g with
      | some (x, _) => if k x == some .globalImplicit then (f m).map (.raise x) else none
      | none => none)
    | _ => none)
  | _, _ => none

noncomputable def tr1 (k : Kd) (f : Expr → Option PE) (b : List Stmt → Option PS) (st : Stmt) : Option PS := match st with
  | .Assign ts v _ => trAssign k f ts v
  | .Expr e _ => if isComp e then none else (f e).map .expr
  | .If c x y _ => (match f c, b x, b y with
    | some c', some a', some b' => some (.ite c' a' b')
    | _, _, _ => none)
  | .For t it body els _ => if els.isEmpty then (match trT k t, trI k f it, b body with
    | some t', some it', some b' => some (.for_ t' it' b')
    | _, _, _ => none) else none
  | .While c body els _ => if els.isEmpty then (match f c, b body with
    | some c', some b' => some (.while_ c' b')
    | _, _ => none) else none
  | .Return e _ => (match e with
    | some e => (f e).map .ret
    | none => some (.ret .none))
  | .Raise e c _ => trRaise k f e c
  | .Break _ => some .brk
  | .Pass _ => some .skip
  | _ => none

noncomputable def trS : Nat → Kd → List Stmt → Option PS
  | 0, _, _ => none
  | _ + 1, _, [] => some .skip
  | n + 1, k, st :: rest => match tr1 k (trE 60 k) (trS n k) st, trS n k rest with
    | some a, some b => some (.seq a b)
    | _, _ => none

end Mine
end
section
namespace Mine
open PySem

/-! The tie between the abstract machine and the model's state. -/

inductive All2 {α β : Type} (R : α → β → Prop) : List α → List β → Prop
  | nil : All2 R [] []
  | cons {a b as bs} : R a b → All2 R as bs → All2 R (a :: as) (b :: bs)

namespace All2
variable {α β : Type} {R S : α → β → Prop}
theorem length {as : List α} {bs : List β} (h : All2 R as bs) : as.length = bs.length := by
  induction h with
  | nil => rfl
  | cons _ _ ih => exact congrArg (· + 1) ih
theorem mono (f : ∀ a b, R a b → S a b) {as : List α} {bs : List β} (h : All2 R as bs) : All2 S as bs := by
  induction h with
  | nil => exact .nil
  | cons h _ ih => exact .cons (f _ _ h) ih
theorem append {as : List α} {bs : List β} {cs : List α} {ds : List β} (h : All2 R as bs) (k : All2 R cs ds) : All2 R (as ++ cs) (bs ++ ds) := by
  induction h with
  | nil => exact k
  | cons h _ ih => exact .cons h ih
theorem get {as : List α} {bs : List β} (h : All2 R as bs) : ∀ (i : Nat) (a : α), as[i]? = some a → ∃ b, bs[i]? = some b ∧ R a b := by
  induction h with
  | nil => intro i a e; cases e
  | cons h _ ih =>
    intro i a e
    cases i with
    | zero => cases e; exact ⟨_, rfl, h⟩
    | succ i => exact ih i a e
theorem take {as : List α} {bs : List β} (h : All2 R as bs) : ∀ n, All2 R (as.take n) (bs.take n) := by
  induction h with
  | nil => intro n; rw [List.take_nil, List.take_nil]; exact .nil
  | cons h _ ih =>
    intro n
    cases n with
    | zero => exact .nil
    | succ n => exact .cons h (ih n)
theorem drop {as : List α} {bs : List β} (h : All2 R as bs) : ∀ n, All2 R (as.drop n) (bs.drop n) := by
  induction h with
  | nil => intro n; rw [List.drop_nil, List.drop_nil]; exact .nil
  | cons h r ih =>
    intro n
    cases n with
    | zero => exact .cons h r
    | succ n => exact ih n
theorem set {as : List α} {bs : List β} (h : All2 R as bs) {a : α} {b : β} (k : R a b) : ∀ n, All2 R (as.set n a) (bs.set n b) := by
  induction h with
  | nil => intro n; exact .nil
  | cons h r ih =>
    intro n
    cases n with
    | zero => exact .cons k r
    | succ n => exact .cons h (ih n)
theorem replicate {a : α} {b : β} (h : R a b) : ∀ n, All2 R (List.replicate n a) (List.replicate n b)
  | 0 => .nil
  | n + 1 => .cons h (replicate h n)
theorem reverse {as : List α} {bs : List β} (h : All2 R as bs) : All2 R as.reverse bs.reverse := by
  induction h with
  | nil => exact .nil
  | cons h _ ih => rw [List.reverse_cons, List.reverse_cons]; exact ih.append (.cons h .nil)
theorem left {as : List α} {bs : List β} (h : All2 R as bs) : ∀ a ∈ as, ∃ b ∈ bs, R a b := by
  induction h with
  | nil => intro a h; cases h
  | cons h _ ih =>
    intro a m
    cases m with
    | head => exact ⟨_, .head _, h⟩
    | tail _ m => obtain ⟨b, hb, k⟩ := ih a m; exact ⟨b, .tail _ hb, k⟩
theorem right {as : List α} {bs : List β} (h : All2 R as bs) : ∀ b ∈ bs, ∃ a ∈ as, R a b := by
  induction h with
  | nil => intro a h; cases h
  | cons h _ ih =>
    intro a m
    cases m with
    | head => exact ⟨_, .head _, h⟩
    | tail _ m => obtain ⟨b, hb, k⟩ := ih a m; exact ⟨b, .tail _ hb, k⟩
end All2

/-- what stays fixed through the law's call -/
structure Cx where
  prog : Program
  w : World
  base : Heap
  os : OsState
  G : Str → Option Value
  mg : Str → Option Value
  mb : Str → Option Value
  hg : base.Ns mainGlobals mg
  hb : base.Ns builtinsNs mb
  lim : base.NoLimit
  hN : ∀ x, G x ≠ some .none
  hG : ∀ x v, G x = some v → mg x = some v ∨ (mg x = none ∧ mb x = some v)

variable (C : Cx)

noncomputable def VR (ρ : List Addr) : V → Value → Prop
  | .none, u => u = .none
  | .bool b, u => u = .bool b
  | .int i, u => ∃ t, u = .int i t
  | .str x, u => okT x = true ∧ ∃ t, u = .str ⟨x.toArray⟩ t
  | .ref n, u => ∃ a, u = .ref a ∧ ρ[n]? = some a
  | .glob g, u => C.G g = some u
  | .exn _, _ => False

noncomputable def ER (ρ : List Addr) (e : Txt × V) (d : DictEntry) : Prop :=
  VR C ρ (.str e.1) d.key ∧ d.hash = PyData.keyHash C.w.params ⟨e.1.toArray⟩ ∧ VR C ρ e.2 d.val

noncomputable def OR (ρ : List Addr) (h : Heap) (a : Addr) : AObj → Prop
  | .list xs => ∃ us n, h.get? a = some ⟨.type "list", none, .seq us n, #[]⟩ ∧ All2 (VR C ρ) xs us.toList ∧ xs.length ≤ lid
  | .tuple xs => ∃ us n, h.get? a = some ⟨.type "tuple", none, .seq us n, #[]⟩ ∧ All2 (VR C ρ) xs us.toList ∧ xs.length ≤ lid
  | .dict es n => ∃ ds, h.get? a = some ⟨.type "dict", none, .dict ds n, #[]⟩ ∧ All2 (ER C ρ) es ds.toList ∧ (es.map (·.1)).Nodup ∧ es.length ≤ lid
  | .inst _ _ => False
  | .idict _ => False

theorem VR.ext {ρ ρ' : List Addr} (l : List Addr) (e : ρ' = ρ ++ l) : ∀ {v : V} {u : Value}, VR C ρ v u → VR C ρ' v u
  | .none, _, h => h
  | .bool _, _, h => h
  | .int _, _, h => h
  | .str _, _, h => h
  | .ref n, _, ⟨a, e1, e2⟩ => ⟨a, e1, by
      rw [e, List.getElem?_append_left]
      · exact e2
      · exact (List.getElem?_eq_some_iff.mp e2).1⟩
  | .glob _, _, h => h

theorem ER.ext {ρ ρ' : List Addr} (l : List Addr) (e : ρ' = ρ ++ l) {p : Txt × V} {d : DictEntry} (h : ER C ρ p d) : ER C ρ' p d := ⟨h.1.ext C l e, h.2.1, h.2.2.ext C l e⟩

theorem OR.alive {ρ : List Addr} {h : Heap} {a : Addr} : ∀ {o : AObj}, OR C ρ h a o → ∃ ob, h.get? a = some ob
  | .list _, ⟨_, _, e, _⟩ => ⟨_, e⟩
  | .tuple _, ⟨_, _, e, _⟩ => ⟨_, e⟩
  | .dict _ _, ⟨_, e, _⟩ => ⟨_, e⟩

theorem OR.keep {ρ ρ' : List Addr} {h h' : Heap} {a : Addr} (l : List Addr) (e : ρ' = ρ ++ l) (k : ∀ o, h.get? a = some o → h'.get? a = some o) : ∀ {o : AObj}, OR C ρ h a o → OR C ρ' h' a o
  | .list _, ⟨us, n, x, y, z⟩ => ⟨us, n, k _ x, y.mono fun _ _ q => q.ext C l e, z⟩
  | .tuple _, ⟨us, n, x, y, z⟩ => ⟨us, n, k _ x, y.mono fun _ _ q => q.ext C l e, z⟩
  | .dict _ _, ⟨us, x, y, z⟩ => ⟨us, k _ x, y.mono fun _ _ q => q.ext C l e, z⟩

structure Sim (ρ : List Addr) (H : AHeap) (s : Shared) : Prop where
  len : ρ.length = H.length
  nodup : ρ.Nodup
  obj : ∀ (i : Nat) a o, ρ[i]? = some a → H[i]? = some o → OR C ρ s.heap a o
  stays : ∀ b o, C.base.get? b = some o → s.heap.get? b = some o
  fresh : ∀ (i : Nat) a, ρ[i]? = some a → i ≠ 0 → C.base.get? a = none
  sm : sysModules ∉ ρ
  gens : s.gens = #[]
  os : s.os = C.os

/-- from one state to a later one: what both sides know grows, all else but 'ex' stays as it was -/
structure StepG (ex : Addr → Prop) (ρ : List Addr) (s : Shared) (ρ' : List Addr) (s' : Shared) : Prop where
  ext : ∃ l, ρ' = ρ ++ l ∧ ∀ a ∈ l, s.heap.get? a = none
  keep : ∀ b o, b ∉ ρ → ¬ ex b → s.heap.get? b = some o → s'.heap.get? b = some o
  live : ∀ b o, s.heap.get? b = some o → ∃ o', s'.heap.get? b = some o'
abbrev Step := StepG fun _ => False

variable {C}

theorem StepG.refl {ex : Addr → Prop} (ρ : List Addr) (s : Shared) : StepG ex ρ s ρ s := ⟨⟨[], by simp, fun _ h => nomatch h⟩, fun _ _ _ _ e => e, fun _ o e => ⟨o, e⟩⟩
theorem StepG.mono {ex ex' : Addr → Prop} {ρ ρ' : List Addr} {s s' : Shared} (x : StepG ex ρ s ρ' s') (h : ∀ b, ex b → ex' b) : StepG ex' ρ s ρ' s' := ⟨x.ext, fun b o h1 h2 e => x.keep b o h1 (fun q => h2 (h b q)) e, x.live⟩
theorem StepG.up {ex : Addr → Prop} {ρ ρ' : List Addr} {s s' : Shared} (x : Step ρ s ρ' s') : StepG ex ρ s ρ' s' := x.mono fun _ h => h.elim

theorem StepG.trans {ex : Addr → Prop} {ρ ρ1 ρ2 : List Addr} {s s1 s2 : Shared} (x : StepG ex ρ s ρ1 s1) (y : StepG ex ρ1 s1 ρ2 s2) : StepG ex ρ s ρ2 s2 := by
  obtain ⟨l, e, f⟩ := x.ext
  obtain ⟨l2, e2, f2⟩ := y.ext
  refine ⟨⟨l ++ l2, by rw [e2, e, List.append_assoc], fun a ha => ?_⟩, fun b o hb hx q => ?_, fun b o q => ?_⟩
  · rcases List.mem_append.mp ha with ha | ha
    · exact f a ha
    · cases q : s.heap.get? a with
      | none => rfl
      | some o => obtain ⟨o', q'⟩ := x.live _ _ q; rw [f2 a ha] at q'; cases q'
  · refine y.keep b o (fun hm => ?_) hx (x.keep b o hb hx q)
    rw [e] at hm
    rcases List.mem_append.mp hm with hm | hm
    · exact hb hm
    · rw [f b hm] at q; cases q
  · obtain ⟨o1, q1⟩ := x.live b o q
    exact y.live b o1 q1

theorem StepG.toks {ρ : List Addr} {s : Shared} (t : Nat) : Step ρ s ρ { s with toks := t } := ⟨⟨[], by simp, fun _ h => nomatch h⟩, fun _ _ _ _ e => e, fun _ o e => ⟨o, e⟩⟩
theorem Sim.toks {ρ : List Addr} {H : AHeap} {s : Shared} (S : Sim C ρ H s) (t : Nat) : Sim C ρ H { s with toks := t } := ⟨S.len, S.nodup, S.obj, S.stays, S.fresh, S.sm, S.gens, S.os⟩

theorem StepG.vr {ex : Addr → Prop} {ρ ρ' : List Addr} {s s' : Shared} (x : StepG ex ρ s ρ' s') {v : V} {u : Value} (h : VR C ρ v u) : VR C ρ' v u := by
  obtain ⟨l, e, _⟩ := x.ext
  exact h.ext C l e
theorem StepG.vrs {ex : Addr → Prop} {ρ ρ' : List Addr} {s s' : Shared} (x : StepG ex ρ s ρ' s') {v : List V} {u : List Value} (h : All2 (VR C ρ) v u) : All2 (VR C ρ') v u := h.mono fun _ _ => x.vr

/-- a new heap that keeps every object: nothing moved -/
theorem Sim.grow {ρ : List Addr} {H : AHeap} {s : Shared} (S : Sim C ρ H s) {h' : Heap} {tk : Nat} (k : ∀ b o, s.heap.get? b = some o → h'.get? b = some o) :
    Sim C ρ H { s with heap := h', toks := tk } ∧ Step ρ s ρ { s with heap := h', toks := tk } :=
  ⟨⟨S.len, S.nodup, fun i a o e q => (S.obj i a o e q).keep C [] (by simp) fun _ x => k _ _ x, fun b o e => k _ _ (S.stays b o e), S.fresh, S.sm, S.gens, S.os⟩,
   ⟨⟨[], by simp, fun _ h => nomatch h⟩, fun b o _ _ e => k b o e, fun b o e => ⟨o, k b o e⟩⟩⟩

theorem Sim.lookup {ρ : List Addr} {H : AHeap} {s : Shared} (S : Sim C ρ H s) {n : Nat} {o : AObj} {u : Value} (e : H[n]? = some o) (v : VR C ρ (.ref n) u) : ∃ a, u = .ref a ∧ ρ[n]? = some a ∧ OR C ρ s.heap a o :=
  let ⟨a, e1, e2⟩ := v; ⟨a, e1, e2, S.obj n a o e2 e⟩

/-- a new object, known to both sides -/
theorem Sim.alloc {ρ : List Addr} {H : AHeap} {s : Shared} (S : Sim C ρ H s) {h' : Heap} {tk : Nat} {a : Addr} {o : AObj} (k : ∀ b x, s.heap.get? b = some x → h'.get? b = some x)
    (hn : s.heap.get? a = none) (hsm : a ≠ sysModules) (ho : OR C ρ h' a o) :
    Sim C (ρ ++ [a]) (H ++ [o]) { s with heap := h', toks := tk } ∧ Step ρ s (ρ ++ [a]) { s with heap := h', toks := tk } ∧ VR C (ρ ++ [a]) (.ref H.length) (.ref a) := by
  have hm : a ∉ ρ := fun hm => by
    obtain ⟨i, hi, e⟩ := List.getElem_of_mem hm
    have hi' : i < H.length := by rw [← S.len]; exact hi
    obtain ⟨ob, q⟩ := (S.obj i a H[i] (by rw [List.getElem?_eq_getElem hi, e]) (List.getElem?_eq_getElem hi')).alive C
    rw [hn] at q; cases q
  refine ⟨⟨by simp [S.len], ?_, fun i b x e q => ?_, fun b x e => k _ _ (S.stays b x e), fun i b e hi => ?_, ?_, S.gens, S.os⟩, ⟨⟨[a], rfl, fun b hb => by simp at hb; rw [hb]; exact hn⟩, fun b x _ _ e => k b x e, fun b x e => ⟨x, k b x e⟩⟩,
    ⟨a, rfl, by rw [← S.len]; simp⟩⟩
  · rw [List.nodup_append]
    exact ⟨S.nodup, by simp, fun x hx y hy => by simp at hy; rw [hy]; exact fun q => hm (q ▸ hx)⟩
  · rcases Nat.lt_or_ge i ρ.length with hi | hi
    · rw [List.getElem?_append_left hi] at e
      rw [List.getElem?_append_left (S.len ▸ hi)] at q
      exact (S.obj i b x e q).keep C [a] rfl fun _ x => k _ _ x
    · rw [List.getElem?_append_right hi] at e
      rw [List.getElem?_append_right (S.len ▸ hi)] at q
      rw [S.len] at e
      rcases Nat.eq_zero_or_pos (i - H.length) with z | z
      · rw [z] at e q
        simp at e q
        subst e q
        exact ho.keep C [a] rfl fun _ x => x
      · rw [List.getElem?_eq_none (by simp; omega)] at e; cases e
  · rcases Nat.lt_or_ge i ρ.length with hi' | hi'
    · rw [List.getElem?_append_left hi'] at e
      exact S.fresh i b e hi
    · rw [List.getElem?_append_right hi'] at e
      have : b = a := by
        rcases Nat.eq_zero_or_pos (i - ρ.length) with z | z
        · rw [z] at e; simpa using e.symm
        · rw [List.getElem?_eq_none (by simp; omega)] at e; cases e
      subst this
      cases q : C.base.get? b with
      | none => rfl
      | some x => rw [S.stays _ _ q] at hn; cases hn
  · intro hq
    rcases List.mem_append.mp hq with hq | hq
    · exact S.sm hq
    · simp only [List.mem_singleton] at hq
      exact hsm hq.symm

theorem Sim.size_ne {ρ : List Addr} {H : AHeap} {s : Shared} (S : Sim C ρ H s) : s.heap.objs.size ≠ sysModules := by
  obtain ⟨mc, ⟨o, es, ep, ho, _⟩, _⟩ := C.lim
  have h1 := Heap.lt_size (S.stays _ _ ho)
  exact fun q => absurd (Nat.lt_of_lt_of_le h1 (Nat.le_of_eq q)) (by decide)

/-- an object changed on both sides -/
theorem Sim.change {ρ : List Addr} {H : AHeap} {s : Shared} (S : Sim C ρ H s) {h' : Heap} {tk n : Nat} {a : Addr} {o : AObj} (hn : n ≠ 0) (e : ρ[n]? = some a) (k : ∀ b x, b ≠ a → s.heap.get? b = some x → h'.get? b = some x)
    (ho : OR C ρ h' a o) :
    Sim C ρ (H.set n o) { s with heap := h', toks := tk } ∧ Step ρ s ρ { s with heap := h', toks := tk } := by
  have hm : a ∈ ρ := List.mem_of_getElem? e
  refine ⟨⟨by simp [S.len], S.nodup, fun i b x e1 q => ?_, fun b x q => k _ _ (fun z => ?_) (S.stays b x q), S.fresh, S.sm, S.gens, S.os⟩,
    ⟨⟨[], by simp, fun _ h => nomatch h⟩, fun b x hb _ q => k b x (fun z => hb (z ▸ hm)) q, fun b x q => ?_⟩⟩
  · by_cases hi : i = n
    · subst hi
      rw [e] at e1; cases e1
      rw [List.getElem?_set_self] at q
      · cases q; exact ho
      · rw [← S.len]; exact (List.getElem?_eq_some_iff.mp e).1
    · rw [List.getElem?_set_ne (Ne.symm hi)] at q
      refine (S.obj i b x e1 q).keep C [] (by simp) fun y z => k _ _ (fun w => hi ?_) z
      subst w
      obtain ⟨h1, h2⟩ := List.getElem?_eq_some_iff.mp e
      obtain ⟨h3, h4⟩ := List.getElem?_eq_some_iff.mp e1
      exact (List.getElem_inj S.nodup).mp (h4.trans h2.symm)
  · rw [z, S.fresh n a e hn] at q; cases q
  · by_cases hb : b = a
    · subst hb; exact ho.alive C
    · exact ⟨x, k b x hb q⟩

end Mine
end
section
namespace Mine
open PySem PySem.Calls PyProof.Rows

/-! What is said of the model's trees: posts, frames, names. -/

abbrev Cx.M (C : Cx) : Model := model C.prog C.w

structure AOk (K : Nat) (A : Around) : Prop where
  h : A.handled = none
  d : A.depth + K < recursionLimit
  u : A.units + 5 * K + 200 < cLine
theorem AOk.deeper {K : Nat} {A : Around} (a : AOk (K + 1) A) (env : Env) : AOk K (A.deeper env) := ⟨a.h, by show A.depth + 1 + K < _; have := a.d; omega, by show A.units + 3 + 5 * K + 200 < _; have := a.u; omega⟩
theorem AOk.le {K K' : Nat} {A : Around} (a : AOk K A) (h : K' ≤ K) : AOk K' A := ⟨a.h, by have := a.d; omega, by have := a.u; omega⟩
theorem AOk.room {K : Nat} {A : Around} (a : AOk K A) : A.units + 64 < cLine := by have := a.u; omega

variable (C : Cx)

/-- an exception that flies (none in this make) -/
noncomputable def XR (_ : List Addr) (_ : Str) (_ : Value) (_ : Shared) : Prop := False

noncomputable def PV (ρ : List Addr) (s : Shared) (Q : VPost) : Value → Shared → Prop := fun u s' => ∃ ρ' H' v, Step ρ s ρ' s' ∧ Sim C ρ' H' s' ∧ VR C ρ' v u ∧ Q v H'
noncomputable def PL (ρ : List Addr) (s : Shared) (Q : List V → AHeap → Prop) : List Value → Shared → Prop := fun us s' => ∃ ρ' H' vs, Step ρ s ρ' s' ∧ Sim C ρ' H' s' ∧ All2 (VR C ρ') vs us ∧ Q vs H'
noncomputable def PB (ρ : List Addr) (s : Shared) (Q : Bool → AHeap → Prop) : Bool → Shared → Prop := fun b s' => ∃ ρ' H', Step ρ s ρ' s' ∧ Sim C ρ' H' s' ∧ Q b H'
noncomputable def PX (ex : Addr → Prop) (ρ : List Addr) (s : Shared) (X : XPost) : Value → Shared → Prop := fun e s' => ∃ ρ' H' c, StepG ex ρ s ρ' s' ∧ Sim C ρ' H' s' ∧ XR ρ' c e s' ∧ X c H'

structure FR (env : Env) (σ : Sg) (ρ : List Addr) (h : Heap) : Prop where
  dot : σ dot0 = none
  kind : env.scope.kind = .function
  glob : env.globals = mainGlobals
  bl : env.builtins = builtinsNs
  ns : ∃ m, h.Ns env.locals m ∧ ∀ x v, σ x = some v → env.kindOf x = some .local → ∃ u, m x = some u ∧ VR C ρ v u
  cells : ∀ x c, env.cells.lookup x = some c → ∃ ov, h.IsCell c ov ∧ ∀ v, σ x = some v → env.kindOf x = some .cell → ∃ u, ov = some u ∧ VR C ρ v u
  has : ∀ x, env.kindOf x = some .cell → ∃ c, env.cells.lookup x = some c
  nL : env.locals ∉ ρ
  nC : ∀ x c, env.cells.lookup x = some c → c ∉ ρ ∧ c ≠ env.locals
  apart : ∀ x y c, env.cells.lookup x = some c → env.cells.lookup y = some c → x = y
  bL : C.base.get? env.locals = none
  bC : ∀ x c, env.cells.lookup x = some c → C.base.get? c = none

variable {C}

theorem PV.trans {ρ ρ1 : List Addr} {s s1 : Shared} {Q : VPost} {u : Value} {s' : Shared} (st : Step ρ s ρ1 s1) (h : PV C ρ1 s1 Q u s') : PV C ρ s Q u s' :=
  let ⟨ρ', H', v, a, b, c, d⟩ := h; ⟨ρ', H', v, st.trans a, b, c, d⟩
theorem PL.trans {ρ ρ1 : List Addr} {s s1 : Shared} {Q : List V → AHeap → Prop} {u : List Value} {s' : Shared} (st : Step ρ s ρ1 s1) (h : PL C ρ1 s1 Q u s') : PL C ρ s Q u s' :=
  let ⟨ρ', H', v, a, b, c, d⟩ := h; ⟨ρ', H', v, st.trans a, b, c, d⟩
theorem PB.trans {ρ ρ1 : List Addr} {s s1 : Shared} {Q : Bool → AHeap → Prop} {u : Bool} {s' : Shared} (st : Step ρ s ρ1 s1) (h : PB C ρ1 s1 Q u s') : PB C ρ s Q u s' :=
  let ⟨ρ', H', a, b, d⟩ := h; ⟨ρ', H', st.trans a, b, d⟩
theorem PX.trans {ex : Addr → Prop} {ρ ρ1 : List Addr} {s s1 : Shared} {X : XPost} {u : Value} {s' : Shared} (st : StepG ex ρ s ρ1 s1) (h : PX C ex ρ1 s1 X u s') : PX C ex ρ s X u s' :=
  let ⟨ρ', H', v, a, b, c, d⟩ := h; ⟨ρ', H', v, st.trans a, b, c, d⟩
theorem PX.none {ex : Addr → Prop} {ρ : List Addr} {s : Shared} {X : XPost} {u : Value} {s' : Shared} (h : PX C ex ρ s X u s') : False := let ⟨_, _, _, _, _, c, _⟩ := h; c

/-- what E must take: every exception that the abstract side lets fly -/
abbrev Takes (C : Cx) (ρ : List Addr) (s : Shared) (X : XPost) (E : Value → Shared → Prop) : Prop := ∀ e s', PX C (fun _ => False) ρ s X e s' → E e s'
theorem Takes.on {ρ ρ1 : List Addr} {s s1 : Shared} {X : XPost} {E : Value → Shared → Prop} (h : Takes C ρ s X E) (st : Step ρ s ρ1 s1) : Takes C ρ1 s1 X E := fun e s' p => h e s' (p.trans st)

theorem FR.step {env : Env} {σ : Sg} {ρ ρ' : List Addr} {s s' : Shared} (F : FR C env σ ρ s.heap) (st : Step ρ s ρ' s') : FR C env σ ρ' s'.heap := by
  obtain ⟨l, e, f⟩ := st.ext
  have nn : ∀ b o, s.heap.get? b = some o → b ∉ ρ → b ∉ ρ' := fun b o q hb hm => by
    rw [e] at hm
    rcases List.mem_append.mp hm with hm | hm
    · exact hb hm
    · rw [f b hm] at q; cases q
  refine ⟨F.dot, F.kind, F.glob, F.bl, ?_, fun x c hc => ?_, F.has, ?_, fun x c hc => ⟨?_, (F.nC x c hc).2⟩, F.apart, F.bL, F.bC⟩
  · obtain ⟨m, hn, hv⟩ := F.ns
    exact ⟨m, hn.at' fun o q => st.keep _ o F.nL id q, fun x v h1 h2 => let ⟨u, h3, h4⟩ := hv x v h1 h2; ⟨u, h3, st.vr h4⟩⟩
  · obtain ⟨ov, ⟨o, ho, hd⟩, hv⟩ := F.cells x c hc
    exact ⟨ov, ⟨o, st.keep _ o (F.nC x c hc).1 id ho, hd⟩, fun v h1 h2 => let ⟨u, h3, h4⟩ := hv v h1 h2; ⟨u, h3, st.vr h4⟩⟩
  · obtain ⟨m, ⟨o, es, ep, ho, _⟩, _⟩ := F.ns
    exact nn _ o ho F.nL
  · obtain ⟨ov, ⟨o, ho, hd⟩, hv⟩ := F.cells x c hc
    exact nn _ o ho (F.nC x c hc).1

/-- a name read -/
theorem load_ok {env : Env} {σ : Sg} {ρ : List Addr} {s : Shared} {A : Around} {E : Value → Shared → Prop} {Q : Value → Shared → Prop} {x : Str} {v : V} (F : FR C env σ ρ s.heap) (hx : σ x = some v)
    (hk : env.kindOf x = some .local ∨ env.kindOf x = some .cell) (h : ∀ u, VR C ρ v u → Q u s) : wpAny C.M A (loadName env x) Q E s := by
  rcases hk with hk | hk
  · obtain ⟨m, hn, hv⟩ := F.ns
    obtain ⟨u, h1, h2⟩ := hv x v hx hk
    exact wpAny_loadName_local F.kind hk hn h1 (h u h2)
  · obtain ⟨c, hc⟩ := F.has x hk
    obtain ⟨ov, hi, hv⟩ := F.cells x c hc
    obtain ⟨u, rfl, h2⟩ := hv v hx hk
    exact wpAny_loadName_cell F.kind hk hc hi (h u h2)

/-- the frame's own objects -/
noncomputable def own (env : Env) (b : Addr) : Prop := b = env.locals ∨ ∃ x, env.cells.lookup x = some b
/-- those of them that the names xs reach -/
noncomputable def ownT (env : Env) (Z : List Str) (b : Addr) : Prop := b = env.locals ∨ ∃ x ∈ Z, env.kindOf x = some .cell ∧ env.cells.lookup x = some b
theorem ownT.own {env : Env} {Z : List Str} : ∀ b, ownT env Z b → own env b
  | _, .inl h => .inl h
  | _, .inr ⟨x, _, _, h⟩ => .inr ⟨x, h⟩

theorem Sim.frame {ρ : List Addr} {H : AHeap} {s : Shared} (S : Sim C ρ H s) {h' : Heap} {tk : Nat} {a : Addr} (ha : a ∉ ρ) (hb : C.base.get? a = none) (hs : Heap.SameBut a s.heap h') : Sim C ρ H { s with heap := h', toks := tk } :=
  ⟨S.len, S.nodup, fun i b o e q => (S.obj i b o e q).keep C [] (by simp) fun _ x => (hs.2 b fun z => ha (z ▸ List.mem_of_getElem? e)).trans x,
   fun b o e => (hs.2 b fun z => by rw [z, hb] at e; cases e).trans (S.stays b o e), S.fresh, S.sm, S.gens, S.os⟩

theorem step_same {ex : Addr → Prop} {ρ : List Addr} {s : Shared} {h' : Heap} {tk : Nat} {a : Addr} {o₁ : Obj} (he : ex a) (hs : Heap.SameBut a s.heap h') (ho : h'.get? a = some o₁) : StepG ex ρ s ρ { s with heap := h', toks := tk } :=
  ⟨⟨[], by simp, fun _ h => nomatch h⟩, fun b o _ hx e => (hs.2 b fun z => hx (z ▸ he)).trans e, fun b o e => by
    by_cases z : b = a
    · exact ⟨o₁, z ▸ ho⟩
    · exact ⟨o, (hs.2 b z).trans e⟩⟩

/-- a name stored -/
theorem store_ok {env : Env} {σ : Sg} {ρ : List Addr} {H : AHeap} {s : Shared} {A : Around} {E : Value → Shared → Prop} {Q : Unit → Shared → Prop} {x : Str} {Z : List Str} {v : V} {u : Value} (F : FR C env σ ρ s.heap) (S : Sim C ρ H s) (hZ : x ∈ Z)
    (hk : env.kindOf x = some .local ∨ env.kindOf x = some .cell) (h0 : x ≠ dot0) (hu : VR C ρ v u)
    (h : ∀ s', FR C env (σ.set x v) ρ s'.heap → Sim C ρ H s' → StepG (ownT env Z) ρ s ρ s' → Q () s') : wpAny C.M A (storeName env x u) Q E s := by
  have hdot : σ.set x v dot0 = none := by unfold Sg.set; rw [if_neg (Ne.symm h0)]; exact F.dot
  rcases hk with hk | hk
  · obtain ⟨m, hn, hv⟩ := F.ns
    refine wpAny_storeName_local hk hn (fun h' hn' hs' => ?_) (by rw [F.kind]; rfl)
    obtain ⟨o₁, es, ep, ho, _⟩ := id hn'
    refine h _ ⟨hdot, F.kind, F.glob, F.bl, ⟨_, hn', fun y w h1 h2 => ?_⟩, fun y c hc => ?_, F.has, F.nL, F.nC, F.apart, F.bL, F.bC⟩ (S.frame F.nL F.bL hs') (step_same (.inl rfl) hs' ho)
    · by_cases hy : y = x
      · subst hy
        unfold Sg.set at h1
        rw [if_pos rfl] at h1 ⊢
        cases h1
        exact ⟨u, rfl, hu⟩
      · unfold Sg.set at h1
        rw [if_neg hy] at h1 ⊢
        exact hv y w h1 h2
    · obtain ⟨ov, hi, hc'⟩ := F.cells y c hc
      refine ⟨ov, hi.sameBut hs' (F.nC y c hc).2, fun w h1 h2 => ?_⟩
      have hy : y ≠ x := fun z => by rw [z, hk] at h2; cases h2
      unfold Sg.set at h1
      rw [if_neg hy] at h1
      exact hc' w h1 h2
  · obtain ⟨c, hc⟩ := F.has x hk
    obtain ⟨ov, hi, hv⟩ := F.cells x c hc
    refine wpAny_storeName_cell F.kind hk hc hi fun h' hi' hs' => ?_
    obtain ⟨o₁, ho, hd⟩ := id hi'
    refine h _ ⟨hdot, F.kind, F.glob, F.bl, ?_, fun y d hd' => ?_, F.has, F.nL, F.nC, F.apart, F.bL, F.bC⟩ (S.frame (tk := s.toks) (F.nC x c hc).1 (F.bC x c hc) hs') (step_same (tk := s.toks) (.inr ⟨x, hZ, hk, hc⟩) hs' ho)
    · obtain ⟨m, hn, hm⟩ := F.ns
      refine ⟨m, hn.sameBut hs' (Ne.symm (F.nC x c hc).2), fun y w h1 h2 => ?_⟩
      have hy : y ≠ x := fun z => by rw [z, hk] at h2; cases h2
      unfold Sg.set at h1
      rw [if_neg hy] at h1
      exact hm y w h1 h2
    · by_cases hy : y = x
      · subst hy
        rw [hc] at hd'; cases hd'
        refine ⟨_, hi', fun w h1 _ => ?_⟩
        unfold Sg.set at h1
        rw [if_pos rfl] at h1
        cases h1
        exact ⟨u, rfl, hu⟩
      · obtain ⟨ov', hi2, hv2⟩ := F.cells y d hd'
        refine ⟨ov', hi2.sameBut hs' (fun z => hy (F.apart y x c (z ▸ hd') hc)), fun w h1 h2 => ?_⟩
        unfold Sg.set at h1
        rw [if_neg hy] at h1
        exact hv2 w h1 h2

/-- a global read -/
theorem global_ok {env : Env} {σ : Sg} {ρ : List Addr} {H : AHeap} {s : Shared} {A : Around} {E : Value → Shared → Prop} {Q : Value → Shared → Prop} {x : Str} {u : Value} {pos : Pos} (F : FR C env σ ρ s.heap) (S : Sim C ρ H s)
    (hk : env.kindOf x = some .globalImplicit) (hg : C.G x = some u) (hd : (x == Str.ofString "__debug__") = false) (h : Q u s) : wpAny C.M A (eval (.Name x pos) env) Q E s := by
  refine Name_function_global F.kind hk ?_ hd
  rcases C.hG x u hg with e | ⟨e1, e2⟩
  · exact loadGlobal_global (by rw [F.glob]; exact C.hg.keeps S.stays) e h
  · exact loadGlobal_builtin (by rw [F.glob]; exact C.hg.keeps S.stays) e1 (by rw [F.bl]; exact C.hb.keeps S.stays) e2 h

end Mine
end
section
namespace Mine
open PySem PySem.Calls PyProof.Rows

/-! The operations: numbers, texts, lists, comparisons, items, slices. -/

theorem okT_iff {a : Txt} : okT a = true ↔ a.length ≤ lid ∧ ∀ c ∈ a, c < 1114112 := by
  unfold okT; rw [Bool.and_eq_true, decide_eq_true_eq, List.all_eq_true]
  exact ⟨fun h => ⟨h.1, fun c hc => of_decide_eq_true (h.2 c hc)⟩, fun h => ⟨h.1, fun c hc => decide_eq_true (h.2 c hc)⟩⟩
theorem okT_append {a b : Txt} (ha : okT a = true) (hb : okT b = true) (hl : a.length + b.length ≤ lid) : okT (a ++ b) = true := by
  rw [okT_iff] at *
  refine ⟨by rw [List.length_append]; exact hl, fun c hc => ?_⟩
  rcases List.mem_append.mp hc with h | h
  · exact ha.2 c h
  · exact hb.2 c h
theorem okT_take {a : Txt} (ha : okT a = true) (n : Nat) : okT (a.take n) = true := by
  rw [okT_iff] at *; exact ⟨Nat.le_trans (by rw [List.length_take]; exact Nat.min_le_right _ _) ha.1, fun c hc => ha.2 c (List.mem_of_mem_take hc)⟩
theorem okT_drop {a : Txt} (ha : okT a = true) (n : Nat) : okT (a.drop n) = true := by
  rw [okT_iff] at *; exact ⟨Nat.le_trans (by rw [List.length_drop]; exact Nat.sub_le _ _) ha.1, fun c hc => ha.2 c (List.mem_of_mem_drop hc)⟩
theorem okT_cut {a : Txt} (ha : okT a = true) (i j : Nat) : okT (cut a i j) = true := okT_drop (okT_take ha j) i

theorem str_append (a b : Txt) : (⟨a.toArray⟩ : Str) ++ ⟨b.toArray⟩ = ⟨(a ++ b).toArray⟩ := by
  show (⟨_⟩ : Str) = _
  congr 1
  simp
theorem str_len (a : Txt) : (⟨a.toArray⟩ : Str).length = a.length := by show a.toArray.size = _; simp
theorem str_cps (a : Txt) : (⟨a.toArray⟩ : Str).cps.toList = a := by simp
theorem lid_le {n : Nat} (h : n ≤ lid) : n ≤ sizeLine := by rw [sizeLine_eq]; unfold lid at h; omega

section
variable {C : Cx} {ρ : List Addr} {H : AHeap} {s : Shared} {A : Around} {E : Value → Shared → Prop} {Q : VPost}

theorem vi (i : Int) (t : Tok) : VR C ρ (.int i) (.int i t) := ⟨t, rfl⟩
theorem vt {x : Txt} (h : okT x = true) (t : Tok) : VR C ρ (.str x) (.str ⟨x.toArray⟩ t) := ⟨h, t, rfl⟩
theorem vb (b : Bool) : VR C ρ (.bool b) (.bool b) := rfl

theorem here {v : V} {u : Value} {t : Nat} (S : Sim C ρ H s) (hv : VR C ρ v u) (hq : Q v H) : PV C ρ s Q u { s with toks := t } := ⟨ρ, H, v, StepG.toks t, S.toks t, hv, hq⟩
theorem here0 {v : V} {u : Value} (S : Sim C ρ H s) (hv : VR C ρ v u) (hq : Q v H) : PV C ρ s Q u s := ⟨ρ, H, v, StepG.refl ρ s, S, hv, hq⟩

theorem get_push {h : Heap} {o : Obj} : ∀ b x, h.get? b = some x → (h.push o).get? b = some x := fun _ _ e => Heap.get?_push_of_some _ e
theorem get_size (h : Heap) : h.get? h.objs.size = none := by
  cases e : h.get? h.objs.size with
  | none => rfl
  | some o => exact absurd (Heap.lt_size e) (Nat.lt_irrefl _)

/-- a new list | tuple, pushed -/
theorem pushed_list {us : List Value} {vs : List V} {tk : Nat} (S : Sim C ρ H s) (hv : All2 (VR C ρ) vs us) (hl : vs.length ≤ lid) (hq : Q (.ref H.length) (H ++ [.list vs])) :
    PV C ρ s Q (.ref s.heap.objs.size) { s with heap := s.heap.push { cls := .type "list", data := .seq us.toArray }, toks := tk } := by
  obtain ⟨a, b, c⟩ := S.alloc (a := s.heap.objs.size) (o := .list vs) (h' := s.heap.push { cls := .type "list", data := .seq us.toArray }) (tk := tk) get_push (get_size _) S.size_ne ⟨us.toArray, 0, Heap.get?_push_size _ rfl, by simpa using hv, hl⟩
  exact ⟨_, _, _, b, a, c, hq⟩
theorem pushed_tuple {us : List Value} {vs : List V} {tk : Nat} (S : Sim C ρ H s) (hv : All2 (VR C ρ) vs us) (hl : vs.length ≤ lid) (hq : Q (.ref H.length) (H ++ [.tuple vs])) :
    PV C ρ s Q (.ref s.heap.objs.size) { s with heap := s.heap.push { cls := .type "tuple", data := .seq us.toArray }, toks := tk } := by
  obtain ⟨a, b, c⟩ := S.alloc (a := s.heap.objs.size) (o := .tuple vs) (h' := s.heap.push { cls := .type "tuple", data := .seq us.toArray }) (tk := tk) get_push (get_size _) S.size_ne ⟨us.toArray, 0, Heap.get?_push_size _ rfl, by simpa using hv, hl⟩
  exact ⟨_, _, _, b, a, c, hq⟩

theorem binA_ok {op : Operator} {a b : V} {u w : Value} (h : binA op a b H Q) (S : Sim C ρ H s) (hu : VR C ρ a u) (hw : VR C ρ b w) : wpAny C.M A (binaryOp op u w) (PV C ρ s Q) E s := by
  unfold binA at h
  split at h
  · obtain ⟨t, rfl⟩ := hu; obtain ⟨t', rfl⟩ := hw; exact add_int (here S (vi _ _) h)
  · obtain ⟨t, rfl⟩ := hu; obtain ⟨t', rfl⟩ := hw; exact sub_int (here S (vi _ _) h)
  · obtain ⟨t, rfl⟩ := hu; obtain ⟨t', rfl⟩ := hw
    refine mul_int (here S (vi _ _) h.2) ?_
    rcases h.1 with q | q
    · exact IntMulOk.of_left (intBits_le_64 (by omega) (by omega))
    · exact IntMulOk.of_right (intBits_le_64 (by omega) (by omega))
  · obtain ⟨t, rfl⟩ := hu; obtain ⟨t', rfl⟩ := hw
    obtain ⟨h1, h2, h3⟩ := h
    refine floordiv_int (by omega) ?_ (.inl (PyProof.noPylong_small (by omega)))
    rw [Int.fdiv_eq_ediv_of_nonneg _ (by omega)]
    exact here S (vi _ _) h3
  · obtain ⟨t, rfl⟩ := hu; obtain ⟨t', rfl⟩ := hw
    obtain ⟨h1, h3⟩ := h
    refine mod_int' (by omega) ?_
    rw [Int.fmod_eq_emod_of_nonneg _ (by omega)]
    exact here S (vi _ _) h3
  · obtain ⟨hx, t, rfl⟩ := hu; obtain ⟨hy, t', rfl⟩ := hw
    obtain ⟨h1, h2⟩ := h
    refine P.add_str ?_
    split
    · rename_i q
      simp only [str_len, beq_iff_eq] at q
      have := List.eq_nil_of_length_eq_zero q
      subst this
      exact here0 S (vt hy t') h2
    · split
      · rename_i q
        simp only [str_len, beq_iff_eq] at q
        have := List.eq_nil_of_length_eq_zero q
        subst this
        rw [List.append_nil] at h2
        exact here0 S (vt hx t) h2
      · rw [str_append]
        exact ⟨by rw [str_len, List.length_append]; exact lid_le h1, here S (vt (okT_append hx hy h1) _) h2⟩
  · split at h
    · rename_i xs ys e1 e2
      obtain ⟨a, rfl, ea, us, n, ho, hs, hl⟩ := S.lookup e1 hu
      obtain ⟨b, rfl, eb, us', n', ho', hs', hl'⟩ := S.lookup e2 hw
      have l1 := hs.length
      have l2 := hs'.length
      refine P.add_list ho ho' ?_ (by simp at l1 l2; rw [← l1, ← l2]; exact lid_le h.1)
      have := pushed_list (us := us.toList ++ us'.toList) (tk := s.toks) S (hs.append hs') (by rw [List.length_append]; exact h.1) h.2
      rwa [show (us.toList ++ us'.toList).toArray = us ++ us' by rw [← List.append_toArray]] at this
    · exact h.elim
  · rename_i m k
    split at h
    · rename_i x e1
      obtain ⟨a, rfl, ea, us, n, ho, hs, hl⟩ := S.lookup e1 hu
      obtain ⟨t, rfl⟩ := hw
      obtain ⟨h1, h2, h3⟩ := h
      obtain ⟨us⟩ := us
      cases hs with
      | cons hx hn =>
      cases hn
      rename_i y
      unfold lid at h2
      refine wpAny_binaryOp_repeat_ref (T := "list") (U := "int") (by decide) ⟨_, ho, rfl⟩ (fun s' => typeIs_int s' k t) noFill_list_mul F.fills_int_mul F.slot_int_rmul repeat_list F.slot_int_index.lookup
        (call_meets F.slot_int_rmul (typeIs_int s k t) F.entry_int_rmul (F.args_int_rmul_2 _ _) (int___rmul___int_list k t a #[y] n)
          ⟨ho, rfl, ⟨_, ho, rfl⟩, call_meets F.slot_list_mul ⟨_, ho, rfl⟩ F.entry_list_mul (F.args_list_mul_2 _ _)
            (AutoListH.list___mul___list_int_3 a #[y] n k t (by simp [Builtin.List.listFitsIndex]; omega) (by simp; omega) (by simp [Builtin.List.listTooLong, sizeLine]; omega))
            ⟨ho, ?_⟩⟩)
      have e : List.foldl (fun x1 x2 : Array Value => x1 ++ x2) #[] (List.replicate (if (#[y] : Array Value).isEmpty = true then 0 else k.toNat) #[y]) = (List.replicate k.toNat y).toArray := by
        rw [if_neg (by simp)]
        have : ∀ (n : Nat) (z : List Value), List.foldl (fun x1 x2 : Array Value => x1 ++ x2) z.toArray (List.replicate n #[y]) = (z ++ List.replicate n y).toArray := by
          intro n
          induction n with
          | zero => intro z; simp
          | succ n ih =>
            intro z
            rw [List.replicate_succ, List.foldl_cons]
            have := ih (z ++ [y])
            simp only [List.append_toArray] at this ⊢
            rw [this, List.replicate_succ]; simp
        exact this k.toNat []
      have e' := pushed_list (tk := s.toks) S (All2.replicate hx k.toNat) (by rw [List.length_replicate]; unfold lid; omega) h3
      rw [← e] at e'
      exact e'
    · exact h.elim
  · exact h.elim

/-! data read off the heap -/
mutual
noncomputable def Dt.py : Dt → PyData
  | .none => .none
  | .bool b => .bool b
  | .int i => .int i
  | .str t => .str ⟨t.toArray⟩
  | .list xs => .list (Dt.pys xs)
  | .tuple xs => .tuple (Dt.pys xs)
noncomputable def Dt.pys : List Dt → List PyData
  | [] => []
  | x :: r => Dt.py x :: Dt.pys r
end
mutual
theorem Dt.eqv_py : ∀ (x y : Dt), PyData.eqv x.py y.py = Dt.eqv x y
  | .none, y => by cases y <;> simp [Dt.py, PyData.eqv, Dt.eqv]
  | .bool a, y => by cases y <;> simp [Dt.py, PyData.eqv, Dt.eqv]
  | .int a, y => by cases y <;> simp [Dt.py, PyData.eqv, Dt.eqv]
  | .str a, y => by
    cases y with
    | str b =>
      simp only [Dt.py, PyData.eqv, Dt.eqv]
      rw [Bool.eq_iff_iff, beq_iff_eq, beq_iff_eq]
      exact ⟨fun h => by simpa using h, fun h => by rw [h]⟩
    | _ => simp [Dt.py, PyData.eqv, Dt.eqv]
  | .list a, y => by
    cases y with
    | list b => simp only [Dt.py, PyData.eqv, Dt.eqv]; exact Dt.eqvL_pys a b
    | _ => simp [Dt.py, PyData.eqv, Dt.eqv]
  | .tuple a, y => by
    cases y with
    | tuple b => simp only [Dt.py, PyData.eqv, Dt.eqv]; exact Dt.eqvL_pys a b
    | _ => simp [Dt.py, PyData.eqv, Dt.eqv]
theorem Dt.eqvL_pys : ∀ (x y : List Dt), PyData.eqvAll (Dt.pys x) (Dt.pys y) = Dt.eqvL x y
  | [], [] => by simp [Dt.pys, PyData.eqvAll, Dt.eqvL]
  | [], _ :: _ => by simp [Dt.pys, PyData.eqvAll, Dt.eqvL]
  | _ :: _, [] => by simp [Dt.pys, PyData.eqvAll, Dt.eqvL]
  | a :: r, b :: t => by simp only [Dt.pys, PyData.eqvAll, Dt.eqvL]; rw [Dt.eqv_py a b, Dt.eqvL_pys r t]
end

theorem rdL_reads {f : V → Option Dt} {n : Nat} (ih : ∀ v d u, f v = some d → VR C ρ v u → ∃ as, Reads s.heap u d.py as ∧ d.py.canLay0 = true ∧ d.py.depth ≤ n) :
    ∀ (vs : List V) (us : List Value) (ds : List Dt), rdL f vs = some ds → All2 (VR C ρ) vs us → ∃ as, ReadsAll s.heap us (Dt.pys ds) as ∧ PyData.canLayAll0 (Dt.pys ds) = true ∧ PyData.depthAll (Dt.pys ds) ≤ n
  | [], _, ds, h, .nil => by cases h; exact ⟨[], .nil, rfl, by simp [Dt.pys, PyData.depthAll]⟩
  | v :: vs, _, ds, h, .cons hv hr => by
    unfold rdL at h
    split at h
    · rename_i d ds' e1 e2
      cases h
      obtain ⟨as, r1, c1, d1⟩ := ih v d _ e1 hv
      obtain ⟨bs, r2, c2, d2⟩ := rdL_reads ih vs _ ds' e2 hr
      exact ⟨as ++ bs, .cons r1 r2, by simp [Dt.pys, PyData.canLayAll0, c1, c2], by simp only [Dt.pys, PyData.depthAll]; omega⟩
    · cases h

theorem rd_reads (S : Sim C ρ H s) : ∀ (n : Nat) (v : V) (d : Dt) (u : Value), rd H n v = some d → VR C ρ v u → ∃ as, Reads s.heap u d.py as ∧ d.py.canLay0 = true ∧ d.py.depth ≤ n
  | n, .none, d, u, h, hv => by
    have : d = .none := by cases n <;> (unfold rd at h; exact (Option.some.inj h).symm)
    subst this; cases hv
    exact ⟨[], .none, rfl, by simp [Dt.py, PyData.depth]⟩
  | n, .bool b, d, u, h, hv => by
    have : d = .bool b := by cases n <;> (unfold rd at h; exact (Option.some.inj h).symm)
    subst this; cases hv
    exact ⟨[], .bool b, rfl, by simp [Dt.py, PyData.depth]⟩
  | n, .int i, d, u, h, hv => by
    have : d = .int i := by cases n <;> (unfold rd at h; exact (Option.some.inj h).symm)
    subst this
    obtain ⟨t, rfl⟩ := hv
    exact ⟨[], .int i t, rfl, by simp [Dt.py, PyData.depth]⟩
  | n, .str x, d, u, h, hv => by
    have : d = .str x := by cases n <;> (unfold rd at h; exact (Option.some.inj h).symm)
    subst this
    obtain ⟨ok, t, rfl⟩ := hv
    refine ⟨[], .str _ t, ?_, by simp [Dt.py, PyData.depth]⟩
    simp only [Dt.py, PyData.canLay0, PyData.strOk]
    have := (okT_iff.mp ok).2
    rw [Array.all_eq_true_iff_forall_mem]
    intro c hc
    exact decide_eq_true (this c (by simpa using hc))
  | 0, .ref a, d, u, h, hv => by unfold rd at h; cases h
  | n + 1, .ref a, d, u, h, hv => by
    unfold rd at h
    split at h
    · rename_i xs e
      obtain ⟨b, rfl, eb, us, k, ho, hs, hl⟩ := S.lookup e hv
      cases e2 : rdL (rd H n) xs with
      | none => rw [e2] at h; cases h
      | some ds =>
        rw [e2] at h; cases h
        obtain ⟨as, r1, c1, d1⟩ := rdL_reads (C := C) (ρ := ρ) (n := n) (fun v d u h1 h2 => rd_reads S n v d u h1 h2) xs us.toList ds e2 hs
        exact ⟨b :: as, .list ho rfl rfl r1, by simpa [Dt.py, PyData.canLay0] using c1, by simp only [Dt.py, PyData.depth]; omega⟩
    · rename_i xs e
      obtain ⟨b, rfl, eb, us, k, ho, hs, hl⟩ := S.lookup e hv
      cases e2 : rdL (rd H n) xs with
      | none => rw [e2] at h; cases h
      | some ds =>
        rw [e2] at h; cases h
        obtain ⟨as, r1, c1, d1⟩ := rdL_reads (C := C) (ρ := ρ) (n := n) (fun v d u h1 h2 => rd_reads S n v d u h1 h2) xs us.toList ds e2 hs
        exact ⟨as, .tuple ho rfl rfl r1, by simpa [Dt.py, PyData.canLay0] using c1, by simp only [Dt.py, PyData.depth]; omega⟩
    · cases h
  | n, .glob g, d, u, h, hv => by cases n <;> (unfold rd at h; cases h)
  | n, .exn g, d, u, h, hv => by cases n <;> (unfold rd at h; cases h)

/-- a dict as the library sees it -/
theorem dict_map {es : List (Txt × V)} {ds : Array DictEntry} {n : Nat} {a : Addr} (ho : s.heap.get? a = some ⟨.type "dict", none, .dict ds n, #[]⟩) (hs : All2 (ER C ρ) es ds.toList) :
    s.heap.MapOf (PySem.strKind C.prog C.w) a (fun k => findBy Value.isStrOf ds k) :=
  ⟨_, ds, n, ho, ⟨rfl, rfl, rfl⟩, rfl, fun e he => by
    obtain ⟨p, hp, ⟨_, t, e1⟩, e2, e3⟩ := hs.right e (Array.mem_toList_iff.mpr he)
    exact ⟨⟨p.1.toArray⟩, by rw [e1]; exact strKind_is _ _ _ t, e2⟩, fun _ => rfl⟩

theorem dict_find {k : Txt} : ∀ {es : List (Txt × V)} {l : List DictEntry}, All2 (ER C ρ) es l →
    (es.find? (fun e => e.1 == k) = none ∧ l.find? (fun e => Value.isStrOf ⟨k.toArray⟩ e.key) = none) ∨
    ∃ e d, es.find? (fun e => e.1 == k) = some e ∧ l.find? (fun e => Value.isStrOf ⟨k.toArray⟩ e.key) = some d ∧ VR C ρ e.2 d.val
  | _, _, .nil => .inl ⟨rfl, rfl⟩
  | _, _, .cons (a := e) (b := d) (as := es) (bs := l) h r => by
    obtain ⟨⟨_, t, e1⟩, e2, e3⟩ := h
    by_cases q : e.1 = k
    · refine .inr ⟨e, d, ?_, ?_, e3⟩
      · rw [List.find?_cons_of_pos (by simpa using q)]
      · rw [List.find?_cons_of_pos (by rw [e1, q]; simp [Value.isStrOf])]
    · have q1 : ¬ ((e.1 == k) = true) := by simpa using q
      have q2 : ¬ (Value.isStrOf ⟨k.toArray⟩ d.key = true) := by rw [e1]; simpa [Value.isStrOf] using q
      have q3 : (e :: es).find? (fun e => e.1 == k) = es.find? (fun e => e.1 == k) := List.find?_cons_of_neg (p := fun e : Txt × V => e.1 == k) q1
      have q4 : (d :: l).find? (fun e => Value.isStrOf ⟨k.toArray⟩ e.key) = l.find? (fun e => Value.isStrOf ⟨k.toArray⟩ e.key) := List.find?_cons_of_neg (p := fun e : DictEntry => Value.isStrOf ⟨k.toArray⟩ e.key) q2
      rw [q3, q4]
      exact dict_find (k := k) r

theorem any_find {k : Txt} (es : List (Txt × V)) : (es.any fun e => e.1 == k) = (es.find? fun e => e.1 == k).isSome := by
  induction es with
  | nil => rfl
  | cons e r ih =>
    rw [List.any_cons, ih, List.find?_cons]
    cases e.1 == k <;> simp

theorem dict_has {es : List (Txt × V)} {ds : Array DictEntry} {k : Txt} (hs : All2 (ER C ρ) es ds.toList) : (findBy Value.isStrOf ds ⟨k.toArray⟩).isSome = es.any fun e => e.1 == k := by
  unfold findBy
  rw [any_find, ← Array.find?_toList]
  rcases dict_find (k := k) hs with ⟨z1, z2⟩ | ⟨e', d', z1, z2, z3⟩
  · rw [z1, z2]; rfl
  · rw [z1, z2]; rfl

theorem pys_any (d : Dt) : ∀ ds : List Dt, ((Dt.pys ds).any fun y => PyData.eqv y d.py) = ds.any fun x => Dt.eqv x d
  | [] => rfl
  | x :: r => by simp only [Dt.pys, List.any_cons]; rw [Dt.eqv_py, pys_any d r]

theorem cmpA_ok {K : Nat} {op : CmpOp} {a b : V} {u w : Value} {q : Bool → Prop} (h : cmpA op a b H q) (S : Sim C ρ H s) (hA : AOk K A) (hu : VR C ρ a u) (hw : VR C ρ b w) :
    wpAny C.M A (compareOp op u w) (fun r s' => ∃ c, r = .bool c ∧ Step ρ s ρ s' ∧ Sim C ρ H s' ∧ q c) E s := by
  have fin : ∀ c, q c → ∃ c', Value.bool c = .bool c' ∧ Step ρ s ρ s ∧ Sim C ρ H s ∧ q c' := fun c hc => ⟨c, rfl, StepG.refl _ _, S, hc⟩
  have fin' : ∀ c t, q c → ∃ c', Value.bool c = .bool c' ∧ Step ρ s ρ { s with toks := t } ∧ Sim C ρ H { s with toks := t } ∧ q c' := fun c t hc => ⟨c, rfl, StepG.toks _, S.toks _, hc⟩
  have hun := hA.u
  have isn : (u == Value.none) = decide (a = .none) := by
    cases a with
    | none => cases hu; rfl
    | bool b => cases hu; rfl
    | int i => obtain ⟨t, rfl⟩ := hu; rfl
    | str x => obtain ⟨_, t, rfl⟩ := hu; rfl
    | ref n => obtain ⟨x, rfl, _⟩ := hu; rfl
    | glob g =>
      have hu : C.G g = some u := hu
      cases hz : u == Value.none with
      | false => simp
      | true =>
        exfalso
        have hz := beq_iff_eq.mp hz
        subst hz
        exact C.hN g hu
    | exn c => exact hu.elim
  unfold cmpA at h
  split at h
  · unfold eqA at h
    split at h
    · rename_i x y e1 e2
      obtain ⟨as, r1, c1, d1⟩ := rd_reads S _ _ _ _ e1 hu
      obtain ⟨bs, r2, c2, d2⟩ := rd_reads S _ _ _ _ e2 hw
      refine SeqAt.compareEq_reads r1 r2 c1 c2 (by omega) ?_
      rw [Dt.eqv_py]; exact fin _ h
    · exact h.elim
  · unfold eqA at h
    split at h
    · rename_i x y e1 e2
      obtain ⟨as, r1, c1, d1⟩ := rd_reads S _ _ _ _ e1 hu
      obtain ⟨bs, r2, c2, d2⟩ := rd_reads S _ _ _ _ e2 hw
      refine SeqAt.compareNe_reads r1 r2 c1 c2 (by omega) ?_
      rw [Dt.eqv_py]; exact fin _ h
    · exact h.elim
  · obtain ⟨rfl, h⟩ := h
    cases hw
    refine PySem.is_none ?_
    rw [isn]; exact fin _ h
  · obtain ⟨rfl, h⟩ := h
    cases hw
    refine PySem.isNot_none ?_
    rw [isn]; exact fin _ h
  · split at h
    · obtain ⟨t, rfl⟩ := hu; obtain ⟨t', rfl⟩ := hw; exact lt_int (fin _ h)
    · exact h.elim
  · split at h
    · obtain ⟨t, rfl⟩ := hu; obtain ⟨t', rfl⟩ := hw; exact le_int (fin _ h)
    · exact h.elim
  · split at h
    · obtain ⟨t, rfl⟩ := hu; obtain ⟨t', rfl⟩ := hw; exact gt_int (fin _ h)
    · exact h.elim
  · split at h
    · obtain ⟨t, rfl⟩ := hu; obtain ⟨t', rfl⟩ := hw; exact ge_int (fin _ h)
    · exact h.elim
  · unfold inA at h
    split at h
    · split at h
      · rename_i u' c
        obtain ⟨_, t, rfl⟩ := hu; obtain ⟨_, t', rfl⟩ := hw
        refine P.in_str ?_
        rw [show (⟨[c].toArray⟩ : Str) = ⟨#[c]⟩ from rfl, StrLaws.found_one, str_cps]
        exact fin _ h
      · exact h.elim
    · rename_i n
      split at h
      · split at h
        · rename_i ds d e1 e2
          obtain ⟨as, r1, c1, d1⟩ := rd_reads S _ _ _ _ e1 hw
          obtain ⟨bs, r2, c2, d2⟩ := rd_reads S _ _ _ _ e2 hu
          simp only [Dt.py, PyData.canLay0, PyData.depth] at r1 c1 d1
          refine SeqAt.in_list_reads r1 r2 c1 c2 (by omega) ?_
          rw [pys_any]
          exact fin _ h
        · exact h.elim
      · rename_i es ep e
        split at h
        · rename_i k
          obtain ⟨a, rfl, ea, ds, ho, hs, _⟩ := S.lookup e hw
          obtain ⟨_, t, rfl⟩ := hu
          refine wpAny_in_of (strKind_is _ _ _ t) (by have : a ≠ sysModules := (fun z => S.sm (z ▸ List.mem_of_getElem? ea)); simpa using this) (dict_map ho hs) ?_
          rw [dict_has hs]; exact fin' _ _ h
        · exact h.elim
      · exact h.elim
    · exact h.elim
  · unfold inA at h
    split at h
    · split at h
      · rename_i u' c
        obtain ⟨_, t, rfl⟩ := hu; obtain ⟨_, t', rfl⟩ := hw
        refine P.notIn_str ?_
        rw [show (⟨[c].toArray⟩ : Str) = ⟨#[c]⟩ from rfl, StrLaws.found_one, str_cps]
        exact fin _ h
      · exact h.elim
    · rename_i n
      split at h
      · split at h
        · rename_i ds d e1 e2
          obtain ⟨as, r1, c1, d1⟩ := rd_reads S _ _ _ _ e1 hw
          obtain ⟨bs, r2, c2, d2⟩ := rd_reads S _ _ _ _ e2 hu
          simp only [Dt.py, PyData.canLay0, PyData.depth] at r1 c1 d1
          refine SeqAt.notIn_list_reads r1 r2 c1 c2 (by omega) ?_
          rw [pys_any]
          exact fin _ h
        · exact h.elim
      · rename_i es ep e
        split at h
        · rename_i k
          obtain ⟨a, rfl, ea, ds, ho, hs, _⟩ := S.lookup e hw
          obtain ⟨_, t, rfl⟩ := hu
          refine wpAny_notIn_of (strKind_is _ _ _ t) (by have : a ≠ sysModules := (fun z => S.sm (z ▸ List.mem_of_getElem? ea)); simpa using this) (dict_map ho hs) ?_
          rw [dict_has hs]; exact fin' _ _ h
        · exact h.elim
      · exact h.elim
    · exact h.elim
end
end Mine
end
section
namespace Mine
open PySem PySem.Calls PyProof.Rows

/-! Items, slices, truth, stores. -/

theorem place_eq (k : Int) (n : Nat) : seqIndex? k n = place k n := by
  unfold seqIndex? place
  by_cases h : 0 ≤ k
  · rw [if_pos h]
    simp only [show ¬ k < 0 by omega, if_false]
    by_cases h2 : k.toNat < n
    · rw [if_pos h2]
      have : (decide (0 ≤ k) && decide (k < (n : Int))) = true := by simp; omega
      rw [this]; rfl
    · rw [if_neg h2]
      have : (decide (0 ≤ k) && decide (k < (n : Int))) = false := by simp; omega
      rw [this]; rfl
  · rw [if_neg h]
    simp only [show k < 0 by omega, if_true]
    by_cases h2 : 0 ≤ k + n
    · rw [if_pos h2]
      have : (decide (0 ≤ k + (n : Int)) && decide (k + (n : Int) < (n : Int))) = true := by simp; omega
      rw [this]; rfl
    · rw [if_neg h2]
      have : (decide (0 ≤ k + (n : Int)) && decide (k + (n : Int) < (n : Int))) = false := by simp; omega
      rw [this]; rfl
theorem place_bounds {k : Int} {n j : Nat} (h : place k n = some j) : j < n ∧ -(n : Int) ≤ k ∧ k < n := by
  unfold place at h
  split at h
  · split at h
    · cases h; omega
    · cases h
  · split at h
    · cases h; omega
    · cases h

theorem clip_eq (i : Int) (n : Nat) : clipAt n i = clip i n := by
  have h := clipAt_cast n i
  unfold clip
  split at h <;> split <;> omega

theorem cut_eq {α : Type} (xs : List α) (a b : Nat) : (xs.drop a).take (b - a) = cut xs a b := by unfold cut; rw [List.drop_take]

/-- a part of a slice, as the model has it *)-/
noncomputable def partOf (v : V) : Option (Option Int) := match v with
  | .none => some none
  | .int i => some (some i)
  | _ => none

theorem low_part {v : V} {n i : Nat} (h : lowOf v n = some i) : ∃ p, partOf v = some p ∧ i = p.elim 0 (clipAt n) := by
  unfold lowOf at h
  split at h
  · cases h; exact ⟨none, rfl, rfl⟩
  · cases h; exact ⟨some _, rfl, (clip_eq _ _).symm⟩
  · cases h
theorem high_part {v : V} {n i : Nat} (h : highOf v n = some i) : ∃ p, partOf v = some p ∧ i = p.elim n (clipAt n) := by
  unfold highOf at h
  split at h
  · cases h; exact ⟨none, rfl, rfl⟩
  · cases h; exact ⟨some _, rfl, (clip_eq _ _).symm⟩
  · cases h

theorem strIdx (lo hi : Option Int) (n : Nat) : Builtin.Str.strSliceIndices lo hi 1 n = sliceRange ((lo.elim 0 (clipAt n) : Nat) : Int) ((hi.elim n (clipAt n) : Nat) : Int) 1 := by
  cases lo <;> cases hi <;> simp [Builtin.Str.strSliceIndices, clipAt_cast]

theorem strPick (x : Txt) (lo hi : Option Int) : ((Builtin.Str.strSliceIndices lo hi 1 x.length).filterMap (x.toArray[·]?)) = cut x (lo.elim 0 (clipAt x.length)) (hi.elim x.length (clipAt x.length)) := by
  rw [strIdx, sliceRange_one, pick_run, ← cut_eq]

theorem cut_len {α : Type} (xs : List α) (a b : Nat) : (cut xs a b).length ≤ xs.length := by
  unfold cut; rw [List.length_drop, List.length_take]; omega
theorem cut_whole (x : Txt) (a b : Nat) (h : (cut x a b).length = x.length) : cut x a b = x := by
  unfold cut at *
  rw [List.length_drop, List.length_take] at h
  rcases Nat.eq_zero_or_pos x.length with z | z
  · have := List.eq_nil_of_length_eq_zero z
    subst this; simp
  · have ha : a = 0 := by omega
    have hb : x.length ≤ b := by omega
    subst ha
    rw [List.drop_zero, List.take_of_length_le hb]

section
variable {C : Cx} {ρ : List Addr} {H : AHeap} {s : Shared} {A : Around} {E : Value → Shared → Prop} {Q : VPost}

theorem part_val {v : V} {u : Value} {p : Option Int} (h : partOf v = some p) (hv : VR C ρ v u) : ∃ q : Option (Int × Tok), u = partValue q ∧ q.map (·.1) = p ∧ IsPart u p := by
  unfold partOf at h
  split at h
  · cases h; cases hv; exact ⟨none, rfl, rfl, .none⟩
  · cases h
    obtain ⟨t, rfl⟩ := hv
    exact ⟨some (_, t), rfl, rfl, .int _ t⟩
  · cases h

theorem OR.isList {h : Heap} {a : Addr} {xs : List V} (o : OR C ρ h a (.list xs)) : ∃ us : Array Value, h.IsList a us ∧ All2 (VR C ρ) xs us.toList := let ⟨us, n, e, r, _⟩ := o; ⟨us, ⟨_, e, rfl, n, rfl⟩, r⟩

theorem subA_ok {o i : V} {u w : Value} {value slice : Expr} (h : subA o i H fun v => Q v H) (S : Sim C ρ H s) (hu : VR C ρ o u) (hw : VR C ρ i w)
    (hs : subscripted slice false u w = operate [u, w] (getItem u w)) : wpAny C.M A (subscriptTail value slice u w) (PV C ρ s Q) E s := by
  unfold subA at h
  split at h
  · rename_i t k
    split at h
    · rename_i j e
      obtain ⟨ok, tk, rfl⟩ := hu; obtain ⟨tk', rfl⟩ := hw
      obtain ⟨b1, b2, b3⟩ := place_bounds e
      have hlen := (okT_iff.mp ok).1
      unfold lid at hlen
      refine tail_any (typeIs_str _ _ _) F.slot_str_getitem.lookup ?_ hs
      refine P.getItem_str (c := t[j]) (by simp; omega) ?_ ?_
      · rw [str_len, place_eq, e]
        show t.toArray[j]? = _
        simp [b1]
      · have e2 : (t.drop j).take 1 = [t[j]] := by rw [List.drop_eq_getElem_cons b1]; rfl
        rw [e2] at h
        refine here S ?_ h
        have : okT [t[j]] = true := by rw [← e2]; exact okT_take (okT_drop ok j) 1
        exact vt this _
    · exact h.elim
  · rename_i n k
    split at h
    · rename_i xs e
      split at h
      · rename_i j e2
        split at h
        · rename_i v e3
          obtain ⟨a, rfl, ea, us, m, ho, hs', hl⟩ := S.lookup e hu
          obtain ⟨tk', rfl⟩ := hw
          obtain ⟨b1, b2, b3⟩ := place_bounds e2
          obtain ⟨y, e4, hv⟩ := hs'.get j v e3
          have hlen := hs'.length
          simp only [Array.length_toList] at hlen
          unfold lid at hl
          refine tail_any ⟨_, ho, rfl⟩ slot_list_getitem.lookup ?_ hs
          unfold place at e2
          split at e2
          · split at e2
            · cases e2
              exact wpAny_getItem_list ⟨_, ho, rfl, m, rfl⟩ (by omega) (by omega) (by rw [← Array.getElem?_toList]; exact e4) (here0 S hv h)
            · cases e2
          · split at e2
            · cases e2
              refine wpAny_getItem_list_neg ⟨_, ho, rfl, m, rfl⟩ (by omega) (by omega) (by omega) ?_ (here0 S hv h)
              rw [← Array.getElem?_toList, ← hlen]; exact e4
            · cases e2
        · exact h.elim
      · exact h.elim
    · rename_i xs e
      split at h
      · rename_i j e2
        split at h
        · rename_i v e3
          obtain ⟨a, rfl, ea, us, m, ho, hs', hl⟩ := S.lookup e hu
          obtain ⟨tk', rfl⟩ := hw
          obtain ⟨b1, b2, b3⟩ := place_bounds e2
          obtain ⟨y, e4, hv⟩ := hs'.get j v e3
          have hlen := hs'.length
          simp only [Array.length_toList] at hlen
          unfold lid at hl
          refine tail_any ⟨_, ho, rfl⟩ slot_tuple_getitem.lookup ?_ hs
          refine P.getItem_tuple ho (by omega) (by omega) (by rw [place_eq, ← hlen]; exact e2) (by rw [← Array.getElem?_toList]; exact e4) (here0 S hv h)
        · exact h.elim
      · exact h.elim
    · exact h.elim
  · rename_i n k
    split at h
    · rename_i es ep e
      split at h
      · rename_i p e2
        obtain ⟨a, rfl, ea, ds, ho, hs', _⟩ := S.lookup e hu
        obtain ⟨_, t, rfl⟩ := hw
        have hm := dict_map (C := C) (ρ := ρ) ho hs'
        rcases dict_find (k := k) hs' with ⟨z1, z2⟩ | ⟨e', d', z1, z2, z3⟩
        · rw [z1] at e2; cases e2
        · rw [z1] at e2; cases e2
          refine tail_any hm.typeIs slot_dict_getitem.lookup (wpAny_getItem_of (strKind_is _ _ _ t) hm (v := d'.val) ?_ (here S z3 h)) hs
          unfold findBy
          rw [← Array.find?_toList, z2]; rfl
      · exact h.elim
    · exact h.elim
  · exact h.elim

/-- the slice object is pushed, then the item is taken -/
theorem sliceA_ok {o lo hi : V} {u l w : Value} {value : Expr} {e1 e2 : Option Expr} {p : Pos} (h : sliceA o lo hi H Q) (S : Sim C ρ H s) (hu : VR C ρ o u) (hl : VR C ρ lo l) (hw : VR C ρ hi w) :
    wpAny C.M A (subscriptTail value (.Slice e1 e2 none p) u (.ref s.heap.objs.size)) (PV C ρ s Q) E { s with heap := s.heap.push { cls := .type "slice", data := .fields #[l, w, .none] } } := by
  have hs : ∀ x y, subscripted (.Slice e1 e2 none p) false x y = operate [y, x] (getItem x y) := fun _ _ => rfl
  obtain ⟨S1, st1⟩ := S.grow (h' := s.heap.push { cls := .type "slice", data := .fields #[l, w, .none] }) (tk := s.toks) get_push
  unfold sliceA at h
  split at h
  · rename_i t
    split at h
    · rename_i i j q1 q2
      obtain ⟨pl, a1, rfl⟩ := low_part q1
      obtain ⟨ph, b1, rfl⟩ := high_part q2
      obtain ⟨ql, rfl, a3, a4⟩ := part_val a1 hl
      obtain ⟨qh, rfl, b3, b4⟩ := part_val b1 hw
      obtain ⟨ok, tk, rfl⟩ := hu
      refine tail_any (typeIs_str _ _ _) F.slot_str_getitem.lookup ?_ (hs _ _)
      refine wpAny_getItem_str_slice (l := ql) (u := qh) (st := none) ⟨_, Heap.get?_push_size _ rfl, rfl, rfl⟩ rfl ?_
      have hp : slicePicked ⟨t.toArray⟩ ql qh none = Builtin.Str.strSliceIndices pl ph 1 t.length := by unfold slicePicked; rw [a3, b3, str_len]; rfl
      have hpk := strPick t pl ph
      unfold sliceMade
      rw [hp]
      have hlen : (Builtin.Str.strSliceIndices pl ph 1 t.length).length = (cut t (pl.elim 0 (clipAt t.length)) (ph.elim t.length (clipAt t.length))).length := by
        rw [strIdx, sliceRange_one, ← cut_eq, List.length_map, List.length_range, List.length_take, List.length_drop]
        have : ph.elim t.length (clipAt t.length) ≤ t.length := by
          cases ph with
          | none => exact Nat.le_refl _
          | some i => show clipAt t.length i ≤ _; have := clipAt_cast t.length i; omega
        omega
      split
      · rename_i q
        simp only [Option.map_none, Option.getD_none, BEq.rfl, Bool.true_and, beq_iff_eq, hlen, str_len] at q
        have := cut_whole _ _ _ q
        rw [this] at h
        exact ⟨ρ, H, _, st1, S1, vt ok tk, h⟩
      · refine ⟨?_, ?_⟩
        · rw [hpk, str_len]
          exact lid_le (Nat.le_trans (cut_len _ _ _) (okT_iff.mp ok).1)
        · rw [hpk]
          exact PV.trans st1 (here S1 (vt (okT_cut ok _ _) _) h)
    · exact h.elim
  · rename_i n
    split at h
    · rename_i xs e
      split at h
      · rename_i i j q1 q2
        obtain ⟨pl, a1, rfl⟩ := low_part q1
        obtain ⟨ph, b1, rfl⟩ := high_part q2
        obtain ⟨ql, rfl, a3, a4⟩ := part_val a1 hl
        obtain ⟨qh, rfl, b3, b4⟩ := part_val b1 hw
        obtain ⟨a, rfl, ea, us, m, ho, hs', hlx⟩ := S.lookup e hu
        have hlen := hs'.length
        simp only [Array.length_toList] at hlen
        refine tail_any (T := "list") ⟨_, Heap.get?_push_of_some _ ho, rfl⟩ slot_list_getitem.lookup ?_ (hs _ _)
        refine wpAny_getItem_list_slice (lo := pl) (hi := ph) (st := none) ⟨_, Heap.get?_push_of_some _ ho, rfl, m, rfl⟩ (Heap.IsSliceOf.new ..) a4 b4 .none (by simp) ?_ (by rw [← hlen]; exact lid_le hlx)
        rw [slicePick_plain, cut_eq, ← hlen]
        refine PV.trans st1 (pushed_list (tk := s.toks) S1 ?_ (Nat.le_trans (cut_len _ _ _) hlx) h)
        exact (hs'.take _).drop _
      · exact h.elim
    · rename_i xs e
      split at h
      · rename_i k
        obtain ⟨h1, h2, h3⟩ := h
        obtain ⟨tk, rfl⟩ := hl
        cases hw
        obtain ⟨a, rfl, ea, us, m, ho, hs', hlx⟩ := S.lookup e hu
        have hlen := hs'.length
        simp only [Array.length_toList] at hlen
        refine tail_any (T := "tuple") ⟨_, Heap.get?_push_of_some _ ho, rfl⟩ slot_tuple_getitem.lookup ?_ (hs _ _)
        have hk : Value.int k tk = .int ((k.toNat : Nat) : Int) tk := by rw [Int.toNat_of_nonneg (by omega)]
        have hh : (s.heap.push { cls := .type "slice", data := .fields #[.int k tk, .none, .none] }).IsSliceOf s.heap.objs.size (.int ((k.toNat : Nat) : Int) tk) .none .none := hk ▸ Heap.IsSliceOf.new ..
        refine getItem_tuple_from ⟨_, Heap.get?_push_of_some _ ho, rfl, m, rfl⟩ hh (by omega) (by omega) ?_ (by rw [← hlen]; exact lid_le hlx)
        exact PV.trans st1 (pushed_tuple (tk := s.toks) S1 (hs'.drop _) (by rw [List.length_drop]; omega) h3)
      · exact h.elim
    · exact h.elim
  · exact h.elim

theorem truthy_ok {v : V} {u : Value} {b : Bool} {R : Bool → Shared → Prop} (h : truthyA v = some b) (hv : VR C ρ v u) (hq : ∀ t, R b { s with toks := t }) : wpAny C.M A (truthy u) R E s := by
  unfold truthyA at h
  split at h
  · cases h; cases hv; exact fun _ _ _ => hq s.toks
  · cases h; cases hv; exact wpAny_truthy_bool (hq s.toks)
  · cases h; obtain ⟨t, rfl⟩ := hv; exact P.truthy_int (hq s.toks)
  · cases h
    obtain ⟨ok, t, rfl⟩ := hv
    have hl := (okT_iff.mp ok).1
    unfold lid at hl
    refine P.truthy_str (by rw [str_len]; omega) ?_
    rw [str_len]
    rename_i x
    have : ((x.length : Int) != 0) = !x.isEmpty := by cases x <;> simp <;> omega
    rw [this]; exact hq _
  · cases h
end
end Mine
end
section
namespace Mine
open PySem PySem.Calls PyProof.Rows

/-! Expressions. -/

noncomputable def Callee (C : Cx) (u : Value) : Prop := (∃ id, u = .builtin id) ∨ (∃ t, u = .type t) ∨ ∃ a o fd, u = .ref a ∧ C.base.get? a = some o ∧ o.data = .func fd

/-- a callable that does as its spec says -/
noncomputable def CallOk (C : Cx) (K : Nat) (sp : Spec) (u : Value) : Prop := ∀ vs H Q X, sp vs H Q X → ∀ ρ s us A E, Sim C ρ H s → All2 (VR C ρ) vs us → AOk K A → Takes C ρ s X E → wpAny C.M A (call u us) (PV C ρ s Q) E s

structure TabOk (C : Cx) (T : Tab) (K : Nat) : Prop where
  gv : ∀ g v, T.gv g = some v → ∃ u, C.G g = some u ∧ ∀ ρ, VR C ρ v u
  fn : ∀ g, (∃ vs H Q X, T.fn g vs H Q X) → ∃ u, C.G g = some u ∧ Callee C u ∧ CallOk C K (T.fn g) u
  mt : ∀ kd m, T.has kd m = true → ∃ f, Callee C f ∧ CallOk C K (T.mt kd m) f ∧
    ∀ v H ρ s u pl A (Q : Value × List Value → Shared → Prop) E, kindA v H = some kd → Sim C ρ H s → VR C ρ v u → (∀ t, Q (f, [u]) { s with toks := t }) → wpAny C.M A (getMethod u m pl) Q E s
  sorted : C.G (Str.ofString "sorted") = some (.builtin "sorted")
  len : C.G (Str.ofString "len") = some (.builtin "len")
  srt : ∀ vs H Q X, T.srt vs H Q X → ∀ ρ s us A E, Sim C ρ H s → All2 (VR C ρ) vs us → AOk K A → Takes C ρ s X E → wpAny C.M A (call (.builtin "sorted") us [(Str.ofString "key", .builtin "len")]) (PV C ρ s Q) E s
  rvs : ∀ vs H Q X, ¬ T.rvs vs H Q X
  range : C.G (Str.ofString "range") = some (.type "range")
  revd : C.G (Str.ofString "reversed") = some (.type "reversed")
  enum : C.G (Str.ofString "enumerate") = some (.type "enumerate")

section
variable (C : Cx) (T : Tab) (K : Nat)

noncomputable def EvOk (env : Env) (e : Expr) (pe : PE) : Prop := ∀ {σ : Sg} {ρ : List Addr} {H : AHeap} {s : Shared} {A : Around} {Q : VPost} {X : XPost} {E : Value → Shared → Prop},
  FR C env σ ρ s.heap → Sim C ρ H s → AOk K A → (sem T pe).ev σ H Q X → Takes C ρ s X E → wpAny C.M A (eval e env) (PV C ρ s Q) E s
noncomputable def TtOk (env : Env) (e : Expr) (pe : PE) : Prop := ∀ {σ : Sg} {ρ : List Addr} {H : AHeap} {s : Shared} {A : Around} {q : Bool → AHeap → Prop} {X : XPost} {E : Value → Shared → Prop},
  FR C env σ ρ s.heap → Sim C ρ H s → AOk K A → (sem T pe).tt σ H q X → Takes C ρ s X E → wpAny C.M A (isTrue e env (eval e env)) (PB C ρ s q) E s
noncomputable def ElOk (env : Env) (pos : Pos) (es : List Expr) (pe : PE) : Prop := ∀ {σ : Sg} {ρ : List Addr} {H : AHeap} {s : Shared} {A : Around} {q : List V → AHeap → Prop} {X : XPost} {E : Value → Shared → Prop},
  FR C env σ ρ s.heap → Sim C ρ H s → AOk K A → (sem T pe).el σ H q X → Takes C ρ s X E → wpAny C.M A (spliced (backTo pos (starEach es env))) (PL C ρ s q) E s
end

section
variable {C : Cx} {T : Tab} {K : Nat} {env : Env}

/-- one evaluation, then what follows from the new state -/
theorem EvOk.bind {e : Expr} {pe : PE} (he : EvOk C T K env e pe) {σ : Sg} {ρ : List Addr} {H : AHeap} {s : Shared} {A : Around} {Q : VPost} {X : XPost} {E : Value → Shared → Prop} {R : Value → Shared → Prop}
    (F : FR C env σ ρ s.heap) (S : Sim C ρ H s) (hA : AOk K A) (h : (sem T pe).ev σ H Q X) (hE : Takes C ρ s X E)
    (k : ∀ ρ' H' v u s', Step ρ s ρ' s' → FR C env σ ρ' s'.heap → Sim C ρ' H' s' → VR C ρ' v u → Q v H' → Takes C ρ' s' X E → R u s') : wpAny C.M A (eval e env) R E s :=
  wpAny_mono (he F S hA h hE) (fun u s' ⟨ρ', H', v, st, S', hv, hq⟩ => k ρ' H' v u s' st (F.step st) S' hv hq (hE.on st)) fun _ _ x => x

theorem TtOk.bind {e : Expr} {pe : PE} (he : TtOk C T K env e pe) {σ : Sg} {ρ : List Addr} {H : AHeap} {s : Shared} {A : Around} {q : Bool → AHeap → Prop} {X : XPost} {E : Value → Shared → Prop} {R : Bool → Shared → Prop}
    (F : FR C env σ ρ s.heap) (S : Sim C ρ H s) (hA : AOk K A) (h : (sem T pe).tt σ H q X) (hE : Takes C ρ s X E)
    (k : ∀ ρ' H' b s', Step ρ s ρ' s' → FR C env σ ρ' s'.heap → Sim C ρ' H' s' → q b H' → Takes C ρ' s' X E → R b s') : wpAny C.M A (isTrue e env (eval e env)) R E s :=
  wpAny_mono (he F S hA h hE) (fun u s' ⟨ρ', H', st, S', hq⟩ => k ρ' H' u s' st (F.step st) S' hq (hE.on st)) fun _ _ x => x

theorem ElOk.bind {pos : Pos} {e : List Expr} {pe : PE} (he : ElOk C T K env pos e pe) {σ : Sg} {ρ : List Addr} {H : AHeap} {s : Shared} {A : Around} {q : List V → AHeap → Prop} {X : XPost} {E : Value → Shared → Prop} {R : List Value → Shared → Prop}
    (F : FR C env σ ρ s.heap) (S : Sim C ρ H s) (hA : AOk K A) (h : (sem T pe).el σ H q X) (hE : Takes C ρ s X E)
    (k : ∀ ρ' H' vs us s', Step ρ s ρ' s' → FR C env σ ρ' s'.heap → Sim C ρ' H' s' → All2 (VR C ρ') vs us → q vs H' → Takes C ρ' s' X E → R us s') : wpAny C.M A (spliced (backTo pos (starEach e env))) R E s :=
  wpAny_mono (he F S hA h hE) (fun u s' ⟨ρ', H', vs, st, S', hv, hq⟩ => k ρ' H' vs u s' st (F.step st) S' hv hq (hE.on st)) fun _ _ x => x

/-- a test by the value's truth -/
theorem tt_of_ev {e : Expr} {pe : PE} (hi : ∀ whole, isTrue e env whole = (do let v ← whole; standAt e.pos; holding [v] (truthy v)))
    (ht : (sem T pe).tt = (Me.ofEv (sem T pe).ev).tt) (he : EvOk C T K env e pe) : TtOk C T K env e pe := by
  intro σ ρ H s A q X E F S hA h hE
  rw [ht] at h
  refine wpAny_isTrue_value ?_ (hi _)
  refine he.bind F S hA h hE fun ρ' H' v u s' st F' S' hv hq hE' => ?_
  split at hq
  · rename_i b e1
    exact truthy_ok e1 hv fun t => ⟨ρ', H', st.trans (StepG.toks t), S'.toks t, hq⟩
  · exact hq.elim

theorem ok_name {x : Str} {pos : Pos} (hk : env.kindOf x = some .local ∨ env.kindOf x = some .cell) (hd : (x == Str.ofString "__debug__") = false) : EvOk C T K env (.Name x pos) (.name x) := by
  intro σ ρ H s A Q X E F S hA h hE
  refine wpAny_Name ?_ hd
  change (match σ x with | some v => Q v H | none => False) at h
  split at h
  · rename_i v e
    exact load_ok F e hk fun u hu => here0 S hu h
  · exact h.elim

theorem ok_glob (hT : TabOk C T K) {x : Str} {pos : Pos} (hk : env.kindOf x = some .globalImplicit) (hd : (x == Str.ofString "__debug__") = false) : EvOk C T K env (.Name x pos) (.glob x) := by
  intro σ ρ H s A Q X E F S hA h hE
  change (match T.gv x with | some v => Q v H | none => False) at h
  split at h
  · rename_i v e
    obtain ⟨u, hu, hv⟩ := hT.gv x v e
    exact global_ok F S hk hu hd (here0 S (hv ρ) h)
  · exact h.elim

theorem ok_bin {l r : Expr} {op : Operator} {pos : Pos} {pl pr : PE} (hl : EvOk C T K env l pl) (hr : EvOk C T K env r pr) : EvOk C T K env (.BinOp l op r pos) (.bin op pl pr) := by
  intro σ ρ H s A Q X E F S hA h hE
  refine wpAny_BinOp (hl.bind F S hA h hE fun ρ1 H1 v1 u1 s1 st1 F1 S1 hv1 hq1 hE1 => hr.bind F1 S1 hA hq1 hE1 fun ρ2 H2 v2 u2 s2 st2 F2 S2 hv2 hq2 hE2 => ?_)
  exact wpAny_mono (binA_ok hq2 S2 (st2.vr hv1) hv2) (fun _ _ p => PV.trans (st1.trans st2) p) fun _ _ x => x

theorem cmp_marks {op : CmpOp} {e : Expr} (h : isSet e = false) : behindInMarks op e = false := by
  cases e <;> first | rfl | cases h

theorem ok_cmp1 {l r : Expr} {op : CmpOp} {pos : Pos} {pl pr : PE} (hs : isSet r = false) (hl : EvOk C T K env l pl) (hr : EvOk C T K env r pr) :
    EvOk C T K env (.Compare l [op] [r] pos) (.cmp1 op pl pr) ∧ TtOk C T K env (.Compare l [op] [r] pos) (.cmp1 op pl pr) := by
  constructor
  · intro σ ρ H s A Q X E F S hA h hE
    refine wpAny_Compare1 (hl.bind F S hA h hE fun ρ1 H1 v1 u1 s1 st1 F1 S1 hv1 hq1 hE1 => hr.bind F1 S1 hA hq1 hE1 fun ρ2 H2 v2 u2 s2 st2 F2 S2 hv2 hq2 hE2 => ?_) (cmp_marks hs)
    refine wpAny_mono (cmpA_ok hq2 S2 hA (st2.vr hv1) hv2) (fun r s' p => ?_) fun _ _ x => x
    obtain ⟨c, rfl, st3, S3, hc⟩ := p
    exact ⟨ρ2, H2, _, (st1.trans st2).trans st3, S3, vb c, hc⟩
  · intro σ ρ H s A Q X E F S hA h hE
    refine wpAny_isTrue_Compare1 (hl.bind F S hA h hE fun ρ1 H1 v1 u1 s1 st1 F1 S1 hv1 hq1 hE1 => hr.bind F1 S1 hA hq1 hE1 fun ρ2 H2 v2 u2 s2 st2 F2 S2 hv2 hq2 hE2 => ?_) (cmp_marks hs)
    refine wpAny_mono (cmpA_ok hq2 S2 hA (st2.vr hv1) hv2) (fun r s' p => ?_) fun _ _ x => x
    obtain ⟨c, rfl, st3, S3, hc⟩ := p
    exact wpAny_truthy_bool ⟨ρ2, H2, (st1.trans st2).trans st3, S3, hc⟩


theorem ok_cmp2 {a b c : Expr} {o1 o2 : CmpOp} {pos : Pos} {pa pb pc : PE} (hs : isSet b = false) (hs' : isSet c = false) (ha : EvOk C T K env a pa) (hb : EvOk C T K env b pb) (hc : EvOk C T K env c pc) :
    EvOk C T K env (.Compare a [o1, o2] [b, c] pos) (.cmp2 o1 o2 pa pb pc) ∧ TtOk C T K env (.Compare a [o1, o2] [b, c] pos) (.cmp2 o1 o2 pa pb pc) := by
  have hm : lastMarks [o1, o2] [b, c] = false := cmp_marks (op := o2) hs'
  constructor
  · intro σ ρ H s A Q X E F S hA h hE
    refine Compare_chain (ha.bind F S hA h hE fun ρ1 H1 v1 u1 s1 st1 F1 S1 hv1 hq1 hE1 => chain_link (hb.bind F1 S1 hA hq1 hE1 fun ρ2 H2 v2 u2 s2 st2 F2 S2 hv2 hq2 hE2 => ?_)) hm
    refine wpAny_mono (cmpA_ok hq2 S2 hA (st2.vr hv1) hv2) (fun r s' p => ?_) fun _ _ x => x
    obtain ⟨c1, rfl, st3, S3, hc1⟩ := p
    refine wpAny_truthy_bool ?_
    cases c1 with
    | false => exact ⟨ρ2, H2, _, (st1.trans st2).trans st3, S3, vb _, hc1⟩
    | true =>
      rw [if_pos rfl] at hc1
      refine chain_last (hc.bind (F2.step st3) S3 hA hc1 (hE2.on st3) fun ρ4 H4 v4 u4 s4 st4 F4 S4 hv4 hq4 hE4 => ?_)
      refine wpAny_mono (cmpA_ok hq4 S4 hA (st4.vr (st3.vr hv2)) hv4) (fun r s' p => ?_) fun _ _ x => x
      obtain ⟨c2, rfl, st5, S5, hc2⟩ := p
      exact ⟨ρ4, H4, _, (((st1.trans st2).trans st3).trans st4).trans st5, S5, vb _, hc2⟩
  · intro σ ρ H s A Q X E F S hA h hE
    refine isTrue_chain (ha.bind F S hA h hE fun ρ1 H1 v1 u1 s1 st1 F1 S1 hv1 hq1 hE1 => test_link (hb.bind F1 S1 hA hq1 hE1 fun ρ2 H2 v2 u2 s2 st2 F2 S2 hv2 hq2 hE2 => ?_)) hm
    refine wpAny_mono (cmpA_ok hq2 S2 hA (st2.vr hv1) hv2) (fun r s' p => ?_) fun _ _ x => x
    obtain ⟨c1, rfl, st3, S3, hc1⟩ := p
    refine wpAny_truthy_bool ?_
    cases c1 with
    | false => exact ⟨ρ2, H2, (st1.trans st2).trans st3, S3, hc1⟩
    | true =>
      rw [if_pos rfl] at hc1
      refine test_last (hc.bind (F2.step st3) S3 hA hc1 (hE2.on st3) fun ρ4 H4 v4 u4 s4 st4 F4 S4 hv4 hq4 hE4 => ?_)
      refine wpAny_mono (cmpA_ok hq4 S4 hA (st4.vr (st3.vr hv2)) hv4) (fun r s' p => ?_) fun _ _ x => x
      obtain ⟨c2, rfl, st5, S5, hc2⟩ := p
      exact wpAny_truthy_bool ⟨ρ4, H4, (((st1.trans st2).trans st3).trans st4).trans st5, S5, hc2⟩

theorem ok_not {e : Expr} {pos : Pos} {pe : PE} (he : EvOk C T K env e pe) (ht : TtOk C T K env e pe) : EvOk C T K env (.UnaryOp .Not e pos) (.not pe) ∧ TtOk C T K env (.UnaryOp .Not e pos) (.not pe) := by
  constructor
  · intro σ ρ H s A Q X E F S hA h hE
    refine wpAny_UnaryOp (he.bind F S hA h hE fun ρ1 H1 v1 u1 s1 st1 F1 S1 hv1 hq1 hE1 => not_value ?_)
    split at hq1
    · rename_i b e1
      exact truthy_ok e1 hv1 fun t => ⟨ρ1, H1, _, st1.trans (StepG.toks t), S1.toks t, vb _, hq1⟩
    · exact hq1.elim
  · intro σ ρ H s A Q X E F S hA h hE
    exact wpAny_isTrue_Not (ht.bind F S hA h hE fun ρ1 H1 b s1 st1 F1 S1 hq1 hE1 => ⟨ρ1, H1, st1, S1, hq1⟩)

theorem ok_neg {e : Expr} {pos : Pos} {pe : PE} (he : EvOk C T K env e pe) : EvOk C T K env (.UnaryOp .USub e pos) (.neg pe) := by
  intro σ ρ H s A Q X E F S hA h hE
  refine wpAny_UnaryOp (he.bind F S hA h hE fun ρ1 H1 v1 u1 s1 st1 F1 S1 hv1 hq1 hE1 => ?_)
  split at hq1
  · obtain ⟨t, rfl⟩ := hv1
    exact P.neg_int (PV.trans st1 (here S1 (vi _ _) hq1))
  · exact hq1.elim

theorem ok_ite {c a b : Expr} {pos : Pos} {pc pa pb : PE} (hc : TtOk C T K env c pc) (ha : EvOk C T K env a pa) (ha' : TtOk C T K env a pa) (hb : EvOk C T K env b pb) (hb' : TtOk C T K env b pb) :
    EvOk C T K env (.IfExp c a b pos) (.ite pc pa pb) ∧ TtOk C T K env (.IfExp c a b pos) (.ite pc pa pb) := by
  constructor
  · intro σ ρ H s A Q X E F S hA h hE
    rw [arm_eval_IfExp]
    refine wpAny_bind (hc.bind F S hA h hE fun ρ1 H1 t s1 st1 F1 S1 hq1 hE1 => ?_)
    cases t with
    | true => exact ha.bind F1 S1 hA hq1 hE1 fun ρ2 H2 v2 u2 s2 st2 F2 S2 hv2 hq2 hE2 => ⟨ρ2, H2, v2, st1.trans st2, S2, hv2, hq2⟩
    | false => exact hb.bind F1 S1 hA hq1 hE1 fun ρ2 H2 v2 u2 s2 st2 F2 S2 hv2 hq2 hE2 => ⟨ρ2, H2, v2, st1.trans st2, S2, hv2, hq2⟩
  · intro σ ρ H s A Q X E F S hA h hE
    rw [arm_isTrue_IfExp]
    refine wpAny_bind (hc.bind F S hA h hE fun ρ1 H1 t s1 st1 F1 S1 hq1 hE1 => ?_)
    cases t with
    | true => exact ha'.bind F1 S1 hA hq1 hE1 fun ρ2 H2 v2 s2 st2 F2 S2 hq2 hE2 => ⟨ρ2, H2, st1.trans st2, S2, hq2⟩
    | false => exact hb'.bind F1 S1 hA hq1 hE1 fun ρ2 H2 v2 s2 st2 F2 S2 hq2 hE2 => ⟨ρ2, H2, st1.trans st2, S2, hq2⟩

/-! and, or: any number of parts -/
theorem boolOp_cons {M : Model} {A : Around} {E : Value → Shared → Prop} {s : Shared} {pos : Pos} {op : BoolOp} {x y : Sem Value} {r : List (Sem Value)} {R : Value → Shared → Prop}
    (h : wpAny M A x (fun v s1 => wpAny M A (truthy v) (fun t s2 => if t = (op == .And) then wpAny M A (boolOp pos op (y :: r)) R E s2 else R v s2) E s1) E s) : wpAny M A (boolOp pos op (x :: y :: r)) R E s := by
  show wpAny M A (do
    let v ← x
    standAt pos
    let t ← holding [v] (truthy v)
    match op, t with
    | .And, false | .Or, true => pure v
    | _, _ => boolOp pos op (y :: r)) R E s
  refine wpAny_bind (wpAny_mono h (fun v s₁ h₁ => wpAny_bind (wpAny_standAt (wpAny_bind (wpAny_holding (wpAny_mono h₁ (fun t s₂ h₂ => ?_) fun _ _ x => x))))) fun _ _ x => x)
  cases op <;> cases t <;> first | exact wpAny_pure h₂ | exact h₂

theorem ok_bool (op : BoolOp) (pos : Pos) : ∀ (vs : List Expr) (ps : List PE) (pe : PE), All2 (fun e p => EvOk C T K env e p ∧ TtOk C T K env e p) vs ps → trBool op ps = some pe →
    (∀ {σ : Sg} {ρ : List Addr} {H : AHeap} {s : Shared} {A : Around} {Q : VPost} {X : XPost} {E : Value → Shared → Prop}, FR C env σ ρ s.heap → Sim C ρ H s → AOk K A → (sem T pe).ev σ H Q X → Takes C ρ s X E →
      wpAny C.M A (boolOp pos op (evalEach vs env)) (PV C ρ s Q) E s) ∧
    (∀ {σ : Sg} {ρ : List Addr} {H : AHeap} {s : Shared} {A : Around} {q : Bool → AHeap → Prop} {X : XPost} {E : Value → Shared → Prop}, FR C env σ ρ s.heap → Sim C ρ H s → AOk K A → (sem T pe).tt σ H q X → Takes C ρ s X E →
      wpAny C.M A (allTrue op vs env) (PB C ρ s q) E s)
  | [], _, _, .nil, h => by cases h
  | [e], _, _, .cons (b := p) he .nil, h => by
    cases h
    refine ⟨fun F S hA h hE => he.1 F S hA h hE, fun {σ ρ H s A q X E} F S hA h hE => ?_⟩
    cases op with
    | And =>
      refine wpAny_allTrue_And_cons (wpAny_mono (he.2 F S hA h hE) (fun b s' p => ?_) fun _ _ x => x)
      cases b with
      | true => exact wpAny_allTrue_And_nil p
      | false => exact p
    | Or =>
      refine wpAny_allTrue_Or_cons (wpAny_mono (he.2 F S hA h hE) (fun b s' p => ?_) fun _ _ x => x)
      cases b with
      | true => exact p
      | false => exact wpAny_allTrue_Or_nil p
  | e :: e2 :: vs, _, pe, .cons (b := p) he (.cons (b := p2) (bs := ps) he2 hr), h => by
    have ht : ∃ x, trBool op (p2 :: ps) = some x ∧ pe = (if op = .And then PE.and p x else PE.or p x) := by
      unfold trBool at h
      cases hx : trBool op (p2 :: ps) with
      | none => rw [hx] at h; cases h
      | some x => rw [hx] at h; cases h; refine ⟨x, rfl, ?_⟩; cases op <;> rfl
    obtain ⟨x, hx, he0⟩ := ht
    obtain ⟨ih1, ih2⟩ := ok_bool op pos (e2 :: vs) (p2 :: ps) x (.cons he2 hr) hx
    clear h
    subst he0
    cases op with
    | And =>
      refine ⟨fun {σ ρ H s A Q X E} F S hA h hE => ?_, fun {σ ρ H s A q X E} F S hA h hE => ?_⟩
      · refine boolOp_cons (EvOk.bind he.1 F S hA h hE fun ρ1 H1 v1 u1 s1 st1 F1 S1 hv1 hq1 hE1 => ?_)
        split at hq1
        · rename_i b e1
          refine truthy_ok e1 hv1 fun t => ?_
          cases b with
          | true => exact wpAny_mono (ih1 (F1.step (StepG.toks t)) (S1.toks t) hA hq1 (hE1.on (StepG.toks t))) (fun _ _ p => PV.trans (st1.trans (StepG.toks t)) p) fun _ _ x => x
          | false => exact ⟨ρ1, H1, v1, st1.trans (StepG.toks t), S1.toks t, hv1, hq1⟩
        · exact hq1.elim
      · refine wpAny_allTrue_And_cons (TtOk.bind he.2 F S hA h hE fun ρ1 H1 b s1 st1 F1 S1 hq1 hE1 => ?_)
        cases b with
        | true => exact wpAny_mono (ih2 F1 S1 hA hq1 hE1) (fun _ _ p => PB.trans st1 p) fun _ _ x => x
        | false => exact ⟨ρ1, H1, st1, S1, hq1⟩
    | Or =>
      refine ⟨fun {σ ρ H s A Q X E} F S hA h hE => ?_, fun {σ ρ H s A q X E} F S hA h hE => ?_⟩
      · refine boolOp_cons (EvOk.bind he.1 F S hA h hE fun ρ1 H1 v1 u1 s1 st1 F1 S1 hv1 hq1 hE1 => ?_)
        split at hq1
        · rename_i b e1
          refine truthy_ok e1 hv1 fun t => ?_
          cases b with
          | false => exact wpAny_mono (ih1 (F1.step (StepG.toks t)) (S1.toks t) hA hq1 (hE1.on (StepG.toks t))) (fun _ _ p => PV.trans (st1.trans (StepG.toks t)) p) fun _ _ x => x
          | true => exact ⟨ρ1, H1, v1, st1.trans (StepG.toks t), S1.toks t, hv1, hq1⟩
        · exact hq1.elim
      · refine wpAny_allTrue_Or_cons (TtOk.bind he.2 F S hA h hE fun ρ1 H1 b s1 st1 F1 S1 hq1 hE1 => ?_)
        cases b with
        | false => exact wpAny_mono (ih2 F1 S1 hA hq1 hE1) (fun _ _ p => PB.trans st1 p) fun _ _ x => x
        | true => exact ⟨ρ1, H1, st1, S1, hq1⟩

/-! arguments and calls -/
theorem ok_nil {pos : Pos} : ElOk C T K env pos [] .nil := by
  intro σ ρ H s A q X E F S hA h hE
  exact wpAny_items_nil ⟨ρ, H, [], StepG.refl _ _, S, .nil, h⟩
theorem star_cons {e : Expr} (h : isStar e = false) (r : List Expr) : starEach (e :: r) env = (false, eval e env) :: starEach r env := by
  cases e <;> first | rfl | cases h
theorem ok_cons {pos : Pos} {e : Expr} {r : List Expr} {pe pr : PE} (he : EvOk C T K env e pe) (hr : ElOk C T K env pos r pr) (hs : isStar e = false) : ElOk C T K env pos (e :: r) (.cons pe pr) := by
  intro σ ρ H s A q X E F S hA h hE
  refine wpAny_items_cons (he.bind F S hA h hE fun ρ1 H1 v1 u1 s1 st1 F1 S1 hv1 hq1 hE1 => hr.bind F1 S1 hA hq1 hE1 fun ρ2 H2 vs us s2 st2 F2 S2 hv2 hq2 hE2 => ?_) (star_cons hs r)
  exact ⟨ρ2, H2, v1 :: vs, st1.trans st2, S2, .cons (st2.vr hv1) hv2, hq2⟩

theorem evalArgs_any {M : Model} {A : Around} {E : Value → Shared → Prop} {s : Shared} {f : Value} {pos : Pos} : ∀ {es : List Expr} {R : Args → Shared → Prop}, (∀ e ∈ es, isStar e = false) →
    wpAny M A (spliced (backTo pos (starEach es env))) (fun vs s' => R ⟨vs, []⟩ s') E s → wpAny M A (evalArgs f true (backTo pos (starEach es env)) []) R E s
  | [], R, _, h => by
    unfold evalArgs
    show wpAny M A (spliced [] >>= _) R E s
    refine wpAny_bind (wpAny_mono h (fun vs s' h' => ?_) fun _ _ x => x)
    exact wpAny_bind (wpAny_pure (wpAny_holding (wpAny_bind (wpAny_pure (wpAny_bind (wpAny_pure (wpAny_pure h')))))))
  | e :: r, R, hs, h => by
    rw [star_cons (hs e (.head _)) r] at h ⊢
    exact evalArgs_plain h

theorem callWith_any {M : Model} {A : Around} {E : Value → Shared → Prop} {s : Shared} {pos : Pos} {u : Value} {first : List Value} {args : List (Bool × Sem Value)} {R : Value → Shared → Prop} (hp : args.any (·.1) = false)
    (h : wpAny M A (evalArgs u true args []) (fun a s₁ => ((∃ id, u = .builtin id) ∨ (∃ t, u = .type t) ∨ ∃ x o fd, u = .ref x ∧ s₁.heap.get? x = some o ∧ o.data = .func fd) ∧ wpAny M A (call u (first ++ a.pos) a.kw) R E s₁) E s) :
    wpAny M A (callWith pos u first args []) R E s := by
  unfold callWith
  refine wpAny_bind (wpAny_holding (wpAny_mono h (fun a s₁ h₁ => wpAny_bind (wpAny_standAt ?_)) fun _ _ x => x))
  have tail : ∀ {t : Sem Value}, wpAny M A t R E s₁ → wpAny M A (t >>= fun r => holding [r] point >>= fun _ => pure r) R E s₁ :=
    fun ht => wpAny_bind (wpAny_mono ht (fun r s₂ hr => wpAny_bind (wpAny_holding (wpAny_point (wpAny_pure hr)))) fun _ _ x => x)
  simp only [hp, List.any_nil, Bool.or_false]
  obtain ⟨hc, h₁⟩ := h₁
  rcases hc with ⟨id, rfl⟩ | ⟨t, rfl⟩ | ⟨x, o, fd, rfl, ho, hd⟩
  · exact wpAny_bind (wpAny_pure (tail h₁))
  · exact wpAny_bind (wpAny_pure (tail h₁))
  · refine wpAny_bind (m := keeperOf (.ref x)) ?_
    unfold keeperOf
    refine wpAny_bind (wpAny_load ho ?_)
    rw [hd]
    refine wpAny_pure ?_
    dsimp only
    refine wpAny_ite ?_
    split
    · exact tail h₁
    · exact tail (by unfold callMarked; exact Calls.wpAny_keep h₁)


theorem starEach_one {f : Expr → Option PE} (hf : ∀ e pe, f e = some pe → isStar e = false) : ∀ {es : List Expr} {pe : PE}, trL f es = some pe → ∀ e ∈ es, isStar e = false
  | [], _, _, _, h => nomatch h
  | e :: r, pe, h, e', hm => by
    unfold trL at h
    split at h
    · rename_i a b ha hb
      cases hm with
      | head => exact hf e a ha
      | tail _ hm => exact starEach_one hf hb e' hm
    · cases h

theorem any_false {pos : Pos} : ∀ {es : List Expr}, (∀ e ∈ es, isStar e = false) → (backTo pos (starEach es env)).any (·.1) = false
  | [], _ => rfl
  | e :: r, h => by
    rw [star_cons (h e (.head _)) r]
    have ih := any_false (pos := pos) (es := r) fun e' he' => h e' (.tail _ he')
    unfold backTo at ih ⊢
    rw [List.map_cons, List.any_cons, ih]; rfl

/-- the call of what a name holds -/
theorem ok_call (hT : TabOk C T K) {f : Expr} {args : List Expr} {pos : Pos} {pf pa : PE} (hf : EvOk C T K env f pf) (ha : ElOk C T K env pos args pa) (hs : ∀ e ∈ args, isStar e = false)
    (hc : eval (.Call f args [] pos) env = (do callWith pos (← eval f env) [] (backTo pos (starEach args env)) [])) : EvOk C T K env (.Call f args [] pos) (.call pf pa) := by
  intro σ ρ H s A Q X E F S hA h hE
  rw [hc]
  refine wpAny_bind (hf.bind F S hA h hE fun ρ1 H1 v1 u1 s1 st1 F1 S1 hv1 hq1 hE1 => ?_)
  split at hq1
  · rename_i g
    have hv1 : C.G g = some u1 := hv1
    refine callWith_any (any_false hs) (evalArgs_any hs (ha.bind F1 S1 hA hq1 hE1 fun ρ2 H2 vs us s2 st2 F2 S2 hv2 hq2 hE2 => ?_))
    obtain ⟨u, hu, hcal, hok⟩ := hT.fn g ⟨_, _, _, _, hq2⟩
    rw [hv1] at hu; cases hu
    refine ⟨?_, ?_⟩
    · rcases hcal with q | q | ⟨a, o, fd, q1, q2, q3⟩
      · exact .inl q
      · exact .inr (.inl q)
      · exact .inr (.inr ⟨a, o, fd, q1, S2.stays _ _ q2, q3⟩)
    · exact wpAny_mono (hok _ _ _ _ hq2 _ _ _ _ _ S2 hv2 hA hE2) (fun _ _ p => PV.trans (st1.trans st2) p) fun _ _ x => x
  · exact hq1.elim

/-- sorted(x, key=len) -/
theorem ok_sortLen (hT : TabOk C T K) {e : Expr} {g x y : Str} {p1 p2 p3 pos : Pos} {pe : PE} (he : EvOk C T K env e pe) (hs : isStar e = false) (hg : isG env.kindOf g "sorted" = true) (hx : x = Str.ofString "key") (hy : isG env.kindOf y "len" = true) :
    EvOk C T K env (.Call (.Name g p1) [e] [⟨some x, .Name y p2, p3⟩] pos) (.sortLen pe) := by
  intro σ ρ H s A Q X E F S hA h hE
  unfold isG at hg hy
  obtain ⟨hg1, hg2⟩ := Bool.and_eq_true_iff.mp hg
  obtain ⟨hy1, hy2⟩ := Bool.and_eq_true_iff.mp hy
  have hg1 := beq_iff_eq.mp hg1
  have hy1 := beq_iff_eq.mp hy1
  subst hg1 hy1 hx
  have hg2 := beq_iff_eq.mp hg2
  have hy2 := beq_iff_eq.mp hy2
  refine wpAny_Call_Name_kw ?_
  refine global_ok F S hg2 hT.sorted (by decide +kernel) ?_
  have e1 : starEach [e] env = (false, eval e env) :: starEach [] env := star_cons hs []
  unfold callWith
  refine wpAny_bind (wpAny_holding ?_)
  rw [e1]
  refine evalArgs_kw rfl ?_
  have e2 := wpAny_items_cons (M := C.M) (A := A) (E := E) (s := s) (pos := pos) (e := e) (rest := []) (Q := fun vs s₁ => wpAny C.M A (evalAll ((backToKw pos (keywordEach [⟨some (Str.ofString "key"), .Name (Str.ofString "len") p2, p3⟩] env)).map (·.2)))
    (fun ks s₂ => wpAny C.M A (call (.builtin "sorted") ([] ++ vs) (((backToKw pos (keywordEach [⟨some (Str.ofString "key"), .Name (Str.ofString "len") p2, p3⟩] env)).filterMap (·.1)).zip ks)) (PV C ρ s Q) E s₂) E s₁) ?_ e1
  · rw [e1] at e2
    refine wpAny_mono e2 (fun vs s₁ h₁ => wpAny_mono h₁ (fun ks s₂ h₂ => ?_) fun _ _ x => x) fun _ _ x => x
    refine wpAny_bind (wpAny_standAt ?_)
    refine wpAny_bind (wpAny_pure ?_)
    exact wpAny_bind (wpAny_mono h₂ (fun r s₃ hr => wpAny_bind (wpAny_holding (wpAny_point (wpAny_pure hr)))) fun _ _ x => x)
  · refine he.bind F S hA h hE fun ρ1 H1 v1 u1 s1 st1 F1 S1 hv1 hq1 hE1 => wpAny_items_nil ?_
    refine wpAny_evalAll_cons ?_
    refine wpAny_bind (global_ok F1 S1 hy2 hT.len (by decide +kernel) (wpAny_bind (wpAny_standAt (wpAny_pure (wpAny_evalAll_nil ?_)))))
    exact wpAny_mono (hT.srt _ _ _ _ hq1 _ _ _ _ _ S1 (.cons hv1 .nil) hA hE1) (fun _ _ p => PV.trans st1 p) fun _ _ x => x

theorem attrBase {o : Expr} {m : Str} {whole : Sem Value} (h : asCall o = none) : attributeBase o m env whole = whole := by
  cases o <;> first | rfl | cases h

theorem ok_meth (hT : TabOk C T K) {o : Expr} {m : Str} {args : List Expr} {apos pos : Pos} {po pa : PE} (ho : EvOk C T K env o po) (ha : ElOk C T K env pos args pa) (hs : ∀ e ∈ args, isStar e = false)
    (hl : apos.endLine = pos.line) (hn : args.length < 20) (hb : asCall o = none) : EvOk C T K env (.Call (.Attribute o m apos) args [] pos) (.meth po m pa) := by
  intro σ ρ H s A Q X E F S hA h hE
  rw [arm_eval_Call, attrBase hb]
  refine wpAny_bind (ho.bind F S hA h hE fun ρ1 H1 v1 u1 s1 st1 F1 S1 hv1 hq1 hE1 => wpAny_bind (wpAny_standAt ?_))
  split at hq1
  · rename_i kd e1
    obtain ⟨hm, hq1⟩ := hq1
    obtain ⟨f, hcal, hok, hget⟩ := hT.mt kd m hm
    unfold methodCall
    have hform : methodCallForm (args.length + ([] : List Keyword).length) (backTo pos (starEach args env)) (backToKw pos (keywordEach [] env)) = true := by
      have := any_false (env := env) (pos := pos) hs
      have h2 : (backTo pos (starEach args env)).all (fun x => !x.1) = true := by
        rw [List.all_eq_true]
        intro x hx
        have := List.any_eq_false.mp this x hx
        simpa using this
      unfold methodCallForm
      rw [h2]
      show (true && true && decide (args.length + 0 + 0 < 30)) = true
      simp; omega
    rw [hform]
    refine wpAny_bind (wpAny_holding ?_)
    unfold calleeOf
    rw [if_pos rfl]
    refine hget v1 H1 ρ1 s1 u1 _ A _ E e1 S1 hv1 fun t => ?_
    have hpos : methodCallPos true o env apos pos = pure pos := by
      unfold methodCallPos
      rw [hl]
      simp
    rw [hpos]
    refine wpAny_bind (wpAny_pure ?_)
    have st1' := st1.trans (StepG.toks (ρ := ρ1) (s := s1) t)
    refine callWith_any (any_false hs) (evalArgs_any hs (ha.bind (F1.step (StepG.toks t)) (S1.toks t) hA hq1 (hE1.on (StepG.toks t)) fun ρ2 H2 vs us s2 st2 F2 S2 hv2 hq2 hE2 => ?_))
    refine ⟨?_, ?_⟩
    · rcases hcal with q | q | ⟨a, o, fd, q1, q2, q3⟩
      · exact .inl q
      · exact .inr (.inl q)
      · exact .inr (.inr ⟨a, o, fd, q1, S2.stays _ _ q2, q3⟩)
    · exact wpAny_mono (hok _ _ _ _ hq2 _ _ _ _ _ S2 (.cons (st2.vr hv1) hv2) hA hE2) (fun _ _ p => PV.trans (st1'.trans st2) p) fun _ _ x => x
  · exact hq1.elim

theorem ok_sub {o i : Expr} {pos : Pos} {po pi : PE} (ho : EvOk C T K env o po) (hi : EvOk C T K env i pi) (hs : ∀ u w, subscripted i false u w = operate [u, w] (getItem u w)) : EvOk C T K env (.Subscript o i pos) (.sub po pi) := by
  intro σ ρ H s A Q X E F S hA h hE
  refine Subscript_ (ho.bind F S hA h hE fun ρ1 H1 v1 u1 s1 st1 F1 S1 hv1 hq1 hE1 => hi.bind F1 S1 hA hq1 hE1 fun ρ2 H2 v2 u2 s2 st2 F2 S2 hv2 hq2 hE2 => ?_)
  exact wpAny_mono (subA_ok hq2 S2 (st2.vr hv1) hv2 (hs _ _)) (fun _ _ p => PV.trans (st1.trans st2) p) fun _ _ x => x

noncomputable def PtOk (C : Cx) (T : Tab) (K : Nat) (env : Env) (e : Option Expr) (pe : PE) : Prop := ∀ {σ : Sg} {ρ : List Addr} {H : AHeap} {s : Shared} {A : Around} {Q : VPost} {X : XPost} {E : Value → Shared → Prop},
  FR C env σ ρ s.heap → Sim C ρ H s → AOk K A → (sem T pe).ev σ H Q X → Takes C ρ s X E → wpAny C.M A (evalPart e env) (PV C ρ s Q) E s
theorem pt_none : PtOk C T K env none .none := fun F S hA h hE => wpAny_pure (here0 (v := .none) S rfl h)
theorem pt_some {e : Expr} {pe : PE} (he : EvOk C T K env e pe) : PtOk C T K env (some e) pe := fun F S hA h hE => he F S hA h hE

theorem ok_slice {o : Expr} {lo hi : Option Expr} {p pos : Pos} {po pl ph : PE} (ho : EvOk C T K env o po) (hl : PtOk C T K env lo pl) (hh : PtOk C T K env hi ph) :
    EvOk C T K env (.Subscript o (.Slice lo hi none p) pos) (.slice po pl ph) := by
  intro σ ρ H s A Q X E F S hA h hE
  refine Subscript_ (ho.bind F S hA h hE fun ρ1 H1 v1 u1 s1 st1 F1 S1 hv1 hq1 hE1 => wpAny_Slice ?_)
  refine wpAny_mono (hl F1 S1 hA hq1 hE1) (fun u2 s2 ⟨ρ2, H2, v2, st2, S2, hv2, hq2⟩ => ?_) fun _ _ x => x
  refine wpAny_mono (hh (F1.step st2) S2 hA hq2 (hE1.on st2)) (fun u3 s3 ⟨ρ3, H3, v3, st3, S3, hv3, hq3⟩ => ?_) fun _ _ x => x
  rw [evalPart_none]
  refine wpAny_pure ?_
  exact wpAny_mono (sliceA_ok hq3 S3 (st3.vr (st2.vr hv1)) (st3.vr hv2) hv3) (fun _ _ p => PV.trans ((st1.trans st2).trans st3) p) fun _ _ x => x

theorem ok_list {es : List Expr} {pos : Pos} {pe : PE} (he : ElOk C T K env pos es pe) : EvOk C T K env (.List es pos) (.list pe) := by
  intro σ ρ H s A Q X E F S hA h hE
  refine wpAny_List (he.bind F S hA h hE fun ρ1 H1 vs us s1 st1 F1 S1 hv1 hq1 hE1 => ?_)
  exact ⟨by rw [← hv1.length]; exact lid_le hq1.1, PV.trans st1 (pushed_list (tk := s1.toks) S1 hv1 hq1.1 hq1.2)⟩
theorem ok_tuple {es : List Expr} {k : Nat} {pos : Pos} {pe : PE} (he : ElOk C T K env pos es pe) : EvOk C T K env (.Tuple es k pos) (.tuple pe) := by
  intro σ ρ H s A Q X E F S hA h hE
  refine wpAny_Tuple (he.bind F S hA h hE fun ρ1 H1 vs us s1 st1 F1 S1 hv1 hq1 hE1 => ?_)
  exact ⟨by rw [← hv1.length]; exact lid_le hq1.1, PV.trans st1 (pushed_tuple (tk := s1.toks) S1 hv1 hq1.1 hq1.2)⟩

end
end Mine
end
section
namespace Mine
open PySem PySem.Calls PyProof.Rows

/-! What a loop goes over. -/

/-- one item, as the iterator hands it over -/
noncomputable def IR (C : Cx) (ρ : List Addr) (h0 h : Heap) : Item → Value → Prop
  | .one v, u => VR C ρ v u
  | .many vs, u => ∃ t us n, u = .ref t ∧ h.get? t = some ⟨.type "tuple", none, .seq us n, #[]⟩ ∧ h0.get? t = none ∧ All2 (VR C ρ) vs us.toList

/-- may this target take that item? -/
noncomputable def tgtFits : Expr → Item → Prop
  | .Name _ _, .one _ => True
  | .Tuple _ _ _, _ => True
  | _, _ => False

structure Itr (C : Cx) (A : Around) (ρ0 : List Addr) (items : List Item) (Kp : AHeap → Prop) (I : Addr) (wr : List Addr) (St : Nat → Heap → Prop) : Prop where
  frame : ∀ i h h', St i h → (∀ b ∈ wr, ∀ o, h.get? b = some o → h'.get? b = some o) → St i h'
  alive : ∀ i h, St i h → ∀ b ∈ wr, ∃ o, h.get? b = some o
  next : ∀ i x target ρ H s E, items[i]? = some x → tgtFits target x → St i s.heap → Sim C ρ H s → (∃ l, ρ = ρ0 ++ l) → Kp H → (∀ b ∈ wr, b ∉ ρ) →
    wpAny C.M A (pyNext (.ref I)) (fun r s1 => ∃ u, r = some u ∧ wpAny C.M A (letOwnedTupleGo target (.ref I) u) (fun _ s2 => ∃ h tk, s2 = { s with heap := h, toks := tk } ∧ IR C ρ s.heap h x u ∧ St (i + 1) h ∧
      (∀ b o, b ∉ wr → s.heap.get? b = some o → h.get? b = some o)) E s1) E s
  done : ∀ ρ H s E, St items.length s.heap → Sim C ρ H s → (∃ l, ρ = ρ0 ++ l) → Kp H → (∀ b ∈ wr, b ∉ ρ) →
    wpAny C.M A (pyNext (.ref I)) (fun r s1 => r = none ∧ ∃ h tk, s1 = { s with heap := h, toks := tk } ∧ (∀ b o, b ∉ wr → s.heap.get? b = some o → h.get? b = some o)) E s
  self : ∀ i s (Q : Value → Shared → Prop) E, St i s.heap → Q (.ref I) s → wpAny C.M A (pyIter (.ref I)) Q E s

/-- the iterator stands ready -/
noncomputable def Ready' (C : Cx) (A : Around) (ρ : List Addr) (s : Shared) (q : List Item → (AHeap → Prop) → AHeap → Prop) : Value → Shared → Prop := fun it s2 =>
  ∃ ρ' H' items Kp I wr St, it = .ref I ∧ Itr C A ρ' items Kp I wr St ∧ St 0 s2.heap ∧ Step ρ s ρ' s2 ∧ Sim C ρ' H' s2 ∧ (∀ b ∈ wr, s.heap.get? b = none ∧ b ∉ ρ') ∧ q items Kp H'

noncomputable def ItOk (C : Cx) (T : Tab) (K : Nat) (env : Env) (e : Expr) (pe : PE) : Prop := ∀ {σ : Sg} {ρ : List Addr} {H : AHeap} {s : Shared} {A : Around} {q : List Item → (AHeap → Prop) → AHeap → Prop} {X : XPost} {E : Value → Shared → Prop},
  FR C env σ ρ s.heap → Sim C ρ H s → AOk K A → (sem T pe).it σ H q X → Takes C ρ s X E → wpAny C.M A (eval e env) (fun xv s1 => wpAny C.M A (pyIter xv) (Ready' C A ρ s q) E s1) E s

theorem letGo_name {x : Str} {p : Pos} {it u : Value} : letOwnedTupleGo (.Name x p) it u = pure () := rfl

theorem letGo_other {M : Model} {A : Around} {E : Value → Shared → Prop} {s : Shared} {target : Expr} {I : Addr} {u : Value} {Q : Unit → Shared → Prop} {o : Obj} {n : String} {vs : Array Value} (ho : s.heap.get? I = some o) (hc : o.cls = .type n) (hd : o.data = .fields vs)
    (hn : (["enumerate", "zip", "dict_itemiterator", "dict_reverseitemiterator", "odict_iterator", "itertools.zip_longest", "itertools.pairwise"].contains n) = false) (hQ : Q () s) : wpAny M A (letOwnedTupleGo target (.ref I) u) Q E s := by
  unfold letOwnedTupleGo
  split
  · split
    · rename_i heq; cases heq
      refine wpAny_bind (wpAny_load ho ?_)
      rw [hc, hd]
      dsimp only
      rw [hn]
      exact wpAny_pure hQ
    · exact wpAny_pure hQ
  · split
    · rename_i heq; cases heq
      refine wpAny_bind (wpAny_load ho ?_)
      rw [hc, hd]
      dsimp only
      rw [hn]
      exact wpAny_pure hQ
    · exact wpAny_pure hQ
  · exact wpAny_pure hQ

section
variable {C : Cx} {A : Around}

theorem live_ext {h h' : Heap} {a : Addr} {o₁ : Obj} (he : Heap.ExtBut a h h') (ha : h'.get? a = some o₁) : ∀ b o, h.get? b = some o → ∃ o', h'.get? b = some o' := fun b o e => by
  by_cases z : b = a
  · exact ⟨o₁, z ▸ ha⟩
  · exact ⟨o, he b o z e⟩

theorem ext_at {ρ0 ρ : List Addr} {n : Nat} {a : Addr} (h : ρ0[n]? = some a) (e : ∃ l, ρ = ρ0 ++ l) : ρ[n]? = some a := by
  obtain ⟨l, rfl⟩ := e
  rw [List.getElem?_append_left]
  · exact h
  · exact (List.getElem?_eq_some_iff.mp h).1

theorem get_map_one {xs : List V} {i : Nat} {x : Item} (h : (xs.map Item.one)[i]? = some x) : ∃ v, x = .one v ∧ xs[i]? = some v := by
  rw [List.getElem?_map] at h
  cases e : xs[i]? with
  | none => rw [e] at h; cases h
  | some v => rw [e] at h; cases h; exact ⟨v, rfl, rfl⟩

theorem itr_list (hA : A.handled = none) {I a : Addr} {n : Nat} {xs : List V} {ρ0 : List Addr} (hn : ρ0[n]? = some a) :
    Itr C A ρ0 (xs.map .one) (fun H => H[n]? = some (.list xs)) I [I] (fun i h => h.IsListIter I a i) where
  frame := fun i h h' x k => x.at fun o e => k I (.head _) o e
  alive := fun i h x b hb => by simp at hb; subst hb; obtain ⟨o, ho, _⟩ := x; exact ⟨o, ho⟩
  next := fun i x target ρ H s E hx ht hst S hρ hK hw => by
    obtain ⟨v, rfl, hv⟩ := get_map_one hx
    have hna := ext_at hn hρ
    obtain ⟨us, m, ho, hs, _⟩ := S.obj n a _ hna hK
    obtain ⟨u, hu, hr⟩ := hs.get i v hv
    have hne : a ≠ I := fun z => hw I (.head _) (z ▸ List.mem_of_getElem? hna)
    refine wpAny_pyNext_list_item hst ⟨_, ho, rfl, m, rfl⟩ (by rw [← Array.getElem?_toList]; exact hu) fun h' hit hsb => ⟨u, rfl, ?_⟩
    obtain ⟨o, ho', hc, hd⟩ := id hit
    refine letGo_other ho' hc hd (by decide) ⟨h', s.toks, rfl, hr, hit, fun b o hb e => (hsb.2 b fun z => hb (by simp [z])).trans e⟩
  done := fun ρ H s E hst S hρ hK hw => by
    have hna := ext_at hn hρ
    obtain ⟨us, m, ho, hs, _⟩ := S.obj n a _ hna hK
    rw [List.length_map] at hst
    refine wpAny_pyNext_list_end hA hst ⟨_, ho, rfl, m, rfl⟩ (by rw [← Array.getElem?_toList, hs.length, List.getElem?_eq_none (Nat.le_refl _)]) fun h' he => ⟨rfl, h', s.toks, rfl, fun b o hb e => he b o (fun z => hb (by simp [z])) e⟩
  self := fun i s Q E hst hq => wpAny_pyIter_listiter hst hq

theorem itr_tuple (hA : A.handled = none) {I a : Addr} {n : Nat} {xs : List V} {ρ0 : List Addr} (hn : ρ0[n]? = some a) :
    Itr C A ρ0 (xs.map .one) (fun H => H[n]? = some (.tuple xs)) I [I] (fun i h => h.IsTupleIter I a i) where
  frame := fun i h h' x k => x.at fun o e => k I (.head _) o e
  alive := fun i h x b hb => by simp at hb; subst hb; obtain ⟨o, ho, _⟩ := x; exact ⟨o, ho⟩
  next := fun i x target ρ H s E hx ht hst S hρ hK hw => by
    obtain ⟨v, rfl, hv⟩ := get_map_one hx
    have hna := ext_at hn hρ
    obtain ⟨us, m, ho, hs, _⟩ := S.obj n a _ hna hK
    obtain ⟨u, hu, hr⟩ := hs.get i v hv
    refine wpAny_pyNext_tuple_item hst ⟨_, ho, rfl, m, rfl⟩ (by rw [← Array.getElem?_toList]; exact hu) fun h' hit hsb => ⟨u, rfl, ?_⟩
    obtain ⟨o, ho', hc, hd⟩ := id hit
    refine letGo_other ho' hc hd (by decide) ⟨h', s.toks, rfl, hr, hit, fun b o hb e => (hsb.2 b fun z => hb (by simp [z])).trans e⟩
  done := fun ρ H s E hst S hρ hK hw => by
    have hna := ext_at hn hρ
    obtain ⟨us, m, ho, hs, _⟩ := S.obj n a _ hna hK
    rw [List.length_map] at hst
    refine wpAny_pyNext_tuple_end hA hst ⟨_, ho, rfl, m, rfl⟩ (by rw [← Array.getElem?_toList, hs.length, List.getElem?_eq_none (Nat.le_refl _)]) fun h' he => ⟨rfl, h', s.toks, rfl, fun b o hb e => he b o (fun z => hb (by simp [z])) e⟩
  self := fun i s Q E hst hq => wpAny_pyIter_tupleiter hst hq

theorem itr_range (hA : A.handled = none) {I : Addr} {a c : Int} {n : Nat} {ρ0 : List Addr} :
    Itr C A ρ0 ((List.range n).map fun k => Item.one (.int (a + (k : Nat) * c))) (fun _ => True) I [I] (fun i h => IsRangeIter h I (a + (i : Nat) * c) ((n : Int) - (i : Nat)) c) where
  frame := fun i h h' x k => k I (.head _) _ x
  alive := fun i h x b hb => by simp at hb; subst hb; exact ⟨_, x⟩
  next := fun i x target ρ H s E hx ht hst S hρ hK hw => by
    rw [List.getElem?_map] at hx
    have hi : i < n := by
      rcases Nat.lt_or_ge i n with h | h
      · exact h
      · rw [List.getElem?_eq_none (by simpa using h)] at hx; cases hx
    rw [List.getElem?_eq_getElem (by simpa using hi)] at hx
    simp at hx
    subst hx
    refine wpAny_pyNext_range_item hst (by omega) fun h' hit hsb => ⟨_, rfl, ?_⟩
    refine letGo_other hit rfl rfl (by decide) ⟨h', s.toks + 1, rfl, vi (C := C) (ρ := ρ) _ _, ?_, fun b o hb e => (hsb.2 b fun z => hb (by simp [z])).trans e⟩
    have e1 : a + (i : Int) * c + c = a + ((i + 1 : Nat) : Int) * c := by rw [Int.natCast_add, Int.add_mul]; simp; omega
    have e2 : (n : Int) - i - 1 = n - ((i + 1 : Nat) : Int) := by omega
    rw [e1, e2] at hit; exact hit
  done := fun ρ H s E hst S hρ hK hw => by
    simp only [List.length_map, List.length_range] at hst
    exact wpAny_pyNext_range_end hA hst (by omega) fun h' he => ⟨rfl, h', s.toks, rfl, fun b o hb e => he b o (fun z => hb (by simp [z])) e⟩
  self := fun i s Q E hst hq => wpAny_pyIter_rangeiter hst hq


theorem one_sign {t : Txt} {i c : Nat} (ok : okT t = true) (h : t.toArray[i]? = some c) : okT [c] = true := by
  rw [okT_iff] at *
  refine ⟨by simp [lid], fun d hd => ?_⟩
  simp only [List.mem_singleton] at hd
  subst hd
  exact ok.2 d (by simpa using Array.mem_of_getElem? h)

theorem get_map_sign {t : Txt} {i : Nat} {x : Item} (h : (t.map fun c => Item.one (.str [c]))[i]? = some x) : ∃ c, x = .one (.str [c]) ∧ t[i]? = some c := by
  rw [List.getElem?_map] at h
  cases e : t[i]? with
  | none => rw [e] at h; cases h
  | some v => rw [e] at h; cases h; exact ⟨v, rfl, rfl⟩

theorem itr_ascii (hA : A.handled = none) {I : Addr} {t : Txt} {tk : Tok} {ρ0 : List Addr} (ok : okT t = true) :
    Itr C A ρ0 (t.map fun c => Item.one (.str [c])) (fun _ => True) I [I] (fun i h => h.IsStrIter I "str_ascii_iterator" ⟨t.toArray⟩ tk i) where
  frame := fun i h h' x k => let ⟨o, ho, r⟩ := x; ⟨o, k I (.head _) o ho, r⟩
  alive := fun i h x b hb => by simp at hb; subst hb; obtain ⟨o, ho, _⟩ := x; exact ⟨o, ho⟩
  next := fun i x target ρ H s E hx ht hst S hρ hK hw => by
    obtain ⟨c, rfl, hc⟩ := get_map_sign hx
    have hc' : t.toArray[i]? = some c := by simpa using hc
    refine wpAny_pyNext_ascii_item hst hc' fun h' hit hsb => ⟨_, rfl, ?_⟩
    obtain ⟨o, ho', hc1, hd⟩ := id hit
    exact letGo_other ho' hc1 hd (by decide) ⟨h', s.toks + 1, rfl, vt (C := C) (ρ := ρ) (one_sign ok hc') _, hit, fun b o hb e => (hsb.2 b fun z => hb (by simp [z])).trans e⟩
  done := fun ρ H s E hst S hρ hK hw => by
    rw [List.length_map] at hst
    exact wpAny_pyNext_ascii_end hA hst (by simp) fun h' he => ⟨rfl, h', s.toks, rfl, fun b o hb e => he b o (fun z => hb (by simp [z])) e⟩
  self := fun i s Q E hst hq => wpAny_pyIter_striter_ascii hst hq
theorem itr_wide (hA : A.handled = none) {I : Addr} {t : Txt} {tk : Tok} {ρ0 : List Addr} (ok : okT t = true) :
    Itr C A ρ0 (t.map fun c => Item.one (.str [c])) (fun _ => True) I [I] (fun i h => h.IsStrIter I "str_iterator" ⟨t.toArray⟩ tk i) where
  frame := fun i h h' x k => let ⟨o, ho, r⟩ := x; ⟨o, k I (.head _) o ho, r⟩
  alive := fun i h x b hb => by simp at hb; subst hb; obtain ⟨o, ho, _⟩ := x; exact ⟨o, ho⟩
  next := fun i x target ρ H s E hx ht hst S hρ hK hw => by
    obtain ⟨c, rfl, hc⟩ := get_map_sign hx
    have hc' : t.toArray[i]? = some c := by simpa using hc
    refine wpAny_pyNext_wide_item hst hc' fun h' hit hsb => ⟨_, rfl, ?_⟩
    obtain ⟨o, ho', hc1, hd⟩ := id hit
    exact letGo_other ho' hc1 hd (by decide) ⟨h', s.toks + 1, rfl, vt (C := C) (ρ := ρ) (one_sign ok hc') _, hit, fun b o hb e => (hsb.2 b fun z => hb (by simp [z])).trans e⟩
  done := fun ρ H s E hst S hρ hK hw => by
    rw [List.length_map] at hst
    exact wpAny_pyNext_wide_end hA hst (by simp) fun h' he => ⟨rfl, h', s.toks, rfl, fun b o hb e => he b o (fun z => hb (by simp [z])) e⟩
  self := fun i s Q E hst hq => wpAny_pyIter_striter_wide hst hq

/-! a dict's keys -/
theorem er_pairs {ρ : List Addr} : ∀ {es : List (Txt × V)} {ds : List DictEntry}, All2 (ER C ρ) es ds → ∃ kvs : List (Str × Value), Pairs (PySem.strKind C.prog C.w) ds kvs ∧ kvs.map (·.1) = es.map (fun e => ⟨e.1.toArray⟩)
  | _, _, .nil => ⟨[], .nil, rfl⟩
  | _, _, .cons (a := e) (b := d) ⟨⟨_, t, e1⟩, _, _⟩ r => by
    obtain ⟨kvs, h1, h2⟩ := er_pairs r
    exact ⟨(⟨e.1.toArray⟩, d.val) :: kvs, .cons (by show (PySem.strKind C.prog C.w).is ⟨e.1.toArray⟩ d.key = true; rw [e1]; exact strKind_is _ _ _ t) rfl h1, by simp [h2]⟩

theorem dict_at {ρ : List Addr} {h : Heap} {a : Addr} {es : List (Txt × V)} {ep : Nat} (o : OR C ρ h a (.dict es ep)) :
    ∃ kvs : List (Str × Value), h.DictAt (PySem.strKind C.prog C.w) a kvs ep ∧ kvs.map (·.1) = es.map (fun e => ⟨e.1.toArray⟩) := by
  obtain ⟨ds, ho, hs, hn, _⟩ := o
  obtain ⟨kvs, h1, h2⟩ := er_pairs hs
  refine ⟨kvs, ⟨_, ds, ho, ⟨rfl, rfl, rfl⟩, rfl, fun e he => ?_, h1, ?_⟩, h2⟩
  · obtain ⟨p, hp, ⟨_, t, e1⟩, e2, e3⟩ := hs.right e (Array.mem_toList_iff.mpr he)
    exact ⟨⟨p.1.toArray⟩, by rw [e1]; exact strKind_is _ _ _ t, e2⟩
  · rw [h2]
    have : (es.map fun e => (⟨e.1.toArray⟩ : Str)) = (es.map (·.1)).map fun t => (⟨t.toArray⟩ : Str) := by rw [List.map_map]; rfl
    rw [this]
    refine List.Pairwise.map _ (fun x y hxy q => hxy ?_) hn
    simpa using q

theorem get_map_key {es : List (Txt × V)} {i : Nat} {x : Item} (h : (es.map fun e => Item.one (.str e.1))[i]? = some x) : ∃ e, x = .one (.str e.1) ∧ es[i]? = some e := by
  rw [List.getElem?_map] at h
  cases e : es[i]? with
  | none => rw [e] at h; cases h
  | some v => rw [e] at h; cases h; exact ⟨v, rfl, rfl⟩

theorem itr_dict (hA : A.handled = none) {I a : Addr} {n : Nat} {es : List (Txt × V)} {ep : Nat} {ρ0 : List Addr} (hn : ρ0[n]? = some a) :
    Itr C A ρ0 (es.map fun e => Item.one (.str e.1)) (fun H => H[n]? = some (.dict es ep)) I [I] (fun i h => h.IsKeyIter I a i es.length ep) where
  frame := fun i h h' x k => let ⟨o, ho, r⟩ := x; ⟨o, k I (.head _) o ho, r⟩
  alive := fun i h x b hb => by simp at hb; subst hb; obtain ⟨o, ho, _⟩ := x; exact ⟨o, ho⟩
  next := fun i x target ρ H s E hx ht hst S hρ hK hw => by
    obtain ⟨e, rfl, he⟩ := get_map_key hx
    have hna := ext_at hn hρ
    have ho := S.obj n a _ hna hK
    obtain ⟨kvs, hd, hk⟩ := dict_at ho
    have hl : kvs.length = es.length := by have := congrArg List.length hk; simpa using this
    have hi : (kvs.map (·.1))[i]? = some ⟨e.1.toArray⟩ := by rw [hk, List.getElem?_map, he]; rfl
    rw [List.getElem?_map] at hi
    cases e2 : kvs[i]? with
    | none => rw [e2] at hi; cases hi
    | some kv =>
      rw [e2] at hi
      simp only [Option.map_some, Option.some.injEq] at hi
      rw [← hl] at hst
      refine wpAny_pyNext_dict_item hst hd (k := kv.1) (v := kv.2) e2 fun key h' hkey hit hsb => ⟨key, rfl, ?_⟩
      obtain ⟨o, ho', hc1, hd1⟩ := id hit
      rw [hi] at hkey
      obtain ⟨tk, rfl⟩ := Value.isStrOf_shape hkey
      have okk : okT e.1 = true := by
        obtain ⟨ds, _, hs, _⟩ := ho
        obtain ⟨d, _, ⟨okk, _⟩, _⟩ := hs.left e (List.mem_of_getElem? he)
        exact okk
      rw [hl] at hit
      exact letGo_other ho' hc1 hd1 (by decide) ⟨h', s.toks, rfl, vt (C := C) (ρ := ρ) okk tk, hit, fun b o hb e => (hsb.2 b fun z => hb (by simp [z])).trans e⟩
  done := fun ρ H s E hst S hρ hK hw => by
    have hna := ext_at hn hρ
    obtain ⟨kvs, hd, hk⟩ := dict_at (S.obj n a _ hna hK)
    have hl : kvs.length = es.length := by have := congrArg List.length hk; simpa using this
    rw [List.length_map, ← hl] at hst
    exact wpAny_pyNext_dict_end hA hst hd (by simp) fun h' he => ⟨rfl, h', s.toks, rfl, fun b o hb e => he b o (fun z => hb (by simp [z])) e⟩
  self := fun i s Q E hst hq => wpAny_pyIter_keyiter hst hq

/-! enumerate of a list -/
theorem get_map_enum {xs : List V} {i : Nat} {x : Item} (h : (xs.zipIdx.map fun p => Item.many [.int p.2, p.1])[i]? = some x) : ∃ v, x = .many [.int i, v] ∧ xs[i]? = some v := by
  rw [List.getElem?_map, List.getElem?_zipIdx] at h
  cases e : xs[i]? with
  | none => rw [e] at h; cases h
  | some v => rw [e] at h; simp at h; exact ⟨v, h.symm, rfl⟩

theorem itr_enum (hA : A.handled = none) {e it a : Addr} {n : Nat} {xs : List V} {ρ0 : List Addr} (hn : ρ0[n]? = some a) (hne : e ≠ it) :
    Itr C A ρ0 (xs.zipIdx.map fun p => Item.many [.int p.2, p.1]) (fun H => H[n]? = some (.list xs)) e [e, it] (fun i h => (∃ old, IsEnum h e it i old) ∧ h.IsListIter it a i) where
  frame := fun i h h' x k => ⟨let ⟨old, z⟩ := x.1; ⟨old, k e (.head _) _ z⟩, x.2.at fun o z => k it (.tail _ (.head _)) o z⟩
  alive := fun i h x b hb => by
    rcases List.mem_cons.mp hb with rfl | hb
    · obtain ⟨⟨old, z⟩, _⟩ := x; exact ⟨_, z⟩
    · simp at hb; subst hb; obtain ⟨_, o, ho, _⟩ := x; exact ⟨o, ho⟩
  next := fun i x target ρ H s E hx ht hst S hρ hK hw => by
    obtain ⟨v, rfl, hv⟩ := get_map_enum hx
    have hna := ext_at hn hρ
    obtain ⟨us, m, ho, hs, _⟩ := S.obj n a _ hna hK
    obtain ⟨u, hu, hr⟩ := hs.get i v hv
    obtain ⟨⟨old, he⟩, hit⟩ := hst
    cases target <;> first | exact ht.elim | skip
    refine wpAny_pyNext_enum_item he hit ⟨_, ho, rfl, m, rfl⟩ (by rw [← Array.getElem?_toList]; exact hu) hne fun h' hout hit' htup hsz hk => ⟨_, rfl, ?_⟩
    refine wpAny_letOwnedTupleGo_enum hout fun h'' he'' hsb => ⟨h'', s.toks + 1, rfl, ⟨s.heap.objs.size, _, _, rfl, (hsb.2 _ fun z => ?_).trans htup, get_size _, .cons (vi _ _) (.cons hr .nil)⟩, ⟨⟨u, he''⟩, hit'.at fun o z => (hsb.2 it (Ne.symm hne)).trans z⟩, fun b o hb z => (hsb.2 b fun q => hb (by simp [q])).trans (hk b o (fun q => hb (by simp [q])) (fun q => hb (by simp [q])) z)⟩
    have := Heap.lt_size he
    rw [← z] at this
    exact absurd this (Nat.lt_irrefl _)
  done := fun ρ H s E hst S hρ hK hw => by
    have hna := ext_at hn hρ
    obtain ⟨us, m, ho, hs, _⟩ := S.obj n a _ hna hK
    obtain ⟨⟨old, he⟩, hit⟩ := hst
    simp only [List.length_map, List.length_zipIdx] at he hit
    exact wpAny_pyNext_enum_end hA he hit ⟨_, ho, rfl, m, rfl⟩ (by rw [← Array.getElem?_toList, hs.length, List.getElem?_eq_none (Nat.le_refl _)]) fun h' hx => ⟨rfl, h', s.toks, rfl, fun b o hb z => hx b o (fun q => hb (by simp [q])) z⟩
  self := fun i s Q E hst hq => by
    obtain ⟨⟨old, he⟩, _⟩ := hst
    exact wpAny_pyIter_enum he hq


variable {T : Tab} {K : Nat} {env : Env}

theorem fresh_new {ρ : List Addr} {H : AHeap} {s : Shared} (S : Sim C ρ H s) : s.heap.objs.size ∉ ρ := fun hm => by
  obtain ⟨i, hi, e⟩ := List.getElem_of_mem hm
  have hi' : i < H.length := by rw [← S.len]; exact hi
  obtain ⟨ob, q⟩ := (S.obj i _ H[i] (by rw [List.getElem?_eq_getElem hi, e]) (List.getElem?_eq_getElem hi')).alive C
  rw [get_size] at q; cases q

theorem none_before {ρ ρ' : List Addr} {s s' : Shared} {ex : Addr → Prop} (st : StepG ex ρ s ρ' s') {a : Addr} (h : s'.heap.get? a = none) : s.heap.get? a = none := by
  cases e : s.heap.get? a with
  | none => rfl
  | some o => obtain ⟨o', q⟩ := st.live a o e; rw [h] at q; cases q

theorem it_val {e : Expr} {pe : PE} (he : EvOk C T K env e pe) : ItOk C T K env e (.itVal pe) := by
  intro σ ρ H s A q X E F S hA h hE
  refine he.bind F S hA h hE fun ρ1 H1 v1 u1 s1 st1 F1 S1 hv1 hq1 hE1 => ?_
  unfold itemsA at hq1
  split at hq1
  · obtain ⟨ok, tk, rfl⟩ := hv1
    rename_i t
    cases ha : (⟨t.toArray⟩ : Str).cps.all (· < 128) with
    | true =>
      refine wpAny_pyIter_ascii ha ?_
      obtain ⟨S2, st2⟩ := S1.grow (h' := s1.heap.push { cls := .type "str_ascii_iterator", data := .fields #[.str ⟨t.toArray⟩ tk, .int 0 0] }) (tk := s1.toks) get_push
      exact ⟨ρ1, H1, _, _, _, [s1.heap.objs.size], _, rfl, itr_ascii hA.h ok, ⟨_, Heap.get?_push_size _ rfl, rfl, rfl⟩, st1.trans st2, S2, fun b hb => by simp at hb; subst hb; exact ⟨none_before st1 (get_size _), fresh_new S1⟩, hq1⟩
    | false =>
      refine wpAny_pyIter_wide ha ?_
      obtain ⟨S2, st2⟩ := S1.grow (h' := s1.heap.push { cls := .type "str_iterator", data := .fields #[.str ⟨t.toArray⟩ tk, .int 0 0] }) (tk := s1.toks) get_push
      exact ⟨ρ1, H1, _, _, _, [s1.heap.objs.size], _, rfl, itr_wide hA.h ok, ⟨_, Heap.get?_push_size _ rfl, rfl, rfl⟩, st1.trans st2, S2, fun b hb => by simp at hb; subst hb; exact ⟨none_before st1 (get_size _), fresh_new S1⟩, hq1⟩
  · split at hq1
    · rename_i xs e1
      obtain ⟨a, rfl, ea, us, m, ho, hs, _⟩ := S1.lookup e1 hv1
      refine wpAny_pyIter_list ⟨_, ho, rfl, m, rfl⟩ ?_
      obtain ⟨S2, st2⟩ := S1.grow (h' := s1.heap.push { cls := .type "list_iterator", data := .fields #[.ref a, .int 0 0] }) (tk := s1.toks) get_push
      exact ⟨ρ1, H1, _, _, _, [s1.heap.objs.size], _, rfl, itr_list hA.h ea, ⟨_, Heap.get?_push_size _ rfl, rfl, rfl⟩, st1.trans st2, S2, fun b hb => by simp at hb; subst hb; exact ⟨none_before st1 (get_size _), fresh_new S1⟩, hq1⟩
    · rename_i xs e1
      obtain ⟨a, rfl, ea, us, m, ho, hs, _⟩ := S1.lookup e1 hv1
      refine wpAny_pyIter_tuple ⟨_, ho, rfl, m, rfl⟩ ?_
      obtain ⟨S2, st2⟩ := S1.grow (h' := s1.heap.push { cls := .type "tuple_iterator", data := .fields #[.ref a, .int 0 0] }) (tk := s1.toks) get_push
      exact ⟨ρ1, H1, _, _, _, [s1.heap.objs.size], _, rfl, itr_tuple hA.h ea, ⟨_, Heap.get?_push_size _ rfl, rfl, rfl⟩, st1.trans st2, S2, fun b hb => by simp at hb; subst hb; exact ⟨none_before st1 (get_size _), fresh_new S1⟩, hq1⟩
    · rename_i es ep e1
      obtain ⟨a, rfl, ea, hor⟩ := S1.lookup e1 hv1
      obtain ⟨kvs, hd, hk⟩ := dict_at hor
      have hl : kvs.length = es.length := by have := congrArg List.length hk; simpa using this
      refine wpAny_pyIter_dict (by have : a ≠ sysModules := (fun z => S1.sm (z ▸ List.mem_of_getElem? ea)); simpa using this) hd ?_
      obtain ⟨S2, st2⟩ := S1.grow (h' := s1.heap.push { cls := .type "dict_keyiterator", data := .fields #[.ref a, .int 0 0, .int kvs.length 0, .int ep 0] }) (tk := s1.toks) get_push
      refine ⟨ρ1, H1, _, _, _, [s1.heap.objs.size], _, rfl, itr_dict hA.h ea, ⟨_, Heap.get?_push_size _ rfl, rfl, ?_⟩, st1.trans st2, S2, fun b hb => by simp at hb; subst hb; exact ⟨none_before st1 (get_size _), fresh_new S1⟩, hq1⟩
      rw [hl]; rfl
    · exact hq1.elim
  · exact hq1.elim

/-- a call of a built-in type by its name, one argument -/
theorem type_call1 {g : Str} {t : String} {p pos : Pos} {e : Expr} {pe : PE} {R : Value → Shared → Prop} (hk : env.kindOf g = some .globalImplicit) (hg : C.G g = some (.type t)) (hd : (g == Str.ofString "__debug__") = false) (hs : isStar e = false)
    (he : EvOk C T K env e pe) {σ : Sg} {ρ : List Addr} {H : AHeap} {s : Shared} {Q : VPost} {X : XPost} {E : Value → Shared → Prop}
    (F : FR C env σ ρ s.heap) (S : Sim C ρ H s) (hA : AOk K A) (h : (sem T pe).ev σ H Q X) (hE : Takes C ρ s X E)
    (k : ∀ ρ' H' v u s', Step ρ s ρ' s' → FR C env σ ρ' s'.heap → Sim C ρ' H' s' → VR C ρ' v u → Q v H' → Takes C ρ' s' X E → wpAny C.M A (call (.type t) [u]) R E s') : wpAny C.M A (eval (.Call (.Name g p) [e] [] pos) env) R E s := by
  have hs' : ∀ x ∈ [e], isStar x = false := fun x hx => by simp at hx; subst hx; exact hs
  have e1 : starEach [e] env = (false, eval e env) :: starEach [] env := star_cons hs []
  show wpAny C.M A (do callWith pos (← eval (.Name g p) env) [] (backTo pos (starEach [e] env)) []) R E s
  refine wpAny_bind (global_ok F S hk hg hd ?_)
  refine callWith_any (any_false hs') (evalArgs_any hs' ?_)
  refine wpAny_items_cons (he.bind F S hA h hE fun ρ' H' v u s' st F' S' hv hq hE' => wpAny_items_nil ⟨.inr (.inl ⟨t, rfl⟩), ?_⟩) e1
  exact k ρ' H' v u s' st F' S' hv hq hE'

/-- a range that stands on the heap, gone over -/
theorem range_ready {ρ ρ1 : List Addr} {H1 : AHeap} {s s1 : Shared} {r : Addr} {a b : Int} {t u v : Tok} {q : List Item → (AHeap → Prop) → AHeap → Prop} {E : Value → Shared → Prop} (hA : A.handled = none) (st1 : Step ρ s ρ1 s1) (S1 : Sim C ρ1 H1 s1)
    (hr : IsRange s1.heap r a b 1 t u v) (ha : -(2 ^ 62) ≤ a) (ha' : a < 2 ^ 62) (hb : -(2 ^ 62) ≤ b) (hb' : b < 2 ^ 62) (hq : q ((intsFrom a (b - a).toNat).map fun i => .one (.int i)) (fun _ => True) H1) :
    wpAny C.M A (pyIter (.ref r)) (Ready' C A ρ s q) E s1 := by
  refine wpAny_pyIter_range hr (small_one ha ha' hb hb') ?_
  rw [rangeSize_one]
  have hz : ((if a < b then b - a else 0 : Int)) = (((b - a).toNat : Nat) : Int) := by split <;> omega
  rw [hz]
  obtain ⟨S3, st3⟩ := S1.grow (h' := s1.heap.push { cls := .type "range_iterator", data := .fields #[rawInt a, rawInt (((b - a).toNat : Nat) : Int), rawInt 1] }) (tk := s1.toks) get_push
  have hi := itr_range (C := C) (A := A) hA (I := s1.heap.objs.size) (a := a) (c := 1) (n := (b - a).toNat) (ρ0 := ρ1)
  have hitems : ((List.range (b - a).toNat).map fun k => Item.one (.int (a + (k : Nat) * 1))) = (intsFrom a (b - a).toNat).map fun i => Item.one (.int i) := by
    unfold intsFrom; rw [List.map_map]; simp
  rw [hitems] at hi
  refine ⟨ρ1, H1, _, _, _, [_], _, rfl, hi, ?_, st1.trans st3, S3, fun b hb => ?_, hq⟩
  · have := Heap.get?_push_size s1.heap (o := { cls := .type "range_iterator", data := .fields #[rawInt a, rawInt (((b - a).toNat : Nat) : Int), rawInt 1] }) rfl
    simpa using this
  · simp only [List.mem_singleton] at hb; subst hb
    exact ⟨none_before st1 (get_size _), fresh_new S1⟩

theorem it_range1 (hT : TabOk C T K) {g : Str} {p pos : Pos} {e : Expr} {pe : PE} (hg : isG env.kindOf g "range" = true) (hs : isStar e = false) (he : EvOk C T K env e pe) : ItOk C T K env (.Call (.Name g p) [e] [] pos) (.itRange1 pe) := by
  intro σ ρ H s A q X E F S hA h hE
  unfold isG at hg
  obtain ⟨hg1, hg2⟩ := Bool.and_eq_true_iff.mp hg
  have hg1 := beq_iff_eq.mp hg1
  subst hg1
  refine type_call1 (beq_iff_eq.mp hg2) hT.range (by decide +kernel) hs he F S hA h hE fun ρ1 H1 v1 u1 s1 st1 F1 S1 hv1 hq1 hE1 => ?_
  split at hq1
  · rename_i j
    obtain ⟨hj0, hj, hq1⟩ := hq1
    obtain ⟨tk, rfl⟩ := hv1
    unfold lid at hj
    obtain ⟨S2, st2⟩ := S1.grow (h' := s1.heap.push { cls := .type "range", data := .fields #[.int 0 s1.toks, .int j tk, .int 1 (s1.toks + 1)] }) (tk := s1.toks + 1 + 1) get_push
    refine call_range_1 (range_ready hA.h (st1.trans st2) S2 (IsRange.new _ _ _ _ _ _ _) (by omega) (by omega) (by omega) (by omega) ?_)
    rw [Int.sub_zero]; exact hq1
  · exact hq1.elim

theorem it_range2 (hT : TabOk C T K) {g : Str} {p pos : Pos} {e1 e2 : Expr} {p1 p2 : PE} (hg : isG env.kindOf g "range" = true) (hs1 : isStar e1 = false) (hs2 : isStar e2 = false)
    (he1 : EvOk C T K env e1 p1) (he2 : EvOk C T K env e2 p2) : ItOk C T K env (.Call (.Name g p) [e1, e2] [] pos) (.itRange2 p1 p2) := by
  intro σ ρ H s A q X E F S hA h hE
  unfold isG at hg
  obtain ⟨hg1, hg2⟩ := Bool.and_eq_true_iff.mp hg
  have hg1 := beq_iff_eq.mp hg1
  subst hg1
  have hs' : ∀ x ∈ [e1, e2], isStar x = false := fun x hx => by
    rcases List.mem_cons.mp hx with rfl | hx
    · exact hs1
    · simp at hx; subst hx; exact hs2
  have q1 : starEach [e1, e2] env = (false, eval e1 env) :: starEach [e2] env := star_cons hs1 [e2]
  have q2 : starEach [e2] env = (false, eval e2 env) :: starEach [] env := star_cons hs2 []
  show wpAny C.M A (do callWith pos (← eval (.Name (Str.ofString "range") p) env) [] (backTo pos (starEach [e1, e2] env)) []) _ E s
  refine wpAny_bind (global_ok F S (beq_iff_eq.mp hg2) hT.range (by decide +kernel) ?_)
  refine callWith_any (any_false hs') (evalArgs_any hs' ?_)
  refine wpAny_items_cons (he1.bind F S hA h hE fun ρ1 H1 v1 u1 s1 st1 F1 S1 hv1 hq1 hE1 => wpAny_items_cons (he2.bind F1 S1 hA hq1 hE1 fun ρ2 H2 v2 u2 s2 st2 F2 S2 hv2 hq2 hE2 => wpAny_items_nil ⟨.inr (.inl ⟨_, rfl⟩), ?_⟩) q2) q1
  split at hq2
  · rename_i i j
    obtain ⟨hi0, hi, hj0, hj, hq2⟩ := hq2
    obtain ⟨tk, rfl⟩ := hv1
    obtain ⟨tk2, rfl⟩ := hv2
    unfold lid at hi hj
    obtain ⟨S3, st3⟩ := S2.grow (h' := s2.heap.push { cls := .type "range", data := .fields #[.int i tk, .int j tk2, .int 1 s2.toks] }) (tk := s2.toks + 1) get_push
    exact call_range_2 (range_ready hA.h ((st1.trans st2).trans st3) S3 (IsRange.new _ _ _ _ _ _ _) (by omega) (by omega) (by omega) (by omega) hq2)
  · exact hq2.elim

theorem it_enum (hT : TabOk C T K) {g : Str} {p pos : Pos} {e : Expr} {pe : PE} (hg : isG env.kindOf g "enumerate" = true) (hs : isStar e = false) (he : EvOk C T K env e pe) : ItOk C T K env (.Call (.Name g p) [e] [] pos) (.itEnum pe) := by
  intro σ ρ H s A q X E F S hA h hE
  unfold isG at hg
  obtain ⟨hg1, hg2⟩ := Bool.and_eq_true_iff.mp hg
  have hg1 := beq_iff_eq.mp hg1
  subst hg1
  refine type_call1 (beq_iff_eq.mp hg2) hT.enum (by decide +kernel) hs he F S hA h hE fun ρ1 H1 v1 u1 s1 st1 F1 S1 hv1 hq1 hE1 => ?_
  split at hq1
  · rename_i n
    split at hq1
    · rename_i xs e1
      obtain ⟨a, rfl, ea, us, m, ho, hs, _⟩ := S1.lookup e1 hv1
      refine call_enumerate_list ⟨_, ho, rfl, m, rfl⟩ fun h' hen hit hsz hk => ?_
      refine wpAny_pyIter_enum hen ?_
      obtain ⟨S2, st2⟩ := S1.grow (h' := h') (tk := s1.toks) hk
      refine ⟨ρ1, H1, _, _, _, [_, _], _, rfl, itr_enum hA.h ea (Nat.succ_ne_self _), ⟨⟨_, hen⟩, hit⟩, st1.trans st2, S2, fun b hb => ?_, hq1⟩
      have hn : ∀ k, s1.heap.objs.size ≤ k → s1.heap.get? k = none := fun k hk => by
        cases e : s1.heap.get? k with
        | none => rfl
        | some o => exact absurd (Heap.lt_size e) (Nat.not_lt.mpr hk)
      have hnr : ∀ k, s1.heap.objs.size ≤ k → k ∉ ρ1 := fun k hk hm => by
        obtain ⟨i, hi, e⟩ := List.getElem_of_mem hm
        have hi' : i < H1.length := by rw [← S1.len]; exact hi
        obtain ⟨ob, q⟩ := (S1.obj i _ H1[i] (by rw [List.getElem?_eq_getElem hi, e]) (List.getElem?_eq_getElem hi')).alive C
        rw [hn k hk] at q; cases q
      rcases List.mem_cons.mp hb with rfl | hb
      · exact ⟨none_before st1 (hn _ (Nat.le_succ _)), hnr _ (Nat.le_succ _)⟩
      · simp at hb; subst hb
        exact ⟨none_before st1 (hn _ (Nat.le_refl _)), hnr _ (Nat.le_refl _)⟩
    · exact hq1.elim
  · exact hq1.elim

/-! reversed(range(n)) -/
theorem sub_ri_reversed : isSubtype (.type "range_iterator") (.type "reversed") = pure false := by rw [isSubtype_type]; kernel_rfl

theorem range_reversed_meets (r : Addr) (a b c : Int) (t u v : Tok) (hc0 : ¬(!(Builtin.Range.rangeFitsLong a && Builtin.Range.rangeFitsLong b && Builtin.Range.rangeFitsLong c && Builtin.Range.rangeFitsLong (-c) && Builtin.Range.rangeFitsLong (a - c) && Builtin.Range.rangeFitsLong (Builtin.Range.rangeSize a b c))) = true) :
    Meets (Builtin.«range.__reversed__» ⟨[.ref r], []⟩) (fun _ R s => s.heap.get? r = some { cls := .type "range", dict := none, data := .fields #[.int a t, .int b u, .int c v], slots := #[] } ∧ R (.ok (.ret (Value.ref s.heap.objs.size))) { s with heap := s.heap.push { cls := Value.type (if (Builtin.Range.rangeFitsLong a && Builtin.Range.rangeFitsLong b && Builtin.Range.rangeFitsLong c && Builtin.Range.rangeFitsLong (-c) && Builtin.Range.rangeFitsLong (a - c) && Builtin.Range.rangeFitsLong (Builtin.Range.rangeSize a b c)) = true then "range_iterator" else "longrange_iterator"), data := Data.fields #[rawInt (a + (Builtin.Range.rangeSize a b c - 1) * c), rawInt (Builtin.Range.rangeSize a b c), rawInt (-c)] }, toks := s.toks }) :=
  .of_wp fun prog w A R s h => by obtain ⟨hp, g, d, tk, os⟩ := s; obtain ⟨hl, h⟩ := h; wp_walk; exact ⟨_, rfl, h⟩

theorem call_range_reversed {s : Shared} {E : Value → Shared → Prop} {r : Addr} {n : Int} {t u v : Tok} {Q : Value → Shared → Prop} (hr : IsRange s.heap r 0 n 1 t u v) (h0 : 0 ≤ n) (hn : n < 2 ^ 62)
    (h : Q (.ref s.heap.objs.size) { s with heap := s.heap.push { cls := .type "range_iterator", data := .fields #[rawInt (n - 1), rawInt n, rawInt (-1)] } }) : wpAny C.M A (call (.builtin "range.__reversed__") [.ref r]) Q E s := by
  have hT : s.TypeIs (.ref r) "range" := ⟨_, hr, rfl⟩
  have hz : Builtin.Range.rangeSize 0 n 1 = n := by rw [rangeSize_one]; split <;> omega
  have hf : (Builtin.Range.rangeFitsLong 0 && Builtin.Range.rangeFitsLong n && Builtin.Range.rangeFitsLong 1 && Builtin.Range.rangeFitsLong (-1) && Builtin.Range.rangeFitsLong (0 - 1) && Builtin.Range.rangeFitsLong (Builtin.Range.rangeSize 0 n 1)) = true := by
    rw [hz]; simp only [Builtin.Range.rangeFitsLong, Bool.and_eq_true, decide_eq_true_eq]; omega
  refine call_meets F.slot_range_reversed hT F.entry_range_reversed (F.args_range_reversed_1 _) (range_reversed_meets r 0 n 1 t u v (by rw [hf]; decide)) ⟨hr, ?_⟩
  rw [if_pos hf, hz]
  have e : (0 : Int) + (n - 1) * 1 = n - 1 := by omega
  rw [e]; exact h

theorem code_reversed_range {s : Shared} {E : Value → Shared → Prop} {r : Addr} {n : Int} {t u v : Tok} {Q₁ : Value → Shared → Prop} (hr : IsRange s.heap r 0 n 1 t u v) (h0 : 0 ≤ n) (hn : n < 2 ^ 62)
    (h : Q₁ (.ref s.heap.objs.size) { s with heap := s.heap.push { cls := .type "range_iterator", data := .fields #[rawInt (n - 1), rawInt n, rawInt (-1)] } }) :
    codeAny C.M A (.call (.builtin "reversed.__new__") ⟨[.type "reversed", .ref r], []⟩) (wants Q₁ E) s := by
  have hT : s.TypeIs (.ref r) "range" := ⟨_, hr, rfl⟩
  refine codeAny_of_tree ?_
  show wpAny _ A.in1 (do checkBuiltinCall "reversed.__new__" ⟨[.type "reversed", .ref r], []⟩; again (.builtin "reversed.__new__" ⟨[.type "reversed", .ref r], []⟩)) _ _ s
  refine wpAny_bind (wpAny_of_eq (F.newCall_reversed_1 _) (wpAny_pure ⟨plainId_quiet F.plain_reversed_new _, codeAny_builtin F.entry_reversed_new ?_⟩))
  rw [Around.under_plainId F.plain_reversed_new _]
  unfold Builtin.«reversed.__new__»
  refine wpAny_bind (wpAny_of_eq (newClass_reversed _) ?_)
  try dsimp only
  refine wpAny_bind (wpAny_of_eq (a := ()) (by first | rfl | kernel_rfl) ?_)
  refine wpAny_bind (wpAny_of_eq (a := ()) (by first | rfl | kernel_rfl) ?_)
  try dsimp only
  refine wpAny_bind (wpAny_specialOf hT F.slot_range_reversed.lookup ?_)
  try dsimp only
  refine wpAny_bind (wpAny_of_eq (F.slot_range_reversed.bind _) ?_)
  try dsimp only
  first
  | rw [if_neg (show ¬ ((Value.builtin "range.__reversed__" == Value.none) = true) from Bool.false_ne_true)]
  | (show wpAny _ _ (if (Value.builtin "range.__reversed__" == Value.none) = true then _ else _) _ _ _; rw [if_neg (show ¬ ((Value.builtin "range.__reversed__" == Value.none) = true) from Bool.false_ne_true)])
  refine wpAny_bind (wpAny_rule ?_)
  refine wpAny_bind (m := runValue (.call (.builtin "range.__reversed__") ⟨[.ref r], []⟩)) (show wpAny _ _ (call (.builtin "range.__reversed__") [.ref r]) _ _ _ from call_range_reversed hr h0 hn ?_)
  first
  | exact wpAny_pure h
  | exact wpAny_bind (wpAny_pure (wpAny_pure h))

theorem call_reversed_range {s : Shared} {E : Value → Shared → Prop} {r : Addr} {n : Int} {t u v : Tok} {Q : Value → Shared → Prop} (hr : IsRange s.heap r 0 n 1 t u v) (h0 : 0 ≤ n) (hn : n < 2 ^ 62)
    (h : Q (.ref s.heap.objs.size) { s with heap := s.heap.push { cls := .type "range_iterator", data := .fields #[rawInt (n - 1), rawInt n, rawInt (-1)] } }) : wpAny C.M A (call (.type "reversed") [.ref r]) Q E s := by
  refine callType_other (U := "range_iterator") (Q₁ := fun obj s₁ => obj = .ref s.heap.objs.size ∧ s₁ = { s with heap := s.heap.push { cls := .type "range_iterator", data := .fields #[rawInt (n - 1), rawInt n, rawInt (-1)] } }) (by decide +kernel) F.create_reversed ⟨_, _, F.mro_reversed⟩ F.made_reversed sub_ri_reversed (F.typeCall_reversed_1 _) (code_reversed_range hr h0 hn ⟨rfl, rfl⟩) ?_
  rintro obj s₁ ⟨rfl, rfl⟩
  exact ⟨⟨_, Heap.get?_push_size _ rfl, rfl⟩, h⟩

theorem ints_rev (n : Nat) : ((List.range n).map fun k => Item.one (.int ((n : Int) - 1 + (k : Nat) * (-1)))) = (intsFrom 0 n).reverse.map fun i => Item.one (.int i) := by
  unfold intsFrom
  rw [← List.map_reverse, List.map_map]
  apply List.ext_getElem
  · simp
  · intro i h1 h2
    simp at h1
    simp only [List.getElem_map, List.getElem_range, List.getElem_reverse, List.length_range, Function.comp]
    congr 2
    omega

theorem it_rev (hT : TabOk C T K) {g f : Str} {p p' pos pos' : Pos} {e : Expr} {pe : PE} (hg : isG env.kindOf g "reversed" = true) (hf : isG env.kindOf f "range" = true) (hs : isStar e = false) (he : EvOk C T K env e pe) :
    ItOk C T K env (.Call (.Name g p) [.Call (.Name f p') [e] [] pos'] [] pos) (.itRev pe) := by
  intro σ ρ H s A q X E F S hA h hE
  unfold isG at hg hf
  obtain ⟨hg1, hg2⟩ := Bool.and_eq_true_iff.mp hg
  obtain ⟨hf1, hf2⟩ := Bool.and_eq_true_iff.mp hf
  have hg1 := beq_iff_eq.mp hg1
  have hf1 := beq_iff_eq.mp hf1
  subst hg1 hf1
  have hs' : ∀ x ∈ [Expr.Call (.Name (Str.ofString "range") p') [e] [] pos'], isStar x = false := fun x hx => by simp at hx; subst hx; rfl
  show wpAny C.M A (do callWith pos (← eval (.Name (Str.ofString "reversed") p) env) [] (backTo pos (starEach [.Call (.Name (Str.ofString "range") p') [e] [] pos'] env)) []) _ E s
  refine wpAny_bind (global_ok F S (beq_iff_eq.mp hg2) hT.revd (by decide +kernel) ?_)
  refine callWith_any (any_false hs') (evalArgs_any hs' ?_)
  refine wpAny_items_cons (type_call1 (beq_iff_eq.mp hf2) hT.range (by decide +kernel) hs he F S hA h hE fun ρ1 H1 v1 u1 s1 st1 F1 S1 hv1 hq1 hE1 => ?_) rfl
  split at hq1
  · rename_i j
    obtain ⟨hj0, hj, hq1⟩ := hq1
    obtain ⟨tk, rfl⟩ := hv1
    unfold lid at hj
    refine call_range_1 (wpAny_items_nil ⟨.inr (.inl ⟨_, rfl⟩), ?_⟩)
    obtain ⟨S2, st2⟩ := S1.grow (h' := s1.heap.push { cls := .type "range", data := .fields #[.int 0 s1.toks, .int j tk, .int 1 (s1.toks + 1)] }) (tk := s1.toks + 1 + 1) get_push
    refine call_reversed_range (IsRange.new _ _ _ _ _ _ _) hj0 (by omega) ?_
    obtain ⟨S3, st3⟩ := S2.grow (h' := (s1.heap.push { cls := .type "range", data := .fields #[.int 0 s1.toks, .int j tk, .int 1 (s1.toks + 1)] }).push { cls := .type "range_iterator", data := .fields #[rawInt (j - 1), rawInt j, rawInt (-1)] }) (tk := s1.toks + 1 + 1) get_push
    have hget := Heap.get?_push_size (s1.heap.push { cls := .type "range", data := .fields #[.int 0 s1.toks, .int j tk, .int 1 (s1.toks + 1)] }) (o := { cls := .type "range_iterator", data := .fields #[rawInt (j - 1), rawInt j, rawInt (-1)] }) rfl
    refine wpAny_pyIter_rangeiter hget ?_
    have hi := itr_range (C := C) (A := A) hA.h (I := (s1.heap.push { cls := .type "range", data := .fields #[.int 0 s1.toks, .int j tk, .int 1 (s1.toks + 1)] }).objs.size) (a := (j.toNat : Int) - 1) (c := -1) (n := j.toNat) (ρ0 := ρ1)
    rw [ints_rev] at hi
    refine ⟨ρ1, H1, _, _, _, [_], _, rfl, hi, ?_, (st1.trans st2).trans st3, S3, fun b hb => ?_, hq1⟩
    · have hjn : ((j.toNat : Nat) : Int) = j := Int.toNat_of_nonneg hj0
      simpa [hjn] using hget
    · simp only [List.mem_singleton] at hb; subst hb
      exact ⟨none_before (st1.trans st2) (get_size _), fresh_new S2⟩
  · exact hq1.elim

end
end Mine
end
section
namespace Mine
open PySem PySem.Calls PyProof.Rows

/-! Targets. -/

section
variable {C : Cx} {env : Env} {A : Around} {E : Value → Shared → Prop}

theorem stored_iff {k : Kd} {x : Str} (h : stored k x = true) : k x = some .local ∨ k x = some .cell := by
  unfold stored at h
  rcases Bool.or_eq_true_iff.mp (Bool.and_eq_true_iff.mp h).1 with h | h
  · exact .inl (by simpa using h)
  · exact .inr (by simpa using h)
theorem stored_ne {k : Kd} {x : Str} (h : stored k x = true) : x ≠ dot0 := by
  unfold stored at h
  simpa using (Bool.and_eq_true_iff.mp h).2

theorem tgt_each : ∀ {elts : List Expr} {xs : List Str}, tgtNames elts = some xs → ∃ ps : List Pos, ps.length = xs.length ∧ (assignEach elts env).map (·.2) = (xs.zip ps).map (fun p u => assign (.Name p.1 p.2) env u) ∧ (assignEach elts env).findIdx? (·.1) = none ∧ elts.length = xs.length ∧ (assignEach elts env).length = xs.length
  | [], _, h => by cases h; exact ⟨[], rfl, rfl, rfl, rfl, rfl⟩
  | e :: r, xs, h => by
    cases e with
    | Name x p =>
      unfold tgtNames at h
      cases hr : tgtNames r with
      | none => rw [hr] at h; cases h
      | some ys =>
        rw [hr] at h; cases h
        obtain ⟨ps, h1, h2, h3, h4, h5⟩ := tgt_each (elts := r) hr
        have e1 : assignEach (.Name x p :: r) env = (false, assign (.Name x p) env) :: assignEach r env := rfl
        refine ⟨p :: ps, by simp [h1], ?_, ?_, by simp [h4], by rw [e1]; simp [h5]⟩
        · rw [e1]; simp only [List.map_cons, List.zip_cons_cons]; rw [h2]
        · rw [e1, List.findIdx?_cons]; simp [h3]
    | _ => cases h

theorem stores_zip {Z : List Str} : ∀ (xs : List Str) (ps : List Pos) (vs : List V) (us : List Value) (σ : Sg) (ρ : List Addr) (H : AHeap) (s : Shared) (Q : Unit → Shared → Prop), ps.length = xs.length →
    xs.length = vs.length → All2 (VR C ρ) vs us → (∀ x ∈ xs, x ∈ Z) → (∀ x ∈ xs, stored env.kindOf x = true) → FR C env σ ρ s.heap → Sim C ρ H s →
    (∀ s', FR C env (σ.sets (xs.zip vs)) ρ s'.heap → Sim C ρ H s' → StepG (ownT env Z) ρ s ρ s' → Q () s') → wpAny C.M A (assignInOrder ((xs.zip ps).map fun p u => assign (.Name p.1 p.2) env u) us) Q E s
  | [], _, [], _, σ, ρ, H, s, Q, _, _, .nil, _, _, F, S, h => by rw [List.zip_nil_left]; exact wpAny_pure (h s F S (StepG.refl _ _))
  | x :: xs, p :: ps, v :: vs, _, σ, ρ, H, s, Q, hp, hl,   .cons (b := u) (bs := us) hv hr, hz, hk, F, S, h => by
    rw [List.zip_cons_cons, List.map_cons, assignInOrder]
    refine wpAny_bind (wpAny_holding (assign_Name (store_ok F S (hz x (.head _)) (stored_iff (hk x (.head _))) (stored_ne (hk x (.head _))) hv fun s1 F1 S1 st1 => ?_)))
    refine stores_zip xs ps vs us _ ρ H s1 Q (by simpa using hp) (by simpa using hl) hr (fun y hy => hz y (.tail _ hy)) (fun y hy => hk y (.tail _ hy)) F1 S1 fun s2 F2 S2 st2 => h s2 F2 S2 (st1.trans st2)
  | _ :: _, [], _, _, _, _, _, _, _, hp, _, _, _, _, _, _, _ => by simp at hp
  | [], _, _ :: _, _, _, _, _, _, _, _, hl, _, _, _, _, _, _ => by simp at hl
  | _ :: _, _, [], _, _, _, _, _, _, _, hl, _, _, _, _, _, _ => by simp at hl

/-- a tuple taken apart: a new iterator is made, all else stands -/
theorem unpack_tuple {ρ : List Addr} {H : AHeap} {s : Shared} {t : Addr} {us : Array Value} {n m : Nat} {Q : List Value → Shared → Prop} (hA : A.handled = none) (S : Sim C ρ H s) (ho : s.heap.get? t = some ⟨.type "tuple", none, .seq us n, #[]⟩) (hm : m = us.size)
    (h : ∀ h', (∀ b o, s.heap.get? b = some o → h'.get? b = some o) → Q us.toList { s with heap := h' }) : wpAny C.M A (unpackItems (.ref t) m none) Q E s := by
  subst hm
  exact unpackItems_tuple hA ⟨_, ho, rfl, n, rfl⟩ fun h' he => h h' fun b o e => he b o (Nat.ne_of_lt (Heap.lt_size e)) e

/-- what a loop's target takes -/
theorem assign_ok {t : Expr} {t' : Tgt} {x : Item} {u : Value} {σ σ' : Sg} {ρ : List Addr} {H : AHeap} {s : Shared} {h0 : Heap} {Q : Unit → Shared → Prop} (hA : A.handled = none) (ht : trT env.kindOf t = some t') (hb : bindA t' x H σ = some σ') (hx : IR C ρ h0 s.heap x u)
    (F : FR C env σ ρ s.heap) (S : Sim C ρ H s) (h : ∀ s', FR C env σ' ρ s'.heap → Sim C ρ H s' → StepG (ownT env t'.names) ρ s ρ s' → Q () s') : wpAny C.M A (assign t env u) Q E s := by
  cases t with
  | Name y p =>
    unfold trT at ht
    dsimp only at ht
    split at ht
    · rename_i hk
      cases ht
      unfold bindA at hb
      cases x with
      | one v => cases hb; exact assign_Name (store_ok F S (Z := [y]) (.head _) (stored_iff hk) (stored_ne hk) hx h)
      | many vs => cases hb
    · cases ht
  | Tuple elts k p =>
    unfold trT at ht
    dsimp only at ht
    split at ht
    · rename_i xs hxs
      split at ht
      · rename_i hk
        cases ht
        obtain ⟨hk1, hk2⟩ := Bool.and_eq_true_iff.mp hk
        have hk1 : ∀ x ∈ xs, stored env.kindOf x = true := List.all_eq_true.mp hk1
        obtain ⟨ps, h1, h2, h3, h4, h5⟩ := tgt_each (env := env) hxs
        rw [arm_assign_Tuple]
        refine wpAny_bind (wpAny_standAt ?_)
        unfold unpack
        rw [h2, h3, h5]
        have main : ∀ (tt : Addr) (us : Array Value) (m : Nat) (vs : List V), u = .ref tt → s.heap.get? tt = some ⟨.type "tuple", none, .seq us m, #[]⟩ → All2 (VR C ρ) vs us.toList → xs.length = vs.length → σ' = σ.sets (xs.zip vs) →
            wpAny C.M A (holding [u] (unpackItems u xs.length none) >>= fun items => assignInOrder ((xs.zip ps).map fun p u => assign (.Name p.1 p.2) env u) items) Q E s := by
          rintro tt us m vs rfl ho hs hl rfl
          have hz : xs.length = us.size := by rw [hl, hs.length]; simp
          refine wpAny_bind (wpAny_holding (unpack_tuple hA S ho hz fun h' hk' => ?_))
          obtain ⟨S1, st1⟩ := S.grow (h' := h') (tk := s.toks) hk'
          exact stores_zip (Z := xs) xs ps vs us.toList σ ρ H _ Q h1 hl hs (fun _ h => h) hk1 (F.step st1) S1 fun s2 F2 S2 st2 => h s2 F2 S2 ((StepG.up st1).trans st2)
        unfold bindA at hb
        cases x with
        | one v =>
          cases v with
          | ref n =>
            dsimp only at hb
            split at hb
            · rename_i vs e1
              split at hb
              · rename_i hl
                cases hb
                obtain ⟨a, rfl, ea, us, m, ho, hs, _⟩ := S.lookup e1 hx
                exact main a us m vs rfl ho hs hl rfl
              · cases hb
            · cases hb
          | _ => cases hb
        | many vs =>
          dsimp only at hb
          split at hb
          · rename_i hl
            cases hb
            obtain ⟨tt, us, m, rfl, ho, _, hs⟩ := hx
            exact main tt us m vs rfl ho hs hl rfl
          · cases hb
      · cases ht
    · cases ht
  | _ => cases ht

end
end Mine
end
section
namespace Mine
open PySem PySem.Calls PyProof.Rows

/-! Comprehensions. -/

section
variable {C : Cx} {env : Env} {A : Around} {E : Value → Shared → Prop}

theorem FR.at {σ : Sg} {ρ : List Addr} {h h' : Heap} (F : FR C env σ ρ h) (k : ∀ b, own env b → ∀ o, h.get? b = some o → h'.get? b = some o) : FR C env σ ρ h' := by
  refine ⟨F.dot, F.kind, F.glob, F.bl, ?_, fun x c hc => ?_, F.has, F.nL, F.nC, F.apart, F.bL, F.bC⟩
  · obtain ⟨m, hn, hv⟩ := F.ns
    exact ⟨m, hn.at' fun o q => k _ (.inl rfl) o q, hv⟩
  · obtain ⟨ov, ⟨o, ho, hd⟩, hv⟩ := F.cells x c hc
    exact ⟨ov, ⟨o, k _ (.inr ⟨x, hc⟩) o ho, hd⟩, hv⟩

theorem FR.less {σ σ' : Sg} {ρ : List Addr} {h : Heap} (F : FR C env σ ρ h) (l : ∀ x v, σ' x = some v → σ x = some v) : FR C env σ' ρ h := by
  refine ⟨?_, F.kind, F.glob, F.bl, ?_, fun x c hc => ?_, F.has, F.nL, F.nC, F.apart, F.bL, F.bC⟩
  · cases e : σ' dot0 with
    | none => rfl
    | some v => have := l _ _ e; rw [F.dot] at this; cases this
  · obtain ⟨m, hn, hv⟩ := F.ns
    exact ⟨m, hn, fun x v h1 h2 => hv x v (l _ _ h1) h2⟩
  · obtain ⟨ov, hi, hv⟩ := F.cells x c hc
    exact ⟨ov, hi, fun v h1 h2 => hv v (l _ _ h1) h2⟩

theorem FR.alive {σ : Sg} {ρ : List Addr} {h : Heap} (F : FR C env σ ρ h) : ∀ b, own env b → ∃ o, h.get? b = some o
  | _, .inl e => by obtain ⟨m, ⟨o, es, ep, ho, _⟩, _⟩ := F.ns; exact ⟨o, e ▸ ho⟩
  | _, .inr ⟨x, e⟩ => by obtain ⟨ov, ⟨o, ho, _⟩, _⟩ := F.cells x _ e; exact ⟨o, ho⟩

theorem adrift {ex : Addr → Prop} {ρ ρ1 : List Addr} {H1 : AHeap} {s t : Shared} {W : Addr → Prop} {h' : Heap} {tk : Nat} (st : StepG ex ρ s ρ1 t) (S : Sim C ρ1 H1 t) (hW : ∀ b, W b → s.heap.get? b = none ∧ b ∉ ρ1 ∧ C.base.get? b = none)
    (k : ∀ b o, ¬ W b → t.heap.get? b = some o → h'.get? b = some o) : StepG ex ρ s ρ1 { t with heap := h', toks := tk } ∧ Sim C ρ1 H1 { t with heap := h', toks := tk } := by
  refine ⟨⟨st.ext, fun b o hb hx e => k b o (fun w => ?_) (st.keep b o hb hx e), fun b o e => ?_⟩, ⟨S.len, S.nodup, fun i a o e q => ?_, fun b o e => k b o (fun w => ?_) (S.stays b o e), S.fresh, S.sm, S.gens, S.os⟩⟩
  · rw [(hW b w).1] at e; cases e
  · obtain ⟨o1, e1⟩ := st.live b o e
    exact ⟨o1, k b o1 (fun w => by rw [(hW b w).1] at e; cases e) e1⟩
  · exact (S.obj i a o e q).keep C [] (by simp) fun x hx => k a x (fun w => (hW a w).2.1 (List.mem_of_getElem? e)) hx
  · rw [(hW b w).2.2] at e; cases e

theorem Sim.adopt {ρ : List Addr} {H : AHeap} {t : Shared} {D : Addr} {o : AObj} (S : Sim C ρ H t) (hD : D ∉ ρ) (hb : C.base.get? D = none) (hsm : D ≠ sysModules) (ho : OR C ρ t.heap D o) :
    Sim C (ρ ++ [D]) (H ++ [o]) t ∧ VR C (ρ ++ [D]) (.ref H.length) (.ref D) := by
  refine ⟨⟨by simp [S.len], ?_, fun i b x e q => ?_, S.stays, fun i b e hi => ?_, ?_, S.gens, S.os⟩, ⟨D, rfl, by rw [← S.len]; simp⟩⟩
  · rw [List.nodup_append]
    exact ⟨S.nodup, by simp, fun x hx y hy => by simp at hy; rw [hy]; exact fun q => hD (q ▸ hx)⟩
  · rcases Nat.lt_or_ge i ρ.length with hi | hi
    · rw [List.getElem?_append_left hi] at e
      rw [List.getElem?_append_left (S.len ▸ hi)] at q
      exact (S.obj i b x e q).keep C [D] rfl fun _ x => x
    · rw [List.getElem?_append_right hi] at e
      rw [List.getElem?_append_right (S.len ▸ hi)] at q
      rw [S.len] at e
      rcases Nat.eq_zero_or_pos (i - H.length) with z | z
      · rw [z] at e q
        simp at e q
        subst e q
        exact ho.keep C [D] rfl fun _ x => x
      · rw [List.getElem?_eq_none (by simp; omega)] at e; cases e
  · rcases Nat.lt_or_ge i ρ.length with hi' | hi'
    · rw [List.getElem?_append_left hi'] at e
      exact S.fresh i b e hi
    · rw [List.getElem?_append_right hi'] at e
      rcases Nat.eq_zero_or_pos (i - ρ.length) with z | z
      · rw [z] at e; simp at e; rw [← e]; exact hb
      · rw [List.getElem?_eq_none (by simp; omega)] at e; cases e
  · intro hq
    rcases List.mem_append.mp hq with hq | hq
    · exact S.sm hq
    · simp only [List.mem_singleton] at hq
      exact hsm hq.symm

theorem step_adopt {ρ ρ1 : List Addr} {s t : Shared} {D : Addr} (st : Step ρ s ρ1 t) (hD : s.heap.get? D = none) : Step ρ s (ρ1 ++ [D]) t := by
  obtain ⟨l, e, f⟩ := st.ext
  refine ⟨⟨l ++ [D], by rw [e, List.append_assoc], fun a ha => ?_⟩, st.keep, st.live⟩
  rcases List.mem_append.mp ha with ha | ha
  · exact f a ha
  · simp at ha; rw [ha]; exact hD

theorem base_none {ρ : List Addr} {H : AHeap} {s : Shared} (S : Sim C ρ H s) {b : Addr} (h : s.heap.get? b = none) : C.base.get? b = none := by
  cases e : C.base.get? b with
  | none => rfl
  | some o => rw [S.stays b o e] at h; cases h

theorem none_ρ {ρ : List Addr} {H : AHeap} {s : Shared} (S : Sim C ρ H s) {b : Addr} (h : s.heap.get? b = none) : b ∉ ρ := fun hm => by
  obtain ⟨i, hi, e⟩ := List.getElem_of_mem hm
  have hi' : i < H.length := by rw [← S.len]; exact hi
  obtain ⟨ob, q⟩ := (S.obj i b H[i] (by rw [List.getElem?_eq_getElem hi, e]) (List.getElem?_eq_getElem hi')).alive C
  rw [h] at q; cases q

/-- what stands outside both, and is alive, stays outside -/
theorem stay_out {ex : Addr → Prop} {ρ ρ1 : List Addr} {s t : Shared} (st : StepG ex ρ s ρ1 t) {b : Addr} {o : Obj} (h : s.heap.get? b = some o) (hb : b ∉ ρ) : b ∉ ρ1 := fun hm => by
  obtain ⟨l, e, f⟩ := st.ext
  rw [e] at hm
  rcases List.mem_append.mp hm with hm | hm
  · exact hb hm
  · rw [f b hm] at h; cases h

/-! the names that a comprehension closes over -/
theorem closure_go (g : Str → Addr) : ∀ (names : List (Str × NameKind)) (acc : List (Str × Addr)), (∀ p ∈ names, p.2 = .free → env.cells.lookup p.1 = some (g p.1)) →
    (forIn names acc fun x r => match x with
      | (name, kind) => if (kind == NameKind.free) = true then do let c ← cellOf env name; pure (ForInStep.yield ((name, c) :: r)) else pure (ForInStep.yield r) : Sem (List (Str × Addr))) =
    pure (((names.filter fun p => p.2 == .free).map fun p => (p.1, g p.1)).reverse ++ acc)
  | [], acc, _ => rfl
  | (x, k) :: r, acc, h => by
    rw [List.forIn_cons]
    dsimp only
    by_cases hk : (k == NameKind.free) = true
    · have hc := h (x, k) (.head _) (by simpa using hk)
      have e1 : cellOf env x = pure (g x) := by unfold cellOf; rw [hc]
      rw [if_pos hk, e1]
      have ih := closure_go g r ((x, g x) :: acc) fun p hp => h p (.tail _ hp)
      simp only [List.filter_cons, hk, if_true, List.map_cons, List.reverse_cons, List.append_assoc, List.singleton_append]
      exact ih
    · rw [if_neg hk]
      have ih := closure_go g r acc fun p hp => h p (.tail _ hp)
      simp only [List.filter_cons, hk]
      exact ih

theorem closure_ok {sc : Scope} (hc : ∀ x, env.kindOf x = some .cell → ∃ c, env.cells.lookup x = some c) (hs : scOk sc env.kindOf = true) :
    ∃ cl, closureFor sc env = pure cl ∧ (∀ x c, cl.lookup x = some c → env.cells.lookup x = some c) ∧ (∀ x, (x, NameKind.free) ∈ sc.names → ∃ c, cl.lookup x = some c) := by
  have hs := (Bool.and_eq_true_iff.mp hs).2
  have hf : ∀ p ∈ sc.names, p.2 = .free → env.cells.lookup p.1 = some ((env.cells.lookup p.1).getD 0) := fun p hp hk => by
    have := List.all_eq_true.mp hs p hp
    rw [hk] at this
    dsimp only at this
    obtain ⟨c, hc'⟩ := hc p.1 (by simpa using this)
    rw [hc']; rfl
  refine ⟨((sc.names.filter fun p => p.2 == .free).map fun p => (p.1, (env.cells.lookup p.1).getD 0)).reverse ++ [], ?_, fun x c h => ?_, fun x h => ?_⟩
  · unfold closureFor
    have := closure_go (env := env) (fun x => (env.cells.lookup x).getD 0) sc.names [] hf
    simp only [this]
    rfl
  · have hm := mem_of_lookup h
    rw [List.append_nil, List.mem_reverse, List.mem_map] at hm
    obtain ⟨p, hp, e⟩ := hm
    obtain ⟨hp1, hp2⟩ := List.mem_filter.mp hp
    have := hf p hp1 (by simpa using hp2)
    cases e
    exact this
  · have hm : (x, (env.cells.lookup x).getD 0) ∈ ((sc.names.filter fun p => p.2 == .free).map fun p => (p.1, (env.cells.lookup p.1).getD 0)).reverse ++ [] := by
      rw [List.append_nil, List.mem_reverse, List.mem_map]
      exact ⟨(x, .free), List.mem_filter.mpr ⟨h, by rfl⟩, rfl⟩
    cases e : List.lookup x (((sc.names.filter fun (p : Str × NameKind) => p.2 == .free).map fun p => (p.1, (env.cells.lookup p.1).getD 0)).reverse ++ []) with
    | some c => exact ⟨c, rfl⟩
    | none =>
      exfalso
      rw [List.lookup_eq_none_iff] at e
      have := e _ hm
      simp at this

theorem inner_kind {sc : Scope} {cl : List (Str × Addr)} {L : Addr} (hf : env.scope.kind = .function) : (compEnvC sc cl L env).kindOf = inner sc env.kindOf := by
  funext x
  unfold Env.kindOf compEnvC relabel inner
  dsimp only
  rw [hf]
  congr 1
  refine List.map_congr_left fun p _ => ?_
  have : (NameKind.free == NameKind.free && (ScopeKind.function == ScopeKind.function)) = true := rfl
  simp only [beq_self_eq_true, Bool.and_true]
  rfl

/-- a name's kind inside, from its kind in the scope -/
theorem inner_cell {sc : Scope} (hs : scOk sc env.kindOf = true) {x : Str} (h : inner sc env.kindOf x = some .cell) : (x, NameKind.free) ∈ sc.names ∧ env.kindOf x = some .cell := by
  have hs := (Bool.and_eq_true_iff.mp hs).2
  unfold inner at h
  have hm := mem_of_lookup h
  obtain ⟨p, hp, e⟩ := List.mem_map.mp hm
  split at e
  · rename_i hc
    obtain ⟨h1, h2⟩ := Bool.and_eq_true_iff.mp hc
    cases e
    have h1 : p.2 = .free := by simpa using h1
    exact ⟨by rw [← h1]; exact hp, by simpa using h2⟩
  · have e1 : p = (x, NameKind.cell) := e
    subst e1
    have := List.all_eq_true.mp hs _ hp
    exact absurd this (by simp)

theorem inner_local {sc : Scope} (hs : scOk sc env.kindOf = true) {x : Str} (h : inner sc env.kindOf x = some .local) : (x, NameKind.local) ∈ sc.names := by
  unfold inner at h
  have hm := mem_of_lookup h
  obtain ⟨p, hp, e⟩ := List.mem_map.mp hm
  split at e
  · cases e
  · have e1 : p = (x, NameKind.local) := e
    exact e1 ▸ hp

/-- the frame that a comprehension starts in -/
theorem FR.comp {sc : Scope} {cl : List (Str × Addr)} {L : Addr} {σ σ0 : Sg} {ρ : List Addr} {h : Heap} {m : Str → Option Value} (F : FR C env σ ρ h) (hs : scOk sc env.kindOf = true) (h1 : ∀ x c, cl.lookup x = some c → env.cells.lookup x = some c)
    (h2 : ∀ x, (x, NameKind.free) ∈ sc.names → ∃ c, cl.lookup x = some c) (hl : h.Ns L m) (hL : L ∉ ρ) (hb : C.base.get? L = none) (hC : ∀ x, env.cells.lookup x ≠ some L) (l : ∀ x v, σ0 x = some v → σ x = some v ∧ (x, NameKind.local) ∉ sc.names) :
    FR C (compEnvC sc cl L env) σ0 ρ h := by
  have hk := inner_kind (sc := sc) (cl := cl) (L := L) F.kind
  refine ⟨?_, ?_, F.glob, F.bl, ⟨m, hl, fun x v e1 e2 => ?_⟩, fun x c hc => ?_, fun x hx => ?_, hL, fun x c hc => ⟨(F.nC x c (h1 x c hc)).1, fun q => ?_⟩, fun x y c hx hy => F.apart x y c (h1 _ _ hx) (h1 _ _ hy), hb, fun x c hc => F.bC x c (h1 _ _ hc)⟩
  · cases e : σ0 dot0 with
    | none => rfl
    | some v => have := (l _ _ e).1; rw [F.dot] at this; cases this
  · show sc.kind = .function
    simpa using (Bool.and_eq_true_iff.mp hs).1
  · rw [hk] at e2
    exact absurd (inner_local hs e2) (l _ _ e1).2
  · obtain ⟨ov, hi, hv⟩ := F.cells x c (h1 x c hc)
    refine ⟨ov, hi, fun v e1 e2 => hv v (l _ _ e1).1 ?_⟩
    rw [hk] at e2
    exact (inner_cell hs e2).2
  · rw [hk] at hx
    exact h2 x (inner_cell hs hx).1
  · exact hC x (by rw [h1 x c hc, q]; rfl)

end
end Mine
end
section
namespace Mine
open PySem PySem.Calls PyProof.Rows

/-! A comprehension's turns. -/

section
variable {prog : Program} {w : World} {A : Around} {R : Result → Shared → Prop} {s : Shared}

theorem compLoop_any {elt target iter : Expr} {ifs : List Expr} {scope : Scope} {pos : Pos} {it acc : Value} {env : Env} (I : Nat → Shared → Prop)
    (turn : ∀ n s, I n s → wpAny (model prog w) A (pyNext it) (fun r s₁ => match r with
      | none => R (.ok .next) s₁
      | some v => wpAny (model prog w) A (letOwnedTupleGo target it v) (fun _ s₁' => wpAny (model prog w) A (assign target env v) (fun _ s₂ =>
          wpAny (model prog w) A (forIn ifs true fun c r => if r = true then do let ok ← isTrue c env (eval c env); pure (ForInStep.yield ok) else pure (ForInStep.yield r)) (fun ok s₃ =>
            if ok = true then wpAny (model prog w) A (eval elt env) (fun x s₄ =>
              wpAny (model prog w) A (call (.builtin "list.append") [acc, x]) (fun _ s₅ => ∃ m, m < n ∧ I m s₅) (notedBy (model prog w) A env fun e s' => R (.error e) s') s₄) (notedBy (model prog w) A env fun e s' => R (.error e) s') s₃
            else ∃ m, m < n ∧ I m s₃) (notedBy (model prog w) A env fun e s' => R (.error e) s') s₂) (notedBy (model prog w) A env fun e s' => R (.error e) s') s₁')
             (notedBy (model prog w) A env fun e s' => R (.error e) s') s₁) (notedBy (model prog w) A env fun e s' => R (.error e) s') s)
    (n : Nat) (h : I n s) :
    codeAny (model prog w) A (.compLoop (.ListComp elt [⟨target, iter, ifs, 0⟩] scope pos) 0 it acc env) R s := by
  refine codeAny_loop rfl I (fun n s hI => ?_) n h
  show wpAny _ A ((compTurn (.ListComp elt [⟨target, iter, ifs, 0⟩] scope pos) 0 it acc env).onRaise (fun x => do noteFrame x env; theTreesLotGoes x)) _ _ s
  refine wpAny_noted ?_
  rw [compTurn_list]
  refine wpAny_bind (wpAny_standAt (wpAny_bind (wpAny_mono (turn n s hI) (fun r s₁ h₁ => ?_) fun _ _ h' => h')))
  cases r with
  | none => exact wpAny_pure h₁
  | some v =>
    refine wpAny_bind (wpAny_mono h₁ (fun _ s₁' h₁' => ?_) fun _ _ h' => h')
    refine wpAny_bind (wpAny_mono h₁' (fun _ s₂ h₂ => wpAny_bind (wpAny_mono h₂ (fun ok s₃ h₃ => ?_) fun _ _ h' => h')) fun _ _ h' => h')
    cases ok with
    | false => exact wpAny_pure ⟨rfl, h₃⟩
    | true =>
      exact wpAny_bind (wpAny_bind (wpAny_mono h₃ (fun x s₄ h₄ => wpAny_bind (wpAny_mono h₄ (fun _ s₅ h₅ => wpAny_pure (wpAny_pure ⟨rfl, h₅⟩)) fun _ _ h' => h')) fun _ _ h' => h'))
end

noncomputable def Sg.less (σ : Sg) (xs : List Str) : Sg := fun y => if y ∈ xs then none else σ y

theorem sets_off : ∀ (ps : List (Str × V)) (σ τ : Sg) (y : Str), (y ∈ ps.map (·.1) ∨ σ y = τ y) → σ.sets ps y = τ.sets ps y
  | [], σ, τ, y, h => by
    rcases h with h | h
    · cases h
    · exact h
  | (x, v) :: r, σ, τ, y, h => by
    unfold Sg.sets
    refine sets_off r _ _ y ?_
    by_cases e : y = x
    · right; unfold Sg.set; rw [if_pos e, if_pos e]
    · rcases h with h | h
      · left
        rw [List.map_cons] at h
        cases h with
        | head => exact absurd rfl e
        | tail _ h => exact h
      · right; unfold Sg.set; rw [if_neg e, if_neg e]; exact h

theorem sets_out : ∀ (ps : List (Str × V)) (σ : Sg) (y : Str), y ∉ ps.map (·.1) → σ.sets ps y = σ y
  | [], _, _, _ => rfl
  | (x, v) :: r, σ, y, h => by
    unfold Sg.sets
    rw [sets_out r _ y fun q => h (.tail _ q)]
    unfold Sg.set
    exact if_neg fun (q : y = x) => h (by rw [q, List.map_cons]; exact .head _)

theorem map_fst_zip {xs : List Str} {vs : List V} (h : xs.length = vs.length) : (xs.zip vs).map (·.1) = xs := by
  rw [List.map_fst_zip]; omega

theorem sets_less {xs : List Str} {vs : List V} {σ : Sg} (h : xs.length = vs.length) : (σ.less xs).sets (xs.zip vs) = σ.sets (xs.zip vs) := by
  funext y
  refine sets_off _ _ _ y ?_
  rw [map_fst_zip h]
  by_cases hy : y ∈ xs
  · exact .inl hy
  · right; unfold Sg.less; rw [if_neg hy]

theorem bindA_sets {t : Tgt} {x : Item} {H : AHeap} {σ σ' : Sg} (h : bindA t x H σ = some σ') : ∃ vs : List V, t.names.length = vs.length ∧ σ' = σ.sets (t.names.zip vs) ∧ ∀ τ, bindA t x H τ = some (τ.sets (t.names.zip vs)) := by
  unfold bindA at h
  cases t with
  | name y =>
    cases x with
    | one v => cases h; exact ⟨[v], rfl, rfl, fun τ => rfl⟩
    | many vs => cases h
  | tup ys =>
    cases x with
    | one v =>
      cases v with
      | ref n =>
        dsimp only at h
        split at h
        · rename_i vs e
          split at h
          · rename_i hl
            cases h
            exact ⟨vs, hl, rfl, fun τ => by unfold bindA; dsimp only; rw [e]; dsimp only; rw [if_pos hl]; rfl⟩
          · cases h
        · cases h
      | _ => cases h
    | many vs =>
      dsimp only at h
      split at h
      · rename_i hl
        cases h
        exact ⟨vs, hl, rfl, fun τ => by unfold bindA; dsimp only; rw [if_pos hl]; rfl⟩
      · cases h

theorem fits {k : Kd} {target : Expr} {t : Tgt} {x : Item} {H : AHeap} {σ σ' : Sg} (ht : trT k target = some t) (h : bindA t x H σ = some σ') : tgtFits target x := by
  cases target <;> first | (cases ht; done) | skip
  · unfold trT at ht
    dsimp only at ht
    split at ht
    · cases ht
      cases x with
      | one v => trivial
      | many vs => cases h
    · cases ht
  · trivial

noncomputable def TsOk (C : Cx) (K : Nat) (env : Env) (ifs : List Expr) (test : Sg → AHeap → (Bool → AHeap → Prop) → Prop) : Prop := ∀ {σ : Sg} {ρ : List Addr} {H : AHeap} {s : Shared} {A : Around} {q : Bool → AHeap → Prop} {E : Value → Shared → Prop},
  FR C env σ ρ s.heap → Sim C ρ H s → AOk K A → test σ H q →
    wpAny C.M A (forIn ifs true fun c r => if r = true then do let ok ← isTrue c env (eval c env); pure (ForInStep.yield ok) else pure (ForInStep.yield r)) (PB C ρ s q) E s
noncomputable def LtOk (C : Cx) (K : Nat) (env : Env) (e : Expr) (el : Sg → AHeap → VPost → Prop) : Prop := ∀ {σ : Sg} {ρ : List Addr} {H : AHeap} {s : Shared} {A : Around} {Q : VPost} {E : Value → Shared → Prop},
  FR C env σ ρ s.heap → Sim C ρ H s → AOk K A → el σ H Q → wpAny C.M A (eval e env) (PV C ρ s Q) E s

section
variable {C : Cx} {T : Tab} {K : Nat} {env : Env} {A : Around} {E : Value → Shared → Prop}

theorem comp_walk {elt iter target : Expr} {ifs : List Expr} {sc : Scope} {pos : Pos} {t' : Tgt} {items : List Item} {Kp : AHeap → Prop} {I : Addr} {wr : List Addr} {St : Nat → Heap → Prop} {ρ ρ0 : List Addr} {H H0 : AHeap} {s s2 : Shared} {σ : Sg}
    {test : Sg → AHeap → (Bool → AHeap → Prop) → Prop} {el : Sg → AHeap → VPost → Prop} {Q : List V → AHeap → Prop} {RR : Value → Addr → Result → Shared → Prop} {cl : List (Str × Addr)}
    (hA : AOk K A) (F : FR C env σ ρ s.heap) (S : Sim C ρ H s) (hs : scOk sc env.kindOf = true) (ho : onlyHere sc t' = true) (htr : trT (inner sc env.kindOf) target = some t')
    (h1 : ∀ x c, cl.lookup x = some c → env.cells.lookup x = some c) (h2 : ∀ x, (x, NameKind.free) ∈ sc.names → ∃ c, cl.lookup x = some c)
    (hI : Itr C A ρ0 items Kp I wr St) (hst : St 0 s2.heap) (st : Step ρ s ρ0 s2) (S2 : Sim C ρ0 H0 s2) (hw : ∀ b ∈ wr, s.heap.get? b = none ∧ b ∉ ρ0)
    (hgo : compGo Kp (fun x H' => bindA t' x H' σ) test el Q items [] H0) (hlen : items.length ≤ lid)
    (hts : ∀ cenv : Env, cenv.kindOf = inner sc env.kindOf → TsOk C K cenv ifs test) (hel : ∀ cenv : Env, cenv.kindOf = inner sc env.kindOf → LtOk C K cenv elt el)
    (hRR : ∀ D Cc ρ1 H1 acc t m, Step ρ s (ρ1 ++ [D]) t → Sim C (ρ1 ++ [D]) (H1 ++ [.list acc]) t → VR C (ρ1 ++ [D]) (.ref H1.length) (.ref D) → Q acc H1 → t.heap.Ns Cc m → Cc ∉ ρ1 ++ [D] → s.heap.get? Cc = none → RR (.ref D) Cc (.ok .next) t) :
    wpAny C.M A (newList []) (fun acc s₃ => wpAny C.M A (newFunctionEnv sc env.globals cl [] env.qual none .none (some env)) (fun cenv s₄ =>
      codeAny C.M A (.compStart (.ListComp elt [⟨target, iter, ifs, 0⟩] sc pos) 0 (.ref I) acc { cenv with scope := relabel sc env }) (RR acc cenv.locals) s₄) E s₃) E s2 := by
  have hkind : sc.kind = .function := by simpa using (Bool.and_eq_true_iff.mp hs).1
  have hcell : ∀ x ∈ sc.names, x.2 ≠ .cell := fun x hx e => by
    have := List.all_eq_true.mp (Bool.and_eq_true_iff.mp hs).2 x hx
    rw [e] at this; cases this
  refine wpAny_newObj_type (wpAny_newFunctionEnv hcell (by intro y hy; simp at hy) (fun h₁ hns₁ hsb₁ => ?_) hkind)
  dsimp only at hns₁ hsb₁ ⊢
  generalize hH2 : s2.heap.push { cls := .type "list", dict := none, data := .seq ([] : List Value).toArray } = H2 at hns₁ hsb₁ ⊢
  have hC : H2.objs.size = s2.heap.objs.size + 1 := by rw [← hH2, Heap.size_push]
  have hDC : s2.heap.objs.size ≠ H2.objs.size := by rw [hC]; exact Nat.ne_of_lt (Nat.lt_succ_self _)
  have below : ∀ b, b < s2.heap.objs.size → b ≠ H2.objs.size := fun b hb => by rw [hC]; exact Nat.ne_of_lt (Nat.lt_succ_of_lt hb)
  have old : ∀ b o, s2.heap.get? b = some o → h₁.get? b = some o := fun b o e => hsb₁.extBut b o (below b (Heap.lt_size e)) (Heap.get?_push_of_some _ (hH2 ▸ Heap.get?_push_of_some _ e))
  have hacc : h₁.PlainList s2.heap.objs.size #[] := ⟨_, hsb₁.extBut _ _ hDC (Heap.get?_push_of_some _ (hH2 ▸ Heap.get?_push_size _ rfl))⟩
  have hDn : s2.heap.get? s2.heap.objs.size = none := get_size _
  have hCn : s2.heap.get? H2.objs.size = none := by
    cases e : s2.heap.get? H2.objs.size with
    | none => rfl
    | some o => exact absurd rfl (below _ (Heap.lt_size e))
  have back : ∀ b, s2.heap.get? b = none → s.heap.get? b = none := fun b hb => by
    cases e : s.heap.get? b with
    | none => rfl
    | some o => obtain ⟨o', e'⟩ := st.live b o e; rw [hb] at e'; cases e'
  have hDsm : s2.heap.objs.size ≠ sysModules := S2.size_ne
  generalize hDD : s2.heap.objs.size = D at *
  generalize hCC : H2.objs.size = Cc at *
  have hDw : D ∉ wr := fun q => by obtain ⟨o, e⟩ := hI.alive _ _ hst D q; rw [hDn] at e; cases e
  have hCw : Cc ∉ wr := fun q => by obtain ⟨o, e⟩ := hI.alive _ _ hst Cc q; rw [hCn] at e; cases e
  obtain ⟨S3, st3⟩ := S2.grow (h' := h₁) (tk := s2.toks + ([] : List (Str × Value)).length) old
  have hst₁ : St 0 h₁ := hI.frame _ _ _ hst fun b _ o e => old b o e
  have ho1 : ∀ x ∈ t'.names, sc.names.lookup x = some .local := fun x hx => by simpa using List.all_eq_true.mp (Bool.and_eq_true_iff.mp ho).1 x hx
  have ho2 : ∀ x, (x, NameKind.local) ∈ sc.names → x = dot0 ∨ x ∈ t'.names := fun x hx => by
    have := List.all_eq_true.mp (Bool.and_eq_true_iff.mp ho).2 _ hx
    simpa using this
  have hW : ∀ ρ1 : List Addr, (∀ b ∈ wr, b ∉ ρ1) → D ∉ ρ1 → Cc ∉ ρ1 → ∀ b, (b ∈ wr ∨ b = D ∨ b = Cc) → s.heap.get? b = none ∧ b ∉ ρ1 ∧ C.base.get? b = none := fun ρ1 x1 x2 x3 b hb => by
    have hsn : s.heap.get? b = none := by
      rcases hb with hb | rfl | rfl
      · exact (hw b hb).1
      · exact back _ hDn
      · exact back _ hCn
    refine ⟨hsn, ?_, base_none S hsn⟩
    rcases hb with hb | rfl | rfl
    · exact x1 b hb
    · exact x2
    · exact x3
  have hCown : ∀ x, env.cells.lookup x ≠ some Cc := fun x e => by
    obtain ⟨o, e1⟩ := F.alive Cc (.inr ⟨x, e⟩)
    rw [back _ hCn] at e1; cases e1
  have hDown : ¬ own env D := fun e => by
    obtain ⟨o, e1⟩ := F.alive D e
    rw [back _ hDn] at e1; cases e1
  have hwown : ∀ b ∈ wr, ¬ own env b := fun b hb e => by
    obtain ⟨o, e1⟩ := F.alive b e
    rw [(hw b hb).1] at e1; cases e1
  have ownc : ∀ b, own (compEnvC sc cl Cc env) b → b = Cc ∨ own env b := fun b hb => by
    rcases hb with rfl | ⟨x, e⟩
    · exact .inl rfl
    · exact .inr (.inr ⟨x, h1 _ _ e⟩)
  have ltl : ∀ x v, σ.less t'.names x = some v → σ x = some v ∧ (x, NameKind.local) ∉ sc.names := fun x v e => by
    unfold Sg.less at e
    by_cases hx : x ∈ t'.names
    · rw [if_pos hx] at e; cases e
    · rw [if_neg hx] at e
      refine ⟨e, fun q => ?_⟩
      rcases ho2 x q with rfl | q
      · rw [F.dot] at e; cases e
      · exact hx q
  have ck := inner_kind (sc := sc) (cl := cl) (L := Cc) F.kind
  let Inv : Nat → Shared → Prop := fun n t => ∃ i acc us ρ1 H1, i + n = items.length ∧ acc.length ≤ i ∧ St i t.heap ∧ Step ρ s ρ1 t ∧ (∃ l, ρ1 = ρ0 ++ l) ∧ Sim C ρ1 H1 t ∧ (∀ b ∈ wr, b ∉ ρ1) ∧ D ∉ ρ1 ∧ Cc ∉ ρ1 ∧ t.heap.PlainList D us ∧ All2 (VR C ρ1) acc us.toList ∧
    FR C (compEnvC sc cl Cc env) (σ.less t'.names) ρ1 t.heap ∧ compGo Kp (fun x H' => bindA t' x H' σ) test el Q (items.drop i) acc H1
  have loop : ∀ s₃ : Shared, s₃ = { s2 with heap := h₁, toks := s2.toks + ([] : List (Str × Value)).length } →
      codeAny C.M A (.compLoop (.ListComp elt [⟨target, iter, ifs, 0⟩] sc pos) 0 (.ref I) (.ref D) (compEnvC sc cl Cc env)) (RR (.ref D) Cc) s₃ := by
    rintro s₃ rfl
    refine compLoop_any Inv (fun n t hInv => ?_) items.length ?_
    · obtain ⟨i, acc, us, ρ1, H1, hin, hai, hSt, st1, hl1, S1, hw1, hD1, hC1, hpl, hus, FC, hg⟩ := hInv
      cases n with
      | zero =>
        have hi : i = items.length := by omega
        subst hi
        rw [List.drop_length] at hg
        obtain ⟨hK, hq⟩ := hg
        refine wpAny_mono (hI.done ρ1 H1 t _ hSt S1 hl1 hK hw1) (fun r s1 hr => ?_) fun _ _ x => x
        obtain ⟨rfl, h', tk, rfl, hk⟩ := hr
        dsimp only
        obtain ⟨st4, S4⟩ := adrift (h' := h') (tk := tk) st1 S1 (hW ρ1 hw1 hD1 hC1) (fun b o hb e => hk b o (fun q => hb (.inl q)) e)
        have hpl' : Heap.PlainList h' D us := hpl.at fun o e => hk _ o hDw e
        obtain ⟨nn, hob⟩ := hpl'
        obtain ⟨S5, v5⟩ := S4.adopt (D := D) (o := .list acc) hD1 (base_none S (back _ hDn)) hDsm ⟨us, nn, hob, hus, by unfold lid at *; omega⟩
        obtain ⟨m, hm, _⟩ := FC.ns
        refine hRR D Cc ρ1 H1 acc _ m (step_adopt st4 (back _ hDn)) S5 v5 hq (hm.at' fun o e => hk _ o hCw e) (fun q => ?_) (back _ hCn)
        rcases List.mem_append.mp q with q | q
        · exact hC1 q
        · simp at q; exact hDC q.symm
      | succ n =>
        have hi : i < items.length := by omega
        rw [List.drop_eq_getElem_cons hi] at hg
        obtain ⟨hK, hg⟩ := hg
        dsimp only at hg
        split at hg
        · rename_i σ' hb
          obtain ⟨vs, hvl, rfl, hball⟩ := bindA_sets hb
          refine wpAny_mono (hI.next i items[i] target ρ1 H1 t _ (List.getElem?_eq_getElem hi) (fits htr hb) hSt S1 hl1 hK hw1) (fun r s1 hr => ?_) fun _ _ x => x
          obtain ⟨u, rfl, hu⟩ := hr
          refine wpAny_mono hu (fun _ s1' hs1 => ?_) fun _ _ x => x
          obtain ⟨h', tk, rfl, hIR, hSt', hk⟩ := hs1
          obtain ⟨st4, S4⟩ := adrift (h' := h') (tk := tk) st1 S1 (hW ρ1 hw1 hD1 hC1) (fun b o hb e => hk b o (fun q => hb (.inl q)) e)
          have FC4 : FR C (compEnvC sc cl Cc env) (σ.less t'.names) ρ1 h' := FC.at fun b hb o e => hk b o (fun q => by
            rcases ownc b hb with rfl | hb
            · exact hCw q
            · exact hwown b q hb) e
          have hb2 : bindA t' items[i] H1 (σ.less t'.names) = some (σ.sets (t'.names.zip vs)) := by rw [hball, sets_less hvl]
          refine assign_ok hA.h (by rw [ck]; exact htr) hb2 hIR FC4 S4 fun s5 FC5 S5 st5 => ?_
          -- what the target's store left alone
          have hk5 : ∀ b o, b ∉ ρ1 → b ≠ Cc → h'.get? b = some o → s5.heap.get? b = some o := fun b o hb hbc e => st5.keep b o hb (fun q => by
            rcases q with q | ⟨x, hx, hxc, _⟩
            · exact hbc q
            · have h3 := ho1 x hx
              rw [ck] at hxc
              have := lookup_relabel_local (env := env) h3
              have h4 := inner_kind (sc := sc) (cl := cl) (L := Cc) F.kind
              rw [← h4] at hxc
              have h5 : (compEnvC sc cl Cc env).kindOf x = some .local := this
              rw [h5] at hxc; cases hxc) e
          have st5' : Step ρ s ρ1 s5 := ⟨st4.ext, fun b o hb hx e => hk5 b o (stay_out st4 e hb) (fun q => by rw [q, back _ hCn] at e; cases e) (st4.keep b o hb hx e), fun b o e => let ⟨o1, e1⟩ := st4.live b o e; st5.live b o1 e1⟩
          have hSt5 : St (i + 1) s5.heap := hI.frame _ _ _ hSt' fun b hb o e => hk5 b o (hw1 b hb) (fun q => hCw (q ▸ hb)) e
          have hpl5 : Heap.PlainList s5.heap D us := hpl.at fun o e => hk5 _ o hD1 hDC (hk _ o hDw e)
          refine wpAny_mono (hts _ ck FC5 S5 hA hg) (fun ok s6 h6 => ?_) fun _ _ x => x
          obtain ⟨ρ2, H2', st6, S6, hg⟩ := h6
          have kept : ∀ b o, b ∉ ρ1 → s5.heap.get? b = some o → s6.heap.get? b = some o := fun b o hb e => st6.keep b o hb id e
          have out : ∀ b o, s5.heap.get? b = some o → b ∉ ρ1 → b ∉ ρ2 := fun b o e hb => stay_out st6 e hb
          have FC6 := FC5.step st6
          have hSt6 : St (i + 1) s6.heap := hI.frame _ _ _ hSt5 fun b hb o e => kept b o (hw1 b hb) e
          have hw6 : ∀ b ∈ wr, b ∉ ρ2 := fun b hb => by obtain ⟨o, e⟩ := hI.alive _ _ hSt5 b hb; exact out b o e (hw1 b hb)
          have hD6 : D ∉ ρ2 := by obtain ⟨nn, e⟩ := hpl5; exact out D _ e hD1
          have hC6 : Cc ∉ ρ2 := by
            obtain ⟨m, ⟨o, es, ep, e, _⟩, _⟩ := FC5.ns
            exact out Cc o e hC1
          have hpl6 : Heap.PlainList s6.heap D us := hpl5.at fun o e => kept _ o hD1 e
          have hl6 : ∃ l, ρ2 = ρ0 ++ l := by
            obtain ⟨l, e⟩ := hl1
            obtain ⟨l', e', _⟩ := st6.ext
            exact ⟨l ++ l', by rw [e', e, List.append_assoc]⟩
          have lessl : ∀ x v, σ.less t'.names x = some v → σ.sets (t'.names.zip vs) x = some v := fun x v e => by
            unfold Sg.less at e
            by_cases hx : x ∈ t'.names
            · rw [if_pos hx] at e; cases e
            · rw [if_neg hx] at e
              rw [sets_out _ _ _ (by rw [map_fst_zip hvl]; exact hx)]; exact e
          cases ok with
          | false =>
            rw [if_neg (by simp)]
            refine ⟨n, Nat.lt_succ_self n, i + 1, acc, us, ρ2, H2', by omega, by omega, hSt6, st5'.trans st6, hl6, S6, hw6, hD6, hC6, hpl6, st6.vrs hus, FC6.less lessl, hg⟩
          | true =>
            rw [if_pos rfl]
            refine wpAny_mono (hel _ ck FC6 S6 hA hg) (fun x s7 h7 => ?_) fun _ _ x => x
            obtain ⟨ρ3, H3, v, st7, S7, hv, hg⟩ := h7
            have kept7 : ∀ b o, b ∉ ρ2 → s6.heap.get? b = some o → s7.heap.get? b = some o := fun b o hb e => st7.keep b o hb id e
            have hpl7 : Heap.PlainList s7.heap D us := hpl6.at fun o e => kept7 _ o hD6 e
            have hus7 := st7.vrs (st6.vrs hus)
            refine wpAny_list_append_plain hpl7 (fun h8 hpl8 hsb8 => ?_) (by
              have h0 : acc.length = us.size := by rw [hus.length]; simp
              unfold lid at *; unfold sizeLine; omega)
            have FC7 := FC6.step st7
            have hD7 : D ∉ ρ3 := by obtain ⟨nn, e⟩ := hpl6; exact stay_out st7 e hD6
            have hC7 : Cc ∉ ρ3 := by
              obtain ⟨m, ⟨o, es, ep, e, _⟩, _⟩ := FC6.ns
              exact stay_out st7 e hC6
            have hw7 : ∀ b ∈ wr, b ∉ ρ3 := fun b hb => by
              obtain ⟨o, e⟩ := hI.alive _ _ hSt6 b hb
              exact stay_out st7 e (hw6 b hb)
            obtain ⟨st8, S8⟩ := adrift (h' := h8) (tk := s7.toks) ((st5'.trans st6).trans st7) S7 (hW ρ3 hw7 hD7 hC7) (fun b o hb e => hsb8.extBut b o (fun q => hb (.inr (.inl q))) e)
            refine ⟨n, Nat.lt_succ_self n, i + 1, acc ++ [v], us.push x, ρ3, H3, by omega, by simp; omega, ?_, st8, ?_, S8, hw7, hD7, hC7, hpl8, ?_, ?_, hg⟩
            · exact hI.frame _ _ _ hSt6 fun b hb o e => hsb8.extBut b o (fun q => hDw (q ▸ hb)) (kept7 b o (hw6 b hb) e)
            · obtain ⟨l, e⟩ := hl6
              obtain ⟨l', e', _⟩ := st7.ext
              exact ⟨l ++ l', by rw [e', e, List.append_assoc]⟩
            · rw [Array.toList_push]
              exact hus7.append (.cons hv .nil)
            · refine (FC7.less lessl).at fun b hb o e => hsb8.extBut b o (fun q => ?_) e
              rcases ownc b hb with rfl | hb
              · exact hDC q.symm
              · exact hDown (q ▸ hb)
        · exact hg.elim
    · refine ⟨0, [], #[], ρ0, H0, by simp, by simp, hst₁, st.trans st3, ⟨[], by simp⟩, S3, fun b hb => (hw b hb).2, none_ρ S2 hDn, none_ρ S2 hCn, hacc, .nil, ?_, by simpa using hgo⟩
      have F3 : FR C env σ ρ0 h₁ := F.step (st.trans st3)
      exact F3.comp hs h1 h2 hns₁ (none_ρ S2 hCn) (base_none S2 hCn) hCown ltl
  refine codeAny_compStart_list (loop _ rfl) (hI.self 0 _ _ _ hst₁ (loop _ rfl))

end
end Mine
end
section
namespace Mine
open PySem PySem.Calls PyProof.Rows

/-! Every expression that translates does as its translation says. -/

section
variable {C : Cx} {T : Tab} {K : Nat} {env : Env} {A : Around} {E : Value → Shared → Prop}

theorem scOk_names {sc : Scope} (hs : scOk sc env.kindOf = true) : sc.kind = .function ∧ ∀ x ∈ sc.names, x.2 = .local → sc.names.lookup x.1 = some .local := by
  refine ⟨by simpa using (Bool.and_eq_true_iff.mp hs).1, fun x hx e => ?_⟩
  have := List.all_eq_true.mp (Bool.and_eq_true_iff.mp hs).2 x hx
  rw [e] at this
  simpa using this

/-- a comprehension's value, or what is done with it -/
theorem comp_any {elt iter target : Expr} {ifs : List Expr} {sc : Scope} {pos p' : Pos} {t' : Tgt} {pit : PE} {test : Sg → AHeap → (Bool → AHeap → Prop) → Prop} {el : Sg → AHeap → VPost → Prop} {σ : Sg} {ρ : List Addr} {H : AHeap} {s : Shared} {Q : VPost} {X : XPost}
    {use : Option (Value → Sem Unit)} {R : Value → Shared → Prop}
    (hA : AOk K A) (F : FR C env σ ρ s.heap) (S : Sim C ρ H s) (hE : Takes C ρ s X E) (hs : scOk sc env.kindOf = true) (ho : onlyHere sc t' = true) (htr : trT (inner sc env.kindOf) target = some t') (hf : ∀ x, foldedSetIterable iter env x = pure x)
    (hit : ItOk C T K env iter pit)
    (hts : ∀ cenv : Env, cenv.kindOf = inner sc env.kindOf → TsOk C K cenv ifs test) (hel : ∀ cenv : Env, cenv.kindOf = inner sc env.kindOf → LtOk C K cenv elt el)
    (h : (sem T pit).it σ H (fun items Kp H1 => items.length ≤ lid ∧ compGo Kp (fun x H' => bindA t' x H' σ) test el (fun acc H' => Q (.ref H'.length) (H' ++ [.list acc])) items [] H1) X)
    (hR : ∀ D Cc t m, PV C ρ s Q (.ref D) t → t.heap.Ns Cc m → s.heap.get? Cc = none → (∀ ρ1 H1 v, Step ρ s ρ1 t → Sim C ρ1 H1 t → VR C ρ1 v (.ref D) → Q v H1 → Cc ∉ ρ1 → compPost C.M A E use R (.ref D) Cc (.ok .next) t)) :
    wpAny C.M A (comprehension (.ListComp elt [⟨target, iter, ifs, 0⟩] sc pos) sc env p' (newList []) false (eval iter env) use) R E s := by
  obtain ⟨cl, hcl, h1, h2⟩ := closure_ok (sc := sc) F.has hs
  refine wpAny_comprehension_free (use := use) rfl hf hcl (scOk_names hs).1 (scOk_names hs).2 ?_
  refine wpAny_mono (hit F S hA h hE) (fun xv s₁ h₁ => wpAny_mono h₁ (fun it s₂ h₂ => ?_) fun _ _ e => e) fun _ _ e => e
  obtain ⟨ρ0, H0, items, Kp, I, wr, St, rfl, hI, hst, st, S2, hw, hlen, hgo⟩ := h₂
  refine comp_walk (RR := fun acc Cc => compPost C.M A E use R acc Cc) hA F S hs ho htr h1 h2 hI hst st S2 hw hgo hlen hts hel ?_
  intro D Cc ρ1 H1 acc t m st1 S1 v1 hq hm hC hCn
  exact hR D Cc t m ⟨_, _, _, st1, S1, v1, hq⟩ hm hCn (ρ1 ++ [D]) _ _ st1 S1 v1 hq hC

theorem letgo_same {ρ ρ1 : List Addr} {H H1 : AHeap} {s t : Shared} {Cc : Addr} {h' : Heap} (S : Sim C ρ H s) (st : Step ρ s ρ1 t) (S1 : Sim C ρ1 H1 t) (hn : s.heap.get? Cc = none) (hC : Cc ∉ ρ1) (hs : Heap.SameBut Cc t.heap h') :
    Step ρ s ρ1 { t with heap := h' } ∧ Sim C ρ1 H1 { t with heap := h' } :=
  adrift (W := fun b => b = Cc) (tk := t.toks) st S1 (fun b hb => by subst hb; exact ⟨hn, hC, base_none S hn⟩) fun b o hb e => hs.extBut b o hb e

theorem ok_comp {elt iter target : Expr} {ifs : List Expr} {sc : Scope} {pos : Pos} {t' : Tgt} {pe pit : PE} {test : XPost → Sg → AHeap → (Bool → AHeap → Prop) → Prop} {el : XPost → Sg → AHeap → VPost → Prop}
    (hs : scOk sc env.kindOf = true) (ho : onlyHere sc t' = true) (htr : trT (inner sc env.kindOf) target = some t') (hf : ∀ x, foldedSetIterable iter env x = pure x) (hit : ItOk C T K env iter pit)
    (hts : ∀ X, ∀ cenv : Env, cenv.kindOf = inner sc env.kindOf → TsOk C K cenv ifs (test X)) (hel : ∀ X, ∀ cenv : Env, cenv.kindOf = inner sc env.kindOf → LtOk C K cenv elt (el X))
    (hsem : ∀ σ H Q X, (sem T pe).ev σ H Q X → (sem T pit).it σ H (fun items Kp H1 => items.length ≤ lid ∧ compGo Kp (fun x H' => bindA t' x H' σ) (test X) (el X) (fun acc H' => Q (.ref H'.length) (H' ++ [.list acc])) items [] H1) X) :
    EvOk C T K env (.ListComp elt [⟨target, iter, ifs, 0⟩] sc pos) pe := by
  intro σ ρ H s A Q X E F S hA h hE
  rw [eval_ListComp]
  refine comp_any (use := none) hA F S hE hs ho htr hf hit (hts X) (hel X) (hsem σ H Q X h) ?_
  intro D Cc t m _ hm hn ρ1 H1 v st1 S1 v1 hq hC
  refine ⟨m, hm, fun h' hsb => ?_⟩
  obtain ⟨st2, S2⟩ := letgo_same S st1 S1 hn hC hsb
  exact ⟨ρ1, H1, v, st2, S2, v1, hq⟩

theorem ok_dict0 {pos : Pos} : EvOk C T K env (.Dict [] [] pos) .dict0 := by
  intro σ ρ H s A Q X E F S hA h hE
  refine wpAny_Dict_empty ?_
  obtain ⟨S1, st1, v1⟩ := S.alloc (h' := s.heap.push { cls := .type "dict", data := .dict #[] }) (tk := s.toks) (a := s.heap.objs.size) (o := .dict [] 0) get_push (get_size _) S.size_ne ⟨#[], Heap.get?_push_size _ rfl, .nil, by simp, by simp⟩
  exact ⟨_, _, _, st1, S1, v1, h⟩

theorem ok_attr {o : Expr} {a : Str} {pos : Pos} {po : PE} (ho : EvOk C T K env o po) (hb : asCall o = none) : EvOk C T K env (.Attribute o a pos) (.attr po a) := by
  intro σ ρ H s A Q X E F S hA h hE
  rw [arm_eval_Attribute, attrBase hb]
  refine wpAny_bind (ho.bind F S hA h hE fun ρ1 H1 v1 u1 s1 st1 F1 S1 hv1 hq1 hE1 => ?_)
  exfalso
  unfold attrA at hq1
  split at hq1
  · rename_i n
    split at hq1
    · rename_i c d e1
      obtain ⟨a, _, _, ho⟩ := S1.lookup e1 hv1
      exact ho
    · exact hq1
  · exact hq1

/-! all together -/
theorem tr_star {n : Nat} {k : Kd} {e : Expr} {pe : PE} (h : trE n k e = some pe) : isStar e = false := by
  cases e <;> first | rfl | (cases n <;> cases h)

theorem el_ok {f : Expr → Option PE} {pos : Pos} : ∀ {es : List Expr} {pe : PE}, (∀ e pe, f e = some pe → EvOk C T K env e pe) → (∀ e pe, f e = some pe → isStar e = false) → trL f es = some pe → ElOk C T K env pos es pe
  | [], _, _, _, h => by cases h; exact ok_nil
  | e :: r, pe, h1, h2, h => by
    unfold trL at h
    split at h
    · rename_i a b ha hb
      cases h
      exact ok_cons (h1 e a ha) (el_ok h1 h2 hb) (h2 e a ha)
    · cases h

theorem els_ok {f : Expr → Option PE} {P : Expr → PE → Prop} : ∀ {es : List Expr} {ps : List PE}, (∀ e pe, f e = some pe → P e pe) → trLs f es = some ps → All2 P es ps
  | [], _, _, h => by cases h; exact .nil
  | e :: r, ps, h1, h => by
    unfold trLs at h
    split at h
    · rename_i a b ha hb; cases h; exact .cons (h1 e a ha) (els_ok h1 hb)
    · cases h

theorem bnd2_some {a b : Option PE} {f : PE → PE → PE} {r : PE} (h : bnd2 a b f = some r) : ∃ x y, a = some x ∧ b = some y ∧ r = f x y := by
  unfold bnd2 at h
  split at h
  · cases h; exact ⟨_, _, rfl, rfl, rfl⟩
  · cases h
theorem bnd3_some {a b c : Option PE} {f : PE → PE → PE → PE} {r : PE} (h : bnd3 a b c f = some r) : ∃ x y z, a = some x ∧ b = some y ∧ c = some z ∧ r = f x y z := by
  unfold bnd3 at h
  split at h
  · cases h; exact ⟨_, _, _, rfl, rfl, rfl, rfl⟩
  · cases h
theorem map_some' {a : Option PE} {f : PE → PE} {r : PE} (h : a.map f = some r) : ∃ x, a = some x ∧ r = f x := by
  cases a with
  | none => cases h
  | some x => cases h; exact ⟨x, rfl, rfl⟩

theorem folded_no {e : Expr} (h : isSet e = false) : ∀ x, foldedSetIterable e env x = pure x := by
  intro x
  cases e <;> first | rfl | cases h

theorem asName_is {e : Expr} {x : Str} {p : Pos} (h : asName e = some (x, p)) : e = .Name x p := by
  cases e <;> cases h; rfl
theorem asAttr_is {e o : Expr} {x : Str} {p : Pos} (h : asAttr e = some (o, x, p)) : e = .Attribute o x p := by
  cases e <;> cases h; rfl
theorem asCall_is {e f : Expr} {a : List Expr} {k : List Keyword} {p : Pos} (h : asCall e = some (f, a, k, p)) : e = .Call f a k p := by
  cases e <;> cases h; rfl
theorem asSlice_is {e : Expr} {a b c : Option Expr} {p : Pos} (h : asSlice e = some (a, b, c, p)) : e = .Slice a b c p := by
  cases e <;> cases h; rfl
theorem asSub_is {e a b : Expr} {p : Pos} (h : asSub e = some (a, b, p)) : e = .Subscript a b p := by
  cases e <;> cases h; rfl
theorem isGE_is {k : Kd} {e : Expr} {n : String} (h : isGE k e n = true) : ∃ g p, e = .Name g p ∧ isG k g n = true := by
  unfold isGE at h
  split at h
  · rename_i g p e1; exact ⟨g, p, asName_is e1, h⟩
  · cases h

theorem trI_ok (hT : TabOk C T K) {f : Expr → Option PE} (h1 : ∀ e pe, f e = some pe → EvOk C T K env e pe) (h2 : ∀ e pe, f e = some pe → isStar e = false) {e : Expr} {pe : PE} (h : trI env.kindOf f e = some pe) :
    ItOk C T K env e pe ∧ isSet e = false := by
  unfold trI at h
  split at h
  · cases h
  · rename_i hs
    refine ⟨?_, by simpa using hs⟩
    split at h
    · rename_i g a pos e1
      have e0 := asCall_is e1
      split at h
      · rename_i hg
        obtain ⟨g', p', rfl, hg⟩ := isGE_is hg
        obtain ⟨x, hx, rfl⟩ := map_some' h
        subst e0
        intro σ ρ H s A q X E
        exact it_range1 hT hg (h2 _ _ hx) (h1 _ _ hx)
      · split at h
        · rename_i hg
          obtain ⟨g', p', rfl, hg⟩ := isGE_is hg
          split at h
          · rename_i h' b pos' e2
            have e3 := asCall_is e2
            split at h
            · rename_i hh
              obtain ⟨g2, p2, rfl, hh⟩ := isGE_is hh
              obtain ⟨x, hx, rfl⟩ := map_some' h
              subst e3
              subst e0
              intro σ ρ H s A q X E
              exact it_rev hT hg hh (h2 _ _ hx) (h1 _ _ hx)
            · cases h
          · cases h
        · split at h
          · rename_i hg
            obtain ⟨g', p', rfl, hg⟩ := isGE_is hg
            obtain ⟨x, hx, rfl⟩ := map_some' h
            subst e0
            intro σ ρ H s A q X E
            exact it_enum hT hg (h2 _ _ hx) (h1 _ _ hx)
          · obtain ⟨x, hx, rfl⟩ := map_some' h
            intro σ ρ H s A q X E
            exact it_val (h1 _ _ hx)
    · rename_i g a b pos e1
      have e0 := asCall_is e1
      split at h
      · rename_i hg
        obtain ⟨g', p', rfl, hg⟩ := isGE_is hg
        obtain ⟨x, y, hx, hy, rfl⟩ := bnd2_some h
        subst e0
        intro σ ρ H s A q X E
        exact it_range2 hT hg (h2 _ _ hx) (h2 _ _ hy) (h1 _ _ hx) (h1 _ _ hy)
      · obtain ⟨x, hx, rfl⟩ := map_some' h
        intro σ ρ H s A q X E
        exact it_val (h1 _ _ hx)
    · obtain ⟨x, hx, rfl⟩ := map_some' h
      intro σ ρ H s A q X E
      exact it_val (h1 _ _ hx)

theorem sub_plain {i : Expr} (h : asSlice i = none) (u w : Value) : subscripted i false u w = operate [u, w] (getItem u w) := by
  cases i <;> first | rfl | cases h

theorem pt_ok {f : Expr → Option PE} (h1 : ∀ e pe, f e = some pe → EvOk C T K env e pe) {o : Option Expr} {pe : PE} (h : trO f o = some pe) : PtOk C T K env o pe := by
  cases o with
  | none => cases h; exact pt_none
  | some e => exact pt_some (h1 _ _ h)

end
end Mine
end
section
namespace Mine
open PySem PySem.Calls PyProof.Rows

section
variable {C : Cx} {T : Tab} {K : Nat}

theorem both {env : Env} {e : Expr} {pe : PE} (he : EvOk C T K env e pe) (hi : ∀ whole, isTrue e env whole = (do let v ← whole; standAt e.pos; holding [v] (truthy v))) (ht : (sem T pe).tt = (Me.ofEv (sem T pe).ev).tt) :
    EvOk C T K env e pe ∧ TtOk C T K env e pe := ⟨he, tt_of_ev hi ht he⟩

theorem ok_const {env : Env} {c : Const} {k : Nat} {pos : Pos} {pe : PE} (h : trConst c = some pe) : EvOk C T K env (.Constant c k pos) pe ∧ TtOk C T K env (.Constant c k pos) pe := by
  cases c with
  | none => cases h; exact both (fun F S hA h hE => Constant_none (here0 (v := .none) S rfl h)) (fun _ => rfl) rfl
  | bool b => cases h; exact both (fun F S hA h hE => Constant_bool (here0 (v := .bool b) S rfl h)) (fun _ => rfl) rfl
  | int i => cases h; exact both (fun F S hA h hE => wpAny_Constant_int (here S (vi _ _) h)) (fun _ => rfl) rfl
  | str x =>
    unfold trConst at h
    dsimp only at h
    split at h
    · rename_i hx
      cases h
      refine both (fun {σ ρ H s A Q X E} F S hA h hE => wpAny_Constant_str (here S (v := .str x.cps.toList) ⟨hx, s.toks, ?_⟩ h)) (fun _ => rfl) rfl
      cases x; simp
    · cases h
  | _ => cases h

theorem ok_nm (hT : TabOk C T K) {env : Env} {x : Str} {pos : Pos} {pe : PE} (h : trName env.kindOf x = some pe) : EvOk C T K env (.Name x pos) pe ∧ TtOk C T K env (.Name x pos) pe := by
  unfold trName at h
  split at h
  · cases h
  · rename_i hd
    have hd : (x == Str.ofString "__debug__") = false := by simpa using hd
    split at h
    · rename_i hx; cases h; exact both (ok_name (.inl hx) hd) (fun _ => rfl) rfl
    · rename_i hx; cases h; exact both (ok_name (.inr hx) hd) (fun _ => rfl) rfl
    · rename_i hx; cases h; exact both (ok_glob hT hx hd) (fun _ => rfl) rfl
    · cases h

theorem ok_callE (hT : TabOk C T K) {env : Env} {f : Expr → Option PE} (h1 : ∀ e pe, f e = some pe → EvOk C T K env e pe) (h2 : ∀ e pe, f e = some pe → isStar e = false) {fn : Expr} {args : List Expr} {kws : List Keyword} {pos : Pos} {pe : PE}
    (h : trCall env.kindOf f fn args kws pos = some pe) : EvOk C T K env (.Call fn args kws pos) pe ∧ TtOk C T K env (.Call fn args kws pos) pe := by
  unfold trCall at h
  split at h
  · split at h
    · rename_i hn
      split at h
      · rename_i o m apos e1
        have := asAttr_is e1
        subst this
        split at h
        · rename_i hc
          obtain ⟨hc1, hc2⟩ := Bool.and_eq_true_iff.mp hc
          obtain ⟨x, y, hx, hy, rfl⟩ := bnd2_some h
          exact both (ok_meth hT (h1 _ _ hx) (el_ok h1 h2 hy) (starEach_one h2 hy) (by simpa using hc1) (by simpa using hn) (by simpa using hc2)) (fun _ => rfl) rfl
        · cases h
      · split at h
        · rename_i hc
          obtain ⟨⟨g, p⟩, e1⟩ := Option.isSome_iff_exists.mp hc
          have := asName_is e1
          subst this
          obtain ⟨x, y, hx, hy, rfl⟩ := bnd2_some h
          exact both (ok_call hT (h1 _ _ hx) (el_ok h1 h2 hy) (starEach_one h2 hy) rfl) (fun _ => rfl) rfl
        · cases h
    · cases h
  · split at h
    · split at h
      · rename_i hc
        obtain ⟨hc1, hc2⟩ := Bool.and_eq_true_iff.mp hc
        obtain ⟨hc0, hc3⟩ := Bool.and_eq_true_iff.mp hc1
        clear hc hc1
        obtain ⟨g, p1, rfl, hc0⟩ := isGE_is hc0
        obtain ⟨y, p2, rfl, hc2⟩ := isGE_is hc2
        obtain ⟨z, hz, rfl⟩ := map_some' h
        exact both (ok_sortLen hT (h1 _ _ hz) (h2 _ _ hz) hc0 (by simpa using hc3) hc2) (fun _ => rfl) rfl
      · cases h
    · cases h
  · cases h

theorem ok_subE (hT : TabOk C T K) {env : Env} {f : Expr → Option PE} (h1 : ∀ e pe, f e = some pe → EvOk C T K env e pe) {o i : Expr} {pos : Pos} {pe : PE} (h : trSub f o i = some pe) : EvOk C T K env (.Subscript o i pos) pe ∧ TtOk C T K env (.Subscript o i pos) pe := by
  unfold trSub at h
  split at h
  · rename_i lo hi p e1
    have := asSlice_is e1
    subst this
    obtain ⟨x, y, z, hx, hy, hz, rfl⟩ := bnd3_some h
    exact both (ok_slice (h1 _ _ hx) (pt_ok h1 hy) (pt_ok h1 hz)) (fun _ => rfl) rfl
  · split at h
    · obtain ⟨x, hx, rfl⟩ := map_some' h
      refine both (fun {σ ρ H s A Q X E} F S hA h hE => ?_) (fun _ => rfl) rfl
      exact Subscript_ (EvOk.bind (h1 _ _ hx) F S hA h hE fun ρ1 H1 v1 u1 s1 st1 F1 S1 hv1 hq1 hE1 => (hT.rvs _ _ _ _ hq1).elim)
    · cases h
  · cases h
  · rename_i e1
    obtain ⟨x, y, hx, hy, rfl⟩ := bnd2_some h
    exact both (ok_sub (h1 _ _ hx) (h1 _ _ hy) (sub_plain e1)) (fun _ => rfl) rfl

/-- what a comprehension that translates is made of -/
structure CompOk (C : Cx) (T : Tab) (K : Nat) (env : Env) (elt : Expr) (gens : List Comprehension) (sc : Scope) (pe : PE) (target iter : Expr) (ifs : List Expr) (t' : Tgt) (pit : PE) (test : XPost → Sg → AHeap → (Bool → AHeap → Prop) → Prop) (el : XPost → Sg → AHeap → VPost → Prop) : Prop where
  hgens : gens = [⟨target, iter, ifs, 0⟩]
  hsc : scOk sc env.kindOf = true
  only : onlyHere sc t' = true
  tgt : trT (inner sc env.kindOf) target = some t'
  fold : ∀ x, foldedSetIterable iter env x = pure x
  hit : ItOk C T K env iter pit
  ts : ∀ X, ∀ cenv : Env, cenv.kindOf = inner sc env.kindOf → TsOk C K cenv ifs (test X)
  hel : ∀ X, ∀ cenv : Env, cenv.kindOf = inner sc env.kindOf → LtOk C K cenv elt (el X)
  hsem : ∀ σ H Q X, (sem T pe).ev σ H Q X → (sem T pit).it σ H (fun items Kp H1 => items.length ≤ lid ∧ compGo Kp (fun x H' => bindA t' x H' σ) (test X) (el X) (fun acc H' => Q (.ref H'.length) (H' ++ [.list acc])) items [] H1) X
  htt : (sem T pe).tt = (Me.ofEv (sem T pe).ev).tt

theorem tr_comp (hT : TabOk C T K) {env : Env} {f f' : Expr → Option PE} {elt : Expr} {gens : List Comprehension} {sc : Scope} {pe : PE} (h1 : ∀ e pe, f e = some pe → EvOk C T K env e pe) (h2 : ∀ e pe, f e = some pe → isStar e = false)
    (h3 : ∀ cenv : Env, cenv.kindOf = inner sc env.kindOf → ∀ e pe, f' e = some pe → EvOk C T K cenv e pe ∧ TtOk C T K cenv e pe) (h : trComp env.kindOf f f' elt gens sc = some pe) : ∃ target iter ifs t' pit test el, CompOk C T K env elt gens sc pe target iter ifs t' pit test el := by
  unfold trComp at h
  split at h
  · split at h
    · rename_i hs
      split at h
      · rename_i t' it' e' ht hit he
        obtain ⟨hit1, hit2⟩ := trI_ok hT h1 h2 hit
        split at h
        · rename_i ho
          split at h
          · cases h
            refine ⟨_, _, _, t', it', fun _ _ H' q => q true H', fun X σ' H' q => (sem T e').ev σ' H' q X, rfl, hs, ho, ht, folded_no hit2, hit1, fun X cenv hc => ?_, fun X cenv hc => ?_, fun σ H Q X h => h, rfl⟩
            · intro σ ρ H s A q E F S hA h
              exact wpAny_tests_nil ⟨ρ, H, StepG.refl _ _, S, h⟩
            · intro σ ρ H s A Q E F S hA h
              exact (h3 cenv hc _ _ he).1 F S hA h fun e s' p => p.none.elim
          · obtain ⟨c', hc', rfl⟩ := map_some' h
            refine ⟨_, _, _, t', it', fun X σ' H' q => (sem T c').tt σ' H' q X, fun X σ' H' q => (sem T e').ev σ' H' q X, rfl, hs, ho, ht, folded_no hit2, hit1, fun X cenv hc => ?_, fun X cenv hc => ?_, fun σ H Q X h => h, rfl⟩
            · intro σ ρ H s A q E F S hA h
              exact wpAny_tests_one ((h3 cenv hc _ _ hc').2 F S hA h fun e s' p => p.none.elim)
            · intro σ ρ H s A Q E F S hA h
              exact (h3 cenv hc _ _ he).1 F S hA h fun e s' p => p.none.elim
          · cases h
        · cases h
      · cases h
    · cases h
  · cases h

theorem ok_cmpE {env : Env} {f : Expr → Option PE} (h1 : ∀ e pe, f e = some pe → EvOk C T K env e pe) {a : Expr} {ops : List CmpOp} {cs : List Expr} {pos : Pos} {pe : PE} (h : trCmp f a ops cs = some pe) : EvOk C T K env (.Compare a ops cs pos) pe ∧ TtOk C T K env (.Compare a ops cs pos) pe := by
  unfold trCmp at h
  split at h
  · split at h
    · cases h
    · rename_i hs
      obtain ⟨x, y, hx, hy, rfl⟩ := bnd2_some h
      exact ok_cmp1 (by simpa using hs) (h1 _ _ hx) (h1 _ _ hy)
  · split at h
    · cases h
    · rename_i hs
      rw [Bool.or_eq_true, not_or] at hs
      obtain ⟨x, y, z, hx, hy, hz, rfl⟩ := bnd3_some h
      exact ok_cmp2 (by simpa using hs.1) (by simpa using hs.2) (h1 _ _ hx) (h1 _ _ hy) (h1 _ _ hz)
  · cases h

theorem tr_ok (hT : TabOk C T K) : ∀ (n : Nat) (k : Kd) (e : Expr) (pe : PE), trE n k e = some pe → ∀ env : Env, env.kindOf = k → EvOk C T K env e pe ∧ TtOk C T K env e pe
  | 0, _, _, _, h, _, _ => by cases h
  | n + 1, k, e, pe, h, env, hk => by
    have ih := tr_ok hT n
    subst hk
    have ih1 : ∀ e pe, trE n env.kindOf e = some pe → EvOk C T K env e pe := fun e pe h => (ih _ e pe h env rfl).1
    have ih2 : ∀ e pe, trE n env.kindOf e = some pe → TtOk C T K env e pe := fun e pe h => (ih _ e pe h env rfl).2
    have st : ∀ e pe, trE n env.kindOf e = some pe → isStar e = false := fun e pe h => tr_star h
    cases e with
    | Name x pos => exact ok_nm hT h
    | Constant c k pos => exact ok_const h
    | BinOp l op r pos =>
      obtain ⟨x, y, hx, hy, rfl⟩ := bnd2_some h
      exact both (ok_bin (ih1 _ _ hx) (ih1 _ _ hy)) (fun _ => rfl) rfl
    | UnaryOp op x pos =>
      have h : trUn (trE n env.kindOf) op x = some pe := h
      cases op with
      | Not => obtain ⟨x, hx, rfl⟩ := map_some' h; exact ok_not (ih1 _ _ hx) (ih2 _ _ hx)
      | USub => obtain ⟨x, hx, rfl⟩ := map_some' h; exact both (ok_neg (ih1 _ _ hx)) (fun _ => rfl) rfl
      | _ => cases h
    | BoolOp op vs pos =>
      have h : (trLs (trE n env.kindOf) vs).bind (trBool op) = some pe := h
      cases hps : trLs (trE n env.kindOf) vs with
      | none => rw [hps] at h; cases h
      | some ps =>
        rw [hps] at h
        obtain ⟨h1, h2⟩ := ok_bool op pos vs ps pe (els_ok (fun e pe h => ih _ e pe h env rfl) hps) h
        exact ⟨fun F S hA h hE => h1 F S hA h hE, fun F S hA h hE => by rw [arm_isTrue_BoolOp]; exact h2 F S hA h hE⟩
    | Compare a ops cs pos => exact ok_cmpE ih1 h
    | IfExp c a b pos =>
      obtain ⟨x, y, z, hx, hy, hz, rfl⟩ := bnd3_some h
      exact ok_ite (ih2 _ _ hx) (ih1 _ _ hy) (ih2 _ _ hy) (ih1 _ _ hz) (ih2 _ _ hz)
    | Call f args kws pos => exact ok_callE hT ih1 st h
    | Attribute o a pos =>
      have h : (if (asCall o).isSome then none else (trE n env.kindOf o).map fun x => PE.attr x a) = some pe := h
      split at h
      · cases h
      · rename_i hc
        obtain ⟨x, hx, rfl⟩ := map_some' h
        exact both (ok_attr (ih1 _ _ hx) (by simpa using hc)) (fun _ => rfl) rfl
    | Subscript o i pos => exact ok_subE hT ih1 h
    | List es pos =>
      obtain ⟨x, hx, rfl⟩ := map_some' (f := .list) h
      exact both (ok_list (el_ok ih1 st hx)) (fun _ => rfl) rfl
    | Tuple es k pos =>
      obtain ⟨x, hx, rfl⟩ := map_some' (f := .tuple) h
      exact both (ok_tuple (el_ok ih1 st hx)) (fun _ => rfl) rfl
    | Dict ks vs pos =>
      have h : (if ks.isEmpty && vs.isEmpty then some PE.dict0 else none) = some pe := h
      split at h
      · rename_i hc
        obtain ⟨h1, h2⟩ := Bool.and_eq_true_iff.mp hc
        have h1 := List.isEmpty_iff.mp h1
        have h2 := List.isEmpty_iff.mp h2
        subst h1 h2
        cases h; exact both ok_dict0 (fun _ => rfl) rfl
      · cases h
    | ListComp elt gens sc pos =>
      obtain ⟨target, iter, ifs, t', pit, test, el, c⟩ := tr_comp hT ih1 st (fun cenv hc e pe h => ih _ e pe h cenv hc) h
      have hg := c.hgens
      subst hg
      exact both (ok_comp c.hsc c.only c.tgt c.fold c.hit c.ts c.hel c.hsem) (fun _ => rfl) c.htt
    | _ => cases h

end
end Mine
end
section
namespace Mine
open PySem PySem.Calls PyProof.Rows

/-! Statements. -/

section
variable (C : Cx) (T : Tab) (K : Nat)

noncomputable def FlR (ρ : List Addr) : Fl → Flow → Prop
  | .next, f => f = .next
  | .brk, f => f = .brk
  | .ret v, f => ∃ u, f = .ret u ∧ VR C ρ v u

noncomputable def PF (env : Env) (ρ : List Addr) (s : Shared) (Q : SPost) : Flow → Shared → Prop := fun f s' => ∃ ρ' H' σ' fl, StepG (own env) ρ s ρ' s' ∧ Sim C ρ' H' s' ∧ FR C env σ' ρ' s'.heap ∧ FlR C ρ' fl f ∧ Q fl σ' H'

abbrev TakesS (env : Env) (ρ : List Addr) (s : Shared) (X : XPost) (E : Value → Shared → Prop) : Prop := ∀ e s', PX C (own env) ρ s X e s' → E e s'

noncomputable def BlOk (env : Env) (b : List Stmt) (ps : PS) : Prop := ∀ {σ : Sg} {ρ : List Addr} {H : AHeap} {s : Shared} {A : Around} {Q : SPost} {X : XPost} {E : Value → Shared → Prop},
  FR C env σ ρ s.heap → Sim C ρ H s → AOk K A → semS T ps σ H Q X → TakesS C env ρ s X E → wpAny C.M A (execs b env) (PF C env ρ s Q) E s
noncomputable def S1Ok (env : Env) (st : Stmt) (ps : PS) : Prop := ∀ {σ : Sg} {ρ : List Addr} {H : AHeap} {s : Shared} {A : Around} {Q : SPost} {X : XPost} {E : Value → Shared → Prop},
  FR C env σ ρ s.heap → Sim C ρ H s → AOk K A → semS T ps σ H Q X → TakesS C env ρ s X E → wpAny C.M A (exec st env) (PF C env ρ s Q) E s
end

section
variable {C : Cx} {T : Tab} {K : Nat} {env : Env}

theorem TakesS.takes {ρ : List Addr} {s : Shared} {X : XPost} {E : Value → Shared → Prop} (h : TakesS C env ρ s X E) : Takes C ρ s X E := fun e s' ⟨ρ', H', c, st, S, x, q⟩ => h e s' ⟨ρ', H', c, st.up, S, x, q⟩
theorem TakesS.on {ρ ρ1 : List Addr} {s s1 : Shared} {X : XPost} {E : Value → Shared → Prop} (h : TakesS C env ρ s X E) (st : StepG (own env) ρ s ρ1 s1) : TakesS C env ρ1 s1 X E := fun e s' p => h e s' (p.trans st)
theorem PF.trans {ρ ρ1 : List Addr} {s s1 s' : Shared} {Q : SPost} {f : Flow} (st : StepG (own env) ρ s ρ1 s1) (h : PF C env ρ1 s1 Q f s') : PF C env ρ s Q f s' :=
  let ⟨ρ', H', σ', fl, a, b, c, d, e⟩ := h; ⟨ρ', H', σ', fl, st.trans a, b, c, d, e⟩

theorem not_swap {v t : Expr} {line : Nat} (hv : isComp v = false) : swapsWith v (some t) line env = pure false := by
  cases v <;> first | rfl | cases hv
theorem not_swap0 {v : Expr} {line : Nat} (hv : isComp v = false) : swapsWith v none line env = pure false := by
  cases v <;> first | rfl | cases hv
theorem not_swap_t {v t : Expr} {line : Nat} (ht : ∀ x p, t ≠ .Name x p) : swapsWith v (some t) line env = pure false := by
  cases v <;> first | rfl | (cases t <;> first | rfl | exact absurd rfl (ht _ _))

theorem bl_nil : BlOk C T K env [] .skip := fun F S hA h hE => wpAny_execs_nil ⟨_, _, _, .next, StepG.refl _ _, S, F, rfl, h⟩

theorem bl_cons {st : Stmt} {r : List Stmt} {p q : PS} (h1 : S1Ok C T K env st p) (h2 : BlOk C T K env r q) : BlOk C T K env (st :: r) (.seq p q) := by
  intro σ ρ H s A Q X E F S hA h hE
  refine wpAny_execs_cons (wpAny_mono (h1 F S hA h hE) (fun f s1 ⟨ρ1, H1, σ1, fl, st1, S1, F1, hf, hq⟩ => ?_) fun _ _ x => x)
  cases fl with
  | next =>
    cases hf
    exact wpAny_mono (h2 F1 S1 hA hq (TakesS.on hE st1)) (fun _ _ p => PF.trans st1 p) fun _ _ x => x
  | brk => cases hf; exact ⟨ρ1, H1, σ1, .brk, st1, S1, F1, rfl, hq⟩
  | ret v => obtain ⟨u, rfl, hv⟩ := hf; exact ⟨ρ1, H1, σ1, .ret v, st1, S1, F1, ⟨u, rfl, hv⟩, hq⟩

theorem s_pass {pos : Pos} : S1Ok C T K env (.Pass pos) .skip := fun F S hA h hE => wpAny_Pass ⟨_, _, _, .next, StepG.refl _ _, S, F, rfl, h⟩
theorem s_break {pos : Pos} : S1Ok C T K env (.Break pos) .brk := fun F S hA h hE => wpAny_Break ⟨_, _, _, .brk, StepG.refl _ _, S, F, rfl, h⟩

theorem s_ret {e : Expr} {pos : Pos} {pe : PE} (he : EvOk C T K env e pe) : S1Ok C T K env (.Return (some e) pos) (.ret pe) := by
  intro σ ρ H s A Q X E F S hA h hE
  exact wpAny_Return_some (he.bind F S hA h (TakesS.takes hE) fun ρ1 H1 v u s1 st F1 S1 hv hq hE1 => ⟨ρ1, H1, σ, .ret v, st.up, S1, F1, ⟨u, rfl, hv⟩, hq⟩)
theorem s_ret0 {pos : Pos} : S1Ok C T K env (.Return none pos) (.ret .none) := fun F S hA h hE => wpAny_Return_none ⟨_, _, _, .ret .none, StepG.refl _ _, S, F, ⟨_, rfl, rfl⟩, h⟩

theorem s_expr {e : Expr} {pos : Pos} {pe : PE} (he : EvOk C T K env e pe) (hc : isComp e = false) : S1Ok C T K env (.Expr e pos) (.expr pe) := by
  intro σ ρ H s A Q X E F S hA h hE
  exact wpAny_Expr_any (he.bind F S hA h (TakesS.takes hE) fun ρ1 H1 v u s1 st F1 S1 hv hq hE1 => ⟨ρ1, H1, σ, .next, st.up, S1, F1, rfl, hq⟩) (by unfold interactive; rw [F.kind]; rfl) (not_swap0 hc)

theorem s_if {c : Expr} {a b : List Stmt} {pos : Pos} {pc : PE} {pa pb : PS} (hc : TtOk C T K env c pc) (ha : BlOk C T K env a pa) (hb : BlOk C T K env b pb) : S1Ok C T K env (.If c a b pos) (.ite pc pa pb) := by
  intro σ ρ H s A Q X E F S hA h hE
  refine wpAny_If (hc.bind F S hA h (TakesS.takes hE) fun ρ1 H1 t s1 st F1 S1 hq hE1 => ?_)
  cases t with
  | true => exact wpAny_mono (ha F1 S1 hA hq (TakesS.on hE st.up)) (fun _ _ p => PF.trans st.up p) fun _ _ x => x
  | false => exact wpAny_mono (hb F1 S1 hA hq (TakesS.on hE st.up)) (fun _ _ p => PF.trans st.up p) fun _ _ x => x

/-! a list's item set -/
theorem mapSeq_plain (f : Array Value → Array Value) (its : Array Value) (n : Nat) : ∃ m, Obj.mapSeq f { cls := .type "list", data := .seq its n } = { cls := .type "list", data := .seq (f its) m } := ⟨_, rfl⟩

theorem set_list {prog : Program} {w : World} {A : Around} {E : Value → Shared → Prop} {s : Shared} {l : Addr} {items : Array Value} {ne : Nat} {k : Int} {t : Tok} {v : Value} {Q : Unit → Shared → Prop} (ho : s.heap.get? l = some ⟨.type "list", none, .seq items ne, #[]⟩)
    (h0 : 0 ≤ k) (hfit : k < 2 ^ 63) (hn : k < items.size)
    (hQ : ∀ h' m, h'.get? l = some ⟨.type "list", none, .seq (items.setIfInBounds k.toNat v) m, #[]⟩ → Heap.SameBut l s.heap h' → Q () { s with heap := h' }) :
    wpAny (model prog w) A (setItem (.ref l) (.int k t) v) Q E s := by
  have hl : s.heap.IsList l items := ⟨_, ho, rfl, ne, rfl⟩
  unfold setItem
  try with_reducible refine wpAny_holding ?_
  first | refine wpAny_bind (wpAny_pure ?_) | skip
  refine wpAny_bind (wpAny_sequenceKey hl.typeIs (by decide) ?_)
  refine wpAny_bind (wpAny_callSpecial?_slot (name := Str.ofString "__setitem__") hl.typeIs slot_list_setitem
    (wpAny_call_entry slot_list_setitem hl.typeIs entry_list_setitem ?_ (args_list_setitem _ _ _)))
  show wpAny _ _ (Builtin.List.listSubscript? (.int k t) >>= _) _ _ s
  refine wpAny_bind (wpAny_listSubscript_int (fitsIndex_of h0 hfit) ?_)
  clear hfit
  obtain ⟨j, rfl⟩ := Int.eq_ofNat_of_zero_le h0
  have hj : j < items.size := by omega
  have hx' : items[j]? = some items[j] := Array.getElem?_eq_getElem hj
  show wpAny _ _ ((seqItemAt l j >>= fun r => pure (r.map (j, ·))) >>= _) _ _ s
  refine wpAny_bind (wpAny_bind (wpAny_seqItemAt ho rfl (wpAny_pure ?_)))
  rw [hx']
  show wpAny _ _ (setSeqItemAt l j v >>= _) _ _ s
  obtain ⟨m, hm⟩ := mapSeq_plain (·.setIfInBounds j v) items ne
  have hfin := Heap.get?_update_self (Obj.mapSeq (·.setIfInBounds j v)) ho (by rw [hm]; rfl)
  rw [hm] at hfin
  refine wpAny_bind (wpAny_setSeqItemAt ho rfl ?_)
  first
    | exact wpAny_bind (wpAny_pure (wpAny_pure ⟨.none, rfl, wpAny_pure (hQ _ m hfin (Heap.SameBut.update ..))⟩))
    | exact wpAny_pure ⟨.none, rfl, wpAny_pure (hQ _ m hfin (Heap.SameBut.update ..))⟩

theorem set_ok {o i v : V} {ou iu vu : Value} {H : AHeap} {q : AHeap → Prop} {ρ : List Addr} {s : Shared} {A : Around} {E : Value → Shared → Prop} (h : setItemA o i v H q) (S : Sim C ρ H s) (ho : VR C ρ o ou) (hi : VR C ρ i iu) (hv : VR C ρ v vu) :
    wpAny C.M A (setItem ou iu vu) (fun _ s' => ∃ H', Step ρ s ρ s' ∧ Sim C ρ H' s' ∧ q H') E s := by
  unfold setItemA at h
  split at h
  · rename_i n
    obtain ⟨hn, h⟩ := h
    split at h
    · rename_i xs k e1
      obtain ⟨h0, hk, hq⟩ := h
      obtain ⟨a, rfl, ea, us, m, hob, hs, hlen⟩ := S.lookup e1 ho
      obtain ⟨t, rfl⟩ := hi
      have hz : xs.length = us.size := by rw [hs.length]; simp
      refine set_list hob h0 (by unfold lid at hlen; omega) (by omega) fun h' m' hob' hsb => ?_
      obtain ⟨S1, st1⟩ := S.change (h' := h') (tk := s.toks) (o := .list (xs.set k.toNat v)) hn ea (fun b x hb e => hsb.extBut b x hb e) ⟨_, m', hob', by rw [Array.toList_setIfInBounds]; exact hs.set hv _, by simpa using hlen⟩
      exact ⟨_, st1, S1, hq⟩
    · exact h.elim
  · exact h.elim

theorem s_setItem {o i e : Expr} {p pos : Pos} {po pi pe : PE} (ho : EvOk C T K env o po) (hi : EvOk C T K env i pi) (he : EvOk C T K env e pe) : S1Ok C T K env (.Assign [.Subscript o i p] e pos) (.setItem po pi pe) := by
  intro σ ρ H s A Q X E F S hA h hE
  refine wpAny_Assign_Subscript (he.bind F S hA h (TakesS.takes hE) fun ρ1 H1 v1 u1 s1 st1 F1 S1 hv1 hq1 hE1 => ho.bind F1 S1 hA hq1 hE1 fun ρ2 H2 v2 u2 s2 st2 F2 S2 hv2 hq2 hE2 => hi.bind F2 S2 hA hq2 hE2 fun ρ3 H3 v3 u3 s3 st3 F3 S3 hv3 hq3 hE3 => ?_) (not_swap_t fun _ _ q => by cases q)
  refine wpAny_mono (set_ok hq3 S3 (st3.vr hv2) hv3 (st3.vr (st2.vr hv1))) (fun _ s' ⟨H', st4, S4, hq4⟩ => ?_) fun _ _ x => x
  exact ⟨ρ3, H', σ, .next, (((st1.trans st2).trans st3).trans st4).up, S4, F3.step st4, rfl, hq4⟩

theorem s_setAttr {o e : Expr} {a : Str} {p pos : Pos} {po pe : PE} (ho : EvOk C T K env o po) (he : EvOk C T K env e pe) : S1Ok C T K env (.Assign [.Attribute o a p] e pos) (.setAttr po a pe) := by
  intro σ ρ H s A Q X E F S hA h hE
  rw [exec_Assign]
  refine wpAny_bind (wpAny_standAt ?_)
  have e1 : swapsWithSole [.Attribute o a p] e pos.line env = pure false := by
    unfold swapsWithSole
    exact not_swap_t (t := .Attribute o a p) fun _ _ q => nomatch q
  rw [e1]
  refine wpAny_bind (wpAny_pure ?_)
  rw [if_neg (by decide)]
  refine wpAny_bind (he.bind F S hA h (TakesS.takes hE) fun ρ1 H1 v1 u1 s1 st1 F1 S1 hv1 hq1 hE1 => ?_)
  have e2 : swappedStores [.Attribute o a p] e env = pure none := by cases e <;> rfl
  rw [e2]
  refine wpAny_bind (wpAny_pure ?_)
  show wpAny C.M A (do assignAll u1 [assign (.Attribute o a p) env]; pure Flow.next) _ E s1
  refine wpAny_bind ?_
  show wpAny C.M A (assign (.Attribute o a p) env u1) _ E s1
  rw [arm_assign_Attribute]
  refine wpAny_bind (wpAny_holding (ho.bind F1 S1 hA hq1 hE1 fun ρ2 H2 v2 u2 s2 st2 F2 S2 hv2 hq2 hE2 => ?_))
  exfalso
  unfold setAttrA at hq2
  split at hq2
  · rename_i n
    split at hq2
    · rename_i c d e3
      obtain ⟨a, _, _, ho⟩ := S2.lookup e3 hv2
      exact ho
    · exact hq2
  · exact hq2
end
end Mine
end
section
namespace Mine
open PySem PySem.Calls PyProof.Rows

/-! Assignments to names. -/

section
variable {C : Cx} {T : Tab} {K : Nat} {env : Env}

theorem ownT_step {Z : List Str} {ρ ρ1 : List Addr} {s s1 : Shared} (st : StepG (ownT env Z) ρ s ρ1 s1) : StepG (own env) ρ s ρ1 s1 := st.mono ownT.own

theorem s_assign_plain {x : Str} {p pos : Pos} {v : Expr} {pv : PE} (hx : stored env.kindOf x = true) (hv : EvOk C T K env v pv) (hs : swapsWith v (some (.Name x p)) pos.line env = pure false) : S1Ok C T K env (.Assign [.Name x p] v pos) (.assign (.name x) pv) := by
  intro σ ρ H s A Q X E F S hA h hE
  refine wpAny_Assign_Name (hv.bind F S hA h (TakesS.takes hE) fun ρ1 H1 v1 u1 s1 st1 F1 S1 hv1 hq1 hE1 => ?_) hs
  refine store_ok (Z := [x]) F1 S1 (.head _) (stored_iff hx) (stored_ne hx) hv1 fun s2 F2 S2 st2 => ?_
  exact ⟨ρ1, H1, _, .next, (StepG.up st1).trans (ownT_step st2), S2, F2, rfl, hq1⟩

theorem s_assign_name (hT : TabOk C T K) {x : Str} {p pos : Pos} {v : Expr} {pv : PE} {n : Nat} (hx : stored env.kindOf x = true) (h : trE n env.kindOf v = some pv) : S1Ok C T K env (.Assign [.Name x p] v pos) (.assign (.name x) pv) := by
  have hv : EvOk C T K env v pv := (tr_ok hT n _ v pv h env rfl).1
  cases hc : isComp v with
  | true =>
    cases v <;> first | (cases hc; done) | skip
    · rename_i elt gens sc cpos
      cases n with
      | zero => cases h
      | succ n =>
      obtain ⟨b, hb⟩ : ∃ b, swapsWith (.ListComp elt gens sc cpos) (some (.Name x p)) pos.line env = pure b := ⟨_, rfl⟩
      cases b with
      | false => intro σ ρ H s A Q X E; exact s_assign_plain hx hv hb
      | true =>
        obtain ⟨target, iter, ifs, t', pit, test, el, cc⟩ := tr_comp hT (fun e pe h => (tr_ok hT n _ e pe h env rfl).1) (fun e pe h => tr_star h) (fun cenv hc e pe h => tr_ok hT n _ e pe h cenv hc) h
        obtain ⟨rfl, hs, ho, htr, hf, hit, hts, hel, hsem, _⟩ := cc
        intro σ ρ H s A Q X E F S hA h hE
        rw [exec_Assign_Name_used _ _ _ _ hb]
        refine wpAny_bind (wpAny_standAt (wpAny_bind ?_))
        show wpAny _ A (do let _ ← comprehension (.ListComp elt [⟨target, iter, ifs, 0⟩] sc cpos) sc env _ (newList []) false (eval iter env) (some (assign (.Name x p) env))) _ _ s
        refine wpAny_bind (wpAny_mono (Q := fun _ s' => PF C env ρ s Q .next s') ?_ (fun _ s' hq => wpAny_pure (wpAny_pure hq)) fun _ _ e => e)
        refine comp_any (use := some (assign (.Name x p) env)) hA F S (TakesS.takes hE) hs ho htr hf hit (hts X) (hel X) (hsem σ H _ X h) ?_
        intro D Cc t m _ hm hn ρ1 H1 v st1 S1 v1 hq hC
        show wpAny _ A (assign (.Name x p) env (.ref D)) _ _ _
        refine assign_Name (store_ok (Z := [x]) (F.step st1) S1 (.head _) (stored_iff hx) (stored_ne hx) v1 fun s2 F2 S2 st2 => ?_)
        have hown : ¬ own env Cc := fun q => by obtain ⟨o, e⟩ := F.alive _ q; rw [hn] at e; cases e
        obtain ⟨ob, es, ep, eC, _⟩ := id hm
        refine ⟨m, hm.at' fun o e => st2.keep _ o hC (fun q => hown (ownT.own _ q)) e, fun h' hsb => ?_⟩
        obtain ⟨st3, S3⟩ := adrift (W := fun b => b = Cc) (h' := h') (tk := s2.toks) ((StepG.up st1).trans (ownT_step st2)) S2 (fun b hb => by subst hb; exact ⟨hn, hC, base_none S hn⟩) fun b o hb e => hsb.extBut b o hb e
        exact ⟨ρ1, H1, _, .next, st3, S3, F2.at fun b hb o e => hsb.extBut b o (fun q => hown (q ▸ hb)) e, rfl, hq⟩
    · cases n <;> cases h
    · cases n <;> cases h
  | false => intro σ ρ H s A Q X E; exact s_assign_plain hx hv (not_swap hc)

/-! tuples -/
theorem sets_cons_ne : ∀ (ps : List (Str × V)) (σ : Sg) (x : Str) (v : V), x ∉ ps.map (·.1) → (σ.set x v).sets ps = (σ.sets ps).set x v
  | [], _, _, _, _ => rfl
  | (y, w) :: r, σ, x, v, h => by
    have hxy : x ≠ y := fun q => h (by rw [q, List.map_cons]; exact .head _)
    have h' : x ∉ r.map (·.1) := fun q => h (by rw [List.map_cons]; exact .tail _ q)
    unfold Sg.sets
    have : (σ.set x v).set y w = (σ.set y w).set x v := by
      funext z
      unfold Sg.set
      by_cases z1 : z = x <;> by_cases z2 : z = y
      · exact absurd (z1.symm.trans z2) hxy
      · simp [z1, hxy]
      · simp [z2, Ne.symm hxy]
      · simp [z1, z2]
    rw [this, sets_cons_ne r _ x v h']

theorem sets_append : ∀ (ps qs : List (Str × V)) (σ : Sg), σ.sets (ps ++ qs) = (σ.sets ps).sets qs
  | [], _, _ => rfl
  | (y, w) :: r, qs, σ => by
    show (σ.set y w).sets (r ++ qs) = ((σ.set y w).sets r).sets qs
    exact sets_append r qs _

theorem sets_reverse : ∀ (ps : List (Str × V)) (σ : Sg), (ps.map (·.1)).Nodup → σ.sets ps.reverse = σ.sets ps
  | [], _, _ => rfl
  | (y, w) :: r, σ, h => by
    rw [List.map_cons, List.nodup_cons] at h
    rw [List.reverse_cons, sets_append, sets_reverse r σ h.2]
    show (σ.sets r).set y w = (σ.set y w).sets r
    rw [sets_cons_ne r σ y w h.1]

theorem stores_list {A : Around} {E : Value → Shared → Prop} {Z : List Str} : ∀ (xs : List Str) (vs : List V) (us : List Value) (σ : Sg) (ρ : List Addr) (H : AHeap) (s : Shared) (Q : Unit → Shared → Prop),
    xs.length = vs.length → All2 (VR C ρ) vs us → (∀ x ∈ xs, x ∈ Z) → (∀ x ∈ xs, stored env.kindOf x = true) → FR C env σ ρ s.heap → Sim C ρ H s →
    (∀ s', FR C env (σ.sets (xs.zip vs)) ρ s'.heap → Sim C ρ H s' → StepG (ownT env Z) ρ s ρ s' → Q () s') → wpAny C.M A (assignInOrder (xs.map fun x => bindName env x) us) Q E s
  | [], [], _, σ, ρ, H, s, Q, _, .nil, _, _, F, S, h => wpAny_pure (h s F S (StepG.refl _ _))
  | x :: xs, v :: vs, _, σ, ρ, H, s, Q, hl, .cons (b := u) (bs := us) hv hr, hz, hk, F, S, h => by
    rw [List.map_cons, assignInOrder]
    refine wpAny_bind (wpAny_holding (bindName_ (store_ok F S (hz x (.head _)) (stored_iff (hk x (.head _))) (stored_ne (hk x (.head _))) hv fun s1 F1 S1 st1 => ?_)))
    refine stores_list xs vs us _ ρ H s1 Q (by simpa using hl) hr (fun y hy => hz y (.tail _ hy)) (fun y hy => hk y (.tail _ hy)) F1 S1 fun s2 F2 S2 st2 => h s2 F2 S2 (st1.trans st2)
  | [], _ :: _, _, _, _, _, _, _, hl, _, _, _, _, _, _ => by simp at hl
  | _ :: _, [], _, _, _, _, _, _, hl, _, _, _, _, _, _ => by simp at hl

theorem tgt_filter {p : Str → Pos → Bool} : ∀ {ts : List Expr} {xs : List Str}, tgtNames ts = some xs → (ts.filterMap fun | .Name id pos => if p id pos then some id else none | _ => none).length = ts.length → (ts.filterMap fun | .Name id pos => if p id pos then some id else none | _ => none) = xs
  | [], _, h, _ => by cases h; rfl
  | e :: r, xs, h, hl => by
    cases e with
    | Name x q =>
      unfold tgtNames at h
      cases hr : tgtNames r with
      | none => rw [hr] at h; cases h
      | some ys =>
        rw [hr] at h; cases h
        rw [List.filterMap_cons] at hl ⊢
        dsimp only at hl ⊢
        by_cases hp : p x q = true
        · rw [if_pos hp] at hl ⊢
          dsimp only at hl ⊢
          rw [tgt_filter hr (by simpa using hl)]
        · rw [if_neg hp] at hl
          dsimp only at hl
          have := List.length_filterMap_le (fun | .Name id pos => if p id pos then some id else none | _ => none) r
          rw [hl] at this
          simp at this
          omega
    | _ => cases h

theorem swapped_one {ts : List Expr} {k : Nat} {tp : Pos} {v : Expr} {xs : List Str} (hx : tgtNames ts = some xs) (hv : oneTup v = false) : swappedStores [.Tuple ts k tp] v env = pure none ∨ swappedStores [.Tuple ts k tp] v env = pure (some xs) := by
  cases v <;> first | exact .inl rfl | skip
  rename_i vs k' vp
  unfold swappedStores
  dsimp only
  split
  · exact .inl rfl
  · split
    · exact .inl rfl
    · split
      · exact .inl rfl
      · rename_i hn
        split
        · exact .inl rfl
        · have : (vs.all (constantsAlone 8)) = false := hv
          rw [this]
          right
          rw [if_neg (by simp)]
          rw [Bool.or_eq_true, not_or] at hn
          have hn1 := hn.1
          simp only [bne_iff_ne, ne_eq, Decidable.not_not] at hn1
          exact congrArg (fun l => (pure (some l) : Sem (Option (List Str)))) (tgt_filter (p := fun id pos => env.kindOf id == some .local && pos.line == (Option.map (fun x => x.pos.line) ts.head?).getD 0) hx hn1)

theorem All2.rev {α β : Type} {R : α → β → Prop} {as : List α} {bs : List β} (h : All2 R as bs) : All2 R as.reverse bs.reverse := h.reverse

theorem s_assign_tup {ts : List Expr} {k : Nat} {tp pos : Pos} {v : Expr} {pv : PE} {t' : Tgt} (ht : trT env.kindOf (.Tuple ts k tp) = some t') (hv : EvOk C T K env v pv) (hc : isComp v = false) (ho : oneTup v = false) : S1Ok C T K env (.Assign [.Tuple ts k tp] v pos) (.assign t' pv) := by
  intro σ ρ H s A Q X E F S hA h hE
  have hs : swapsWithSole [.Tuple ts k tp] v pos.line env = pure false := by
    unfold swapsWithSole
    exact not_swap_t (t := .Tuple ts k tp) fun _ _ q => nomatch q
  have ht0 := ht
  unfold trT at ht
  dsimp only at ht
  split at ht
  · rename_i xs hxs
    split at ht
    · rename_i hk
      cases ht
      obtain ⟨hk1, hk2⟩ := Bool.and_eq_true_iff.mp hk
      have hk1 : ∀ x ∈ xs, stored env.kindOf x = true := List.all_eq_true.mp hk1
      have hk2 : xs.Nodup := by simpa using hk2
      rcases swapped_one (env := env) (k := k) (tp := tp) hxs ho with hw | hw
      · refine Assign_Tuple (hv.bind F S hA h (TakesS.takes hE) fun ρ1 H1 v1 u1 s1 st1 F1 S1 hv1 hq1 hE1 => ?_) hs hw
        split at hq1
        · rename_i σ' hb
          refine assign_ok (x := .one v1) (h0 := s1.heap) hA.h ht0 hb hv1 F1 S1 fun s2 F2 S2 st2 => ?_
          exact ⟨ρ1, H1, σ', .next, (StepG.up st1).trans (ownT_step st2), S2, F2, rfl, hq1⟩
        · exact hq1.elim
      · refine Assign_Tuple_swapped (names := xs) (hv.bind F S hA h (TakesS.takes hE) fun ρ1 H1 v1 u1 s1 st1 F1 S1 hv1 hq1 hE1 => ?_) hs hw
        split at hq1
        · rename_i σ' hb
          unfold bindA at hb
          cases v1 with
          | ref n =>
            dsimp only at hb
            split at hb
            · rename_i vs e1
              split at hb
              · rename_i hl
                cases hb
                obtain ⟨a, rfl, ea, us, m, hob, hs', _⟩ := S1.lookup e1 hv1
                have hz : xs.length = us.size := by rw [hl, hs'.length]; simp
                refine unpack_tuple hA.h S1 hob hz fun h' hk' => ?_
                obtain ⟨S2, st2⟩ := S1.grow (h' := h') (tk := s1.toks) hk'
                refine stores_list (Z := xs) xs.reverse vs.reverse us.toList.reverse σ ρ1 H1 _ _ (by simpa using hl) hs'.reverse (fun x hx => by simpa using hx) (fun x hx => hk1 x (by simpa using hx)) (F1.step st2) S2 fun s3 F3 S3 st3 => ?_
                have e4 : xs.reverse.zip vs.reverse = (xs.zip vs).reverse := by
                  unfold List.zip; exact (List.reverse_zipWith hl).symm
                rw [e4, sets_reverse _ _ (by rw [map_fst_zip hl]; exact hk2)] at F3
                exact ⟨ρ1, H1, _, .next, ((StepG.up st1).trans (StepG.up st2)).trans (ownT_step st3), S3, F3, rfl, hq1⟩
              · cases hb
            · cases hb
          | _ => cases hb
        · exact hq1.elim
    · cases ht
  · cases ht

end
end Mine
end
section
namespace Mine
open PySem PySem.Calls PyProof.Rows

/-! Loops, and every block that translates. -/

section
variable {C : Cx} {T : Tab} {K : Nat} {env : Env}

theorem s_for {t it : Expr} {body : List Stmt} {pos : Pos} {t' : Tgt} {pit : PE} {pb : PS} (ht : trT env.kindOf t = some t') (hit : ItOk C T K env it pit) (hf : ∀ x, foldedSetIterable it env x = pure x) (hb : BlOk C T K env body pb) :
    S1Ok C T K env (.For t it body [] pos) (.for_ t' pit pb) := by
  intro σ ρ H s A Q X E F S hA h hE
  refine wpAny_For ?_ hf
  refine wpAny_mono (hit F S hA h (TakesS.takes hE)) (fun xv s₁ h₁ => wpAny_mono h₁ (fun itv s₂ h₂ => ?_) fun _ _ e => e) fun _ _ e => e
  obtain ⟨ρ0, H0, items, Kp, I, wr, St, rfl, hI, hst, st0, S0, hw, hgo⟩ := h₂
  have hwown : ∀ b ∈ wr, ¬ own env b := fun b hb e => by
    obtain ⟨o, e1⟩ := F.alive b e
    rw [(hw b hb).1] at e1; cases e1
  have hW : ∀ ρ1 : List Addr, (∀ b ∈ wr, b ∉ ρ1) → ∀ b, b ∈ wr → s.heap.get? b = none ∧ b ∉ ρ1 ∧ C.base.get? b = none := fun ρ1 x1 b hb => ⟨(hw b hb).1, x1 b hb, base_none S (hw b hb).1⟩
  let Inv : Nat → Shared → Prop := fun n t => ∃ i σ1 ρ1 H1, i + n = items.length ∧ St i t.heap ∧ StepG (own env) ρ s ρ1 t ∧ (∃ l, ρ1 = ρ0 ++ l) ∧ Sim C ρ1 H1 t ∧ (∀ b ∈ wr, b ∉ ρ1) ∧
    FR C env σ1 ρ1 t.heap ∧ forGo Kp (fun x H' σ' => bindA t' x H' σ') (fun σ' H' q => semS T pb σ' H' q X) Q (items.drop i) σ1 H1
  refine codeAny_forLoop_any Inv (fun n tt hInv => ?_) items.length ⟨0, σ, ρ0, H0, by simp, hst, StepG.up st0, ⟨[], by simp⟩, S0, fun b hb => (hw b hb).2, F.step st0, by simpa using hgo⟩
  obtain ⟨i, σ1, ρ1, H1, hin, hSt, st1, hl1, S1, hw1, F1, hg⟩ := hInv
  cases n with
  | zero =>
    have hi : i = items.length := by omega
    subst hi
    rw [List.drop_length] at hg
    obtain ⟨hK, hq⟩ := hg
    refine wpAny_mono (hI.done ρ1 H1 tt _ hSt S1 hl1 hK hw1) (fun r s1 hr => ?_) fun _ _ x => x
    obtain ⟨rfl, h', tk, rfl, hk⟩ := hr
    refine wpAny_execs_nil ?_
    obtain ⟨st4, S4⟩ := adrift (W := fun b => b ∈ wr) (h' := h') (tk := tk) st1 S1 (hW ρ1 hw1) (fun b o hb e => hk b o hb e)
    exact ⟨ρ1, H1, σ1, .next, st4, S4, F1.at fun b hb o e => hk b o (fun q => hwown b q hb) e, rfl, hq⟩
  | succ n =>
    have hi : i < items.length := by omega
    rw [List.drop_eq_getElem_cons hi] at hg
    obtain ⟨hK, hg⟩ := hg
    dsimp only at hg
    split at hg
    · rename_i σ' hb'
      refine wpAny_mono (hI.next i items[i] t ρ1 H1 tt _ (List.getElem?_eq_getElem hi) (fits ht hb') hSt S1 hl1 hK hw1) (fun r s1 hr => ?_) fun _ _ x => x
      obtain ⟨u, rfl, hu⟩ := hr
      refine wpAny_mono hu (fun _ s1' hs1 => ?_) fun _ _ x => x
      obtain ⟨h', tk, rfl, hIR, hSt', hk⟩ := hs1
      obtain ⟨st4, S4⟩ := adrift (W := fun b => b ∈ wr) (h' := h') (tk := tk) st1 S1 (hW ρ1 hw1) (fun b o hb e => hk b o hb e)
      have F4 : FR C env σ1 ρ1 h' := F1.at fun b hb o e => hk b o (fun q => hwown b q hb) e
      refine assign_ok hA.h ht hb' hIR F4 S4 fun s5 F5 S5 st5 => ?_
      have st5' := ownT_step st5
      have hSt5 : St (i + 1) s5.heap := hI.frame _ _ _ hSt' fun b hb o e => st5'.keep b o (hw1 b hb) (hwown b hb) e
      refine wpAny_mono (hb F5 S5 hA hg fun e s' p => p.none.elim) (fun f s6 h6 => ?_) fun _ _ x => x
      obtain ⟨ρ2, H2, σ2, fl, st6, S6, F6, hf6, hq6⟩ := h6
      have st46 := (st4.trans st5').trans st6
      cases fl with
      | next =>
        cases hf6
        refine ⟨n, Nat.lt_succ_self n, i + 1, σ2, ρ2, H2, by omega, hI.frame _ _ _ hSt5 fun b hb o e => st6.keep b o (hw1 b hb) (hwown b hb) e, st46, ?_, S6, fun b hb => ?_, F6, hq6⟩
        · obtain ⟨l, e⟩ := hl1
          obtain ⟨l', e', _⟩ := st6.ext
          exact ⟨l ++ l', by rw [e', e, List.append_assoc]⟩
        · obtain ⟨o, e⟩ := hI.alive _ _ hSt5 b hb
          exact stay_out st6 e (hw1 b hb)
      | brk =>
        cases hf6
        exact ⟨ρ2, H2, σ2, .next, st46, S6, F6, rfl, hq6⟩
      | ret v =>
        obtain ⟨u, rfl, hv⟩ := hf6
        exact ⟨ρ2, H2, σ2, .ret v, st46, S6, F6, ⟨u, rfl, hv⟩, hq6⟩
    · exact hg.elim

theorem s_while {c : Expr} {body : List Stmt} {pos : Pos} {pc : PE} {pb : PS} (hc : TtOk C T K env c pc) (hb : BlOk C T K env body pb) : S1Ok C T K env (.While c body [] pos) (.while_ pc pb) := by
  intro σ ρ H s A Q X E F S hA h hE
  obtain ⟨N, h⟩ := h
  refine wpAny_While ?_
  let Inv : Nat → Shared → Prop := fun n t => ∃ σ1 ρ1 H1, StepG (own env) ρ s ρ1 t ∧ Sim C ρ1 H1 t ∧ FR C env σ1 ρ1 t.heap ∧ whileGo (fun σ' H' q => (sem T pc).tt σ' H' q X) (fun σ' H' q => semS T pb σ' H' q X) Q n σ1 H1
  refine codeAny_whileLoop Inv (fun n tt hInv => ?_) N ⟨σ, ρ, H, StepG.refl _ _, S, F, h⟩
  obtain ⟨σ1, ρ1, H1, st1, S1, F1, hg⟩ := hInv
  cases n with
  | zero => exact hg.elim
  | succ n =>
    refine hc.bind F1 S1 hA hg (fun e s' p => p.none.elim) fun ρ2 H2 b s2 st2 F2 S2 hq hE2 => ?_
    cases b with
    | false =>
      rw [if_neg (by simp)]
      exact wpAny_execs_nil ⟨ρ2, H2, σ1, .next, st1.trans (StepG.up st2), S2, F2, rfl, hq⟩
    | true =>
      rw [if_pos rfl] at hq
      rw [if_pos rfl]
      refine wpAny_mono (hb F2 S2 hA hq fun e s' p => p.none.elim) (fun f s6 h6 => ?_) fun _ _ x => x
      obtain ⟨ρ3, H3, σ3, fl, st6, S6, F6, hf6, hq6⟩ := h6
      have st46 := (st1.trans (StepG.up st2)).trans st6
      cases fl with
      | next =>
        cases hf6
        exact ⟨n, Nat.lt_succ_self n, σ3, ρ3, H3, st46, S6, F6, hq6⟩
      | brk =>
        cases hf6
        exact ⟨ρ3, H3, σ3, .next, st46, S6, F6, rfl, hq6⟩
      | ret v =>
        obtain ⟨u, rfl, hv⟩ := hf6
        exact ⟨ρ3, H3, σ3, .ret v, st46, S6, F6, ⟨u, rfl, hv⟩, hq6⟩

theorem map_some_s {α β : Type} {a : Option α} {f : α → β} {r : β} (h : a.map f = some r) : ∃ x, a = some x ∧ r = f x := by
  cases a with
  | none => cases h
  | some x => cases h; exact ⟨x, rfl, rfl⟩

theorem trT_shape {k : Kd} {t : Expr} {t' : Tgt} (h : trT k t = some t') : (∃ x p, t = .Name x p ∧ t' = .name x ∧ stored k x = true) ∨ ∃ ts n p xs, t = .Tuple ts n p ∧ t' = .tup xs := by
  cases t <;> first | (cases h; done) | skip
  · unfold trT at h
    dsimp only at h
    split at h
    · rename_i hx; cases h; exact .inl ⟨_, _, rfl, rfl, hx⟩
    · cases h
  · unfold trT at h
    dsimp only at h
    split at h
    · split at h
      · cases h; exact .inr ⟨_, _, _, _, rfl, rfl⟩
      · cases h
    · cases h

theorem assign_tr (hT : TabOk C T K) {n : Nat} {ts : List Expr} {v : Expr} {pos : Pos} {ps : PS} (h : trAssign env.kindOf (trE n env.kindOf) ts v = some ps) : S1Ok C T K env (.Assign ts v pos) ps := by
  have ev : ∀ e pe, trE n env.kindOf e = some pe → EvOk C T K env e pe := fun e pe h => (tr_ok hT n _ e pe h env rfl).1
  unfold trAssign at h
  split at h
  · rename_i t
    split at h
    · rename_i o i p e1
      have := asSub_is e1
      subst this
      split at h
      · cases h
      · split at h
        · rename_i a b c ha hb hc
          cases h
          intro σ ρ H s A Q X E
          exact s_setItem (ev _ _ hb) (ev _ _ hc) (ev _ _ ha)
        · cases h
    · split at h
      · rename_i o a p e1
        have := asAttr_is e1
        subst this
        split at h
        · cases h
        · split at h
          · rename_i x y hx hy
            cases h
            intro σ ρ H s A Q X E
            exact s_setAttr (ev _ _ hy) (ev _ _ hx)
          · cases h
      · split at h
        · rename_i xs v' ht hv
          split at h
          · cases h
          · rename_i hcv
            cases h
            rcases trT_shape ht with ⟨x, p, rfl, e, _⟩ | ⟨ts, m, p, ys, rfl, e⟩
            · cases e
            · rw [Bool.or_eq_true, not_or] at hcv
              intro σ ρ H s A Q X E
              exact s_assign_tup ht (ev _ _ hv) (by simpa using hcv.1) (by simpa using hcv.2)
        · rename_i x v' ht hv
          cases h
          rcases trT_shape ht with ⟨y, p, rfl, e, hx⟩ | ⟨ts, m, p, ys, rfl, e⟩
          · cases e
            intro σ ρ H s A Q X E
            exact s_assign_name hT hx hv
          · cases e
        · cases h
  · cases h

theorem one_tr (hT : TabOk C T K) {n : Nat} {b : List Stmt → Option PS} (hb : ∀ x ps, b x = some ps → BlOk C T K env x ps) {st : Stmt} {ps : PS} (h : tr1 env.kindOf (trE n env.kindOf) b st = some ps) : S1Ok C T K env st ps := by
  have ev : ∀ e pe, trE n env.kindOf e = some pe → EvOk C T K env e pe := fun e pe h => (tr_ok hT n _ e pe h env rfl).1
  have et : ∀ e pe, trE n env.kindOf e = some pe → TtOk C T K env e pe := fun e pe h => (tr_ok hT n _ e pe h env rfl).2
  unfold tr1 at h
  split at h
  · intro σ ρ H s A Q X E
    exact assign_tr hT h
  · split at h
    · cases h
    · rename_i hc
      obtain ⟨x, hx, rfl⟩ := map_some_s h
      intro σ ρ H s A Q X E
      exact s_expr (ev _ _ hx) (by simpa using hc)
  · split at h
    · rename_i c a d hc ha hd
      cases h
      intro σ ρ H s A Q X E
      exact s_if (et _ _ hc) (hb _ _ ha) (hb _ _ hd)
    · cases h
  · split at h
    · rename_i hels
      have := List.isEmpty_iff.mp hels
      subst this
      split at h
      · rename_i t' i' b' ht hi hbb
        cases h
        obtain ⟨h1, h2⟩ := trI_ok hT ev (fun e pe h => tr_star h) hi
        intro σ ρ H s A Q X E
        exact s_for ht h1 (folded_no h2) (hb _ _ hbb)
      · cases h
    · cases h
  · split at h
    · rename_i hels
      have := List.isEmpty_iff.mp hels
      subst this
      split at h
      · rename_i c b' hc hbb
        cases h
        intro σ ρ H s A Q X E
        exact s_while (et _ _ hc) (hb _ _ hbb)
      · cases h
    · cases h
  · split at h
    · obtain ⟨x, hx, rfl⟩ := map_some_s h
      intro σ ρ H s A Q X E
      exact s_ret (ev _ _ hx)
    · cases h
      intro σ ρ H s A Q X E
      exact s_ret0
  · intro σ ρ H s A Q X E F S hA hh hE
    unfold trRaise at h
    split at h
    · split at h
      · split at h
        · split at h
          · obtain ⟨x, hx, rfl⟩ := map_some_s h
            exact hh.elim
          · cases h
        · cases h
      · cases h
    · cases h
  · cases h
    intro σ ρ H s A Q X E
    exact s_break
  · cases h
    intro σ ρ H s A Q X E
    exact s_pass
  · cases h

theorem trS_ok (hT : TabOk C T K) : ∀ (n : Nat) (b : List Stmt) (ps : PS), trS n env.kindOf b = some ps → BlOk C T K env b ps
  | 0, _, _, h => by cases h
  | _ + 1, [], _, h => by cases h; exact bl_nil
  | n + 1, st :: rest, ps, h => by
    unfold trS at h
    split at h
    · rename_i one r ho hr
      cases h
      exact bl_cons (one_tr hT (fun x ps h => trS_ok hT n x ps h) ho) (trS_ok hT n rest r hr)
    · cases h

end
end Mine
end
section
namespace Mine
open PySem PySem.Calls PyProof.Rows

/-! The program's own functions. -/

noncomputable def sgOf (xs : List Str) (vs : List V) : Sg := Sg.sets (fun _ => none) (xs.zip vs)

/-- what a function of the program does -/
noncomputable def fnSpec (T : Tab) (xs : List Str) (ps : PS) : Spec := fun vs H Q X => xs.length = vs.length ∧ semS T ps (sgOf xs vs) H (fun fl _ H' => match fl with
  | .ret v => Q v H'
  | .next => Q .none H'
  | .brk => False) X

noncomputable def plainArgs (p : Arguments) : Bool := p.posonlyargs.isEmpty && p.vararg.isNone && p.kwonlyargs.isEmpty && p.kwarg.isNone && p.defaults.isEmpty

/-- a definition that the walk can enter -/
noncomputable def goodDef (params : Arguments) (sc : Scope) : Bool :=
  let xs := params.args.map (·.arg)
  plainArgs params && decide xs.Nodup && sc.kind == .function && !sc.isCoroutine && !sc.isGenerator && xs.all (stored fun x => sc.names.lookup x)

theorem fm_congr {α β : Type} (f g : α → Option β) : ∀ (l : List α), (∀ n ∈ l, f n = g n) → l.filterMap f = l.filterMap g
  | [], _ => rfl
  | x :: r, h => by rw [List.filterMap_cons, List.filterMap_cons, h x (.head _), fm_congr f g r fun n hn => h n (.tail _ hn)]

theorem zip_lookup : ∀ (xs : List Str) (vals : List Value), xs.Nodup → xs.length = vals.length → xs.filterMap (fun n => ((xs.zip vals).lookup n).map fun v => (n, v)) = xs.zip vals
  | [], [], _, _ => rfl
  | [], _ :: _, _, h => by simp at h
  | _ :: _, [], _, h => by simp at h
  | x :: xs, v :: vals, hn, hl => by
    rw [List.nodup_cons] at hn
    rw [List.zip_cons_cons, List.filterMap_cons]
    simp only [List.lookup_cons, beq_self_eq_true]
    simp only [Option.map_some]
    congr 1
    refine Eq.trans (fm_congr _ _ xs fun n hn' => ?_) (zip_lookup xs vals hn.2 (by simpa using hl))
    have : (n == x) = false := by
      rw [beq_eq_false_iff_ne]
      exact fun q => hn.1 (q ▸ hn')
    rw [this]

theorem zip_full : ∀ (xs : List Str) (vals : List Value), xs.length = vals.length → (xs.filter fun n => ((xs.zip vals).lookup n).isNone) = [] := fun xs vals hl => by
  rw [List.filter_eq_nil_iff]
  intro n hn h
  have : ∀ (xs : List Str) (vals : List Value), xs.length = vals.length → n ∈ xs → ((xs.zip vals).lookup n).isSome = true := by
    intro xs
    induction xs with
    | nil => intro vals _ h; cases h
    | cons x xs ih =>
      intro vals hl hm
      cases vals with
      | nil => simp at hl
      | cons v vals =>
        rw [List.zip_cons_cons, List.lookup_cons]
        cases hb : n == x with
        | true => rfl
        | false =>
          cases hm with
          | head => simp at hb
          | tail _ hm => exact ih vals (by simpa using hl) hm
  have := this xs vals hl hn
  rw [Option.isNone_iff_eq_none] at h
  rw [h] at this; cases this

theorem bind_plain {name : Str} {p : Arguments} {body : List Stmt} {sc : Scope} {pm cd doc : Value} {vals : List Value} (hp : plainArgs p = true) (hn : (p.args.map (·.arg)).Nodup) (hl : (p.args.map (·.arg)).length = vals.length) :
    bindArgs (docDef name p body sc pm cd doc) ⟨vals, []⟩ = pure ((p.args.map (·.arg)).zip vals) := by
  obtain ⟨posonly, args, vararg, kwonly, kwd, kwarg, defaults⟩ := p
  unfold plainArgs at hp
  simp only [Bool.and_eq_true, List.isEmpty_iff, Option.isNone_iff_eq_none] at hp
  obtain ⟨⟨⟨⟨rfl, rfl⟩, rfl⟩, rfl⟩, rfl⟩ := hp
  unfold bindArgs
  have e1 : ∀ {α : Type} (k : Option (Array Value) → Sem α), (seqItems? (docDef name ⟨[], args, none, [], kwd, none, []⟩ body sc pm cd doc).defaults >>= k) = k none := fun k => rfl
  simp only [docDef, List.map_nil, List.nil_append, List.forIn_nil, List.append_nil]
  dsimp only at hl hn
  rw [pure_bind]
  have e2 : ∀ {α : Type} (k : Option (Array Value) → Sem α), (seqItems? Value.none >>= k) = k none := fun k => rfl
  rw [e2]
  simp only [Option.getD_none, Array.toList_empty, List.length_nil, Option.isNone_none, Bool.and_true, Nat.sub_self, List.drop_nil, Nat.sub_zero, List.zip_nil_right, List.forIn_nil]
  have h1 : ¬ (decide (vals.length > (List.map (fun x => x.arg) args).length) = true) := by simp; rw [← hl]; simp
  rw [if_neg h1]
  simp only [Nat.zero_sub, List.take_length, zip_full _ _ hl, List.isEmpty_nil, Bool.not_true, Bool.false_eq_true, if_false, pure_bind, List.drop_nil, List.zip_nil_right, List.forIn_nil, zip_lookup _ _ hn hl]

section
variable {C : Cx} {T : Tab} {K : Nat}

theorem cellsFrom_has : ∀ (names : List (Str × NameKind)) (n : Nat) (acc : List (Str × Addr)) (x : Str), ((x, NameKind.cell) ∈ names ∨ ∃ c, acc.lookup x = some c) → ∃ c, (cellsFrom n names acc).lookup x = some c
  | [], _, _, _, h => by
    rcases h with h | h
    · cases h
    · exact h
  | (y, k) :: r, n, acc, x, h => by
    unfold cellsFrom
    split
    · refine cellsFrom_has r _ _ x ?_
      by_cases e : x = y
      · right; exact ⟨n, by rw [List.lookup_cons, e]; simp⟩
      · rcases h with h | ⟨c, h⟩
        · cases h with
          | head => exact absurd rfl e
          | tail _ h => exact .inl h
        · right; exact ⟨c, by rw [List.lookup_cons, beq_eq_false_iff_ne.mpr e]; exact h⟩
    · rename_i hk
      refine cellsFrom_has r _ _ x ?_
      rcases h with h | h
      · cases h with
        | head => exact absurd rfl hk
        | tail _ h => exact .inl h
      · exact .inr h

theorem bindL_ok {ρ : List Addr} {kd : Kd} : ∀ (xs : List Str) (vs : List V) (us : List Value) (σ : Sg) (m : Str → Option Value), All2 (VR C ρ) vs us → xs.length = vs.length →
    (∀ x v, σ x = some v → kd x = some .local → ∃ u, m x = some u ∧ VR C ρ v u) → ∀ x v, σ.sets (xs.zip vs) x = some v → kd x = some .local → ∃ u, bindL kd (xs.zip us) m x = some u ∧ VR C ρ v u
  | [], _, _, _, _, _, _, h => h
  | y :: ys, w :: vs, _, σ, m, .cons (b := u) (bs := us) hv hr, hl, h => by
    rw [List.zip_cons_cons, List.zip_cons_cons]
    refine bindL_ok ys vs us _ _ hr (by simpa using hl) fun x v h1 h2 => ?_
    unfold Sg.set at h1
    by_cases e : x = y
    · subst e
      rw [if_pos rfl] at h1; cases h1
      rw [if_pos h2, if_pos rfl]
      exact ⟨u, rfl, hv⟩
    · rw [if_neg e] at h1
      obtain ⟨u', h3, h4⟩ := h x v h1 h2
      refine ⟨u', ?_, h4⟩
      by_cases hk : kd y = some .local
      · rw [if_pos hk, if_neg e]; exact h3
      · rw [if_neg hk]; exact h3
  | _ :: _, [], _, _, _, _, hl, _ => by simp at hl

theorem bindC_ok {ρ : List Addr} {kd : Kd} : ∀ (xs : List Str) (vs : List V) (us : List Value) (σ : Sg) (m : Str → Option Value), All2 (VR C ρ) vs us → xs.length = vs.length →
    (∀ x v, σ x = some v → kd x = some .cell → ∃ u, m x = some u ∧ VR C ρ v u) → ∀ x v, σ.sets (xs.zip vs) x = some v → kd x = some .cell → ∃ u, bindC kd (xs.zip us) m x = some u ∧ VR C ρ v u
  | [], _, _, _, _, _, _, h => h
  | y :: ys, w :: vs, _, σ, m, .cons (b := u) (bs := us) hv hr, hl, h => by
    rw [List.zip_cons_cons, List.zip_cons_cons]
    refine bindC_ok ys vs us _ _ hr (by simpa using hl) fun x v h1 h2 => ?_
    unfold Sg.set at h1
    by_cases e : x = y
    · subst e
      rw [if_pos rfl] at h1; cases h1
      rw [if_neg (by rw [h2]; decide), if_pos rfl]
      exact ⟨u, rfl, hv⟩
    · rw [if_neg e] at h1
      obtain ⟨u', h3, h4⟩ := h x v h1 h2
      refine ⟨u', ?_, h4⟩
      by_cases hk : kd y = some .local
      · rw [if_pos hk]; exact h3
      · rw [if_neg hk, if_neg e]; exact h3
  | _ :: _, [], _, _, _, _, hl, _ => by simp at hl

theorem fn_code (hT : TabOk C T K) {name : Str} {params : Arguments} {body : List Stmt} {sc : Scope} {pm cd doc : Value} {a : Addr} {o : Obj} {ps : PS} (ho : C.base.get? a = some o) (hd : o.data = .func (docDef name params body sc pm cd doc)) (hc : C.base.CodeRec cd name)
    (hg : goodDef params sc = true) (htr : trS 60 (fun x => sc.names.lookup x) body = some ps)
    {vs : List V} {H : AHeap} {Q : VPost} {X : XPost} {ρ : List Addr} {s : Shared} {us : List Value} {A : Around} {E : Value → Shared → Prop} (h : fnSpec T (params.args.map (·.arg)) ps vs H Q X) (S : Sim C ρ H s) (hus : All2 (VR C ρ) vs us) (hA : AOk (K + 1) A) (hE : Takes C ρ s X E) :
    codeAny C.M A (.call (.ref a) ⟨us, []⟩) (fun r s' => match r with | .ok (.ret v) => PV C ρ s Q v s' | .ok _ => False | .error e => E e s') s := by
  obtain ⟨hlen, h⟩ := h
  unfold goodDef at hg
  simp only [Bool.and_eq_true, decide_eq_true_eq, beq_iff_eq, Bool.not_eq_true'] at hg
  obtain ⟨⟨⟨⟨⟨hpl, hnd⟩, hkind⟩, hco⟩, hgen⟩, hst⟩ := hg
  have hst : ∀ x ∈ params.args.map (·.arg), stored (fun x => sc.names.lookup x) x = true := List.all_eq_true.mp hst
  have hlu : (params.args.map (·.arg)).length = us.length := by rw [hlen, hus.length]
  have hget : s.heap.get? a = some o := S.stays _ _ ho
  have hroom : A.depth < recursionLimit := by have := hA.d; omega
  refine codeAny_call_cells (binds := (params.args.map (·.arg)).zip us) hroom hget hd (C.lim.keeps S.stays) (hc.keeps S.stays) rfl (bind_plain hpl hnd hlu) rfl (fun x hx => ?_) (fun s₁ hin => ?_) hco hgen hkind
  · have hx1 : x.1 ∈ params.args.map (·.arg) := (List.of_mem_zip (a := x.1) (b := x.2) hx).1
    rcases stored_iff (hst _ hx1) with hk | hk
    · exact .inl hk
    · right
      refine ⟨hk, ?_⟩
      obtain ⟨c, hc⟩ := cellsFrom_has sc.names (s.heap.objs.size + 1) [] x.1 (.inl (mem_of_lookup hk))
      show ((cellsFrom (s.heap.objs.size + 1) sc.names []).lookup x.1).isSome = true
      rw [hc]; rfl
  · generalize henv : callEnvC (docDef name params body sc pm cd doc) s.heap.objs.size a = env at hin ⊢
    have eS : env.scope = sc := by rw [← henv]; rfl
    have eK : env.kindOf = fun x => sc.names.lookup x := by unfold Env.kindOf; rw [eS]
    have eL : env.locals = s.heap.objs.size := by rw [← henv]; rfl
    have eG : env.globals = mainGlobals := by rw [← henv]; rfl
    have eB : env.builtins = builtinsNs := by rw [← henv]; rfl
    have eC : env.cells = cellsFrom (s.heap.objs.size + 1) sc.names [] := by rw [← henv]; rfl
    obtain ⟨⟨⟨h₁, tk, rfl⟩, hns, hkeep, hfr⟩, hcell, hapart, habove⟩ := hin
    have hLn : s.heap.get? env.locals = none := by rw [eL]; exact get_size _
    have hCn : ∀ x c, env.cells.lookup x = some c → s.heap.get? c = none := fun x c hc => by
      cases e : s.heap.get? c with
      | none => rfl
      | some o' =>
        have h1 := Heap.lt_size e
        have h2 := habove x c (mem_of_lookup hc)
        exact absurd (Nat.lt_trans (Nat.lt_of_le_of_lt hfr h2) h1) (Nat.lt_irrefl _)
    have hown : ∀ b, own env b → s.heap.get? b = none := fun b hb => by
      rcases hb with rfl | ⟨x, hx⟩
      · exact hLn
      · exact hCn x b hx
    obtain ⟨S1, st1⟩ := S.grow (h' := h₁) (tk := tk) hkeep
    have F1 : FR C env (sgOf (params.args.map (·.arg)) vs) ρ h₁ := by
      refine ⟨?_, by rw [eS]; exact hkind, eG, eB, ⟨_, hns, fun x v e1 e2 => ?_⟩, fun x c hc => ⟨_, hcell x c hc, fun v e1 e2 => ?_⟩, fun x hx => ?_, none_ρ S hLn, fun x c hc => ⟨none_ρ S (hCn x c hc), fun q => ?_⟩, fun x y c hx hy => name_of_addr hapart (mem_of_lookup hx) (mem_of_lookup hy), base_none S hLn, fun x c hc => base_none S (hCn x c hc)⟩
      · unfold sgOf
        rw [sets_out _ _ _ (by rw [map_fst_zip hlen]; exact fun q => stored_ne (hst _ q) rfl)]
      · exact bindL_ok _ vs us (fun _ => none) (fun _ => none) hus hlen (fun _ _ q => by cases q) x v e1 e2
      · exact bindC_ok _ vs us (fun _ => none) (fun _ => none) hus hlen (fun _ _ q => by cases q) x v e1 e2
      · rw [eC]
        rw [eK] at hx
        exact cellsFrom_has _ _ _ _ (.inl (mem_of_lookup hx))
      · have := habove x c (mem_of_lookup hc)
        rw [q] at this
        exact Nat.lt_irrefl _ this
    have hb : BlOk C T K env body ps := trS_ok (C := C) (T := T) (K := K) (env := env) hT 60 body ps (by rw [eK]; exact htr)
    refine wpAny_mono (hb F1 S1 (hA.deeper env) h fun e s' p => p.none.elim) (fun f s' hp => ?_) fun e s' p => p
    · obtain ⟨ρ', H', σ', fl, st2, S2, F2, hf, hq⟩ := hp
      have st : Step ρ s ρ' s' := by
        refine ⟨?_, fun b ob hb hx e => st2.keep b ob hb (fun q => by rw [hown b q] at e; cases e) (hkeep b ob e), fun b ob e => st2.live b ob (hkeep b ob e)⟩
        obtain ⟨l, e, f⟩ := st2.ext
        refine ⟨l, e, fun b hb => ?_⟩
        cases q : s.heap.get? b with
        | none => rfl
        | some ob => have := f b hb; rw [hkeep b ob q] at this; cases this
      cases fl with
      | next => cases hf; exact ⟨ρ', H', .none, st, S2, rfl, hq⟩
      | brk => exact hq.elim
      | ret v => obtain ⟨u, rfl, hv⟩ := hf; exact ⟨ρ', H', v, st, S2, hv, hq⟩

theorem fn_ok (hT : TabOk C T K) {name : Str} {params : Arguments} {body : List Stmt} {sc : Scope} {pm cd doc : Value} {a : Addr} {o : Obj} {ps : PS} (ho : C.base.get? a = some o) (hd : o.data = .func (docDef name params body sc pm cd doc)) (hc : C.base.CodeRec cd name)
    (hg : goodDef params sc = true) (htr : trS 60 (fun x => sc.names.lookup x) body = some ps) : CallOk C (K + 1) (fnSpec T (params.args.map (·.arg)) ps) (.ref a) :=
  fun vs H Q X h ρ s us A E S hus hA hE => wpAny_call (fn_code hT ho hd hc hg htr h S hus hA hE)

theorem CallOk.mono {sp : Spec} {u : Value} {K' : Nat} (h : CallOk C K sp u) (hk : K ≤ K') : CallOk C K' sp u := fun vs H Q X hs ρ s us A E S hu hA hE => h vs H Q X hs ρ s us A E S hu (hA.le hk) hE

theorem TabOk.mono {K' : Nat} (h : TabOk C T K) (hk : K ≤ K') : TabOk C T K' where
  gv := h.gv
  fn := fun g hg => let ⟨u, a, b, c⟩ := h.fn g hg; ⟨u, a, b, c.mono hk⟩
  mt := fun kd m hm => let ⟨f, a, b, c⟩ := h.mt kd m hm; ⟨f, a, b.mono hk, c⟩
  sorted := h.sorted
  len := h.len
  srt := fun vs H Q X hs ρ s us A E S hu hA hE => h.srt vs H Q X hs ρ s us A E S hu (hA.le hk) hE
  rvs := h.rvs
  range := h.range
  revd := h.revd
  enum := h.enum

/-- one more function known -/
noncomputable def Tab.add (T : Tab) (f : Str) (sp : Spec) : Tab := { T with gv := fun g => if g = f then some (.glob f) else T.gv g, fn := fun g => if g = f then sp else T.fn g }

theorem TabOk.add (h : TabOk C T K) {f : Str} {sp : Spec} {u : Value} (hu : C.G f = some u) (hc : Callee C u) (hok : CallOk C (K + 1) sp u) : TabOk C (T.add f sp) (K + 1) where
  gv := fun g v hg => by
    unfold Tab.add at hg
    dsimp only at hg
    split at hg
    · rename_i e
      cases hg
      exact ⟨u, e ▸ hu, fun ρ => hu⟩
    · exact h.gv g v hg
  fn := fun g hg => by
    unfold Tab.add at hg ⊢
    dsimp only at hg ⊢
    by_cases e : g = f
    · subst e
      exact ⟨u, hu, hc, by simpa using hok⟩
    · simp only [if_neg e] at hg ⊢
      exact (h.mono (Nat.le_succ K)).fn g hg
  mt := (h.mono (Nat.le_succ K)).mt
  sorted := h.sorted
  len := h.len
  srt := (h.mono (Nat.le_succ K)).srt
  rvs := h.rvs
  range := h.range
  revd := h.revd
  enum := h.enum

end
end Mine
end
section
namespace Mine
open PySem PySem.Calls PyProof.Rows

/-! Names as numbers. -/

noncomputable def dg : Nat → Nat → List Nat
  | 0, _ => []
  | f + 1, n => if n = 0 then [] else (n % 128) :: dg f (n / 128)
noncomputable def undg : List Nat → Nat
  | [] => 0
  | d :: r => d + 128 * undg r
theorem undg_dg : ∀ (f n : Nat), n < 128 ^ f → undg (dg f n) = n
  | 0, n, h => by simp at h; subst h; rfl
  | f + 1, n, h => by
    unfold dg
    split
    · rename_i e; rw [e]; rfl
    · show n % 128 + 128 * undg (dg f (n / 128)) = n
      rw [undg_dg f (n / 128) (by rw [Nat.pow_succ] at h; omega)]
      omega
theorem dg_small : ∀ (f n : Nat), ∀ d ∈ dg f n, d < 128
  | 0, _, d, h => by cases h
  | f + 1, n, d, h => by
    unfold dg at h
    split at h
    · cases h
    · cases h with
      | head => omega
      | tail _ h => exact dg_small f _ d h

/-- the name that a number stands for -/
noncomputable def nm (n : Nat) : Str := if n < 128 ^ 40 then ⟨(dg 40 n).toArray⟩ else ⟨#[n]⟩
theorem nm_inj {a b : Nat} : nm a = nm b ↔ a = b := by
  refine ⟨fun h => ?_, fun h => h ▸ rfl⟩
  unfold nm at h
  have big : ∀ a b : Nat, ¬ b < 128 ^ 40 → ((⟨(dg 40 a).toArray⟩ : Str) = ⟨#[b]⟩) → False := fun a b hb h => by
    have h1 : (dg 40 a).toArray = #[b] := congrArg Str.cps h
    have h2 : dg 40 a = [b] := by simpa using congrArg Array.toList h1
    have := dg_small 40 a b (by rw [h2]; exact .head _)
    exact hb (Nat.lt_of_lt_of_le this (by decide))
  split at h <;> split at h
  · rename_i ha hb
    have h1 : (dg 40 a).toArray = (dg 40 b).toArray := congrArg Str.cps h
    have h2 : dg 40 a = dg 40 b := by simpa using congrArg Array.toList h1
    rw [← undg_dg 40 a ha, ← undg_dg 40 b hb, h2]
  · rename_i ha hb; exact (big a b hb h).elim
  · rename_i ha hb; exact (big b a ha h.symm).elim
  · have h1 : #[a] = #[b] := congrArg Str.cps h
    simpa using h1

theorem set_nm (σ : Sg) (a b : Nat) (v : V) : (σ.set (nm a) v) (nm b) = if b = a then some v else σ (nm b) := by
  unfold Sg.set
  by_cases h : b = a
  · rw [if_pos h, if_pos (by rw [h])]
  · rw [if_neg h, if_neg (fun q => h (nm_inj.mp q))]

/-! What is built in. -/

noncomputable def spNo : Spec := fun _ _ _ _ => False

noncomputable def lenA (v : V) (H : AHeap) : Option Nat := match v with
  | .str t => some t.length
  | .ref n => (match H[n]? with
    | some (.list xs) => some xs.length
    | some (.tuple xs) => some xs.length
    | some (.dict es _) => some es.length
    | _ => none)
  | _ => none
noncomputable def spLen : Spec := fun vs H Q _ => match vs with
  | [v] => (match lenA v H with | some n => Q (.int n) H | none => False)
  | _ => False

/-- a value's class -/
inductive Ty where
  | none | bool | int | str | list | tuple | dict
  deriving DecidableEq
noncomputable def tyA (v : V) (H : AHeap) : Option Ty := match v with
  | .none => some .none
  | .bool _ => some .bool
  | .int _ => some .int
  | .str _ => some .str
  | .ref n => (match H[n]? with
    | some (.list _) => some .list
    | some (.tuple _) => some .tuple
    | some (.dict _ _) => some .dict
    | _ => Option.none)
  | _ => Option.none
noncomputable def tyOf (g : Str) : Option Ty := if g = nm 228325346 then some .bool else if g = nm 1914729 then some .int else if g = nm 1882739 then some .str else if g = nm 245167340 then some .list else if g = nm 27340323572 then some .tuple else if g = nm 244905188 then some .dict else Option.none
noncomputable def isA : Ty → Ty → Bool
  | .bool, .int => true
  | a, b => decide (a = b)
noncomputable def spIsi : Spec := fun vs H Q _ => match vs with
  | [v, .glob g] => (match tyA v H, tyOf g with | some a, some b => Q (.bool (isA a b)) H | _, _ => False)
  | _ => False

noncomputable def spMin : Spec := fun vs H Q _ => match vs with
  | [.int a, .int b] => Q (.int (if b < a then b else a)) H
  | _ => False
noncomputable def spMax : Spec := fun vs H Q _ => match vs with
  | [.int a, .int b] => Q (.int (if b > a then b else a)) H
  | _ => False

/-- the texts of a list -/
noncomputable def txts : List V → Option (List Txt)
  | [] => some []
  | .str t :: r => (txts r).map (t :: ·)
  | _ => none

noncomputable def spJoin : Spec := fun vs H Q _ => match vs with
  | [.str [], .ref n] => (match H[n]? with
    | some (.list xs) => (match txts xs with
      | some ts => (ts.map List.length).sum + ts.length ≤ lid ∧ Q (.str ts.flatten) H
      | none => False)
    | _ => False)
  | _ => False

noncomputable def spAppend : Spec := fun vs H Q _ => match vs with
  | [.ref n, v] => n ≠ 0 ∧ (match H[n]? with
    | some (.list xs) => xs.length < lid ∧ Q .none (H.set n (.list (xs ++ [v])))
    | _ => False)
  | _ => False

section
variable {C : Cx} {K : Nat}

theorem all2_one {ρ : List Addr} {a : V} {us : List Value} (h : All2 (VR C ρ) [a] us) : ∃ u, us = [u] ∧ VR C ρ a u := by
  cases h with
  | cons h r => cases r; exact ⟨_, rfl, h⟩
theorem all2_two {ρ : List Addr} {a b : V} {us : List Value} (h : All2 (VR C ρ) [a, b] us) : ∃ u w, us = [u, w] ∧ VR C ρ a u ∧ VR C ρ b w := by
  cases h with
  | cons h r => obtain ⟨w, rfl, hw⟩ := all2_one r; exact ⟨_, w, rfl, h, hw⟩

theorem len_T (ok : Txt) : (⟨ok.toArray⟩ : Str).length = ok.length := by
  show ok.toArray.size = _; simp

theorem ok_len : CallOk C K spLen (.builtin "len") := by
  intro vs H Q X h ρ s us A E S hus hA hE
  unfold spLen at h
  split at h
  · rename_i v
    split at h
    · rename_i n hn
      obtain ⟨u, rfl, hu⟩ := all2_one hus
      unfold lenA at hn
      split at hn
      · rename_i t
        cases hn
        obtain ⟨ok, tk, rfl⟩ := hu
        have hl := (okT_iff.mp ok).1
        have e := len_T t
        unfold lid at hl
        refine len_str (by rw [e]; omega) ?_
        rw [e]
        exact here S (vi _ _) h
      · rename_i m
        split at hn
        · rename_i xs e1
          cases hn
          obtain ⟨a, rfl, ea, us, k, ho, hs, hl⟩ := S.lookup e1 hu
          have e : xs.length = us.size := by rw [hs.length]; simp
          unfold lid at hl
          refine call_len_list ⟨_, ho, rfl, k, rfl⟩ (by omega) ?_
          rw [← e]
          exact here S (vi _ _) h
        · rename_i xs e1
          cases hn
          obtain ⟨a, rfl, ea, us, k, ho, hs, hl⟩ := S.lookup e1 hu
          have e : xs.length = us.size := by rw [hs.length]; simp
          unfold lid at hl
          refine len_tuple ⟨_, ho, rfl, k, rfl⟩ (by omega) ?_
          rw [← e]
          exact here S (vi _ _) h
        · rename_i es ep e1
          cases hn
          obtain ⟨a, rfl, ea, hob⟩ := S.lookup e1 hu
          obtain ⟨kvs, ⟨o, ds, ho, ⟨h1, h2, h3⟩, h4, h5, h6, h7⟩, hk⟩ := dict_at hob
          obtain ⟨ds', ho', _, _, hl⟩ := hob
          have e : es.length = kvs.length := by have := congrArg List.length hk; simpa using this.symm
          unfold lid at hl
          have hne : (a == sysModules) = false := by
            rw [beq_eq_false_iff_ne]
            exact fun q => S.sm (q ▸ List.mem_of_getElem? ea)
          refine call_len_dict (knd := PySem.strKind C.prog C.w) (kvs := kvs) hne ?_ (by omega) ?_
          · exact ⟨o, ds, ep, ho, ⟨h1, h2, h3⟩, h4, h5, h6, h7⟩
          · rw [← e]
            exact here S (vi _ _) h
        · cases hn
      · cases hn
    · exact h.elim
  · exact h.elim

noncomputable def tyName : Ty → String
  | .none => "NoneType" | .bool => "bool" | .int => "int" | .str => "str" | .list => "list" | .tuple => "tuple" | .dict => "dict"

theorem ok_isi (hG : ∀ g b, tyOf g = some b → C.G g = some (.type (tyName b))) : CallOk C K spIsi (.builtin "isinstance") := by
  intro vs H Q X h ρ s us A E S hus hA hE
  unfold spIsi at h
  split at h
  · rename_i v g
    split at h
    · rename_i a b ha hb
      obtain ⟨u, w, rfl, hu, hw⟩ := all2_two hus
      have hw' : C.G g = some w := hw
      rw [hG g b hb] at hw'
      cases hw'
      have hbn : b ≠ .none := fun q => by
        subst q
        unfold tyOf at hb
        repeat (split at hb; · cases hb)
        cases hb
      have fin : ∀ r t, (isA a b = r) → PV C ρ s Q (.bool r) { s with toks := t } := fun r t e => by rw [← e]; exact here S (vb _) h
      have fin0 : ∀ r, (isA a b = r) → PV C ρ s Q (.bool r) s := fun r e => by rw [← e]; exact here0 S (vb _) h
      unfold tyA at ha
      split at ha
      · cases ha; cases hu
        cases b
        · exact absurd rfl hbn
        · exact IsiPair.NoneType_bool (fin _ _ rfl)
        · exact IsiPair.NoneType_int (fin _ _ rfl)
        · exact IsiPair.NoneType_str (fin _ _ rfl)
        · exact IsiPair.NoneType_list (fin _ _ rfl)
        · exact IsiPair.NoneType_tuple (fin _ _ rfl)
        · exact IsiPair.NoneType_dict (fin _ _ rfl)
      · cases ha; cases hu
        cases b
        · exact absurd rfl hbn
        · exact IsiPair.bool_bool (fin0 _ rfl)
        · exact IsiPair.bool_int (fin0 _ rfl)
        · exact IsiPair.bool_str (fin _ _ rfl)
        · exact IsiPair.bool_list (fin _ _ rfl)
        · exact IsiPair.bool_tuple (fin _ _ rfl)
        · exact IsiPair.bool_dict (fin _ _ rfl)
      · cases ha; obtain ⟨tk, rfl⟩ := hu
        cases b
        · exact absurd rfl hbn
        · exact IsiPair.int_bool (fin _ _ rfl)
        · exact IsiPair.int_int (fin0 _ rfl)
        · exact IsiPair.int_str (fin _ _ rfl)
        · exact IsiPair.int_list (fin _ _ rfl)
        · exact IsiPair.int_tuple (fin _ _ rfl)
        · exact IsiPair.int_dict (fin _ _ rfl)
      · cases ha; obtain ⟨ok, tk, rfl⟩ := hu
        cases b
        · exact absurd rfl hbn
        · exact IsiPair.str_bool (fin _ _ rfl)
        · exact IsiPair.str_int (fin _ _ rfl)
        · exact IsiPair.str_str (fin0 _ rfl)
        · exact IsiPair.str_list (fin _ _ rfl)
        · exact IsiPair.str_tuple (fin _ _ rfl)
        · exact IsiPair.str_dict (fin _ _ rfl)
      · split at ha
        · rename_i e1
          cases ha
          obtain ⟨ad, rfl, ea, us, k, ho, _⟩ := S.lookup e1 hu
          cases b
          · exact absurd rfl hbn
          · exact IsiPair.list_bool ho rfl (fin _ _ rfl)
          · exact IsiPair.list_int ho rfl (fin _ _ rfl)
          · exact IsiPair.list_str ho rfl (fin _ _ rfl)
          · exact IsiPair.list_list ho rfl (fin0 _ rfl)
          · exact IsiPair.list_tuple ho rfl (fin _ _ rfl)
          · exact IsiPair.list_dict ho rfl (fin _ _ rfl)
        · rename_i e1
          cases ha
          obtain ⟨ad, rfl, ea, us, k, ho, _⟩ := S.lookup e1 hu
          cases b
          · exact absurd rfl hbn
          · exact IsiPair.tuple_bool ho rfl (fin _ _ rfl)
          · exact IsiPair.tuple_int ho rfl (fin _ _ rfl)
          · exact IsiPair.tuple_str ho rfl (fin _ _ rfl)
          · exact IsiPair.tuple_list ho rfl (fin _ _ rfl)
          · exact IsiPair.tuple_tuple ho rfl (fin0 _ rfl)
          · exact IsiPair.tuple_dict ho rfl (fin _ _ rfl)
        · rename_i e1
          cases ha
          obtain ⟨ad, rfl, ea, us, ho, _⟩ := S.lookup e1 hu
          cases b
          · exact absurd rfl hbn
          · exact IsiPair.dict_bool ho rfl (fin _ _ rfl)
          · exact IsiPair.dict_int ho rfl (fin _ _ rfl)
          · exact IsiPair.dict_str ho rfl (fin _ _ rfl)
          · exact IsiPair.dict_list ho rfl (fin _ _ rfl)
          · exact IsiPair.dict_tuple ho rfl (fin _ _ rfl)
          · exact IsiPair.dict_dict ho rfl (fin0 _ rfl)
        · cases ha
      · cases ha
    · exact h.elim
  · exact h.elim

theorem ok_min : CallOk C K spMin (.builtin "min") := by
  intro vs H Q X h ρ s us A E S hus hA hE
  unfold spMin at h
  split at h
  · rename_i a b
    obtain ⟨u, w, rfl, ⟨t, rfl⟩, ⟨t', rfl⟩⟩ := all2_two hus
    refine min_two_ints hA.h fun h' tk hk => ?_
    obtain ⟨S1, st1⟩ := S.grow (h' := h') (tk := tk) hk
    by_cases c : b < a
    · rw [if_pos c] at h ⊢; exact ⟨ρ, H, _, st1, S1, vi _ _, h⟩
    · rw [if_neg c] at h ⊢; exact ⟨ρ, H, _, st1, S1, vi _ _, h⟩
  · exact h.elim
theorem ok_max : CallOk C K spMax (.builtin "max") := by
  intro vs H Q X h ρ s us A E S hus hA hE
  unfold spMax at h
  split at h
  · rename_i a b
    obtain ⟨u, w, rfl, ⟨t, rfl⟩, ⟨t', rfl⟩⟩ := all2_two hus
    refine max_two_ints hA.h fun h' tk hk => ?_
    obtain ⟨S1, st1⟩ := S.grow (h' := h') (tk := tk) hk
    by_cases c : b > a
    · rw [if_pos c] at h ⊢; exact ⟨ρ, H, _, st1, S1, vi _ _, h⟩
    · rw [if_neg c] at h ⊢; exact ⟨ρ, H, _, st1, S1, vi _ _, h⟩
  · exact h.elim

theorem txts_are {ρ : List Addr} : ∀ {xs : List V} {us : List Value} {ts : List Txt}, All2 (VR C ρ) xs us → txts xs = some ts → StrsAre us (ts.map fun t => ⟨t.toArray⟩) ∧ ∀ t ∈ ts, okT t = true
  | [], _, _, .nil, h => by cases h; exact ⟨.nil, fun _ h => nomatch h⟩
  | v :: xs, _, ts, .cons hv hr, h => by
    cases v with
    | str t =>
      unfold txts at h
      cases e : txts xs with
      | none => rw [e] at h; cases h
      | some r =>
        rw [e] at h; cases h
        obtain ⟨h1, h2⟩ := txts_are hr e
        obtain ⟨ok, tk, rfl⟩ := hv
        refine ⟨.cons _ _ h1, fun t' ht => ?_⟩
        cases ht with
        | head => exact ok
        | tail _ ht => exact h2 t' ht
    | _ => cases h

theorem join_flat : ∀ (ts : List Txt), Str.join ⟨#[]⟩ (ts.map fun t => ⟨t.toArray⟩) = ⟨ts.flatten.toArray⟩
  | [] => rfl
  | [t] => by simp [Str.join]
  | t :: u :: r => by
    have ih := join_flat (u :: r)
    rw [List.map_cons, List.map_cons]
    show (⟨t.toArray⟩ : Str) ++ ⟨#[]⟩ ++ Str.join ⟨#[]⟩ ((⟨u.toArray⟩ : Str) :: r.map fun t => ⟨t.toArray⟩) = _
    rw [← List.map_cons (f := fun t : Txt => (⟨t.toArray⟩ : Str)), ih]
    show (⟨t.toArray ++ #[] ++ (u :: r).flatten.toArray⟩ : Str) = _
    simp

theorem okT_flat {ts : List Txt} (h : ∀ t ∈ ts, okT t = true) (hl : (ts.map List.length).sum ≤ lid) : okT ts.flatten = true := by
  rw [okT_iff]
  refine ⟨by rw [List.length_flatten]; exact hl, fun c hc => ?_⟩
  rw [List.mem_flatten] at hc
  obtain ⟨t, ht, hc⟩ := hc
  exact (okT_iff.mp (h t ht)).2 c hc

theorem ok_join : CallOk C K spJoin (.builtin "str.join") := by
  intro vs H Q X h ρ s us A E S hus hA hE
  unfold spJoin at h
  split at h
  · rename_i n
    split at h
    · rename_i xs e1
      split at h
      · rename_i ts hts
        obtain ⟨hl, hq⟩ := h
        obtain ⟨u, w, rfl, ⟨ok, tk, rfl⟩, hw⟩ := all2_two hus
        obtain ⟨a, rfl, ea, us, k, ho, hs, _⟩ := S.lookup e1 hw
        obtain ⟨h1, h2⟩ := txts_are hs hts
        have hlen : ((ts.map fun t => (⟨t.toArray⟩ : Str)).map (·.length)).sum = (ts.map List.length).sum := by
          rw [List.map_map]
          congr 1
        refine join_list (ys := ts.map fun t => ⟨t.toArray⟩) ⟨_, ho, rfl, k, rfl⟩ h1 ?_ fun t' k' => ?_
        · rw [hlen]
          show _ + _ * 0 ≤ _
          unfold lid at hl
          omega
        · have e : PySem.Txt.join (⟨([] : Mine.Txt).toArray⟩ : Str) (ts.map fun t => ⟨t.toArray⟩) = ⟨ts.flatten.toArray⟩ := by
            show Builtin.Str.glued _ _ = _
            rw [StrLaws.glued_eq_join]
            exact join_flat ts
          rw [e]
          exact here S (vt (okT_flat h2 (by omega)) _) hq
      · exact h.elim
    · exact h.elim
  · exact h.elim

theorem ok_append : CallOk C K spAppend (.builtin "list.append") := by
  intro vs H Q X h ρ s us A E S hus hA hE
  unfold spAppend at h
  split at h
  · rename_i n v
    obtain ⟨hn, h⟩ := h
    split at h
    · rename_i xs e1
      obtain ⟨hl, hq⟩ := h
      obtain ⟨u, w, rfl, hu, hw⟩ := all2_two hus
      obtain ⟨a, rfl, ea, us, k, ho, hs, _⟩ := S.lookup e1 hu
      have e : xs.length = us.size := by rw [hs.length]; simp
      refine wpAny_list_append_plain ⟨k, ho⟩ (fun h' ⟨k', ho'⟩ hsb => ?_) (by unfold lid at hl; unfold sizeLine; omega)
      obtain ⟨S1, st1⟩ := S.change (h' := h') (tk := s.toks) (o := .list (xs ++ [v])) hn ea (fun b x hb e => hsb.extBut b x hb e) ⟨_, k', ho', by rw [Array.toList_push]; exact hs.append (.cons hw .nil), by simp; omega⟩
      exact ⟨ρ, _, .none, st1, S1, rfl, hq⟩
    · exact h.elim
  · exact h.elim

end
end Mine
end
section
namespace Mine
open PySem PySem.Calls PyProof.Rows

/-! The table of what is known, built up entry by entry. -/

noncomputable def T0 : Tab where
  gv := fun _ => none
  fn := fun _ => spNo
  has := fun _ _ => false
  mt := fun _ _ => spNo
  srt := spNo
  rvs := spNo

/-- a name and its value -/
noncomputable def Tab.val (T : Tab) (f : Str) (v : V) : Tab := { T with gv := fun g => if g = f then some v else T.gv g }
/-- a method -/
noncomputable def Tab.meth (T : Tab) (k : MK) (m : Str) (sp : Spec) : Tab := { T with has := fun kd x => if kd = k ∧ x = m then true else T.has kd x, mt := fun kd x => if kd = k ∧ x = m then sp else T.mt kd x }

/-- a function's contract: what is asked of its callers is enough for its body -/
noncomputable def Ct (T : Tab) (xs : List Str) (ps : PS) (sp : Spec) : Prop := ∀ vs H Q X, sp vs H Q X → fnSpec T xs ps vs H Q X

structure Has (T : Tab) (f : Str) (sp : Spec) : Prop where
  gv : T.gv f = some (.glob f)
  fn : T.fn f = sp
structure HasM (T : Tab) (k : MK) (m : Str) (sp : Spec) : Prop where
  has : T.has k m = true
  mt : T.mt k m = sp

/-- the program's function f stands in the globals, and its body translates -/
noncomputable def DefAt (C : Cx) (f : Str) (xs : List Str) (ps : PS) : Prop :=
  ∃ a o name params body sc pm cd doc, C.G f = some (.ref a) ∧ C.base.get? a = some o ∧ o.data = .func (docDef name params body sc pm cd doc) ∧ C.base.CodeRec cd name ∧ goodDef params sc = true ∧ trS 60 (fun x => sc.names.lookup x) body = some ps ∧ params.args.map (·.arg) = xs

section
variable {C : Cx} {T : Tab} {K : Nat}

theorem CallOk.weak {sp sp' : Spec} {u : Value} (h : CallOk C K sp u) (hw : ∀ vs H Q X, sp' vs H Q X → sp vs H Q X) : CallOk C K sp' u := fun vs H Q X hs ρ s us A E S hu hA hE => h vs H Q X (hw _ _ _ _ hs) ρ s us A E S hu hA hE

theorem TabOk.base (h1 : C.G (Str.ofString "sorted") = some (.builtin "sorted")) (h2 : C.G (Str.ofString "len") = some (.builtin "len")) (h3 : C.G (Str.ofString "range") = some (.type "range")) (h4 : C.G (Str.ofString "reversed") = some (.type "reversed"))
    (h5 : C.G (Str.ofString "enumerate") = some (.type "enumerate")) : TabOk C T0 0 where
  gv := fun _ _ h => by cases h
  fn := fun _ ⟨_, _, _, _, h⟩ => h.elim
  mt := fun _ _ h => by cases h
  sorted := h1
  len := h2
  srt := fun _ _ _ _ h => h.elim
  rvs := fun _ _ _ _ h => h
  range := h3
  revd := h4
  enum := h5

theorem TabOk.addB (h : TabOk C T K) {f : Str} {sp : Spec} {u : Value} (hu : C.G f = some u) (hc : Callee C u) (hok : CallOk C K sp u) : TabOk C (T.add f sp) K where
  gv := fun g v hg => by
    unfold Tab.add at hg
    dsimp only at hg
    split at hg
    · rename_i e
      cases hg
      exact ⟨u, e ▸ hu, fun ρ => hu⟩
    · exact h.gv g v hg
  fn := fun g hg => by
    unfold Tab.add at hg ⊢
    dsimp only at hg ⊢
    by_cases e : g = f
    · subst e
      exact ⟨u, hu, hc, by simpa using hok⟩
    · simp only [if_neg e] at hg ⊢
      exact h.fn g hg
  mt := h.mt
  sorted := h.sorted
  len := h.len
  srt := h.srt
  rvs := h.rvs
  range := h.range
  revd := h.revd
  enum := h.enum

theorem TabOk.addF (h : TabOk C T K) {f : Str} {xs : List Str} {ps : PS} {sp : Spec} (hd : DefAt C f xs ps) (hc : Ct T xs ps sp) : TabOk C (T.add f sp) (K + 1) := by
  obtain ⟨a, o, name, params, body, sc, pm, cd, doc, h1, h2, h3, h4, h5, h6, rfl⟩ := hd
  exact (h.mono (Nat.le_succ K)).addB h1 (.inr (.inr ⟨a, o, _, rfl, h2, h3⟩)) ((fn_ok h h2 h3 h4 h5 h6).weak hc)

theorem TabOk.val (h : TabOk C T K) {f : Str} {v : V} {u : Value} (hu : C.G f = some u) (hv : ∀ ρ, VR C ρ v u) : TabOk C (T.val f v) K where
  gv := fun g w hg => by
    unfold Tab.val at hg
    dsimp only at hg
    split at hg
    · rename_i e
      cases hg
      exact ⟨u, e ▸ hu, hv⟩
    · exact h.gv g w hg
  fn := h.fn
  mt := h.mt
  sorted := h.sorted
  len := h.len
  srt := h.srt
  rvs := h.rvs
  range := h.range
  revd := h.revd
  enum := h.enum

theorem TabOk.meth (h : TabOk C T K) {k : MK} {m : Str} {sp : Spec} {id : String} (hok : CallOk C K sp (.builtin id))
    (hg : ∀ v H ρ s u pl A (Q : Value × List Value → Shared → Prop) E, kindA v H = some k → Sim C ρ H s → VR C ρ v u → (∀ t, Q (.builtin id, [u]) { s with toks := t }) → wpAny C.M A (getMethod u m pl) Q E s) : TabOk C (T.meth k m sp) K where
  gv := h.gv
  fn := h.fn
  mt := fun kd x hx => by
    unfold Tab.meth at hx ⊢
    dsimp only at hx ⊢
    by_cases e : kd = k ∧ x = m
    · obtain ⟨rfl, rfl⟩ := e
      refine ⟨.builtin id, .inl ⟨id, rfl⟩, by simpa using hok, hg⟩
    · simp only [if_neg e] at hx ⊢
      exact h.mt kd x hx
  sorted := h.sorted
  len := h.len
  srt := h.srt
  rvs := h.rvs
  range := h.range
  revd := h.revd
  enum := h.enum

theorem kind_str {v : V} {H : AHeap} (h : kindA v H = some .str) : ∃ t, v = .str t := by
  unfold kindA at h
  split at h
  · exact ⟨_, rfl⟩
  · split at h <;> cases h
  · cases h
theorem kind_list {v : V} {H : AHeap} (h : kindA v H = some .list) : ∃ n xs, v = .ref n ∧ H[n]? = some (.list xs) := by
  unfold kindA at h
  split at h
  · cases h
  · split at h
    · exact ⟨_, _, rfl, by assumption⟩
    all_goals cases h
  · cases h
theorem kind_dict {v : V} {H : AHeap} (h : kindA v H = some .dict) : ∃ n es ep, v = .ref n ∧ H[n]? = some (.dict es ep) := by
  unfold kindA at h
  split at h
  · cases h
  · split at h
    · cases h
    · exact ⟨_, _, _, rfl, by assumption⟩
    all_goals cases h
  · cases h

theorem get_join : ∀ v H ρ s u pl A (Q : Value × List Value → Shared → Prop) E, kindA v H = some .str → Sim C ρ H s → VR C ρ v u → (∀ t, Q (.builtin "str.join", [u]) { s with toks := t }) → wpAny C.M A (getMethod u (nm 232421354) pl) Q E s := by
  intro v H ρ s u pl A Q E hk S hv h
  obtain ⟨t, rfl⟩ := kind_str hk
  obtain ⟨ok, tk, rfl⟩ := hv
  have e : nm 232421354 = Str.ofString "join" := by decide +kernel
  rw [e]
  exact GM.join (h s.toks)

theorem get_append : ∀ v H ρ s u pl A (Q : Value × List Value → Shared → Prop) E, kindA v H = some .list → Sim C ρ H s → VR C ρ v u → (∀ t, Q (.builtin "list.append", [u]) { s with toks := t }) → wpAny C.M A (getMethod u (nm 3465715398753) pl) Q E s := by
  intro v H ρ s u pl A Q E hk S hv h
  obtain ⟨n, xs, rfl, e1⟩ := kind_list hk
  obtain ⟨a, rfl, ea, us, k, ho, _⟩ := S.lookup e1 hv
  have e : nm 3465715398753 = Str.ofString "append" := by decide +kernel
  rw [e]
  exact getMethod_list_append ho rfl rfl (h s.toks)

/-- the globals that are built in -/
noncomputable def biL : List (Str × Value) := [(nm 1815276, .builtin "len"), (nm 938756632654307293673, .builtin "isinstance"), (nm 1815789, .builtin "min"), (nm 1978605, .builtin "max"), (nm 1800947, .builtin "sum"), (nm 1783393, .builtin "all"),
  (nm 3463330969587, .builtin "sorted"), (nm 27329802482, .type "range"), (nm 56743180225065714, .type "reversed"), (nm 7343549747291846501, .type "enumerate"), (nm 244905188, .type "dict"), (nm 245167340, .type "list"), (nm 27340323572, .type "tuple"),
  (nm 1914729, .type "int"), (nm 1882739, .type "str"), (nm 228325346, .type "bool")]

/-- the table of what is built in -/
noncomputable def TB : Tab := ((((((((((((T0.val (nm 244905188) (.glob (nm 244905188))).val (nm 245167340) (.glob (nm 245167340))).val (nm 27340323572) (.glob (nm 27340323572))).val (nm 1914729) (.glob (nm 1914729))).val (nm 1882739) (.glob (nm 1882739))).val (nm 228325346) (.glob (nm 228325346))).add
  (nm 1815276) spLen).add (nm 938756632654307293673) spIsi).add (nm 1815789) spMin).add (nm 1978605) spMax).meth .str (nm 232421354) spJoin).meth .list (nm 3465715398753) spAppend)

theorem TB_ok (hb : ∀ p ∈ biL, C.G p.1 = some p.2) : TabOk C TB 0 := by
  have g : ∀ (f : Str) (u : Value), (f, u) ∈ biL → C.G f = some u := fun f u h => hb _ h
  have hT : ∀ g b, tyOf g = some b → C.G g = some (.type (tyName b)) := by
    intro x b hx
    unfold tyOf at hx
    split at hx
    · rename_i e; cases hx; subst e; exact g _ _ (by simp [biL, tyName])
    split at hx
    · rename_i e; cases hx; subst e; exact g _ _ (by simp [biL, tyName])
    split at hx
    · rename_i e; cases hx; subst e; exact g _ _ (by simp [biL, tyName])
    split at hx
    · rename_i e; cases hx; subst e; exact g _ _ (by simp [biL, tyName])
    split at hx
    · rename_i e; cases hx; subst e; exact g _ _ (by simp [biL, tyName])
    split at hx
    · rename_i e; cases hx; subst e; exact g _ _ (by simp [biL, tyName])
    cases hx
  have s1 : Str.ofString "sorted" = nm 3463330969587 := by decide +kernel
  have s2 : Str.ofString "len" = nm 1815276 := by decide +kernel
  have s3 : Str.ofString "range" = nm 27329802482 := by decide +kernel
  have s4 : Str.ofString "reversed" = nm 56743180225065714 := by decide +kernel
  have s5 : Str.ofString "enumerate" = nm 7343549747291846501 := by decide +kernel
  have base : TabOk C T0 0 := .base (by rw [s1]; exact g _ _ (by simp [biL])) (by rw [s2]; exact g _ _ (by simp [biL])) (by rw [s3]; exact g _ _ (by simp [biL])) (by rw [s4]; exact g _ _ (by simp [biL])) (by rw [s5]; exact g _ _ (by simp [biL]))
  have tv : ∀ {T : Tab} (n : Nat) (u : Value), (nm n, u) ∈ biL → TabOk C T 0 → TabOk C (T.val (nm n) (.glob (nm n))) 0 := fun n u hm h => h.val (g _ _ hm) fun ρ => g _ _ hm
  have fb : ∀ {T : Tab} (n : Nat) (id : String) (sp : Spec), (nm n, Value.builtin id) ∈ biL → CallOk C 0 sp (.builtin id) → TabOk C T 0 → TabOk C (T.add (nm n) sp) 0 := fun n id sp hm hc h => h.addB (g _ _ hm) (.inl ⟨id, rfl⟩) hc
  unfold TB
  refine TabOk.meth ?_ ok_append get_append
  refine TabOk.meth ?_ ok_join get_join
  refine fb _ "max" _ (by simp [biL]) ok_max ?_
  refine fb _ "min" _ (by simp [biL]) ok_min ?_
  refine fb _ "isinstance" _ (by simp [biL]) (ok_isi hT) ?_
  refine fb _ "len" _ (by simp [biL]) ok_len ?_
  refine tv _ (.type "bool") (by simp [biL]) ?_
  refine tv _ (.type "str") (by simp [biL]) ?_
  refine tv _ (.type "int") (by simp [biL]) ?_
  refine tv _ (.type "tuple") (by simp [biL]) ?_
  refine tv _ (.type "list") (by simp [biL]) ?_
  refine tv _ (.type "dict") (by simp [biL]) ?_
  exact base

end
end Mine
end
section
namespace Mine
open PySem

/-! Steps of the abstract machine, each for values of known shape. -/

section
variable {H : AHeap} {Q : VPost} {X : XPost} {q : Bool → Prop}

theorem st_len_str (t : Txt) : spLen [.str t] H Q X = Q (.int t.length) H := rfl
theorem st_len_list {n : Nat} {xs : List V} (h : H[n]? = some (.list xs)) : spLen [.ref n] H Q X = Q (.int xs.length) H := by unfold spLen lenA; dsimp only; rw [h]
theorem st_len_tuple {n : Nat} {xs : List V} (h : H[n]? = some (.tuple xs)) : spLen [.ref n] H Q X = Q (.int xs.length) H := by unfold spLen lenA; dsimp only; rw [h]
theorem st_len_dict {n ep : Nat} {es : List (Txt × V)} (h : H[n]? = some (.dict es ep)) : spLen [.ref n] H Q X = Q (.int es.length) H := by unfold spLen lenA; dsimp only; rw [h]

theorem cut_zero {α : Type} (xs : List α) (j : Nat) : cut xs 0 j = xs.take j := by unfold cut; simp
theorem cut_all {α : Type} (xs : List α) (i : Nat) : cut xs i xs.length = xs.drop i := by unfold cut; simp
theorem clip_nat (k m : Nat) : clip (k : Int) m = min k m := by unfold clip; simp
theorem take_clip {α : Type} (xs : List α) (k : Nat) : xs.take (min k xs.length) = xs.take k := by
  rcases Nat.le_total k xs.length with h | h
  · rw [Nat.min_eq_left h]
  · rw [Nat.min_eq_right h, List.take_of_length_le h, List.take_of_length_le (Nat.le_refl _)]
theorem drop_clip {α : Type} (xs : List α) (k : Nat) : xs.drop (min k xs.length) = xs.drop k := by
  rcases Nat.le_total k xs.length with h | h
  · rw [Nat.min_eq_left h]
  · rw [Nat.min_eq_right h, List.drop_of_length_le h, List.drop_of_length_le (Nat.le_refl _)]
theorem take_clip_int {α : Type} (xs : List α) {k : Int} (h : 0 ≤ k) : xs.take (clip k xs.length) = xs.take k.toNat := by unfold clip; rw [if_pos h, take_clip]
theorem drop_clip_int {α : Type} (xs : List α) {k : Int} (h : 0 ≤ k) : xs.drop (clip k xs.length) = xs.drop k.toNat := by unfold clip; rw [if_pos h, drop_clip]
theorem cut_clip_int {α : Type} (xs : List α) {i j : Int} (hi : 0 ≤ i) (hj : 0 ≤ j) : cut xs (clip i xs.length) (clip j xs.length) = (xs.drop i.toNat).take (j.toNat - i.toNat) := by
  unfold cut
  rw [take_clip_int xs hj]
  unfold clip
  rw [if_pos hi, List.drop_take, drop_clip]
  rcases Nat.le_total i.toNat xs.length with h | h
  · rw [Nat.min_eq_left h]
  · rw [Nat.min_eq_right h, List.drop_of_length_le h]; simp

theorem st_to (t : Txt) (j : Int) : sliceA (.str t) .none (.int j) H Q = Q (.str (t.take (clip j t.length))) H := by
  show Q (.str (cut t 0 (clip j t.length))) H = _; rw [cut_zero]
theorem st_from (t : Txt) (i : Int) : sliceA (.str t) (.int i) .none H Q = Q (.str (t.drop (clip i t.length))) H := by
  show Q (.str (cut t (clip i t.length) t.length)) H = _; rw [cut_all]
theorem st_cut (t : Txt) (i j : Int) : sliceA (.str t) (.int i) (.int j) H Q = Q (.str (cut t (clip i t.length) (clip j t.length))) H := rfl
theorem st_lto {n : Nat} {xs : List V} (h : H[n]? = some (.list xs)) (j : Int) : sliceA (.ref n) .none (.int j) H Q = Q (.ref H.length) (H ++ [.list (xs.take (clip j xs.length))]) := by
  unfold sliceA; dsimp only; rw [h]; show Q _ (H ++ [.list (cut xs 0 (clip j xs.length))]) = _; rw [cut_zero]
theorem st_lfrom {n : Nat} {xs : List V} (h : H[n]? = some (.list xs)) (i : Int) : sliceA (.ref n) (.int i) .none H Q = Q (.ref H.length) (H ++ [.list (xs.drop (clip i xs.length))]) := by
  unfold sliceA; dsimp only; rw [h]; show Q _ (H ++ [.list (cut xs (clip i xs.length) xs.length)]) = _; rw [cut_all]

theorem beq_dec {α : Type} [BEq α] [LawfulBEq α] [DecidableEq α] (a b : α) : (a == b) = decide (a = b) := by rw [Bool.eq_iff_iff]; simp

theorem st_eq_str (a b : Txt) : cmpA .Eq (.str a) (.str b) H q = q (decide (a = b)) := by
  show q (a == b) = _; rw [beq_dec]
theorem st_ne_str (a b : Txt) : cmpA .NotEq (.str a) (.str b) H q = q (!decide (a = b)) := by
  show q (!(a == b)) = _; rw [beq_dec]
theorem st_eq_int (a b : Int) : cmpA .Eq (.int a) (.int b) H q = q (decide (a = b)) := by
  show q (a == b) = _; rw [beq_dec]
theorem st_ne_int (a b : Int) : cmpA .NotEq (.int a) (.int b) H q = q (!decide (a = b)) := by
  show q (!(a == b)) = _; rw [beq_dec]
theorem st_eq_none_none : cmpA .Eq .none .none H q = q true := rfl
theorem st_ne_none_none : cmpA .NotEq .none .none H q = q false := rfl
theorem st_lt (a b : Int) : cmpA .Lt (.int a) (.int b) H q = q (decide (a < b)) := rfl
theorem st_le (a b : Int) : cmpA .LtE (.int a) (.int b) H q = q (decide (a ≤ b)) := rfl
theorem st_gt (a b : Int) : cmpA .Gt (.int a) (.int b) H q = q (decide (a > b)) := rfl
theorem st_ge (a b : Int) : cmpA .GtE (.int a) (.int b) H q = q (decide (a ≥ b)) := rfl
theorem st_is (a : V) : cmpA .Is a .none H q = q (decide (a = .none)) := by show (V.none = V.none ∧ _) = _; simp
theorem st_isnot (a : V) : cmpA .IsNot a .none H q = q (!decide (a = .none)) := by show (V.none = V.none ∧ _) = _; simp

theorem st_add (a b : Int) : binA .Add (.int a) (.int b) H Q = Q (.int (a + b)) H := rfl
theorem st_sub (a b : Int) : binA .Sub (.int a) (.int b) H Q = Q (.int (a - b)) H := rfl
theorem st_mul (a b : Int) (h : a.natAbs < 2 ^ 63 ∨ b.natAbs < 2 ^ 63) : binA .Mult (.int a) (.int b) H Q = Q (.int (a * b)) H := by show (_ ∧ _) = _; simp only [h, true_and]
theorem st_div (a b : Int) (h : 0 < b) (h2 : b < 1073741824) : binA .FloorDiv (.int a) (.int b) H Q = Q (.int (a / b)) H := by show (_ ∧ _ ∧ _) = _; simp only [h, h2, true_and]
theorem st_mod (a b : Int) (h : 0 < b) : binA .Mod (.int a) (.int b) H Q = Q (.int (a % b)) H := by show (_ ∧ _) = _; simp only [h, true_and]
theorem st_cat (t u : Txt) (h : t.length + u.length ≤ lid) : binA .Add (.str t) (.str u) H Q = Q (.str (t ++ u)) H := by show (_ ∧ _) = _; simp only [h, true_and]
theorem st_lcat {m n : Nat} {xs ys : List V} (h1 : H[m]? = some (.list xs)) (h2 : H[n]? = some (.list ys)) (h : xs.length + ys.length ≤ lid) : binA .Add (.ref m) (.ref n) H Q = Q (.ref H.length) (H ++ [.list (xs ++ ys)]) := by
  show (match H[m]?, H[n]? with
    | some (.list xs), some (.list ys) => xs.length + ys.length ≤ lid ∧ Q (.ref H.length) (H ++ [AObj.list (xs ++ ys)])
    | _, _ => False) = _
  rw [h1, h2]; simp only [h, true_and]

theorem place_in {k : Int} {n : Nat} (h0 : 0 ≤ k) (h1 : k < n) : place k n = some k.toNat := by
  unfold place; rw [if_pos h0, if_pos (by omega)]
theorem st_at {n : Nat} {xs : List V} {k : Int} {p : V → Prop} (h : H[n]? = some (.list xs)) (h0 : 0 ≤ k) (h1 : k < xs.length) : subA (.ref n) (.int k) H p = p (xs[k.toNat]'(by omega)) := by
  unfold subA; dsimp only; rw [h]; dsimp only; rw [place_in h0 h1]; dsimp only; rw [List.getElem?_eq_getElem (by omega)]
theorem st_at_t {n : Nat} {xs : List V} {k : Int} {p : V → Prop} (h : H[n]? = some (.tuple xs)) (h0 : 0 ≤ k) (h1 : k < xs.length) : subA (.ref n) (.int k) H p = p (xs[k.toNat]'(by omega)) := by
  unfold subA; dsimp only; rw [h]; dsimp only; rw [place_in h0 h1]; dsimp only; rw [List.getElem?_eq_getElem (by omega)]
theorem st_sign {t : Txt} {k : Int} {p : V → Prop} (h0 : 0 ≤ k) (h1 : k < t.length) : subA (.str t) (.int k) H p = p (.str [t[k.toNat]'(by omega)]) := by
  unfold subA; dsimp only; rw [place_in h0 h1]; dsimp only
  rw [List.drop_eq_getElem_cons (by omega)]; rfl

theorem bind_name {y : Str} {v : V} {σ : Sg} : bindA (.name y) (.one v) H σ = some (σ.set y v) := rfl
theorem bind_tup {ys : List Str} {n : Nat} {vs : List V} {σ : Sg} (h : H[n]? = some (.tuple vs)) (hl : ys.length = vs.length) : bindA (.tup ys) (.one (.ref n)) H σ = some (σ.sets (ys.zip vs)) := by
  unfold bindA; dsimp only; rw [h]; dsimp only; rw [if_pos hl]
theorem bind_many {ys : List Str} {vs : List V} {σ : Sg} (hl : ys.length = vs.length) : bindA (.tup ys) (.many vs) H σ = some (σ.sets (ys.zip vs)) := by
  unfold bindA; dsimp only; rw [if_pos hl]
theorem st_list {vs : List V} {p : Prop} (h : vs.length ≤ lid) : (vs.length ≤ lid ∧ p) = p := by simp only [h, true_and]

theorem intsFrom_len (a : Int) (n : Nat) : (intsFrom a n).length = n := by unfold intsFrom; simp
theorem intsFrom_mem {a i : Int} {n : Nat} (h : i ∈ intsFrom a n) : a ≤ i ∧ i < a + n := by
  unfold intsFrom at h
  simp only [List.mem_map, List.mem_range] at h
  obtain ⟨k, hk, rfl⟩ := h
  omega

/-- a list of one-sign texts -/
theorem txts_signs {α : Type} {P : α → V → Prop} (hP : ∀ x v, P x v → ∃ c, v = .str [c]) : ∀ {xs : List α} {vs : List V}, All2 P xs vs → ∃ ts, txts vs = some ts ∧ ts.flatten.length = xs.length ∧ (ts.map List.length).sum = xs.length ∧ ts.length = xs.length
  | _, _, .nil => ⟨[], rfl, rfl, rfl, rfl⟩
  | _, _, .cons h r => by
    obtain ⟨ts, e1, e2, e3, e4⟩ := txts_signs hP r
    obtain ⟨c, rfl⟩ := hP _ _ h
    exact ⟨[c] :: ts, by simp [txts, e1], by simp [e2], by simp [e3]; omega, by simp [e4]⟩

theorem st_any {n : Nat} {xs : List V} {k : Int} {p : V → Prop} (h : H[n]? = some (.list xs)) (h0 : 0 ≤ k) (h1 : k < xs.length) (hp : ∀ v ∈ xs, p v) : subA (.ref n) (.int k) H p := by
  rw [st_at h h0 h1]; exact hp _ (List.getElem_mem _)

theorem tr_bool (b : Bool) : truthyA (.bool b) = some b := rfl
theorem tr_int (i : Int) : truthyA (.int i) = some (i != 0) := rfl
theorem tr_str (t : Txt) : truthyA (.str t) = some (!t.isEmpty) := rfl
theorem tr_none : truthyA .none = some false := rfl

theorem items_list {n : Nat} {xs : List V} {p : List Item → (AHeap → Prop) → Prop} (h : H[n]? = some (.list xs)) : itemsA (.ref n) H p = p (xs.map .one) (fun H' => H'[n]? = some (.list xs)) := by unfold itemsA; dsimp only; rw [h]
theorem items_tuple {n : Nat} {xs : List V} {p : List Item → (AHeap → Prop) → Prop} (h : H[n]? = some (.tuple xs)) : itemsA (.ref n) H p = p (xs.map .one) (fun H' => H'[n]? = some (.tuple xs)) := by unfold itemsA; dsimp only; rw [h]
theorem items_dict {n ep : Nat} {es : List (Txt × V)} {p : List Item → (AHeap → Prop) → Prop} (h : H[n]? = some (.dict es ep)) : itemsA (.ref n) H p = p (es.map fun e => .one (.str e.1)) (fun H' => H'[n]? = some (.dict es ep)) := by unfold itemsA; dsimp only; rw [h]
theorem items_str {t : Txt} {p : List Item → (AHeap → Prop) → Prop} : itemsA (.str t) H p = p (t.map fun c => .one (.str [c])) (fun _ => True) := rfl

theorem rd_tuple {a n : Nat} {xs : List V} (h : H[a]? = some (.tuple xs)) : rd H (n + 1) (.ref a) = (rdL (rd H n) xs).map .tuple := by simp only [rd, h]
theorem rd_list {a n : Nat} {xs : List V} (h : H[a]? = some (.list xs)) : rd H (n + 1) (.ref a) = (rdL (rd H n) xs).map .list := by simp only [rd, h]
theorem eq_data {a b : V} {x y : Dt} {c : Bool → Prop} (ha : rd H 6 a = some x) (hb : rd H 6 b = some y) : cmpA .Eq a b H c = c (Dt.eqv x y) := by
  show eqA H a b c = _; unfold eqA; rw [ha, hb]
theorem ne_data {a b : V} {x y : Dt} {c : Bool → Prop} (ha : rd H 6 a = some x) (hb : rd H 6 b = some y) : cmpA .NotEq a b H c = c (!Dt.eqv x y) := by
  show eqA H a b (fun r => c (!r)) = _; unfold eqA; rw [ha, hb]
theorem ty_list {n : Nat} {xs : List V} (h : H[n]? = some (.list xs)) : tyA (.ref n) H = some .list := by unfold tyA; dsimp only; rw [h]
theorem ty_tuple {n : Nat} {xs : List V} (h : H[n]? = some (.tuple xs)) : tyA (.ref n) H = some .tuple := by unfold tyA; dsimp only; rw [h]
theorem ty_dict {n ep : Nat} {es : List (Txt × V)} (h : H[n]? = some (.dict es ep)) : tyA (.ref n) H = some .dict := by unfold tyA; dsimp only; rw [h]

theorem get_new {o : AObj} : (H ++ [o])[H.length]? = some o := by simp
end

/-! a heap that has kept all that it had -/
structure Keep (H H' : AHeap) : Prop where
  le : H.length ≤ H'.length
  old : ∀ i, i < H.length → H'[i]? = H[i]?
theorem Keep.refl (H : AHeap) : Keep H H := ⟨Nat.le_refl _, fun _ _ => rfl⟩
theorem Keep.trans {H H1 H2 : AHeap} (a : Keep H H1) (b : Keep H1 H2) : Keep H H2 := ⟨Nat.le_trans a.le b.le, fun i h => (b.old i (Nat.lt_of_lt_of_le h a.le)).trans (a.old i h)⟩
theorem Keep.new (H : AHeap) (G : List AObj) : Keep H (H ++ G) := ⟨by simp, fun i h => List.getElem?_append_left h⟩
theorem Keep.get {H H' : AHeap} (k : Keep H H') {n : Nat} {o : AObj} (h : H[n]? = some o) : H'[n]? = some o := (k.old n (List.getElem?_eq_some_iff.mp h).1).trans h
theorem Keep.set {H H' : AHeap} (k : Keep H H') {n : Nat} {o : AObj} (h : H.length ≤ n) : Keep H (H'.set n o) := ⟨by simpa using k.le, fun i hi => by rw [List.getElem?_set_ne (by omega)]; exact k.old i hi⟩
theorem lt_of_get {H : AHeap} {n : Nat} {o : AObj} (h : H[n]? = some o) : n < H.length := (List.getElem?_eq_some_iff.mp h).1

/-- a comprehension whose element is found without touching what stood before -/
theorem comp_map {K : AHeap → Prop} {bind : Item → AHeap → Option Sg} {elt : Sg → AHeap → VPost → Prop} {Q : List V → AHeap → Prop} {P : Item → V → Prop} : ∀ (items : List Item) (acc : List V) (H : AHeap),
    (∀ H', Keep H H' → K H') →
    (∀ x ∈ items, ∀ H', Keep H H' → ∃ σ, bind x H' = some σ ∧ ∀ q : VPost, (∀ v H'', P x v → Keep H' H'' → q v H'') → elt σ H' q) →
    (∀ vs H', All2 P items vs → Keep H H' → Q (acc ++ vs) H') → compGo K bind (fun _ H' q => q true H') elt Q items acc H
  | [], acc, H, hK, _, hQ => ⟨hK H (Keep.refl H), by simpa using hQ [] H .nil (Keep.refl H)⟩
  | x :: xs, acc, H, hK, hx, hQ => by
    obtain ⟨σ, hb, he⟩ := hx x (.head _) H (Keep.refl H)
    refine ⟨hK H (Keep.refl H), ?_⟩
    rw [hb]
    dsimp only
    rw [if_pos rfl]
    refine he _ fun v H1 hv k1 => ?_
    refine comp_map xs (acc ++ [v]) H1 (fun H' k => hK H' (k1.trans k)) (fun y hy H' k => hx y (.tail _ hy) H' (k1.trans k)) fun vs H' hvs k => ?_
    have := hQ (v :: vs) H' (.cons hv hvs) (k1.trans k)
    simpa using this

/-- one with a test -/
theorem comp_filter {K : AHeap → Prop} {bind : Item → AHeap → Option Sg} {test : Sg → AHeap → (Bool → AHeap → Prop) → Prop} {elt : Sg → AHeap → VPost → Prop} {Q : List V → AHeap → Prop} {p : Item → Bool} {P : Item → V → Prop} : ∀ (items : List Item) (acc : List V) (H : AHeap),
    (∀ H', Keep H H' → K H') →
    (∀ x ∈ items, ∀ H', Keep H H' → ∃ σ, bind x H' = some σ ∧ (∀ q : Bool → AHeap → Prop, (∀ H'', Keep H' H'' → q (p x) H'') → test σ H' q) ∧ (p x = true → ∀ H1, Keep H' H1 → ∀ q : VPost, (∀ v H'', P x v → Keep H1 H'' → q v H'') → elt σ H1 q)) →
    (∀ vs H', All2 P (items.filter p) vs → Keep H H' → Q (acc ++ vs) H') → compGo K bind test elt Q items acc H
  | [], acc, H, hK, _, hQ => ⟨hK H (Keep.refl H), by simpa using hQ [] H .nil (Keep.refl H)⟩
  | x :: xs, acc, H, hK, hx, hQ => by
    obtain ⟨σ, hb, ht, he⟩ := hx x (.head _) H (Keep.refl H)
    refine ⟨hK H (Keep.refl H), ?_⟩
    rw [hb]
    dsimp only
    refine ht _ fun H1 k1 => ?_
    cases hp : p x with
    | true =>
      rw [if_pos rfl]
      refine he hp H1 k1 _ fun v H2 hv k2 => ?_
      have k12 := k1.trans k2
      refine comp_filter xs (acc ++ [v]) H2 (fun H' k => hK H' (k12.trans k)) (fun y hy H' k => hx y (.tail _ hy) H' (k12.trans k)) fun vs H' hvs k => ?_
      have := hQ (v :: vs) H' (by rw [List.filter_cons, if_pos hp]; exact .cons hv hvs) (k12.trans k)
      simpa using this
    | false =>
      rw [if_neg (by simp)]
      refine comp_filter xs acc H1 (fun H' k => hK H' (k1.trans k)) (fun y hy H' k => hx y (.tail _ hy) H' (k1.trans k)) fun vs H' hvs k => ?_
      exact hQ vs H' (by rw [List.filter_cons, if_neg (by simp [hp])]; exact hvs) (k1.trans k)

/-- what is asked of the law itself -/
noncomputable def spLaw : Spec := fun vs H Q _ => vs = [.ref 0] ∧ (∃ is : List Int, H[0]? = some (.list (is.map .int))) ∧ ∀ H', Q (.bool true) H'

/-! loops by what stays true -/
theorem while_ind {test : Sg → AHeap → (Bool → AHeap → Prop) → Prop} {body : Sg → AHeap → SPost → Prop} {Q : SPost} (I : Nat → Sg → AHeap → Prop)
    (step : ∀ n σ H, I n σ H → ∀ W : Sg → AHeap → Prop, (∀ m σ H, n = m + 1 → I m σ H → W σ H) →
      test σ H fun b H1 => if b then body σ H1 fun fl σ2 H2 => match fl with
        | .next => W σ2 H2
        | .brk => Q .next σ2 H2
        | .ret v => Q (.ret v) σ2 H2
      else Q .next σ H1) : ∀ n σ H, I n σ H → whileGo test body Q (n + 1) σ H
  | 0, σ, H, h => step 0 σ H h (whileGo test body Q 0) fun m _ _ e => by cases e
  | n + 1, σ, H, h => step (n + 1) σ H h (whileGo test body Q (n + 1)) fun m σ' H' e hi => by cases e; exact while_ind I step n σ' H' hi

theorem for_ind {K : AHeap → Prop} {bind : Item → AHeap → Sg → Option Sg} {body : Sg → AHeap → SPost → Prop} {Q : SPost} (I : List Item → Sg → AHeap → Prop)
    (step : ∀ x xs σ H, I (x :: xs) σ H → K H ∧ ∃ σ', bind x H σ = some σ' ∧ ∀ W : Sg → AHeap → Prop, (∀ σ2 H2, I xs σ2 H2 → W σ2 H2) → body σ' H fun fl σ2 H2 => match fl with
        | .next => W σ2 H2
        | .brk => Q .next σ2 H2
        | .ret v => Q (.ret v) σ2 H2)
    (fin : ∀ σ H, I [] σ H → K H ∧ Q .next σ H) : ∀ items σ H, I items σ H → forGo K bind body Q items σ H
  | [], σ, H, h => fin σ H h
  | x :: xs, σ, H, h => by
    obtain ⟨hK, σ', hb, hs⟩ := step x xs σ H h
    refine ⟨hK, ?_⟩
    rw [hb]
    exact hs (forGo K bind body Q xs) fun σ2 H2 h2 => for_ind I step fin xs σ2 H2 h2

end Mine
end
section
namespace Mine
open PySem PySem.Calls PyProof.Rows PySem.W

/-! From the ground that the law's head lays to the walk. -/

noncomputable def gOf (mg mb : Str → Option Value) : Str → Option Value := fun x => match mg x with
  | some .none => none
  | some v => some v
  | none => (match mb x with
    | some .none => none
    | r => r)

theorem gOf_none {mg mb : Str → Option Value} (x : Str) : gOf mg mb x ≠ some .none := by
  unfold gOf
  cases mg x with
  | none =>
    dsimp only
    cases mb x with
    | none => exact fun h => nomatch h
    | some v => cases v <;> exact fun h => nomatch h
  | some v => cases v <;> exact fun h => nomatch h
theorem gOf_is {mg mb : Str → Option Value} (x : Str) (v : Value) (h : gOf mg mb x = some v) : mg x = some v ∨ (mg x = none ∧ mb x = some v) := by
  unfold gOf at h
  cases e : mg x with
  | none =>
    rw [e] at h
    dsimp only at h
    right
    refine ⟨rfl, ?_⟩
    cases e2 : mb x with
    | none => rw [e2] at h; cases h
    | some u => rw [e2] at h; cases u <;> first | exact h | cases h
  | some u =>
    rw [e] at h
    left
    cases u <;> first | exact h | cases h

noncomputable def cxOf (prog : Program) (w : World) (s : Shared) {p : Program} {loose : List Str} {mean : ExcName → Option Value} {mg mb : Str → Option Value} (T : Top p loose mean mg mb s.heap) : Cx where
  prog := prog
  w := w
  base := s.heap
  os := s.os
  G := gOf mg mb
  mg := mg
  mb := mb
  hg := T.g
  hb := T.b
  lim := T.nolimit
  hN := gOf_none
  hG := gOf_is

/-- a definition among those of the text, translated -/
noncomputable def chk (ds : List DefRec) (f : Str) : Option (List Str × PS) := match ds.find? (fun d => d.name == f) with
  | some d => if goodDef d.params d.scope then (trS 60 (fun x => d.scope.names.lookup x) d.body).map fun ps => (d.params.args.map (·.arg), ps) else none
  | none => none

section
variable {prog : Program} {w : World} {s : Shared} {p : Program} {loose : List Str} {mean : ExcName → Option Value} {mg mb : Str → Option Value} (T : Top p loose mean mg mb s.heap)

theorem defAt_of {f : Str} {xs : List Str} {ps : PS} (h : chk (recsOf p) f = some (xs, ps)) : DefAt (cxOf prog w s T) f xs ps ∧ ∃ a, mg f = some (.ref a) := by
  unfold chk at h
  split at h
  · rename_i d hd
    split at h
    · rename_i hg
      cases ht : trS 60 (fun x => d.scope.names.lookup x) d.body with
      | none => rw [ht] at h; cases h
      | some ps' =>
        rw [ht] at h
        cases h
        have hn : d.name = f := beq_iff_eq.mp (List.find?_some (p := fun e : DefRec => e.name == f) hd)
        obtain ⟨a, o, pm, code, doc, h1, h2, h3, h4⟩ := T.fn d (List.mem_of_find?_eq_some hd)
        rw [hn] at h1
        refine ⟨⟨a, o, d.name, d.params, d.body, d.scope, pm, code, doc, ?_, h2, h3, h4, hg, ht, rfl⟩, a, h1⟩
        show gOf mg mb f = some (.ref a)
        unfold gOf
        rw [h1]
    · cases h
  · cases h

theorem boot_bi : ∀ p ∈ biL, bootBuiltins p.1 = some p.2 := by
  intro p hp
  simp only [biL, List.mem_cons, List.not_mem_nil, or_false] at hp
  rcases hp with rfl | rfl | rfl | rfl | rfl | rfl | rfl | rfl | rfl | rfl | rfl | rfl | rfl | rfl | rfl | rfl <;> kernel_rfl

noncomputable def freeOf (p : Program) (loose : List Str) (x : Str) : Bool := !startupNames.contains x && !loose.contains x && !((recsOf p).map (·.name)).contains x && !((litsOf p).map (·.1)).contains x && !((clssOf p loose).map (·.name)).contains x && x != Str.ofString "__name__"

theorem bi_of (h : (biL.all fun q => freeOf p loose q.1) = true) : ∀ q ∈ biL, (cxOf prog w s T).G q.1 = some q.2 := by
  intro q hq
  have hf := List.all_eq_true.mp h q hq
  unfold freeOf at hf
  simp only [Bool.and_eq_true, Bool.not_eq_true', List.contains_eq_mem, decide_eq_false_iff_not, bne_iff_ne] at hf
  obtain ⟨⟨⟨⟨⟨h1, h2⟩, h3⟩, h4⟩, h5⟩, h6⟩ := hf
  have hm := T.free q.1 h1 h2 h3 h4 h5
  have hb := (T.builtins q.1 h6).trans (boot_bi q hq)
  show gOf mg mb q.1 = some q.2
  unfold gOf
  rw [hm, hb]
  simp only [biL, List.mem_cons, List.not_mem_nil, or_false] at hq
  rcases hq with rfl | rfl | rfl | rfl | rfl | rfl | rfl | rfl | rfl | rfl | rfl | rfl | rfl | rfl | rfl | rfl <;> rfl

theorem ints_vr {C : Cx} {ρ : List Addr} : ∀ {vs : List Value} {ns : List Int}, IntsAre vs ns → All2 (VR C ρ) (ns.map .int) vs
  | _, _, .nil => .nil
  | _, _, .cons i t h => .cons ⟨t, rfl⟩ (ints_vr h)

/-- the state that the law starts in -/
theorem start_sim {l : Addr} {vs : List Value} {ns : List Int} {P : Params} (hw : Well P s.heap (.ref l) (ofPy (.list (ns.map .int)))) (hL : s.heap.IsList l vs.toArray) (hI : IntsAre vs ns) (hlen : ns.length ≤ 63) (hl : l ≠ sysModules) (hg : s.gens = #[]) :
    Sim (cxOf prog w s T) [l] [.list (ns.map .int)] s := by
  refine ⟨rfl, by simp, fun i a o e q => ?_, fun b o e => e, fun i a e hi => ?_, by simpa using Ne.symm hl, hg, rfl⟩
  · cases i with
    | zero =>
      simp at e q
      subst e q
      cases hw with
      | list ho _ =>
        obtain ⟨o', ho', _, n, hd⟩ := hL
        rw [ho] at ho'
        cases ho'
        simp only at hd
        injection hd with e1 e2
        refine ⟨_, _, ho, ?_, by simpa [lid] using Nat.le_trans hlen (by decide)⟩
        rw [e1]
        exact ints_vr hI
    | succ i => cases e
  · cases i with
    | zero => exact absurd rfl hi
    | succ i => cases e

/-- the law's end -/
theorem end_good {prog : Program} {c : ClaimW} {cl : Str → Option Addr} {mean' : ExcName → Option Value} {args : List WData} {ρ : List Addr} {u : Value} {s' : Shared} (hr : ∀ cls, c.raises args cls = false) (hp : c.post args (.bool true) args = true)
    (h : PV (cxOf prog w s T) ρ s (fun v _ => v = .bool true) u s') : GoodW c cl mean' args s (.ok (.ret u)) s' := by
  obtain ⟨ρ', H', v, st, S, hv, rfl⟩ := h
  have hv : u = .bool true := hv
  subst hv
  exact ⟨.inl ⟨_, .bool true, [], rfl, hr, .bool true, hp, fun _ => ⟨by simp, fun a ha => by cases ha⟩⟩, fun b o e => S.stays b o e, S.os, S.gens⟩

theorem law_done {prog : Program} {Tb : Tab} {K : Nat} {f : Str} {xs : List Str} {ps : PS} {fa l : Addr} {vs : List Value} {ns : List Int} {P : Params} {c : ClaimW} {cl : Str → Option Addr} {mean' : ExcName → Option Value} {args : List WData}
    (hT : TabOk (cxOf prog w s T) Tb K) (hK : K ≤ 200) (hd : chk (recsOf p) f = some (xs, ps)) (hct : Ct Tb xs ps spLaw) (hmg : mg f = some (.ref fa))
    (hw : Well P s.heap (.ref l) (ofPy (.list (ns.map .int)))) (hL : s.heap.IsList l vs.toArray) (hI : IntsAre vs ns) (hlen : ns.length ≤ 63) (hl : l ≠ sysModules) (hg : s.gens = #[])
    (hr : ∀ cls, c.raises args cls = false) (hp : c.post args (.bool true) args = true) : codeAny (model prog w) callerA (.call (.ref fa) ⟨[.ref l], []⟩) (GoodWG c cl mean' args s) s := by
  have S := start_sim (prog := prog) (w := w) T hw hL hI hlen hl hg
  obtain ⟨⟨a, o, name, params, body, sc, pm, cd, doc, h1, h2, h3, h4, h5, h6, rfl⟩, a', ha'⟩ := defAt_of (prog := prog) (w := w) T hd
  rw [hmg] at ha'
  cases ha'
  have e : fa = a := by
    have h1 : gOf mg mb f = some (.ref a) := h1
    unfold gOf at h1
    rw [hmg] at h1
    cases h1; rfl
  subst e
  have hA : AOk (K + 1) callerA := ⟨rfl, by show 301 + (K + 1) < 1000; omega, by show 4 + 5 * (K + 1) + 200 < 9900; omega⟩
  refine codeAny_mono (fn_code (C := cxOf prog w s T) (E := fun _ _ => False) hT h2 h3 h4 h5 h6 (vs := [.ref 0]) (Q := fun v _ => v = .bool true) (X := fun _ _ => False) (hct _ _ _ _ ⟨rfl, ⟨ns, rfl⟩, fun _ => rfl⟩) S (.cons ⟨l, rfl, rfl⟩ .nil) hA fun _ _ p => p.none) ?_
  intro r s' h
  match r, h with
  | .ok (.ret v), h => exact GoodW.toG (end_good T hr hp h)

end
end Mine
end
section
namespace Mine
open PySem
noncomputable def x_left_of : List Str := [(nm 245248756), (nm 30815173231)]
noncomputable def b_left_of : PS := (.seq (.ite (.cmp1 .NotEq (.slice (.name (nm 245248756)) .none (.call (.glob (nm 1815276)) (.cons (.name (nm 30815173231)) .nil))) (.name (nm 30815173231))) (.seq (.ret .none) .skip) .skip) (.seq (.ret (.slice (.name (nm 245248756)) (.call (.glob (nm 1815276)) (.cons (.name (nm 30815173231)) .nil)) .none)) .skip))
noncomputable def x_shared : List Str := [(nm 245248756), (nm 30815173231)]
noncomputable def b_shared : PS := (.seq (.assign (.name (nm 255570157)) (.int 0)) (.seq (.while_ (.and (.cmp1 .Lt (.name (nm 255570157)) (.call (.glob (nm 1815789)) (.cons (.call (.glob (nm 1815276)) (.cons (.name (nm 245248756)) .nil)) (.cons (.call (.glob (nm 1815276)) (.cons (.name (nm 30815173231)) .nil)) .nil)))) (.cmp1 .Eq (.sub (.name (nm 245248756)) (.name (nm 255570157))) (.sub (.name (nm 30815173231)) (.name (nm 255570157))))) (.seq (.assign (.name (nm 255570157)) (.bin .Add (.name (nm 255570157)) (.int 1))) .skip)) (.seq (.ret (.name (nm 255570157))) .skip)))
noncomputable def x_stepped : List Str := [(nm 245166834), (nm 211597303)]
noncomputable def b_stepped : PS := (.seq (.assign (.name (nm 31379420275)) (.call (.glob (nm 452440421413612)) (.cons (.name (nm 245166834)) (.cons (.name (nm 211597303)) .nil)))) (.seq (.ite (.cmp1 .IsNot (.name (nm 31379420275)) .none) (.seq (.ret (.tuple (.cons (.name (nm 31379420275)) (.cons (.bool false) .nil)))) .skip) .skip) (.seq (.assign (.name (nm 3465736516322)) (.call (.glob (nm 452440421413612)) (.cons (.name (nm 211597303)) (.cons (.name (nm 245166834)) .nil)))) (.seq (.ite (.cmp1 .IsNot (.name (nm 3465736516322)) .none) (.seq (.ret (.tuple (.cons (.name (nm 3465736516322)) (.cons (.bool true) .nil)))) .skip) .skip) (.seq (.ret .none) .skip)))))
noncomputable def x_law_at : List Str := [(nm 137989276334399845594719), (nm 3702244537951)]
noncomputable def b_law_at : PS := (.seq (.ite (.cmp1 .Lt (.name (nm 3702244537951)) (.call (.glob (nm 1815276)) (.cons (.name (nm 137989276334399845594719)) .nil))) (.seq (.ret (.sub (.name (nm 137989276334399845594719)) (.name (nm 3702244537951)))) .skip) .skip) (.seq (.ret (.int 0)) .skip))
noncomputable def x_law_mixed : List Str := [(nm 7843466381129971295), (nm 3702244537951)]
noncomputable def b_law_mixed : PS := (.seq (.assign (.name (nm 135526128861644626359903)) (.bin .Mod (.bin .Mult (.bin .Add (.bin .Add (.name (nm 7843466381129971295)) (.bin .Mult (.int 7919) (.name (nm 3702244537951)))) (.int 3)) (.int 48271)) (.int 2147483647))) (.seq (.ret (.bin .Mod (.bin .Mult (.name (nm 135526128861644626359903)) (.name (nm 135526128861644626359903))) (.int 2147483629))) .skip))
noncomputable def x_law_whole : List Str := [(nm 930329895887808525919)]
noncomputable def b_law_whole : PS := (.seq (.ret (.and (.call (.glob (nm 938756632654307293673)) (.cons (.name (nm 930329895887808525919)) (.cons (.glob (nm 1914729)) .nil))) (.not (.call (.glob (nm 938756632654307293673)) (.cons (.name (nm 930329895887808525919)) (.cons (.glob (nm 228325346)) .nil)))))) .skip)
noncomputable def x_law_text : List Str := [(nm 7843466381129971295), (nm 7346962664154232415)]
noncomputable def b_law_text : PS := (.seq (.assign (.name (nm 7339670703038821983)) (.slice (.str ⟨#[97, 98, 99, 100, 101, 102, 103, 104, 105, 106, 107, 108, 109, 110, 111, 112, 113, 114, 115, 116, 117, 118, 119, 120, 121, 122]⟩) .none (.sub (.list (.cons (.int 26) (.cons (.int 1) (.cons (.int 2) (.cons (.int 3) .nil))))) (.bin .Mod (.name (nm 7843466381129971295)) (.int 4))))) (.seq (.ret (.meth (.str ⟨#[]⟩) (nm 232421354) (.cons (.comp0 (.sub (.name (nm 7339670703038821983)) (.bin .Mod (.bin .FloorDiv (.call (.glob (nm 929683040243566540383)) (.cons (.bin .FloorDiv (.name (nm 7843466381129971295)) (.int 4)) (.cons (.name (nm 3667884799583)) .nil))) (.int 64)) (.call (.glob (nm 1815276)) (.cons (.name (nm 7339670703038821983)) .nil)))) (.name (nm 3667884799583)) (.itRange1 (.name (nm 7346962664154232415)))) .nil))) .skip))
noncomputable def x_law_bent : List Str := [(nm 252284354985272115066587084383), (nm 7843466381129971295)]
noncomputable def b_law_bent : PS := (.seq (.assign (.name (nm 15398215025955758113584735)) (.bin .Mod (.bin .FloorDiv (.name (nm 7843466381129971295)) (.int 8)) (.bin .Add (.call (.glob (nm 1815276)) (.cons (.name (nm 252284354985272115066587084383)) .nil)) (.int 1)))) (.seq (.assign (.name (nm 7984784961380578911)) (.sub (.str ⟨#[97, 98, 99, 100, 101, 102, 103, 104, 105, 106, 107, 108, 109, 110, 111, 112, 113, 114, 115, 116, 117, 118, 119, 120, 121, 122]⟩) (.bin .Mod (.bin .FloorDiv (.name (nm 7843466381129971295)) (.int 256)) (.int 26)))) (.seq (.assign (.name (nm 7339670703038821983)) (.list (.cons (.slice (.name (nm 252284354985272115066587084383)) .none (.name (nm 15398215025955758113584735))) (.cons (.slice (.name (nm 252284354985272115066587084383)) .none (.name (nm 15398215025955758113584735))) (.cons (.name (nm 252284354985272115066587084383)) (.cons (.bin .Add (.name (nm 252284354985272115066587084383)) (.name (nm 7984784961380578911))) (.cons (.bin .Add (.slice (.name (nm 252284354985272115066587084383)) .none (.name (nm 15398215025955758113584735))) (.name (nm 7984784961380578911))) (.cons (.bin .Add (.bin .Add (.slice (.name (nm 252284354985272115066587084383)) .none (.name (nm 15398215025955758113584735))) (.name (nm 7984784961380578911))) (.slice (.name (nm 252284354985272115066587084383)) (.bin .Add (.name (nm 15398215025955758113584735)) (.int 1)) .none)) (.cons (.name (nm 7984784961380578911)) (.cons (.str ⟨#[]⟩) .nil)))))))))) (.seq (.ret (.sub (.name (nm 7339670703038821983)) (.bin .Mod (.name (nm 7843466381129971295)) (.int 8)))) .skip))))
noncomputable def x_law_left : List Str := [(nm 252284354985272115066587084383), (nm 1058801290007509759583)]
noncomputable def b_law_left : PS := (.seq (.ite (.cmp1 .Eq (.slice (.name (nm 252284354985272115066587084383)) .none (.call (.glob (nm 1815276)) (.cons (.name (nm 1058801290007509759583)) .nil))) (.name (nm 1058801290007509759583))) (.seq (.ret (.slice (.name (nm 252284354985272115066587084383)) (.call (.glob (nm 1815276)) (.cons (.name (nm 1058801290007509759583)) .nil)) .none)) .skip) .skip) (.seq (.ret .none) .skip))
noncomputable def x_law_step : List Str := [(nm 8423868298503419487), (nm 7270427996206954079)]
noncomputable def b_law_step : PS := (.seq (.ite (.cmp1 .Eq (.slice (.name (nm 8423868298503419487)) .none (.call (.glob (nm 1815276)) (.cons (.name (nm 7270427996206954079)) .nil))) (.name (nm 7270427996206954079))) (.seq (.ret (.tuple (.cons (.slice (.name (nm 8423868298503419487)) (.call (.glob (nm 1815276)) (.cons (.name (nm 7270427996206954079)) .nil)) .none) (.cons (.bool false) .nil)))) .skip) .skip) (.seq (.ite (.cmp1 .Eq (.slice (.name (nm 7270427996206954079)) .none (.call (.glob (nm 1815276)) (.cons (.name (nm 8423868298503419487)) .nil))) (.name (nm 8423868298503419487))) (.seq (.ret (.tuple (.cons (.slice (.name (nm 7270427996206954079)) (.call (.glob (nm 1815276)) (.cons (.name (nm 8423868298503419487)) .nil)) .none) (.cons (.bool true) .nil)))) .skip) .skip) (.seq (.ret .none) .skip)))
noncomputable def x_law_shared : List Str := [(nm 57345570095265375), (nm 1058801290007509759583)]
noncomputable def b_law_shared : PS := (.seq (.assign (.name (nm 8781323754941216351)) (.int 0)) (.seq (.while_ (.and (.cmp1 .Lt (.name (nm 8781323754941216351)) (.call (.glob (nm 1815789)) (.cons (.call (.glob (nm 1815276)) (.cons (.name (nm 57345570095265375)) .nil)) (.cons (.call (.glob (nm 1815276)) (.cons (.name (nm 1058801290007509759583)) .nil)) .nil)))) (.cmp1 .Eq (.sub (.name (nm 57345570095265375)) (.name (nm 8781323754941216351))) (.sub (.name (nm 1058801290007509759583)) (.name (nm 8781323754941216351))))) (.seq (.assign (.name (nm 8781323754941216351)) (.bin .Add (.name (nm 8781323754941216351)) (.int 1))) .skip)) (.seq (.ret (.name (nm 8781323754941216351))) .skip)))
noncomputable def x_law : List Str := [(nm 137989276334399845594719)]
noncomputable def b_law_6 : PS := (.seq (.ret (.bool true)) .skip)
noncomputable def b_law_l1 : PS := (.seq (.ite (.cmp1 .NotEq (.name (nm 7270427996206954079)) (.str ⟨#[]⟩)) (.seq (.assign (.name (nm 930329895887808525919)) (.call (.glob (nm 443305286007411)) (.cons (.name (nm 8423868298503419487)) (.cons (.name (nm 7270427996206954079)) .nil)))) (.seq (.assign (.name (nm 57375978463721055)) (.call (.glob (nm 8127822628061214303)) (.cons (.name (nm 8423868298503419487)) (.cons (.name (nm 7270427996206954079)) .nil)))) (.seq (.ite (.and (.cmp1 .Is (.name (nm 57375978463721055)) .none) (.cmp1 .IsNot (.name (nm 930329895887808525919)) .none)) (.seq (.ret (.bool false)) .skip) .skip) (.seq (.ite (.and (.cmp1 .IsNot (.name (nm 57375978463721055)) .none) (.or (.not (.call (.glob (nm 938756632654307293673)) (.cons (.name (nm 930329895887808525919)) (.cons (.glob (nm 27340323572)) .nil)))) (.cmp1 .NotEq (.name (nm 930329895887808525919)) (.name (nm 57375978463721055))))) (.seq (.ret (.bool false)) .skip) .skip) (.seq (.ite (.and (.cmp1 .IsNot (.name (nm 57375978463721055)) .none) (.not (.call (.glob (nm 938756632654307293673)) (.cons (.sub (.name (nm 930329895887808525919)) (.int 1)) (.cons (.glob (nm 228325346)) .nil))))) (.seq (.ret (.bool false)) .skip) .skip) .skip))))) .skip) .skip)
noncomputable def b_law_5 : PS := (.seq (.for_ (.name (nm 7270427996206954079)) (.itVal (.bin .Add (.name (nm 1067958212234506171999)) (.list (.cons (.slice (.bin .Add (.name (nm 8423868298503419487)) (.sub (.name (nm 1067958212234506171999)) (.int 1))) .none (.int 10)) .nil)))) b_law_l1) b_law_6)
noncomputable def b_law_4 : PS := (.seq (.assign (.name (nm 1067958212234506171999)) (.list (.cons (.slice (.call (.glob (nm 8421052998980499039)) (.cons (.name (nm 8423868298503419487)) (.cons (.call (.glob (nm 513532042442335)) (.cons (.name (nm 137989276334399845594719)) (.cons (.int 4) .nil))) .nil))) .none (.int 10)) (.cons (.call (.glob (nm 8426683116990002783)) (.cons (.call (.glob (nm 513532042442335)) (.cons (.name (nm 137989276334399845594719)) (.cons (.int 5) .nil))) (.cons (.bin .Add (.int 1) (.bin .Mod (.call (.glob (nm 513532042442335)) (.cons (.name (nm 137989276334399845594719)) (.cons (.int 6) .nil))) (.int 10))) .nil))) .nil)))) b_law_5)
noncomputable def b_law_3 : PS := (.seq (.assign (.name (nm 8423868298503419487)) (.slice (.name (nm 252284354985272115066587084383)) .none (.bin .Mod (.call (.glob (nm 513532042442335)) (.cons (.name (nm 137989276334399845594719)) (.cons (.int 3) .nil))) (.int 11)))) b_law_4)
noncomputable def b_law_l2_4 : PS := (.seq (.ite (.or (.not (.call (.glob (nm 939405744834656892511)) (.cons (.name (nm 8781323754941216351)) .nil))) (.cmp1 .NotEq (.name (nm 8781323754941216351)) (.call (.glob (nm 118998992280703227950687)) (.cons (.name (nm 57345570095265375)) (.cons (.name (nm 63014823846770271)) .nil))))) (.seq (.ret (.bool false)) .skip) .skip) .skip)
noncomputable def b_law_l2_3 : PS := (.seq (.assign (.name (nm 8781323754941216351)) (.call (.glob (nm 3463326495859)) (.cons (.name (nm 57345570095265375)) (.cons (.name (nm 63014823846770271)) .nil)))) b_law_l2_4)
noncomputable def b_law_l2_2 : PS := (.seq (.ite (.or (.cmp1 .NotEq (.name (nm 930329895887808525919)) (.name (nm 57375978463721055))) (.and (.cmp1 .IsNot (.name (nm 57375978463721055)) .none) (.not (.call (.glob (nm 938756632654307293673)) (.cons (.name (nm 930329895887808525919)) (.cons (.glob (nm 1882739)) .nil)))))) (.seq (.ret (.bool false)) .skip) .skip) b_law_l2_3)
noncomputable def b_law_l2_1 : PS := (.seq (.assign (.name (nm 57375978463721055)) (.call (.glob (nm 8416549742950512223)) (.cons (.name (nm 57345570095265375)) (.cons (.name (nm 63014823846770271)) .nil)))) b_law_l2_2)
noncomputable def b_law_l2 : PS := (.seq (.assign (.name (nm 930329895887808525919)) (.call (.glob (nm 452440421413612)) (.cons (.name (nm 57345570095265375)) (.cons (.name (nm 63014823846770271)) .nil)))) b_law_l2_1)
noncomputable def b_law_2 : PS := (.seq (.for_ (.tup [(nm 57345570095265375), (nm 63014823846770271)]) (.itVal (.list (.cons (.tuple (.cons (.name (nm 252284354985272115066587084383)) (.cons (.name (nm 1058801290007509759583)) .nil))) (.cons (.tuple (.cons (.name (nm 1058801290007509759583)) (.cons (.name (nm 252284354985272115066587084383)) .nil))) .nil)))) b_law_l2) b_law_3)
noncomputable def b_law_1 : PS := (.seq (.assign (.name (nm 1058801290007509759583)) (.call (.glob (nm 8421052998980499039)) (.cons (.name (nm 252284354985272115066587084383)) (.cons (.call (.glob (nm 513532042442335)) (.cons (.name (nm 137989276334399845594719)) (.cons (.int 2) .nil))) .nil)))) b_law_2)
noncomputable def b_law : PS := (.seq (.assign (.name (nm 252284354985272115066587084383)) (.call (.glob (nm 8426683116990002783)) (.cons (.call (.glob (nm 513532042442335)) (.cons (.name (nm 137989276334399845594719)) (.cons (.int 0) .nil))) (.cons (.bin .Mod (.call (.glob (nm 513532042442335)) (.cons (.name (nm 137989276334399845594719)) (.cons (.int 1) .nil))) (.int 31)) .nil)))) b_law_1)

noncomputable def spLeft : Spec := fun vs H Q _ => match vs with
  | [.str t, .str u] => Q (if t.take u.length = u then .str (t.drop u.length) else .none) H
  | _ => False

theorem ct_left {T : Tab} (h1 : Has T (nm 1815276) spLen) : Ct T x_left_of b_left_of spLeft := by
  intro vs H Q X h
  unfold spLeft at h
  split at h
  · rename_i t u
    refine ⟨rfl, ?_⟩
    dsimp only [b_left_of, x_left_of, semS, sem, Me.ofEv, Me.ofEl, Me.ofIt, sgOf, Sg.sets, List.zip_cons_cons, List.zip_nil_right, List.zip_nil_left]
    simp only [set_nm, Nat.reduceEqDiff, ↓reduceIte, tr_bool, tr_int, tr_str, tr_none, bind_name, h1.gv, h1.fn, st_len_str, st_to, st_from, st_ne_str, clip_nat, take_clip, drop_clip]
    by_cases e : t.take u.length = u
    · simpa [e] using h
    · simpa [e] using h
  · exact h.elim

theorem ct_law_left {T : Tab} (h1 : Has T (nm 1815276) spLen) : Ct T x_law_left b_law_left spLeft := by
  intro vs H Q X h
  unfold spLeft at h
  split at h
  · rename_i t u
    refine ⟨rfl, ?_⟩
    dsimp only [b_law_left, x_law_left, semS, sem, Me.ofEv, Me.ofEl, Me.ofIt, sgOf, Sg.sets, List.zip_cons_cons, List.zip_nil_right, List.zip_nil_left]
    simp only [set_nm, Nat.reduceEqDiff, ↓reduceIte, tr_bool, tr_int, tr_str, tr_none, bind_name, h1.gv, h1.fn, st_len_str, st_to, st_from, st_eq_str, clip_nat, take_clip, drop_clip]
    by_cases e : t.take u.length = u
    · simpa [e] using h
    · simpa [e] using h
  · exact h.elim

/-- how many signs two texts share at their start -/
noncomputable def lcp : Txt → Txt → Nat
  | a :: r, b :: t => if a = b then lcp r t + 1 else 0
  | _, _ => 0

noncomputable def spShared : Spec := fun vs H Q _ => match vs with
  | [.str t, .str u] => Q (.int (lcp t u)) H
  | _ => False

theorem lcp_step : ∀ (t u : Txt) (k : Nat), k < t.length → k < u.length → t.take k = u.take k → (t[k]? = u[k]? ∧ lcp t u = lcp t u ∧ t.take (k + 1) = u.take (k + 1)) ∨ (t[k]? ≠ u[k]? ∧ lcp t u = k)
  | a :: r, b :: t, 0, _, _, _ => by
    by_cases e : a = b
    · left; subst e; simp
    · right; simp [lcp, e]
  | a :: r, b :: t, k + 1, h1, h2, h => by
    simp only [List.take_succ_cons, List.cons.injEq] at h
    rcases lcp_step r t k (by simpa using h1) (by simpa using h2) h.2 with ⟨x, _, y⟩ | ⟨x, y⟩
    · left; refine ⟨by simpa using x, rfl, ?_⟩; rw [List.take_succ_cons, List.take_succ_cons, y, h.1]
    · right; refine ⟨by simpa using x, ?_⟩; simp [lcp, h.1, y]
theorem lcp_end : ∀ (t u : Txt) (k : Nat), k = t.length ∨ k = u.length → k ≤ t.length → k ≤ u.length → t.take k = u.take k → lcp t u = k
  | [], u, k, _, h1, _, _ => by simp at h1; subst h1; rfl
  | a :: r, [], k, _, _, h2, _ => by simp at h2; subst h2; rfl
  | a :: r, b :: t, 0, h, _, _, _ => by simp at h
  | a :: r, b :: t, k + 1, h, h1, h2, h3 => by
    simp only [List.take_succ_cons, List.cons.injEq] at h3
    have := lcp_end r t k (by simpa using h) (by simpa using h1) (by simpa using h2) h3.2
    simp [lcp, h3.1, this]

theorem ct_shared {T : Tab} (h1 : Has T (nm 1815276) spLen) (h2 : Has T (nm 1815789) spMin) : Ct T x_shared b_shared spShared := by
  intro vs H Q X h
  unfold spShared at h
  split at h
  · rename_i t u
    refine ⟨rfl, ?_⟩
    dsimp only [b_shared, x_shared, semS, sem, Me.ofEv, Me.ofEl, Me.ofIt, sgOf, Sg.sets, List.zip_cons_cons, List.zip_nil_right, List.zip_nil_left]
    simp only [set_nm, Nat.reduceEqDiff, ↓reduceIte, tr_bool, tr_int, tr_str, tr_none, bind_name, h1.gv, h1.fn, h2.gv, h2.fn]
    refine ⟨_, while_ind (fun n σ H' => H' = H ∧ σ (nm 245248756) = some (.str t) ∧ σ (nm 30815173231) = some (.str u) ∧ ∃ k : Nat, σ (nm 255570157) = some (.int k) ∧ k + n = min t.length u.length ∧ t.take k = u.take k) ?_ (min t.length u.length) _ _ ⟨rfl, ?_, ?_, 0, ?_, ?_, ?_⟩⟩
    · rintro n σ H' ⟨rfl, e1, e2, k, e3, hk, ht⟩ W hW
      simp only [e1, e2, e3, st_len_str, spMin, st_lt]
      by_cases c : (k : Int) < (if (u.length : Int) < t.length then (u.length : Int) else t.length)
      · have hku : k < u.length := by split at c <;> omega
        have hkt : k < t.length := by split at c <;> omega
        rw [decide_eq_true c]
        simp only [↓reduceIte]
        rw [st_sign (by omega) (by omega)]
        rw [st_sign (by omega) (by omega)]
        simp only [st_eq_str, Int.toNat_natCast, List.cons.injEq, and_true]
        rcases lcp_step t u k hkt hku ht with ⟨x, _, y⟩ | ⟨x, y⟩
        · have x' : t[k] = u[k] := by simpa [hkt, hku] using x
          simp only [x', decide_true, ↓reduceIte, st_add]
          cases n with
          | zero => omega
          | succ n => exact hW n _ _ rfl ⟨rfl, by simpa [set_nm] using e1, by simpa [set_nm] using e2, k + 1, by simp [set_nm], by omega, y⟩
        · have x' : ¬ t[k] = u[k] := by simpa [hkt, hku] using x
          simp only [x', decide_false, Bool.false_eq_true, ↓reduceIte, e3]
          rw [← y]; exact h
      · have hend : k = t.length ∨ k = u.length := by split at c <;> omega
        simp only [decide_eq_false c, Bool.false_eq_true, ↓reduceIte, e3]
        rw [lcp_end t u k hend (by omega) (by omega) ht] at h
        exact h
    all_goals simp [set_nm]
  · exact h.elim
theorem ct_law_shared {T : Tab} (h1 : Has T (nm 1815276) spLen) (h2 : Has T (nm 1815789) spMin) : Ct T x_law_shared b_law_shared spShared := by
  intro vs H Q X h
  unfold spShared at h
  split at h
  · rename_i t u
    refine ⟨rfl, ?_⟩
    dsimp only [b_law_shared, x_law_shared, semS, sem, Me.ofEv, Me.ofEl, Me.ofIt, sgOf, Sg.sets, List.zip_cons_cons, List.zip_nil_right, List.zip_nil_left]
    simp only [set_nm, Nat.reduceEqDiff, ↓reduceIte, tr_bool, tr_int, tr_str, tr_none, bind_name, h1.gv, h1.fn, h2.gv, h2.fn]
    refine ⟨_, while_ind (fun n σ H' => H' = H ∧ σ (nm 57345570095265375) = some (.str t) ∧ σ (nm 1058801290007509759583) = some (.str u) ∧ ∃ k : Nat, σ (nm 8781323754941216351) = some (.int k) ∧ k + n = min t.length u.length ∧ t.take k = u.take k) ?_ (min t.length u.length) _ _ ⟨rfl, ?_, ?_, 0, ?_, ?_, ?_⟩⟩
    · rintro n σ H' ⟨rfl, e1, e2, k, e3, hk, ht⟩ W hW
      simp only [e1, e2, e3, st_len_str, spMin, st_lt]
      by_cases c : (k : Int) < (if (u.length : Int) < t.length then (u.length : Int) else t.length)
      · have hku : k < u.length := by split at c <;> omega
        have hkt : k < t.length := by split at c <;> omega
        rw [decide_eq_true c]
        simp only [↓reduceIte]
        rw [st_sign (by omega) (by omega)]
        rw [st_sign (by omega) (by omega)]
        simp only [st_eq_str, Int.toNat_natCast, List.cons.injEq, and_true]
        rcases lcp_step t u k hkt hku ht with ⟨x, _, y⟩ | ⟨x, y⟩
        · have x' : t[k] = u[k] := by simpa [hkt, hku] using x
          simp only [x', decide_true, ↓reduceIte, st_add]
          cases n with
          | zero => omega
          | succ n => exact hW n _ _ rfl ⟨rfl, by simpa [set_nm] using e1, by simpa [set_nm] using e2, k + 1, by simp [set_nm], by omega, y⟩
        · have x' : ¬ t[k] = u[k] := by simpa [hkt, hku] using x
          simp only [x', decide_false, Bool.false_eq_true, ↓reduceIte, e3]
          rw [← y]; exact h
      · have hend : k = t.length ∨ k = u.length := by split at c <;> omega
        simp only [decide_eq_false c, Bool.false_eq_true, ↓reduceIte, e3]
        rw [lcp_end t u k hend (by omega) (by omega) ht] at h
        exact h
    all_goals simp [set_nm]
  · exact h.elim

noncomputable def spStep : Spec := fun vs H Q _ => match vs with
  | [.str r, .str w] => if r.take w.length = w then Q (.ref H.length) (H ++ [.tuple [.str (r.drop w.length), .bool false]]) else if w.take r.length = r then Q (.ref H.length) (H ++ [.tuple [.str (w.drop r.length), .bool true]]) else Q .none H
  | _ => False

theorem ct_stepped {T : Tab} (h1 : Has T (nm 452440421413612) spLeft) : Ct T x_stepped b_stepped spStep := by
  intro vs H Q X h
  unfold spStep at h
  split at h
  · rename_i r w
    refine ⟨rfl, ?_⟩
    dsimp only [b_stepped, x_stepped, semS, sem, Me.ofEv, Me.ofEl, Me.ofIt, sgOf, Sg.sets, List.zip_cons_cons, List.zip_nil_right, List.zip_nil_left]
    simp only [set_nm, Nat.reduceEqDiff, ↓reduceIte, tr_bool, tr_int, tr_str, tr_none, bind_name, h1.gv, h1.fn, spLeft, st_isnot]
    by_cases e1 : r.take w.length = w
    · simp only [e1, ↓reduceIte] at h ⊢
      simpa [lid, set_nm] using h
    · by_cases e2 : w.take r.length = r
      · simp only [e1, e2, ↓reduceIte] at h ⊢
        simpa [lid, set_nm] using h
      · simp only [e1, e2, ↓reduceIte] at h ⊢
        simpa [lid, set_nm] using h
  · exact h.elim

theorem ct_law_step {T : Tab} (h1 : Has T (nm 1815276) spLen) : Ct T x_law_step b_law_step spStep := by
  intro vs H Q X h
  unfold spStep at h
  split at h
  · rename_i r w
    refine ⟨rfl, ?_⟩
    dsimp only [b_law_step, x_law_step, semS, sem, Me.ofEv, Me.ofEl, Me.ofIt, sgOf, Sg.sets, List.zip_cons_cons, List.zip_nil_right, List.zip_nil_left]
    simp only [set_nm, Nat.reduceEqDiff, ↓reduceIte, tr_bool, tr_int, tr_str, tr_none, bind_name, h1.gv, h1.fn, st_len_str, st_to, st_from, st_eq_str, clip_nat, take_clip, drop_clip]
    by_cases e1 : r.take w.length = w
    · simp only [e1, decide_true, ↓reduceIte] at h ⊢
      simpa [lid] using h
    · by_cases e2 : w.take r.length = r
      · simp only [e1, e2, decide_true, decide_false, Bool.false_eq_true, ↓reduceIte] at h ⊢
        simpa [lid] using h
      · simp only [e1, e2, decide_true, decide_false, Bool.false_eq_true, ↓reduceIte] at h ⊢
        exact h
  · exact h.elim

/-- the script's cell, or 0: any int, for all that is asked -/
noncomputable def spAt : Spec := fun vs H Q _ => match vs with
  | [.ref n, .int k] => 0 ≤ k ∧ (∃ is : List Int, H[n]? = some (.list (is.map .int))) ∧ ∀ v, Q (.int v) H
  | _ => False

theorem ct_law_at {T : Tab} (h1 : Has T (nm 1815276) spLen) : Ct T x_law_at b_law_at spAt := by
  intro vs H Q X h
  unfold spAt at h
  split at h
  · rename_i n k
    obtain ⟨hk, ⟨is, hn⟩, h⟩ := h
    refine ⟨rfl, ?_⟩
    dsimp only [b_law_at, x_law_at, semS, sem, Me.ofEv, Me.ofEl, Me.ofIt, sgOf, Sg.sets, List.zip_cons_cons, List.zip_nil_right, List.zip_nil_left]
    simp only [set_nm, Nat.reduceEqDiff, ↓reduceIte, tr_bool, tr_int, tr_str, tr_none, bind_name, h1.gv, h1.fn, st_len_list hn, st_lt]
    by_cases c : k < ((is.map V.int).length : Int)
    · simp only [decide_eq_true c, ↓reduceIte]
      rw [st_at hn hk c]
      rw [List.getElem_map]
      exact h _
    · simp only [decide_eq_false c, Bool.false_eq_true, ↓reduceIte]
      exact h 0
  · exact h.elim

/-- a number of the stream: any one below the second prime -/
noncomputable def spMixed : Spec := fun vs H Q _ => match vs with
  | [.int _, .int _] => ∀ m : Int, 0 ≤ m → m < 2147483629 → Q (.int m) H
  | _ => False

theorem ct_law_mixed {T : Tab} : Ct T x_law_mixed b_law_mixed spMixed := by
  intro vs H Q X h
  unfold spMixed at h
  split at h
  · rename_i c k
    refine ⟨rfl, ?_⟩
    dsimp only [b_law_mixed, x_law_mixed, semS, sem, Me.ofEv, Me.ofEl, Me.ofIt, sgOf, Sg.sets, List.zip_cons_cons, List.zip_nil_right, List.zip_nil_left]
    simp only [set_nm, Nat.reduceEqDiff, ↓reduceIte, tr_bool, tr_int, tr_str, tr_none, bind_name]
    rw [st_mul _ _ (.inl (by decide))]
    simp only [st_add]
    rw [st_mul _ _ (.inr (by decide)), st_mod _ _ (by decide)]
    have b1 := Int.emod_nonneg ((c + 7919 * k + 3) * 48271) (b := 2147483647) (by decide)
    have b2 := Int.emod_lt_of_pos ((c + 7919 * k + 3) * 48271) (b := 2147483647) (by decide)
    rw [st_mul _ _ (.inl (by omega)), st_mod _ _ (by decide)]
    exact h _ (Int.emod_nonneg _ (by decide)) (Int.emod_lt_of_pos _ (by decide))
  · exact h.elim

noncomputable def spWhole : Spec := fun vs H Q _ => match vs with
  | [v] => (match tyA v H with | some t => Q (.bool (decide (t = .int))) H | none => False)
  | _ => False

theorem tyOf_int : tyOf (nm 1914729) = some .int := by simp [tyOf, nm_inj]
theorem tyOf_bool : tyOf (nm 228325346) = some .bool := by simp [tyOf, nm_inj]
theorem tyOf_str : tyOf (nm 1882739) = some .str := by simp [tyOf, nm_inj]
theorem tyOf_tuple : tyOf (nm 27340323572) = some .tuple := by simp [tyOf, nm_inj]
theorem tyOf_list : tyOf (nm 245167340) = some .list := by simp [tyOf, nm_inj]
theorem tyOf_dict : tyOf (nm 244905188) = some .dict := by simp [tyOf, nm_inj]

theorem ct_law_whole {T : Tab} (h1 : Has T (nm 938756632654307293673) spIsi) (h2 : T.gv (nm 1914729) = some (.glob (nm 1914729))) (h3 : T.gv (nm 228325346) = some (.glob (nm 228325346))) : Ct T x_law_whole b_law_whole spWhole := by
  intro vs H Q X h
  unfold spWhole at h
  split at h
  · rename_i v
    split at h
    · rename_i t ht
      refine ⟨rfl, ?_⟩
      dsimp only [b_law_whole, x_law_whole, semS, sem, Me.ofEv, Me.ofEl, Me.ofIt, sgOf, Sg.sets, List.zip_cons_cons, List.zip_nil_right, List.zip_nil_left]
      simp only [set_nm, Nat.reduceEqDiff, ↓reduceIte, tr_bool, tr_int, tr_str, tr_none, bind_name, h1.gv, h1.fn, h2, h3, spIsi, ht, tyOf_int, tyOf_bool]
      cases t <;> simpa [isA] using h
    · exact h.elim
  · exact h.elim

/-- some text of so many signs -/
noncomputable def spText : Spec := fun vs H Q _ => match vs with
  | [.int _, .int n] => 0 ≤ n ∧ n ≤ 1000 ∧ ∀ t H', t.length = n.toNat → Keep H H' → Q (.str t) H'
  | _ => False

theorem table_text (k : Int) (h0 : 0 ≤ k) (h4 : k < 4) : ∃ j : Int, ([V.int 26, .int 1, .int 2, .int 3] : List V)[k.toNat]'(by simp; omega) = .int j ∧ 1 ≤ j ∧ j ≤ 26 := by
  have : k = 0 ∨ k = 1 ∨ k = 2 ∨ k = 3 := by omega
  rcases this with rfl | rfl | rfl | rfl
  · exact ⟨26, rfl, by decide, by decide⟩
  · exact ⟨1, rfl, by decide, by decide⟩
  · exact ⟨2, rfl, by decide, by decide⟩
  · exact ⟨3, rfl, by decide, by decide⟩

theorem ct_law_text {T : Tab} (h1 : Has T (nm 1815276) spLen) (h2 : Has T (nm 929683040243566540383) spMixed) (h3 : HasM T .str (nm 232421354) spJoin) : Ct T x_law_text b_law_text spText := by
  intro vs H Q X h
  unfold spText at h
  split at h
  · rename_i c n
    obtain ⟨hn0, hn, h⟩ := h
    refine ⟨rfl, ?_⟩
    dsimp only [b_law_text, x_law_text, semS, sem, Me.ofEv, Me.ofEl, Me.ofIt, sgOf, Sg.sets, List.zip_cons_cons, List.zip_nil_right, List.zip_nil_left]
    simp only [set_nm, Nat.reduceEqDiff, ↓reduceIte, tr_bool, tr_int, tr_str, tr_none, bind_name, h1.gv, h1.fn, h2.gv, h2.fn]
    refine ⟨by decide, ?_⟩
    have b1 := Int.emod_nonneg c (b := 4) (by decide)
    have b2 := Int.emod_lt_of_pos c (b := 4) (by decide)
    rw [st_mod _ _ (by decide), st_at get_new b1 (by simpa using b2)]
    obtain ⟨j, hj, j1, j2⟩ := table_text (c % 4) b1 b2
    rw [hj, st_to]
    generalize hss : List.take (clip j _) _ = ss
    have hl : 1 ≤ ss.length ∧ ss.length ≤ 26 := by
      rw [← hss, List.length_take]
      unfold clip
      rw [if_pos (by omega)]
      simp
      omega
    simp only [kindA, h3.has, true_and]
    refine ⟨hn0, by unfold lid; omega, by simp [intsFrom_len, lid]; omega, ?_⟩
    refine comp_map (P := fun _ v => ∃ d, v = .str [d]) _ _ _ (fun _ _ => trivial) (fun x hx H' k => ?_) fun vs H' hvs k => ?_
    · obtain ⟨i, _, rfl⟩ := List.mem_map.mp hx
      refine ⟨_, bind_name, fun q hq => ?_⟩
      simp only [set_nm, Nat.reduceEqDiff, ↓reduceIte]
      rw [st_div _ _ (by decide) (by decide)]
      simp only [spMixed]
      intro m m0 m1
      rw [st_div _ _ (by decide) (by decide)]
      simp only [st_len_str]
      rw [st_mod _ _ (by omega), st_sign (Int.emod_nonneg _ (by omega)) (Int.emod_lt_of_pos _ (by omega))]
      exact hq _ _ ⟨_, rfl⟩ (Keep.refl _)
    · obtain ⟨ts, e1, e2, e3, e4⟩ := txts_signs (fun _ _ h => h) hvs
      simp only [List.length_map, intsFrom_len] at e2 e3 e4
      simp only [h3.mt, spJoin, List.nil_append, get_new, e1]
      refine ⟨by rw [e3, e4]; unfold lid; omega, h _ _ e2 ((Keep.new _ _).trans (k.trans (Keep.new _ _)))⟩
  · exact h.elim

/-- a text near the one given -/
noncomputable def spBent : Spec := fun vs H Q _ => match vs with
  | [.str t, .int _] => t.length ≤ 1000 ∧ ∀ u H', u.length ≤ t.length + 1 → Keep H H' → Q (.str u) H'
  | _ => False

theorem ct_law_bent {T : Tab} (h1 : Has T (nm 1815276) spLen) : Ct T x_law_bent b_law_bent spBent := by
  intro vs H Q X h
  unfold spBent at h
  split at h
  · rename_i t c
    obtain ⟨hn, h⟩ := h
    refine ⟨rfl, ?_⟩
    dsimp only [b_law_bent, x_law_bent, semS, sem, Me.ofEv, Me.ofEl, Me.ofIt, sgOf, Sg.sets, List.zip_cons_cons, List.zip_nil_right, List.zip_nil_left]
    simp only [set_nm, Nat.reduceEqDiff, ↓reduceIte, tr_bool, tr_int, tr_str, tr_none, bind_name, h1.gv, h1.fn, st_len_str, st_add]
    rw [st_div _ _ (by decide) (by decide), st_mod _ _ (by omega)]
    have a1 := Int.emod_nonneg (c / 8) (b := (t.length : Int) + 1) (by omega)
    have a2 := Int.emod_lt_of_pos (c / 8) (b := (t.length : Int) + 1) (by omega)
    generalize c / 8 % ((t.length : Int) + 1) = p at a1 a2
    rw [st_div _ _ (by decide) (by decide), st_mod _ _ (by decide)]
    have b1 := Int.emod_nonneg (c / 256) (b := 26) (by decide)
    have b2 := Int.emod_lt_of_pos (c / 256) (b := 26) (by decide)
    rw [st_sign b1 (by simpa using b2)]
    generalize hsg : ([_] : Txt) = sg
    have hl : sg.length = 1 := by rw [← hsg]; rfl
    simp only [st_to, st_from, take_clip_int t a1, drop_clip_int t (show 0 ≤ p + 1 by omega), st_add]
    have hlt : (t.take p.toNat).length ≤ t.length := by rw [List.length_take]; exact Nat.min_le_right _ _
    have hlt2 : (t.take p.toNat).length = p.toNat := by rw [List.length_take]; omega
    have hlt3 : (t.drop (p + 1).toNat).length = t.length - (p + 1).toNat := List.length_drop
    rw [st_cat _ _ (by unfold lid; omega), st_cat _ _ (by unfold lid; omega), st_cat _ _ (by unfold lid; omega), st_cat _ _ (by rw [List.length_append]; unfold lid; omega)]
    refine ⟨by simp [lid], ?_⟩
    have c1 := Int.emod_nonneg c (b := 8) (by decide)
    have c2 := Int.emod_lt_of_pos c (b := 8) (by decide)
    rw [st_mod _ _ (by decide)]
    refine st_any get_new c1 (by simpa using c2) fun v hv => ?_
    have hm : ∃ u : Txt, v = .str u ∧ u.length ≤ t.length + 1 := by
      simp only [List.mem_cons, List.not_mem_nil, or_false] at hv
      rcases hv with rfl | rfl | rfl | rfl | rfl | rfl | rfl | rfl
      · exact ⟨_, rfl, by omega⟩
      · exact ⟨_, rfl, by omega⟩
      · exact ⟨_, rfl, by omega⟩
      · exact ⟨_, rfl, by rw [List.length_append]; omega⟩
      · exact ⟨_, rfl, by rw [List.length_append]; omega⟩
      · exact ⟨_, rfl, by rw [List.length_append, List.length_append]; omega⟩
      · exact ⟨_, rfl, by omega⟩
      · exact ⟨_, rfl, by simp⟩
    obtain ⟨u, rfl, hu⟩ := hm
    exact h u _ hu (Keep.new _ _)
  · exact h.elim


theorem ct_law {T : Tab} (h1 : Has T (nm 513532042442335) spAt) (h2 : Has T (nm 8426683116990002783) spText) (h3 : Has T (nm 8421052998980499039) spBent) (h4 : Has T (nm 452440421413612) spLeft) (h5 : Has T (nm 8416549742950512223) spLeft) (h6 : Has T (nm 938756632654307293673) spIsi) (h7 : Has T (nm 3463326495859) spShared)
    (h8 : Has T (nm 118998992280703227950687) spShared) (h9 : Has T (nm 939405744834656892511) spWhole) (h10 : Has T (nm 443305286007411) spStep) (h11 : Has T (nm 8127822628061214303) spStep) (g1 : T.gv (nm 1882739) = some (.glob (nm 1882739))) (g2 : T.gv (nm 27340323572) = some (.glob (nm 27340323572)))
    (g3 : T.gv (nm 228325346) = some (.glob (nm 228325346))) : Ct T x_law b_law spLaw := by
  intro vs H Q X h
  obtain ⟨rfl, ⟨is, hH⟩, h⟩ := h
  refine ⟨rfl, ?_⟩
  dsimp only [b_law, x_law, semS, sem, Me.ofEv, Me.ofEl, Me.ofIt, sgOf, Sg.sets, List.zip_cons_cons, List.zip_nil_right, List.zip_nil_left]
  simp only [set_nm, Nat.reduceEqDiff, ↓reduceIte, tr_bool, tr_int, tr_str, tr_none, bind_name, h1.gv, h1.fn, h2.gv, h2.fn]
  refine ⟨by decide, ⟨is, hH⟩, fun c0 => ⟨by decide, ⟨is, hH⟩, fun c1 => ?_⟩⟩
  dsimp only
  have a1 := Int.emod_nonneg c1 (b := 31) (by decide)
  have a2 := Int.emod_lt_of_pos c1 (b := 31) (by decide)
  rw [st_mod _ _ (by decide)]
  refine ⟨a1, by omega, fun t H1 ht k1 => ?_⟩
  dsimp only [b_law_1, semS, sem, Me.ofEv, Me.ofEl, Me.ofIt, sgOf, Sg.sets, List.zip_cons_cons, List.zip_nil_right, List.zip_nil_left]
  simp only [set_nm, Nat.reduceEqDiff, ↓reduceIte, tr_bool, tr_int, tr_str, tr_none, bind_name, h1.gv, h1.fn, h3.gv, h3.fn]
  refine ⟨by decide, ⟨is, k1.get hH⟩, fun c2 => ⟨by omega, fun u H2 hu k2 => ?_⟩⟩
  dsimp only [b_law_2, semS, sem, Me.ofEv, Me.ofEl, Me.ofIt, sgOf, Sg.sets, List.zip_cons_cons, List.zip_nil_right, List.zip_nil_left]
  simp only [set_nm, Nat.reduceEqDiff, ↓reduceIte, tr_bool, tr_int, tr_str, tr_none, bind_name]
  refine ⟨by simp [lid], by simp [lid], by simp [lid], ?_⟩
  generalize hH3 : H2 ++ [AObj.tuple [V.str t, V.str u]] ++ [AObj.tuple [V.str u, V.str t]] = H3
  have e1 : H3[H2.length]? = some (.tuple [.str t, .str u]) := by rw [← hH3]; simp
  have e2 : H3[(H2 ++ [AObj.tuple [V.str t, V.str u]]).length]? = some (.tuple [.str u, .str t]) := by rw [← hH3]; exact get_new
  have k3 : Keep H2 H3 := by rw [← hH3, List.append_assoc]; exact Keep.new _ _
  have hH' := k3.get (k2.get (k1.get hH))
  rw [items_list get_new]
  have k4 : Keep H3 (H3 ++ [AObj.list [V.ref H2.length, V.ref (H2 ++ [AObj.tuple [V.str t, V.str u]]).length]]) := Keep.new _ _
  have hg : (H3 ++ [AObj.list [V.ref H2.length, V.ref (H2 ++ [AObj.tuple [V.str t, V.str u]]).length]])[H3.length]? = some (AObj.list [V.ref H2.length, V.ref (H2 ++ [AObj.tuple [V.str t, V.str u]]).length]) := get_new
  have e1' := k4.get e1
  have e2' := k4.get e2
  have hH4 := k4.get hH'
  generalize hH5 : H3 ++ [AObj.list [V.ref H2.length, V.ref (H2 ++ [AObj.tuple [V.str t, V.str u]]).length]] = H5 at e1' e2' hH4 hg
  refine for_ind (fun xs σ H' => H' = H5 ∧ σ (nm 137989276334399845594719) = some (.ref 0) ∧ σ (nm 252284354985272115066587084383) = some (.str t) ∧ ∀ x ∈ xs, ∃ n p q, x = Item.one (.ref n) ∧ H5[n]? = some (.tuple [.str p, .str q])) ?_ ?_ _ _ _ ⟨rfl, ?_, ?_, ?_⟩
  · rintro x xs σ H' ⟨rfl, s1, s2, hx⟩
    obtain ⟨n, p, q, rfl, hn⟩ := hx x (.head _)
    refine ⟨hg, _, bind_tup hn rfl, fun W hW => ?_⟩
    dsimp only [b_law_l2, b_law_l2_1, semS, sem, Me.ofEv, Me.ofEl, Me.ofIt, sgOf, Sg.sets, List.zip_cons_cons, List.zip_nil_right, List.zip_nil_left]
    simp only [set_nm, Nat.reduceEqDiff, ↓reduceIte, tr_bool, tr_int, tr_str, tr_none, bind_name, h4.gv, h4.fn, h5.gv, h5.fn, spLeft]
    have fin : ∀ σ' : Sg, σ' (nm 137989276334399845594719) = some (.ref 0) → σ' (nm 252284354985272115066587084383) = some (.str t) → σ' (nm 57345570095265375) = some (.str p) → σ' (nm 63014823846770271) = some (.str q) → semS T b_law_l2_3 σ' H' (fun fl σ2 H2 => match fl with
        | .next => W σ2 H2
        | .brk => semS T b_law_3 σ2 H2 (fun fl _ H' => match fl with
          | .ret v => Q v H'
          | .next => Q .none H'
          | .brk => False) X
        | .ret v => Q v H2) X := by
      intro σ' t1 t2 t3 t4
      dsimp only [b_law_l2_3, b_law_l2_4, semS, sem, Me.ofEv, Me.ofEl, Me.ofIt, sgOf, Sg.sets, List.zip_cons_cons, List.zip_nil_right, List.zip_nil_left]
      simp only [set_nm, Nat.reduceEqDiff, ↓reduceIte, tr_bool, tr_int, tr_str, tr_none, bind_name, h7.gv, h7.fn, h8.gv, h8.fn, h9.gv, h9.fn, t3, t4, spShared, spWhole, tyA, decide_true, Bool.not_true, Bool.false_eq_true, st_ne_int]
      exact hW _ _ ⟨rfl, by simpa [set_nm] using t1, by simpa [set_nm] using t2, fun x hx' => hx x (.tail _ hx')⟩
    dsimp only [b_law_l2_2, semS, sem, Me.ofEv, Me.ofEl, Me.ofIt, sgOf, Sg.sets, List.zip_cons_cons, List.zip_nil_right, List.zip_nil_left]
    by_cases e : p.take q.length = q
    · simp only [set_nm, Nat.reduceEqDiff, ↓reduceIte, tr_bool, tr_int, tr_str, tr_none, bind_name, h6.gv, h6.fn, g1, e, st_ne_str, decide_true, Bool.not_true, Bool.false_eq_true, st_isnot, reduceCtorEq, decide_false, Bool.not_false, spIsi, tyA, tyOf_str, isA]
      exact fin _ (by simpa [set_nm] using s1) (by simpa [set_nm] using s2) (by simp [set_nm]) (by simp [set_nm])
    · simp only [set_nm, Nat.reduceEqDiff, ↓reduceIte, tr_bool, tr_int, tr_str, tr_none, bind_name, h6.gv, h6.fn, g1, e, st_ne_none_none, decide_true, Bool.not_true, Bool.false_eq_true, st_isnot, reduceCtorEq, decide_false, Bool.not_false]
      exact fin _ (by simpa [set_nm] using s1) (by simpa [set_nm] using s2) (by simp [set_nm]) (by simp [set_nm])
  · rintro σ H' ⟨rfl, s1, s2, -⟩
    refine ⟨hg, ?_⟩
    dsimp only [b_law_3, semS, sem, Me.ofEv, Me.ofEl, Me.ofIt, sgOf, Sg.sets, List.zip_cons_cons, List.zip_nil_right, List.zip_nil_left]
    simp only [set_nm, Nat.reduceEqDiff, ↓reduceIte, tr_bool, tr_int, tr_str, tr_none, bind_name, s1, s2, h1.gv, h1.fn]
    refine ⟨by decide, ⟨is, hH4⟩, fun c3 => ?_⟩
    dsimp only
    have d1 := Int.emod_nonneg c3 (b := 11) (by decide)
    have d2 := Int.emod_lt_of_pos c3 (b := 11) (by decide)
    rw [st_mod _ _ (by decide), st_to, take_clip_int _ d1]
    generalize hr : List.take (c3 % 11).toNat t = r
    have hrl : r.length ≤ 11 := by rw [← hr, List.length_take]; omega
    dsimp only [b_law_4, semS, sem, Me.ofEv, Me.ofEl, Me.ofIt, sgOf, Sg.sets, List.zip_cons_cons, List.zip_nil_right, List.zip_nil_left]
    simp only [set_nm, Nat.reduceEqDiff, ↓reduceIte, tr_bool, tr_int, tr_str, tr_none, bind_name, s1, s2, h1.gv, h1.fn, h2.gv, h2.fn, h3.gv, h3.fn]
    refine ⟨by decide, ⟨is, hH4⟩, fun c4 => ⟨by omega, fun b H6 hb k6 => ?_⟩⟩
    dsimp only
    rw [st_to, take_clip_int _ (by decide)]
    refine ⟨by decide, ⟨is, k6.get hH4⟩, fun c5 => ⟨by decide, ⟨is, k6.get hH4⟩, fun c6 => ?_⟩⟩
    dsimp only
    have f1 := Int.emod_nonneg c6 (b := 10) (by decide)
    have f2 := Int.emod_lt_of_pos c6 (b := 10) (by decide)
    rw [st_mod _ _ (by decide), st_add]
    refine ⟨by omega, by omega, fun w H7 hw k7 => ⟨by simp [lid], ?_⟩⟩
    dsimp only [b_law_5, semS, sem, Me.ofEv, Me.ofEl, Me.ofIt, sgOf, Sg.sets, List.zip_cons_cons, List.zip_nil_right, List.zip_nil_left]
    simp only [set_nm, Nat.reduceEqDiff, ↓reduceIte, tr_bool, tr_int, tr_str, tr_none, bind_name]
    rw [st_at get_new (by decide) (by simp)]
    simp only [List.getElem_cons_succ, List.getElem_cons_zero, Int.reduceToNat]
    rw [st_cat _ _ (by unfold lid; omega), st_to, take_clip_int _ (by decide)]
    refine ⟨by simp [lid], ?_⟩
    generalize hb1 : List.take 10 b = w1
    generalize hb2 : List.take (Int.toNat 10) (r ++ w) = w3
    have g5 : (H7 ++ [AObj.list [V.str w1, V.str w]] ++ [AObj.list [V.str w3]])[H7.length]? = some (.list [.str w1, .str w]) := (Keep.new _ _).get get_new
    rw [st_lcat g5 get_new (by simp [lid])]
    generalize H7 ++ [AObj.list [V.str w1, V.str w]] ++ [AObj.list [V.str w3]] = H8
    rw [items_list get_new]
    refine for_ind (fun xs σ H' => Keep (H8 ++ [AObj.list ([V.str w1, V.str w] ++ [V.str w3])]) H' ∧ σ (nm 8423868298503419487) = some (.str r) ∧ ∀ x ∈ xs, ∃ p, x = Item.one (.str p)) ?_ ?_ _ _ _ ⟨Keep.refl _, ?_, ?_⟩
    · rintro x xs σ H' ⟨k8, s1, hx⟩
      obtain ⟨p, rfl⟩ := hx x (.head _)
      refine ⟨k8.get get_new, _, bind_name, fun W hW => ?_⟩
      dsimp only [b_law_l1, semS, sem, Me.ofEv, Me.ofEl, Me.ofIt, sgOf, Sg.sets, List.zip_cons_cons, List.zip_nil_right, List.zip_nil_left]
      by_cases hp : p = []
      · simp only [set_nm, Nat.reduceEqDiff, ↓reduceIte, tr_bool, tr_int, tr_str, tr_none, bind_name, st_ne_str, hp, decide_true, Bool.not_true, Bool.false_eq_true]
        exact hW _ _ ⟨k8, by simpa [set_nm] using s1, fun x hx' => hx x (.tail _ hx')⟩
      · have two : ∀ (z : Txt) (m : Bool), (H' ++ [AObj.tuple [.str z, .bool m]] ++ [AObj.tuple [.str z, .bool m]])[H'.length]? = some (.tuple [.str z, .bool m]) := fun z m => (Keep.new _ _).get get_new
        have rd1 : ∀ (z : Txt) (m : Bool), rd (H' ++ [AObj.tuple [.str z, .bool m]] ++ [AObj.tuple [.str z, .bool m]]) 6 (.ref H'.length) = some (.tuple [.str z, .bool m]) := fun z m => by rw [rd_tuple (two z m)]; rfl
        have rd2 : ∀ (z : Txt) (m : Bool), rd (H' ++ [AObj.tuple [.str z, .bool m]] ++ [AObj.tuple [.str z, .bool m]]) 6 (.ref (H' ++ [AObj.tuple [.str z, .bool m]]).length) = some (.tuple [.str z, .bool m]) := fun z m => by rw [rd_tuple get_new]; rfl
        have k9 : ∀ (z : Txt) (m : Bool), Keep (H8 ++ [AObj.list ([V.str w1, V.str w] ++ [V.str w3])]) (H' ++ [AObj.tuple [.str z, .bool m]] ++ [AObj.tuple [.str z, .bool m]]) := fun z m => k8.trans (by rw [List.append_assoc]; exact Keep.new _ _)
        simp only [set_nm, Nat.reduceEqDiff, ↓reduceIte, tr_bool, tr_int, tr_str, tr_none, bind_name, st_ne_str, s1, h10.gv, h10.fn, h11.gv, h11.fn, hp, decide_false, Bool.not_false, spStep]
        by_cases q1 : r.take p.length = p
        · simp only [set_nm, Nat.reduceEqDiff, ↓reduceIte, tr_bool, tr_int, tr_str, tr_none, bind_name, h6.gv, h6.fn, g2, g3, q1, st_is, st_isnot, reduceCtorEq, decide_false, Bool.not_false, Bool.false_eq_true, spIsi, ty_tuple (two _ _), tyOf_tuple, tyOf_bool, isA, decide_true, Bool.not_true, ne_data (rd1 _ _) (rd2 _ _), Dt.eqv, Dt.eqvL, beq_self_eq_true, Bool.and_true, Bool.and_self]
          rw [st_at_t (two _ _) (by decide) (by simp)]
          simp only [List.getElem_cons_succ, List.getElem_cons_zero, Int.reduceToNat, tyA, decide_true, tr_bool, Bool.not_true, Bool.false_eq_true, ↓reduceIte]
          exact hW _ _ ⟨k9 _ _, by simpa [set_nm] using s1, fun x hx' => hx x (.tail _ hx')⟩
        · by_cases q2 : p.take r.length = r
          · simp only [set_nm, Nat.reduceEqDiff, ↓reduceIte, tr_bool, tr_int, tr_str, tr_none, bind_name, h6.gv, h6.fn, g2, g3, q1, q2, st_is, st_isnot, reduceCtorEq, decide_false, Bool.not_false, Bool.false_eq_true, spIsi, ty_tuple (two _ _), tyOf_tuple, tyOf_bool, isA, decide_true, Bool.not_true, ne_data (rd1 _ _) (rd2 _ _), Dt.eqv, Dt.eqvL, beq_self_eq_true, Bool.and_true, Bool.and_self]
            rw [st_at_t (two _ _) (by decide) (by simp)]
            simp only [List.getElem_cons_succ, List.getElem_cons_zero, Int.reduceToNat, tyA, decide_true, tr_bool, Bool.not_true, Bool.false_eq_true, ↓reduceIte]
            exact hW _ _ ⟨k9 _ _, by simpa [set_nm] using s1, fun x hx' => hx x (.tail _ hx')⟩
          · simp only [set_nm, Nat.reduceEqDiff, ↓reduceIte, tr_bool, tr_int, tr_str, tr_none, bind_name, q1, q2, st_is, st_isnot, decide_true, Bool.not_true, Bool.false_eq_true]
            exact hW _ _ ⟨k8, by simpa [set_nm] using s1, fun x hx' => hx x (.tail _ hx')⟩
    · rintro σ H' ⟨k8, -, -⟩
      refine ⟨k8.get get_new, ?_⟩
      dsimp only [b_law_6, semS, sem, Me.ofEv, Me.ofEl, Me.ofIt, sgOf, Sg.sets, List.zip_cons_cons, List.zip_nil_right, List.zip_nil_left]
      exact h _
    · simp [set_nm]
    · intro x hx
      simp only [List.map_cons, List.map_nil, List.mem_cons, List.not_mem_nil, or_false, List.cons_append, List.nil_append] at hx
      rcases hx with rfl | rfl | rfl
      · exact ⟨_, rfl⟩
      · exact ⟨_, rfl⟩
      · exact ⟨_, rfl⟩
  · simp [set_nm]
  · simp [set_nm]
  · intro x hx
    simp only [List.map_cons, List.map_nil, List.mem_cons, List.not_mem_nil, or_false] at hx
    rcases hx with rfl | rfl
    · exact ⟨_, _, _, rfl, e1'⟩
    · exact ⟨_, _, _, rfl, e2'⟩

end Mine
end
section
namespace Mine
open PySem PyProof.Rows

theorem walk01 {C : Cx} (hb : ∀ p ∈ biL, C.G p.1 = some p.2)
    (d0 : DefAt C (nm 452440421413612) x_left_of b_left_of)
    (d1 : DefAt C (nm 3463326495859) x_shared b_shared)
    (d2 : DefAt C (nm 443305286007411) x_stepped b_stepped)
    (d3 : DefAt C (nm 513532042442335) x_law_at b_law_at)
    (d4 : DefAt C (nm 929683040243566540383) x_law_mixed b_law_mixed)
    (d5 : DefAt C (nm 939405744834656892511) x_law_whole b_law_whole)
    (d6 : DefAt C (nm 8426683116990002783) x_law_text b_law_text)
    (d7 : DefAt C (nm 8421052998980499039) x_law_bent b_law_bent)
    (d8 : DefAt C (nm 8416549742950512223) x_law_left b_law_left)
    (d9 : DefAt C (nm 8127822628061214303) x_law_step b_law_step)
    (d10 : DefAt C (nm 118998992280703227950687) x_law_shared b_law_shared)
    : ∃ T, TabOk C T 11 ∧ Ct T x_law b_law spLaw := by
  have t := TB_ok hb
  replace t := t.addF (sp := spLeft) d0 (ct_left ⟨by simp [Tab.add, TB, Tab.val, Tab.meth, T0, nm_inj], by simp [Tab.add, TB, Tab.val, Tab.meth, T0, nm_inj]⟩)
  replace t := t.addF (sp := spShared) d1 (ct_shared ⟨by simp [Tab.add, TB, Tab.val, Tab.meth, T0, nm_inj], by simp [Tab.add, TB, Tab.val, Tab.meth, T0, nm_inj]⟩ ⟨by simp [Tab.add, TB, Tab.val, Tab.meth, T0, nm_inj], by simp [Tab.add, TB, Tab.val, Tab.meth, T0, nm_inj]⟩)
  replace t := t.addF (sp := spStep) d2 (ct_stepped ⟨by simp [Tab.add, TB, Tab.val, Tab.meth, T0, nm_inj], by simp [Tab.add, TB, Tab.val, Tab.meth, T0, nm_inj]⟩)
  replace t := t.addF (sp := spAt) d3 (ct_law_at ⟨by simp [Tab.add, TB, Tab.val, Tab.meth, T0, nm_inj], by simp [Tab.add, TB, Tab.val, Tab.meth, T0, nm_inj]⟩)
  replace t := t.addF (sp := spMixed) d4 (ct_law_mixed)
  replace t := t.addF (sp := spWhole) d5 (ct_law_whole ⟨by simp [Tab.add, TB, Tab.val, Tab.meth, T0, nm_inj], by simp [Tab.add, TB, Tab.val, Tab.meth, T0, nm_inj]⟩ (by simp [Tab.add, TB, Tab.val, Tab.meth, T0, nm_inj]) (by simp [Tab.add, TB, Tab.val, Tab.meth, T0, nm_inj]))
  replace t := t.addF (sp := spText) d6 (ct_law_text ⟨by simp [Tab.add, TB, Tab.val, Tab.meth, T0, nm_inj], by simp [Tab.add, TB, Tab.val, Tab.meth, T0, nm_inj]⟩ ⟨by simp [Tab.add, TB, Tab.val, Tab.meth, T0, nm_inj], by simp [Tab.add, TB, Tab.val, Tab.meth, T0, nm_inj]⟩ ⟨by simp [Tab.add, TB, Tab.val, Tab.meth, T0, nm_inj], by simp [Tab.add, TB, Tab.val, Tab.meth, T0, nm_inj]⟩)
  replace t := t.addF (sp := spBent) d7 (ct_law_bent ⟨by simp [Tab.add, TB, Tab.val, Tab.meth, T0, nm_inj], by simp [Tab.add, TB, Tab.val, Tab.meth, T0, nm_inj]⟩)
  replace t := t.addF (sp := spLeft) d8 (ct_law_left ⟨by simp [Tab.add, TB, Tab.val, Tab.meth, T0, nm_inj], by simp [Tab.add, TB, Tab.val, Tab.meth, T0, nm_inj]⟩)
  replace t := t.addF (sp := spStep) d9 (ct_law_step ⟨by simp [Tab.add, TB, Tab.val, Tab.meth, T0, nm_inj], by simp [Tab.add, TB, Tab.val, Tab.meth, T0, nm_inj]⟩)
  replace t := t.addF (sp := spShared) d10 (ct_law_shared ⟨by simp [Tab.add, TB, Tab.val, Tab.meth, T0, nm_inj], by simp [Tab.add, TB, Tab.val, Tab.meth, T0, nm_inj]⟩ ⟨by simp [Tab.add, TB, Tab.val, Tab.meth, T0, nm_inj], by simp [Tab.add, TB, Tab.val, Tab.meth, T0, nm_inj]⟩)
  exact ⟨_, t, ct_law ⟨by simp [Tab.add, TB, Tab.val, Tab.meth, T0, nm_inj], by simp [Tab.add, TB, Tab.val, Tab.meth, T0, nm_inj]⟩ ⟨by simp [Tab.add, TB, Tab.val, Tab.meth, T0, nm_inj], by simp [Tab.add, TB, Tab.val, Tab.meth, T0, nm_inj]⟩ ⟨by simp [Tab.add, TB, Tab.val, Tab.meth, T0, nm_inj], by simp [Tab.add, TB, Tab.val, Tab.meth, T0, nm_inj]⟩ ⟨by simp [Tab.add, TB, Tab.val, Tab.meth, T0, nm_inj], by simp [Tab.add, TB, Tab.val, Tab.meth, T0, nm_inj]⟩ ⟨by simp [Tab.add, TB, Tab.val, Tab.meth, T0, nm_inj], by simp [Tab.add, TB, Tab.val, Tab.meth, T0, nm_inj]⟩ ⟨by simp [Tab.add, TB, Tab.val, Tab.meth, T0, nm_inj], by simp [Tab.add, TB, Tab.val, Tab.meth, T0, nm_inj]⟩ ⟨by simp [Tab.add, TB, Tab.val, Tab.meth, T0, nm_inj], by simp [Tab.add, TB, Tab.val, Tab.meth, T0, nm_inj]⟩ ⟨by simp [Tab.add, TB, Tab.val, Tab.meth, T0, nm_inj], by simp [Tab.add, TB, Tab.val, Tab.meth, T0, nm_inj]⟩ ⟨by simp [Tab.add, TB, Tab.val, Tab.meth, T0, nm_inj], by simp [Tab.add, TB, Tab.val, Tab.meth, T0, nm_inj]⟩ ⟨by simp [Tab.add, TB, Tab.val, Tab.meth, T0, nm_inj], by simp [Tab.add, TB, Tab.val, Tab.meth, T0, nm_inj]⟩ ⟨by simp [Tab.add, TB, Tab.val, Tab.meth, T0, nm_inj], by simp [Tab.add, TB, Tab.val, Tab.meth, T0, nm_inj]⟩ (by simp [Tab.add, TB, Tab.val, Tab.meth, T0, nm_inj]) (by simp [Tab.add, TB, Tab.val, Tab.meth, T0, nm_inj]) (by simp [Tab.add, TB, Tab.val, Tab.meth, T0, nm_inj])⟩
end Mine
end
open PySem PySem.W PyProof.Rows Mine
set_option maxHeartbeats 8000000 in
theorem PySem.Challenge.cw_uf020005_01_holds : PySem.Challenge.rw_uf020005_01.Holds := by
  w_on
  o_law
  k_head
  case hw => w_witness2
  k_fill
  intro w s₀ s₁ mg mb G Y fa o pm cd doc dV kV ho hd hcd hD hmg hg args vals as hpre hlay hrd hwl hlo
  have hlo' := hlo
  refine Ground.open G ?_
  intro T B D TE TW
  clear B D TE TW hD hcd hd ho Y G
  wrow_args hpre hlay hrd hwl hlo
  refine enter_call ?_
  rename_i ns _ _ _ _ _ as1 as2 l vs as3 hL ra w1 r0 hI _ hc1 _
  have hl : l ≠ sysModules := by
    have : l ∈ as1 := by cases r0 <;> simp
    exact fun q => by have := hlo' l (List.mem_append_left _ this); rw [q] at this; cases this
  have hb := bi_of (prog := Challenge.rw_uf020005_01.row.prog) (w := w) T (by decide +kernel)
  obtain ⟨Tb, hT, hct⟩ := walk01 hb (defAt_of T (by kernel_rfl)).1 (defAt_of T (by kernel_rfl)).1 (defAt_of T (by kernel_rfl)).1 (defAt_of T (by kernel_rfl)).1 (defAt_of T (by kernel_rfl)).1 (defAt_of T (by kernel_rfl)).1
    (defAt_of T (by kernel_rfl)).1 (defAt_of T (by kernel_rfl)).1 (defAt_of T (by kernel_rfl)).1 (defAt_of T (by kernel_rfl)).1 (defAt_of T (by kernel_rfl)).1
  exact law_done T hT (by decide) (f := nm 1962220) (by kernel_rfl) hct hmg w1 hL hI (by omega) hl hg (fun _ => rfl) (by kernel_rfl)
