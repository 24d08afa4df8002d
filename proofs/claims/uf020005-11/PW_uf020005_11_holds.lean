import PyProof.Rows.All
import PyProof.ListNew
import PyProof.WalksMore
import PyProof.AttrMissHeap
import KE.KDictOf
import PyProof.Conv_int_bool
import PyProof.RaisesMany
import Open.Tree
import Wide.All
import Open.Line
import Wide.FinOn
import PySem.Challenge.RW_uf020005_11
set_option Elab.async false
set_option autoImplicit false
set_option linter.unusedVariables false
set_option linter.unusedSimpArgs false
set_option maxRecDepth 100000
set_option compiler.extract_closed false
section
namespace Mine
open PySem PySem.Calls PyProof.Rows PySem.W
noncomputable def ofL : List Obj → Nat → BT → BT
  | [], _, t => t
  | o :: r, i, t => ofL r (i + 1) (t.ins i o)
theorem ins_some (o : Obj) : ∀ (t : BT) (n : Nat), (∀ i, i < n → (t.get i).isSome = true) → ((t.ins n o).get n).isSome = true
  | .nil, n, h => by
    cases n with
    | zero => rfl
    | succ n => have := h 0 (Nat.succ_pos n); cases this
  | .node v l r, n, h => by
    rw [BT.ins_node]
    by_cases h0 : n = 0
    · rw [if_pos h0, h0]; rfl
    · rw [if_neg h0]
      by_cases h1 : n % 2 = 1
      · rw [if_pos h1, BT.get_node, if_neg h0, if_pos h1]
        refine ins_some o l (n / 2) fun i hi => ?_
        have := h (2 * i + 1) (by lia)
        rwa [BT.get_node, if_neg (by lia), if_pos (by lia), show (2 * i + 1) / 2 = i by lia] at this
      · rw [if_neg h1, BT.get_node, if_neg h0, if_neg h1]
        refine ins_some o r (n / 2 - 1) fun i hi => ?_
        have := h (2 * i + 2) (by lia)
        rwa [BT.get_node, if_neg (by lia), if_neg (by lia), show (2 * i + 2) / 2 - 1 = i by lia] at this
theorem ofL_abs (life : Life) : ∀ (r : List Obj) (n : Nat) (t : BT) (h : Heap), (∀ i, i < n → (t.get i).isSome = true) → absHeap t n life = h → absHeap (ofL r n t) (n + r.length) life = ⟨h.objs ++ r.toArray, life⟩
  | [], n, t, h, _, e => by
    subst e
    show absHeap t n life = _
    rw [show ([] : List Obj).toArray = #[] from rfl, Array.append_empty]
    rfl
  | o :: r, n, t, h, hi, e => by
    have hs := ins_some o t n hi
    have := ofL_abs life r (n + 1) (t.ins n o) (h.push o) (fun i hlt => by
      rw [BT.get_ins o t n hs]
      by_cases q : i = n
      · rw [if_pos q]; rfl
      · rw [if_neg q]; exact hi i (by lia)) (by rw [absHeap_ins hs, e])
    show absHeap (ofL r (n + 1) (t.ins n o)) (n + (r.length + 1)) life = _
    rw [show n + (r.length + 1) = n + 1 + r.length by lia, this]
    show Heap.mk (h.objs.push o ++ r.toArray) life = _
    congr 1
    apply Array.ext'
    simp
noncomputable def treeOf (s : Shared) : SharedT := ⟨ofL s.heap.objs.toList 0 .nil, s.heap.objs.size, s.heap.life, s.gens, s.drawn, s.toks, s.os⟩
theorem treeOf_abs (s : Shared) : (treeOf s).abs = s := by
  obtain ⟨⟨objs, life⟩, gens, drawn, toks, os⟩ := s
  have := ofL_abs life objs.toList 0 .nil ⟨#[], life⟩ (fun i h => absurd h (Nat.not_lt_zero i)) rfl
  rw [Nat.zero_add, Array.length_toList] at this
  show Shared.mk (absHeap (ofL objs.toList 0 .nil) objs.size life) gens drawn toks os = _
  rw [this]
  congr 2
  apply Array.ext'
  simp
noncomputable def topRunT (tb : String → Option Builtin) (p : Program) (w : World) (n₀ : Nat) (ann : Option Value) : Nat → SharedT → Thread → Option SharedT
  | 0, _, _ => none
  | n + 1, s, t => match through t with
    | true => some s
    | false => match stepOk n₀ ann t with
      | false => none
      | true => match stepT (denote tb) p w s t with
        | some (s', t') => topRunT tb p w n₀ ann n s' t'
        | none => none
theorem topRunT_of {tb : String → Option Builtin} {p : Program} {w : World} {n₀ : Nat} {ann : Option Value} : ∀ {n : Nat} {s s' : SharedT} {t : Thread}, topRunT tb p w n₀ ann n s t = some s' → topRun tb p w n₀ ann n s.abs t = some s'.abs
  | 0, _, _, _, h => by cases h
  | n + 1, s, s', t, h => by
    unfold topRunT at h
    unfold topRun
    cases ht : through t with
    | true => rw [ht] at h; cases h; rfl
    | false =>
      rw [ht] at h
      cases hk : stepOk n₀ ann t with
      | false => rw [hk] at h; cases h
      | true =>
        rw [hk] at h
        cases hs : stepT (denote tb) p w s t with
        | none => rw [hs] at h; cases h
        | some r => obtain ⟨s₂, t₂⟩ := r; rw [hs] at h; dsimp only; rw [stepT_spec hs]; exact topRunT_of h
noncomputable def Lk {β : Type} (p : Program) (N : Nat) (f : Shared → Shared → β) (w : World) : Option β :=
  (fencedOpening treeTable p w N).bind fun s₀ => (topRunT treeTable p w s₀.heap.objs.size (s₀.heap.nsMap mainGlobals "__annotations__") N (treeOf s₀) (topStub p)).map fun s => f s₀ s.abs
noncomputable def lkA {α : Type} (p : Program) (Yf : Shared → α) (s₀ s : Shared) : (Bool × Bool) × α :=
  ((s₀.heap.isNs mainGlobals && s₀.gens.size == 0, staticsOk (importedModules p.main.body) s₀.heap s.heap && namesBound p s.heap && gensDone s && laidKept s₀.heap s.heap), Yf s)
theorem left_tree {p q : Program} {loose : List Str} {Xt : Shared → Bool} {α : Type} {Yf : Shared → α} {Ya : World → α} {N : Nat} {g0 : Bool}
    (h1 : ∀ w, Lk p N (lkA p Yf) w = some ((true, true), Ya w))
    (h2 : ∀ w, Lk p N (fun _ s => (openSeen q loose (importedModules p.main.body) Xt g0 s).2) w = some (openGood q loose).2)
    (h3 : ∀ w, Lk p N (fun _ s => (openSeen q loose (importedModules p.main.body) Xt g0 s).1) w = some (openGood q loose).1) : LeftO p q loose Xt Yf Ya N g0 := fun w => by
  have k1 := h1 w
  have k2 := h2 w
  have k3 := h3 w
  unfold Lk at k1 k2 k3
  obtain ⟨s₀, e, e'⟩ := Option.bind_eq_some_iff.mp k1
  obtain ⟨s, r, e3⟩ := Option.map_eq_some_iff.mp e'
  rw [e, Option.bind_some, r, Option.map_some] at k2 k3
  injection k2 with k2
  injection k3 with k3
  unfold lkA at e3
  obtain ⟨e4, e5⟩ := Prod.mk.inj e3
  obtain ⟨e1, l1⟩ := Prod.mk.inj e4
  have r := topRunT_of r
  rw [treeOf_abs] at r
  have t : topFrom treeTable p w N s₀ = some s.abs := by
    unfold topFrom
    rw [e1]
    dsimp only
    rw [r]
    show (match staticsOk (importedModules p.main.body) s₀.heap s.abs.heap && namesBound p s.abs.heap && gensDone s.abs && laidKept s₀.heap s.abs.heap with | true => _ | false => _) = _
    rw [l1]
  unfold openEnds
  rw [e]
  show (topFrom treeTable p w N s₀).map _ = _
  rw [t]
  exact congrArg some (Prod.ext (Prod.ext k3 k2) e5)
end Mine
end
section
namespace Mine
open PySem PySem.Calls PyProof.Rows PySem.W
noncomputable def qv : Program := view PySem.Challenge.rw_uf020005_11.row.prog [1, 2, 3, 4, 5, 6, 7, 8, 9, 10, 12, 13, 14, 15, 16, 17, 18, 19, 21, 22, 23, 24, 25, 27, 28, 29, 30, 31, 32, 33, 34, 36, 37, 38, 39, 40, 41, 42, 43, 44, 45, 46, 47, 48, 49, 50, 51]
noncomputable def lv : List Str := []
noncomputable def xt : Shared → Bool := fun s => xlAt qv [] s && recOk (RowW.records (OpenRow.toRowW PySem.Challenge.rw_uf020005_11.row)) s
set_option maxHeartbeats 8000000 in
theorem said_well : PySem.Challenge.rw_uf020005_11.wellSaid = true := by
  unfold OpenLaw.wellSaid OpenRow.wellSaid OpenRow.partSaid looksOpen
  repeat' with_reducible refine look_both ?_ ?_
  all_goals decide +kernel
theorem hd2 : ∀ w, Lk PySem.Challenge.rw_uf020005_11.row.prog 6570 (fun _ s => (openSeen qv lv (importedModules PySem.Challenge.rw_uf020005_11.row.prog.main.body) xt true s).2) w = some (openGood qv lv).2 := by
  intro w
  kernel_rfl
theorem hd1 : ∀ w, Lk PySem.Challenge.rw_uf020005_11.row.prog 6570 (fun _ s => (openSeen qv lv (importedModules PySem.Challenge.rw_uf020005_11.row.prog.main.body) xt true s).1) w = some (openGood qv lv).1 := by
  intro w
  kernel_rfl
end Mine
end
section
namespace Mine
open PySem
abbrev Txt := List Nat
inductive V where
  | none
  | bool (b : Bool)
  | int (i : Int)
  | str (t : Txt)
  | ref (n : Nat)
  | glob (g : Str)
  | exc (a : Nat)
  deriving DecidableEq
set_option genSizeOf false in
inductive AObj where
  | list (xs : List V)
  | tuple (xs : List V)
  | dict (es : List (Txt × V)) (ep : Nat)
abbrev AHeap := List AObj
abbrev Sg := Str → Option V
noncomputable def Sg.set (σ : Sg) (x : Str) (v : V) : Sg := fun y => if y = x then some v else σ y
noncomputable def Sg.sets (σ : Sg) : List (Str × V) → Sg
  | [] => σ
  | (x, v) :: r => (σ.set x v).sets r
set_option genSizeOf false in
inductive Tgt where
  | name (x : Str)
  | tup (xs : List Str)
set_option genSizeOf false in
set_option genInjectivity false in
inductive PE where
  | name (x : Str)
  | glob (x : Str)
  | none
  | bool (b : Bool)
  | int (i : Int)
  | str (x : Str)
  | bin (op : Operator) (l r : PE)
  | cmp1 (op : CmpOp) (l r : PE)
  | cmp2 (o1 o2 : CmpOp) (a b c : PE)
  | and (l r : PE)
  | or (l r : PE)
  | not (e : PE)
  | neg (e : PE)
  | call (f : PE) (args : PE)
  | meth (o : PE) (m : Str) (args : PE)
  | sub (o i : PE)
  | slice (o lo hi : PE)
  | list (es : PE)
  | tuple (es : PE)
  | dict0
  | comp0 (elt : PE) (t : Tgt) (it : PE)
  | comp1 (elt : PE) (t : Tgt) (it : PE) (cond : PE)
  | nil
  | cons (h t : PE)
  | itVal (e : PE)
  | itRange1 (hi : PE)
  | itRange2 (lo hi : PE)
  | itEnum (e : PE)
set_option genSizeOf false in
set_option genInjectivity false in
inductive PS where
  | skip
  | seq (a b : PS)
  | assign (t : Tgt) (e : PE)
  | setItem (o i e : PE)
  | expr (e : PE)
  | ite (c : PE) (a b : PS)
  | for_ (t : Tgt) (it : PE) (body : PS)
  | while_ (c : PE) (body : PS)
  | ret (e : PE)
  | raise (c : Str) (e : PE)
  | tryr (e : PE) (c x : Str) (h : PE)
  | brk
set_option genSizeOf false in
inductive Fl where
  | next | brk | ret (v : V)
set_option genSizeOf false in
inductive Item where
  | one (v : V)
  | many (vs : List V)
abbrev VPost := V → AHeap → Prop
abbrev XPost := Str → AHeap → Prop
abbrev Spec := List V → AHeap → VPost → XPost → Prop
inductive MK where
  | str | list | dict
  deriving DecidableEq
noncomputable def kindA (v : V) (H : AHeap) : Option MK := match v with
  | .str _ => some .str
  | .ref n => (match H[n]? with
    | some (.list _) => some .list
    | some (.dict _ _) => some .dict
    | _ => none)
  | _ => none
set_option genSizeOf false in
set_option genInjectivity false in
structure Tab where
  gv : Str → Option V
  fn : Str → Spec
  has : MK → Str → Bool
  mt : MK → Str → Spec
  /-- own exception classes that may be raised; which clause takes which; what a handler's expression does -/
  cls : Str → Bool
  cat : Str → Str → Bool
  hev : Str → Nat → PE → Sg → AHeap → VPost → Prop
noncomputable def Tab.calm (T : Tab) : Prop := ∃ c, T.cls c = true
noncomputable def truthyA : V → Option Bool
  | .none => some false
  | .bool b => some b
  | .int i => some (i != 0)
  | .str t => some (!t.isEmpty)
  | _ => Option.none
abbrev lid : Nat := 1000000
noncomputable def okT (t : Txt) : Bool := decide (t.length ≤ lid) && t.all fun c => decide (c < 1114112)
noncomputable def rdL (f : V → Option PyData) : List V → Option (List PyData)
  | [] => some []
  | v :: r => (f v).bind fun d => (rdL f r).map fun ds => d :: ds
noncomputable def rdO (f : V → Option PyData) : AObj → Option PyData
  | .list xs => (rdL f xs).map .list
  | .tuple xs => (rdL f xs).map .tuple
  | .dict _ _ => none
noncomputable def rdV (f : Nat → Option PyData) : V → Option PyData
  | .none => some .none
  | .bool b => some (.bool b)
  | .int i => some (.int i)
  | .str t => some (.str ⟨t.toArray⟩)
  | .ref a => f a
  | .glob _ => none
  | .exc _ => none
noncomputable def rd (H : AHeap) : Nat → V → Option PyData
  | 0, v => rdV (fun _ => none) v
  | n + 1, v => rdV (fun a => H[a]?.bind (rdO (rd H n))) v
inductive CmpA (H : AHeap) (q : Bool → Prop) : CmpOp → V → V → Prop
  | eq {a b x y} : rd H 6 a = some x → rd H 6 b = some y → q (PyData.eqv x y) → CmpA H q .Eq a b
  | ne {a b x y} : rd H 6 a = some x → rd H 6 b = some y → q (!PyData.eqv x y) → CmpA H q .NotEq a b
  | is {a} : q (decide (a = .none)) → CmpA H q .Is a .none
  | isn {a} : q (!decide (a = .none)) → CmpA H q .IsNot a .none
  | lt {i j} : q (decide (i < j)) → CmpA H q .Lt (.int i) (.int j)
  | le {i j} : q (decide (i ≤ j)) → CmpA H q .LtE (.int i) (.int j)
  | gt {i j} : q (decide (i > j)) → CmpA H q .Gt (.int i) (.int j)
  | ge {i j} : q (decide (i ≥ j)) → CmpA H q .GtE (.int i) (.int j)
  | inS {c u} : q (decide (c ∈ u)) → CmpA H q .In (.str [c]) (.str u)
  | inL {a n ds d} : rd H 6 (.ref n) = some (.list ds) → rd H 6 a = some d → q (ds.any fun x => PyData.eqv x d) → CmpA H q .In a (.ref n)
  | inD {k n es ep} : H[n]? = some (.dict es ep) → q (es.any fun e => e.1 == k) → CmpA H q .In (.str k) (.ref n)
  | ninL {a n ds d} : rd H 6 (.ref n) = some (.list ds) → rd H 6 a = some d → q (!(ds.any fun x => PyData.eqv x d)) → CmpA H q .NotIn a (.ref n)
  | ninD {k n es ep} : H[n]? = some (.dict es ep) → q (!(es.any fun e => e.1 == k)) → CmpA H q .NotIn (.str k) (.ref n)
abbrev cmpA (op : CmpOp) (a b : V) (H : AHeap) (q : Bool → Prop) : Prop := CmpA H q op a b
inductive BinA (H : AHeap) (Q : VPost) : Operator → V → V → Prop
  | add {i j} : Q (.int (i + j)) H → BinA H Q .Add (.int i) (.int j)
  | sub {i j} : Q (.int (i - j)) H → BinA H Q .Sub (.int i) (.int j)
  | mul {i j} : (i.natAbs < 2 ^ 63 ∨ j.natAbs < 2 ^ 63) → Q (.int (i * j)) H → BinA H Q .Mult (.int i) (.int j)
  | div {i j} : 0 < j → j < 1073741824 → Q (.int (i / j)) H → BinA H Q .FloorDiv (.int i) (.int j)
  | mod {i j} : 0 < j → Q (.int (i % j)) H → BinA H Q .Mod (.int i) (.int j)
  | cat {t u} : t.length + u.length ≤ lid → Q (.str (t ++ u)) H → BinA H Q .Add (.str t) (.str u)
  | lcat {m n xs ys} : H[m]? = some (.list xs) → H[n]? = some (.list ys) → xs.length + ys.length ≤ lid → Q (.ref H.length) (H ++ [.list (xs ++ ys)]) → BinA H Q .Add (.ref m) (.ref n)
abbrev binA (op : Operator) (a b : V) (H : AHeap) (Q : VPost) : Prop := BinA H Q op a b
inductive Pl (n : Nat) : Int → Nat → Prop
  | pos {k : Int} : 0 ≤ k → k < n → Pl n k k.toNat
  | neg {k : Int} : k < 0 → -(n : Int) ≤ k → Pl n k (k + n).toNat
inductive SubA (H : AHeap) (q : V → Prop) : V → V → Prop
  | str {t k j} : Pl t.length k j → q (.str ((t.drop j).take 1)) → SubA H q (.str t) (.int k)
  | list {n k xs j v} : H[n]? = some (.list xs) → Pl xs.length k j → xs[j]? = some v → q v → SubA H q (.ref n) (.int k)
  | tuple {n k xs j v} : H[n]? = some (.tuple xs) → Pl xs.length k j → xs[j]? = some v → q v → SubA H q (.ref n) (.int k)
  | dict {n k es ep e} : H[n]? = some (.dict es ep) → es.find? (fun e => e.1 == k) = some e → q e.2 → SubA H q (.ref n) (.str k)
abbrev subA (o i : V) (H : AHeap) (q : V → Prop) : Prop := SubA H q o i
noncomputable def cut {α : Type} (xs : List α) (lo hi : Nat) : List α := (xs.take hi).drop lo
inductive Bd (n d : Nat) : V → Nat → Prop
  | none : Bd n d .none d
  | int {i} : Bd n d (.int i) (clipAt n i)
inductive SliceA (H : AHeap) (Q : VPost) : V → V → V → Prop
  | str {t l h i j} : Bd t.length 0 l i → Bd t.length t.length h j → Q (.str (cut t i j)) H → SliceA H Q (.str t) l h
  | list {n xs l h i j} : H[n]? = some (.list xs) → Bd xs.length 0 l i → Bd xs.length xs.length h j → Q (.ref H.length) (H ++ [.list (cut xs i j)]) → SliceA H Q (.ref n) l h
abbrev sliceA (o lo hi : V) (H : AHeap) (Q : VPost) : Prop := SliceA H Q o lo hi
inductive ItemsA (c : Prop) (H : AHeap) (q : List Item → (AHeap → Prop) → Prop) : V → Prop
  | str {t} : q (t.map fun c => .one (.str [c])) (fun _ => True) → ItemsA c H q (.str t)
  | list {n xs} : H[n]? = some (.list xs) → q (xs.map .one) (fun H' => H'[n]? = some (.list xs)) → ItemsA c H q (.ref n)
  | tuple {n xs} : H[n]? = some (.tuple xs) → q (xs.map .one) (fun H' => H'[n]? = some (.tuple xs)) → ItemsA c H q (.ref n)
  | dict {n es ep} : c → H[n]? = some (.dict es ep) → q (es.map fun e => .one (.str e.1)) (fun H' => H'[n]? = some (.dict es ep)) → ItemsA c H q (.ref n)
abbrev itemsA (c : Prop) (v : V) (H : AHeap) (q : List Item → (AHeap → Prop) → Prop) : Prop := ItemsA c H q v
noncomputable def bindA (t : Tgt) (x : Item) (H : AHeap) (σ : Sg) : Option Sg := match x with
  | .one v => (match t with
    | .name y => some (σ.set y v)
    | .tup ys => (match v with
      | .ref n => (match H[n]? with
        | some (.tuple vs) => if ys.length = vs.length then some (σ.sets (ys.zip vs)) else Option.none
        | _ => Option.none)
      | _ => Option.none))
  | .many vs => (match t with
    | .name _ => Option.none
    | .tup ys => if ys.length = vs.length then some (σ.sets (ys.zip vs)) else Option.none)
noncomputable def intsFrom (a : Int) (n : Nat) : List Int := (List.range n).map fun i => a + (i : Nat)
noncomputable def compGo (K : AHeap → Prop) (bind : Item → AHeap → Option Sg) (test : Sg → AHeap → (Bool → AHeap → Prop) → Prop) (elt : Sg → AHeap → VPost → Prop) (Q : List V → AHeap → Prop) : List Item → List V → AHeap → Prop
  | [], acc, H => K H ∧ Q acc H
  | x :: xs, acc, H => K H ∧ match bind x H with
    | some σ => test σ H fun b H1 => if b then elt σ H1 fun v H2 => compGo K bind test elt Q xs (acc ++ [v]) H2 else compGo K bind test elt Q xs acc H1
    | Option.none => False
set_option genSizeOf false in
set_option genInjectivity false in
structure Me where
  ev : Sg → AHeap → VPost → XPost → Prop
  tt : Sg → AHeap → (Bool → AHeap → Prop) → XPost → Prop
  el : Sg → AHeap → (List V → AHeap → Prop) → XPost → Prop
  it : Sg → AHeap → (List Item → (AHeap → Prop) → AHeap → Prop) → XPost → Prop
noncomputable def Me.ofEv (ev : Sg → AHeap → VPost → XPost → Prop) : Me where
  ev := ev
  tt := fun σ H q X => ev σ H (fun v H1 => match truthyA v with | some b => q b H1 | Option.none => False) X
  el := fun _ _ _ _ => False
  it := fun _ _ _ _ => False
noncomputable def Me.ofEl (el : Sg → AHeap → (List V → AHeap → Prop) → XPost → Prop) : Me := ⟨fun _ _ _ _ => False, fun _ _ _ _ => False, el, fun _ _ _ _ => False⟩
noncomputable def Me.ofIt (i : Sg → AHeap → (List Item → (AHeap → Prop) → AHeap → Prop) → XPost → Prop) : Me := ⟨fun _ _ _ _ => False, fun _ _ _ _ => False, fun _ _ _ _ => False, i⟩
noncomputable def sem (T : Tab) : PE → Me
  | .name x => .ofEv fun σ H Q _ => match σ x with | some v => Q v H | Option.none => False
  | .glob g => .ofEv fun _ H Q _ => match T.gv g with | some v => Q v H | Option.none => False
  | .none => .ofEv fun _ H Q _ => Q .none H
  | .bool b => .ofEv fun _ H Q _ => Q (.bool b) H
  | .int i => .ofEv fun _ H Q _ => Q (.int i) H
  | .str x => .ofEv fun _ H Q _ => Q (.str x.cps.toList) H
  | .bin op l r => .ofEv fun σ H Q X => (sem T l).ev σ H (fun a H1 => (sem T r).ev σ H1 (fun b H2 => binA op a b H2 Q) X) X
  | .cmp1 op l r =>
    let go := fun (σ : Sg) (H : AHeap) (q : Bool → AHeap → Prop) (X : XPost) => (sem T l).ev σ H (fun a H1 => (sem T r).ev σ H1 (fun b H2 => cmpA op a b H2 fun c => q c H2) X) X
    { Me.ofEv (fun σ H Q X => go σ H (fun c H2 => Q (.bool c) H2) X) with tt := go }
  | .cmp2 o1 o2 a b c =>
    let go := fun (σ : Sg) (H : AHeap) (q : Bool → AHeap → Prop) (X : XPost) => (sem T a).ev σ H (fun x H1 => (sem T b).ev σ H1 (fun y H2 => cmpA o1 x y H2 fun c1 =>
      if c1 then (sem T c).ev σ H2 (fun z H3 => cmpA o2 y z H3 fun c2 => q c2 H3) X else q false H2) X) X
    { Me.ofEv (fun σ H Q X => go σ H (fun c H2 => Q (.bool c) H2) X) with tt := go }
  | .and l r =>
    { Me.ofEv (fun σ H Q X => (sem T l).ev σ H (fun v H1 => match truthyA v with | some b => if b then (sem T r).ev σ H1 Q X else Q v H1 | Option.none => False) X) with
      tt := fun σ H q X => (sem T l).tt σ H (fun b H1 => if b then (sem T r).tt σ H1 q X else q false H1) X }
  | .or l r =>
    { Me.ofEv (fun σ H Q X => (sem T l).ev σ H (fun v H1 => match truthyA v with | some b => if b then Q v H1 else (sem T r).ev σ H1 Q X | Option.none => False) X) with
      tt := fun σ H q X => (sem T l).tt σ H (fun b H1 => if b then q true H1 else (sem T r).tt σ H1 q X) X }
  | .not e =>
    { Me.ofEv (fun σ H Q X => (sem T e).ev σ H (fun v H1 => match truthyA v with | some b => Q (.bool !b) H1 | Option.none => False) X) with
      tt := fun σ H q X => (sem T e).tt σ H (fun b H1 => q (!b) H1) X }
  | .neg e => .ofEv fun σ H Q X => (sem T e).ev σ H (fun v H1 => match v with | .int i => Q (.int (-i)) H1 | _ => False) X
  | .call f args => .ofEv fun σ H Q X => (sem T f).ev σ H (fun fv H1 => match fv with
      | .glob g => (sem T args).el σ H1 (fun vs H2 => T.fn g vs H2 Q X) X
      | _ => False) X
  | .meth o m args => .ofEv fun σ H Q X => (sem T o).ev σ H (fun ov H1 => match kindA ov H1 with
      | some kd => T.has kd m = true ∧ (sem T args).el σ H1 (fun vs H2 => T.mt kd m (ov :: vs) H2 Q X) X
      | Option.none => False) X
  | .sub o i => .ofEv fun σ H Q X => (sem T o).ev σ H (fun ov H1 => (sem T i).ev σ H1 (fun iv H2 => subA ov iv H2 fun v => Q v H2) X) X
  | .slice o lo hi => .ofEv fun σ H Q X => (sem T o).ev σ H (fun ov H1 => (sem T lo).ev σ H1 (fun l H2 => (sem T hi).ev σ H2 (fun h H3 => sliceA ov l h H3 Q) X) X) X
  | .list es => .ofEv fun σ H Q X => (sem T es).el σ H (fun vs H1 => vs.length ≤ lid ∧ Q (.ref H1.length) (H1 ++ [.list vs])) X
  | .tuple es => .ofEv fun σ H Q X => (sem T es).el σ H (fun vs H1 => vs.length ≤ lid ∧ Q (.ref H1.length) (H1 ++ [.tuple vs])) X
  | .dict0 => .ofEv fun _ H Q _ => Q (.ref H.length) (H ++ [.dict [] 0])
  | .comp0 elt t it => .ofEv fun σ H Q X => (sem T it).it σ H (fun items K H1 =>
      items.length ≤ lid ∧ compGo K (fun x H' => bindA t x H' σ) (fun _ H' q => q true H') (fun σ' H' q => (sem T elt).ev σ' H' q fun _ _ => False) (fun acc H' => Q (.ref H'.length) (H' ++ [.list acc])) items [] H1) X
  | .comp1 elt t it cond => .ofEv fun σ H Q X => (sem T it).it σ H (fun items K H1 =>
      items.length ≤ lid ∧ compGo K (fun x H' => bindA t x H' σ) (fun σ' H' q => (sem T cond).tt σ' H' q fun _ _ => False) (fun σ' H' q => (sem T elt).ev σ' H' q fun _ _ => False) (fun acc H' => Q (.ref H'.length) (H' ++ [.list acc])) items [] H1) X
  | .nil => .ofEl fun _ H q _ => q [] H
  | .cons h t => .ofEl fun σ H q X => (sem T h).ev σ H (fun v H1 => (sem T t).el σ H1 (fun vs H2 => q (v :: vs) H2) X) X
  | .itVal e => .ofIt (fun σ H q X => (sem T e).ev σ H (fun v H1 => itemsA (T.calm) v H1 fun items K => q items K H1) X)
  | .itRange1 e => .ofIt (fun σ H q X => (sem T e).ev σ H (fun v H1 => match v with
      | .int j => 0 ≤ j ∧ j ≤ lid ∧ q ((intsFrom 0 j.toNat).map fun i => .one (.int i)) (fun _ => True) H1
      | _ => False) X)
  | .itRange2 a b => .ofIt (fun σ H q X => (sem T a).ev σ H (fun u H1 => (sem T b).ev σ H1 (fun v H2 => match u, v with
      | .int i, .int j => 0 ≤ i ∧ i ≤ lid ∧ 0 ≤ j ∧ j ≤ lid ∧ q ((intsFrom i (j - i).toNat).map fun i => .one (.int i)) (fun _ => True) H2
      | _, _ => False) X) X)
  | .itEnum e => .ofIt (fun σ H q X => T.calm ∧ (sem T e).ev σ H (fun v H1 => ∃ n xs, v = .ref n ∧ H1[n]? = some (.list xs) ∧ q (xs.zipIdx.map fun p => .many [.int p.2, p.1]) (fun H' => H'[n]? = some (.list xs)) H1) X)
abbrev SPost := Fl → Sg → AHeap → Prop
noncomputable def forGo (K : AHeap → Prop) (bind : Item → AHeap → Sg → Option Sg) (body : Sg → AHeap → SPost → Prop) (Q : SPost) : List Item → Sg → AHeap → Prop
  | [], σ, H => K H ∧ Q .next σ H
  | x :: xs, σ, H => K H ∧ match bind x H σ with
    | some σ' => body σ' H fun fl σ2 H2 => match fl with
      | .next => forGo K bind body Q xs σ2 H2
      | .brk => Q .next σ2 H2
      | .ret v => Q (.ret v) σ2 H2
    | Option.none => False
noncomputable def whileGo (test : Sg → AHeap → (Bool → AHeap → Prop) → Prop) (body : Sg → AHeap → SPost → Prop) (Q : SPost) : Nat → Sg → AHeap → Prop
  | 0, _, _ => False
  | n + 1, σ, H => test σ H fun b H1 => if b then body σ H1 fun fl σ2 H2 => match fl with
      | .next => whileGo test body Q n σ2 H2
      | .brk => Q .next σ2 H2
      | .ret v => Q (.ret v) σ2 H2
    else Q .next σ H1
noncomputable def stA (es : List (Txt × V)) (k : Txt) (v : V) : List (Txt × V) := if es.any (fun e => decide (e.1 = k)) then es.map (fun e => if e.1 = k then (e.1, v) else e) else es ++ [(k, v)]
inductive SetA (v : V) (H : AHeap) (q : AHeap → Prop) : V → V → Prop
  | dict {n es ep k} : n ≠ 0 → H[n]? = some (.dict es ep) → es.length < lid → (∀ ep, q (H.set n (.dict (stA es k v) ep))) → SetA v H q (.ref n) (.str k)
abbrev setItemA (o i v : V) (H : AHeap) (q : AHeap → Prop) : Prop := SetA v H q o i
noncomputable def semS (T : Tab) : PS → Sg → AHeap → SPost → XPost → Prop
  | .skip, σ, H, Q, _ => Q .next σ H
  | .seq a b, σ, H, Q, X => semS T a σ H (fun fl σ1 H1 => match fl with | .next => semS T b σ1 H1 Q X | f => Q f σ1 H1) X
  | .assign t e, σ, H, Q, X => (sem T e).ev σ H (fun v H1 => match bindA t (.one v) H1 σ with | some σ' => Q .next σ' H1 | Option.none => False) X
  | .setItem o i e, σ, H, Q, X => (sem T e).ev σ H (fun v H1 => (sem T o).ev σ H1 (fun ov H2 => (sem T i).ev σ H2 (fun iv H3 => setItemA ov iv v H3 fun H4 => Q .next σ H4) X) X) X
  | .expr e, σ, H, Q, X => (sem T e).ev σ H (fun _ H1 => Q .next σ H1) X
  | .ite c a b, σ, H, Q, X => (sem T c).tt σ H (fun t H1 => if t then semS T a σ H1 Q X else semS T b σ H1 Q X) X
  | .for_ t it body, σ, H, Q, X => (sem T it).it σ H (fun items K H1 => forGo K (fun x H' σ' => bindA t x H' σ') (fun σ' H' q => semS T body σ' H' q fun _ _ => False) Q items σ H1) X
  | .while_ c body, σ, H, Q, X => ∃ n, whileGo (fun σ' H' q => (sem T c).tt σ' H' q fun _ _ => False) (fun σ' H' q => semS T body σ' H' q fun _ _ => False) Q n σ H
  | .ret e, σ, H, Q, X => (sem T e).ev σ H (fun v H1 => Q (.ret v) σ H1) X
  | .raise c e, σ, H, _, X => T.cls c = true ∧ (sem T e).ev σ H (fun _ H1 => X c H1) X
  | .tryr e c x h, σ, H, Q, X => (sem T e).ev σ H (fun v H1 => Q (.ret v) σ H1) (fun k H1 => T.cat k c = true ∧ ∀ a, T.hev k a h (σ.set x (.exc a)) H1 fun v H2 => Q (.ret v) (fun _ => none) H2)
  | .brk, σ, H, Q, _ => Q .brk σ H
end Mine
end
section
namespace Mine
open PySem
abbrev Kd := Str → Option NameKind
set_option genSizeOf false in
set_option genInjectivity false in
inductive Vw where
  | name (x : Str) (p : Pos)
  | attr (o : Expr) (a : Str) (p : Pos)
  | call (f : Expr) (a : List Expr) (k : List Keyword) (p : Pos)
  | slice (a b c : Option Expr) (p : Pos)
  | sub (o i : Expr) (p : Pos)
  | tup (es : List Expr) (c : Nat) (p : Pos)
  | star
  | set
  | comp
  | other
noncomputable def vw : Expr → Vw
  | .Name x p => .name x p
  | .Attribute o a p => .attr o a p
  | .Call f a k p => .call f a k p
  | .Slice a b c p => .slice a b c p
  | .Subscript o i p => .sub o i p
  | .Tuple es c p => .tup es c p
  | .Starred .. => .star
  | .Set .. => .set
  | .ListComp .. => .comp
  | .SetComp .. => .comp
  | .DictComp .. => .comp
  | _ => .other
inductive VwIs : Expr → Vw → Prop
  | name {x p} : VwIs (.Name x p) (.name x p)
  | attr {o a p} : VwIs (.Attribute o a p) (.attr o a p)
  | call {f a k p} : VwIs (.Call f a k p) (.call f a k p)
  | slice {a b c p} : VwIs (.Slice a b c p) (.slice a b c p)
  | sub {o i p} : VwIs (.Subscript o i p) (.sub o i p)
  | tup {es c p} : VwIs (.Tuple es c p) (.tup es c p)
  | star {e} : VwIs e .star
  | set {e} : VwIs e .set
  | comp {e} : VwIs e .comp
  | other {e} : VwIs e .other
theorem vw_is (e : Expr) : VwIs e (vw e) := by
  cases e <;> constructor
noncomputable def asName (e : Expr) : Option (Str × Pos) := match vw e with
  | .name x p => some (x, p)
  | _ => none
noncomputable def asAttr (e : Expr) : Option (Expr × Str × Pos) := match vw e with
  | .attr o a p => some (o, a, p)
  | _ => none
noncomputable def asCall (e : Expr) : Option (Expr × List Expr × List Keyword × Pos) := match vw e with
  | .call f a k p => some (f, a, k, p)
  | _ => none
noncomputable def asSlice (e : Expr) : Option (Option Expr × Option Expr × Option Expr × Pos) := match vw e with
  | .slice a b c p => some (a, b, c, p)
  | _ => none
noncomputable def asSub (e : Expr) : Option (Expr × Expr × Pos) := match vw e with
  | .sub o i p => some (o, i, p)
  | _ => none
noncomputable def asTup (e : Expr) : Option (List Expr × Nat × Pos) := match vw e with
  | .tup es c p => some (es, c, p)
  | _ => none
noncomputable def isStar (e : Expr) : Bool := match vw e with
  | .star => true
  | _ => false
noncomputable def isSet (e : Expr) : Bool := match vw e with
  | .set => true
  | _ => false
noncomputable def isComp (e : Expr) : Bool := match vw e with
  | .comp => true
  | _ => false
section
variable {e f a b o i : Expr} {as : List Expr} {ks : List Keyword} {x y z : Option Expr} {p : Pos} {n : Str} {c : Nat}
theorem no_some {α : Type} {a : α} {P : Prop} (h : (none : Option α) = some a) : P := nomatch h
theorem asName_is (h : asName e = some (n, p)) : e = .Name n p := by
  have k := vw_is e
  unfold asName at h
  generalize vw e = v at h k
  cases k <;> first | exact no_some h | (cases h; rfl)
theorem asAttr_is (h : asAttr e = some (o, n, p)) : e = .Attribute o n p := by
  have k := vw_is e
  unfold asAttr at h
  generalize vw e = v at h k
  cases k <;> first | exact no_some h | (cases h; rfl)
theorem asCall_is (h : asCall e = some (f, as, ks, p)) : e = .Call f as ks p := by
  have k := vw_is e
  unfold asCall at h
  generalize vw e = v at h k
  cases k <;> first | exact no_some h | (cases h; rfl)
theorem asSlice_is (h : asSlice e = some (x, y, z, p)) : e = .Slice x y z p := by
  have k := vw_is e
  unfold asSlice at h
  generalize vw e = v at h k
  cases k <;> first | exact no_some h | (cases h; rfl)
theorem asSub_is (h : asSub e = some (o, i, p)) : e = .Subscript o i p := by
  have k := vw_is e
  unfold asSub at h
  generalize vw e = v at h k
  cases k <;> first | exact no_some h | (cases h; rfl)
theorem asTup_is (h : asTup e = some (as, c, p)) : e = .Tuple as c p := by
  have k := vw_is e
  unfold asTup at h
  generalize vw e = v at h k
  cases k <;> first | exact no_some h | (cases h; rfl)
end
noncomputable def asCall1 (e : Expr) : Option (Expr × Expr × Pos) := match asCall e with
  | some (f, as, ks, p) => (match as with
    | [] => none
    | a :: r => if r.isEmpty && ks.isEmpty then some (f, a, p) else none)
  | none => none
noncomputable def asCall2 (e : Expr) : Option (Expr × Expr × Expr × Pos) := match asCall e with
  | some (f, as, ks, p) => (match as with
    | [] => none
    | a :: r => (match r with
      | [] => none
      | b :: r => if r.isEmpty && ks.isEmpty then some (f, a, b, p) else none))
  | none => none
section
variable {e f a b : Expr} {p : Pos}
theorem asCall1_is (h : asCall1 e = some (f, a, p)) : e = .Call f [a] [] p := by
  unfold asCall1 at h
  cases q : asCall e with
  | none => rw [q] at h; exact no_some h
  | some v =>
    obtain ⟨f', as, ks, p'⟩ := v
    rw [q] at h
    have := asCall_is q
    cases as with
    | nil => exact no_some h
    | cons a' r =>
      cases r with
      | cons _ _ => exact no_some h
      | nil =>
        cases ks with
        | cons _ _ => exact no_some h
        | nil => cases h; exact this
theorem asCall2_is (h : asCall2 e = some (f, a, b, p)) : e = .Call f [a, b] [] p := by
  unfold asCall2 at h
  cases q : asCall e with
  | none => rw [q] at h; exact no_some h
  | some v =>
    obtain ⟨f', as, ks, p'⟩ := v
    rw [q] at h
    have := asCall_is q
    cases as with
    | nil => exact no_some h
    | cons a' r =>
      cases r with
      | nil => exact no_some h
      | cons b' r =>
        cases r with
        | cons _ _ => exact no_some h
        | nil =>
          cases ks with
          | cons _ _ => exact no_some h
          | nil => cases h; exact this
end
noncomputable def tgtNames : List Expr → Option (List Str)
  | [] => some []
  | e :: r => match asName e with
    | some (x, _) => (tgtNames r).map (x :: ·)
    | none => none
noncomputable def dot0 : Str := Str.ofString ".0"
noncomputable def stored (k : Kd) (x : Str) : Bool := (k x == some .local || k x == some .cell) && x != dot0
noncomputable def trT (k : Kd) (e : Expr) : Option Tgt := match asName e with
  | some (x, _) => if stored k x then some (.name x) else none
  | none => (match asTup e with
    | some (es, _) => (match tgtNames es with
      | some xs => if xs.all (stored k) && decide xs.Nodup then some (.tup xs) else none
      | none => none)
    | none => none)
noncomputable def inner (sc : Scope) (k : Kd) : Kd := fun x => (sc.names.map fun p => if p.2 == .free && k p.1 == some .cell then (p.1, NameKind.cell) else (p.1, p.2)).lookup x
noncomputable def scOk (sc : Scope) (k : Kd) : Bool := sc.kind == .function && sc.names.all fun p => match p.2 with
  | .local => sc.names.lookup p.1 == some .local
  | .cell => false
  | .free => k p.1 == some .cell
  | _ => true
noncomputable def Tgt.names : Tgt → List Str
  | .name x => [x]
  | .tup xs => xs
noncomputable def onlyHere (sc : Scope) (t : Tgt) : Bool := (t.names.all fun x => sc.names.lookup x == some .local) && sc.names.all fun p => p.2 != .local || p.1 == dot0 || t.names.contains p.1
noncomputable def isG (k : Kd) (x : Str) (n : String) : Bool := x == Str.ofString n && k x == some .globalImplicit
noncomputable def trBool (op : BoolOp) : List PE → Option PE
  | [] => none
  | [e] => some e
  | e :: r => (trBool op r).map fun x => match op with | .And => .and e x | .Or => .or e x
noncomputable def trL (f : Expr → Option PE) : List Expr → Option PE
  | [] => some .nil
  | e :: r => (f e).bind fun a => (trL f r).map fun b => .cons a b
noncomputable def trLs (f : Expr → Option PE) : List Expr → Option (List PE)
  | [] => some []
  | e :: r => (f e).bind fun a => (trLs f r).map fun b => a :: b
noncomputable def trO (f : Expr → Option PE) : Option Expr → Option PE
  | none => some .none
  | some e => f e
noncomputable def bnd2 (a b : Option PE) (f : PE → PE → PE) : Option PE := a.bind fun x => b.map fun y => f x y
noncomputable def bnd3 (a b c : Option PE) (f : PE → PE → PE → PE) : Option PE := a.bind fun x => b.bind fun y => c.map fun z => f x y z
noncomputable def isGE (k : Kd) (e : Expr) (n : String) : Bool := match asName e with
  | some (g, _) => isG k g n
  | none => false
noncomputable def trI (k : Kd) (f : Expr → Option PE) (e : Expr) : Option PE := if isSet e then none else match asCall1 e with
  | some (g, a, _) =>
    if isGE k g "range" then (f a).map .itRange1
    else if isGE k g "enumerate" then (f a).map .itEnum
    else (f e).map .itVal
  | none => (match asCall2 e with
    | some (g, a, b, _) => if isGE k g "range" then bnd2 (f a) (f b) .itRange2 else (f e).map .itVal
    | none => (f e).map .itVal)
noncomputable def callArgs (o : Expr) : Bool := match asCall o with
  | some (_, as, _) => !as.isEmpty
  | none => true
noncomputable def trCall (k : Kd) (f : Expr → Option PE) (fn : Expr) (args : List Expr) (kws : List Keyword) (pos : Pos) : Option PE := match kws with
  | [] => if decide (args.length < 20) then (match asAttr fn with
    | some (o, m, apos) => if apos.endLine == pos.line && callArgs o then bnd2 (f o) (trL f args) fun a b => .meth a m b else none
    | none => if (asName fn).isSome then bnd2 (f fn) (trL f args) .call else none) else none
  | _ :: _ => none
noncomputable def trSub (f : Expr → Option PE) (o i : Expr) : Option PE := match asSlice i with
  | some (lo, hi, st, _) => if st.isNone then bnd3 (f o) (trO f lo) (trO f hi) .slice else none
  | none => bnd2 (f o) (f i) .sub
noncomputable def trIfs (f' : Expr → Option PE) (e' : PE) (t' : Tgt) (it' : PE) : List Expr → Option PE
  | [] => some (.comp0 e' t' it')
  | c :: r => if r.isEmpty then (f' c).map fun c' => .comp1 e' t' it' c' else none
noncomputable def trComp (k : Kd) (f f' : Expr → Option PE) (elt : Expr) (gens : List Comprehension) (sc : Scope) : Option PE := match gens with
  | [] => none
  | g :: r => if scOk sc k && g.is_async == 0 && r.isEmpty then (trT (inner sc k) g.target).bind fun t' => (trI k f g.iter).bind fun it' => (f' elt).bind fun e' => if onlyHere sc t' then trIfs f' e' t' it' g.ifs else none else none
noncomputable def trConst : Const → Option PE
  | .none => some .none
  | .bool b => some (.bool b)
  | .int i => some (.int i)
  | .str s => if okT s.cps.toList then some (.str s) else none
  | _ => none
noncomputable def trName (k : Kd) (x : Str) : Option PE := if x == Str.ofString "__debug__" then none else match k x with
  | some .local | some .cell => some (.name x)
  | some .globalImplicit => some (.glob x)
  | _ => none
noncomputable def trUn (f : Expr → Option PE) (op : UnaryOp) (x : Expr) : Option PE := match op with
  | .Not => (f x).map .not
  | .USub => (f x).map .neg
  | _ => none
noncomputable def trCmp2 (f : Expr → Option PE) (a : Expr) (o1 : CmpOp) (b : Expr) (ops : List CmpOp) (cs : List Expr) : Option PE := match ops with
  | [] => if cs.isEmpty then bnd2 (f a) (f b) (.cmp1 o1) else none
  | o2 :: os => (match cs with
    | [] => none
    | c :: r => if isSet c || !os.isEmpty || !r.isEmpty then none else bnd3 (f a) (f b) (f c) (.cmp2 o1 o2))
noncomputable def trCmp (f : Expr → Option PE) (a : Expr) (ops : List CmpOp) (cs : List Expr) : Option PE := match ops with
  | [] => none
  | o :: os => (match cs with
    | [] => none
    | b :: r => if isSet b then none else trCmp2 f a o b os r)
noncomputable def trDict (ks : List (Option Expr)) (vs : List Expr) : Option PE := if ks.isEmpty && vs.isEmpty then some .dict0 else none
noncomputable def trE : Nat → Kd → Expr → Option PE
  | 0, _, _ => none
  | n + 1, k, e => match e with
    | .Name x _ => trName k x
    | .Constant c _ _ => trConst c
    | .BinOp l op r _ => bnd2 (trE n k l) (trE n k r) (.bin op)
    | .UnaryOp op x _ => trUn (trE n k) op x
    | .BoolOp op vs _ => (trLs (trE n k) vs).bind (trBool op)
    | .Compare l ops cs _ => trCmp (trE n k) l ops cs
    | .Call f args kws pos => trCall k (trE n k) f args kws pos
    | .Subscript o i _ => trSub (trE n k) o i
    | .List es _ => (trL (trE n k) es).map .list
    | .Tuple es _ _ => (trL (trE n k) es).map .tuple
    | .Dict ks vs _ => trDict ks vs
    | .ListComp elt gens sc _ => trComp k (trE n k) (trE n (inner sc k)) elt gens sc
    | _ => none
noncomputable def oneTup (e : Expr) : Bool := match asTup e with
  | some (vs, _) => vs.all (constantsAlone 8)
  | none => false
noncomputable def trAsg (v : Expr) (v' : PE) : Tgt → Option PS
  | .name x => some (.assign (.name x) v')
  | .tup xs => if isComp v || oneTup v then none else some (.assign (.tup xs) v')
noncomputable def trAssign (k : Kd) (f : Expr → Option PE) (ts : List Expr) (v : Expr) : Option PS := match ts with
  | [] => none
  | t :: r => if r.isEmpty then (match asSub t with
    | some (o, i, _) => if isComp v || (asSlice i).isSome then none else (f v).bind fun a => (f o).bind fun b => (f i).map fun c => .setItem b c a
    | none => (trT k t).bind fun t' => (f v).bind fun v' => trAsg v v' t') else none
noncomputable def trRet (f : Expr → Option PE) : Option Expr → Option PS
  | some e => (f e).map .ret
  | none => some (.ret .none)
noncomputable def isG0 (k : Kd) (c : Str) : Bool := k c == some .globalImplicit && !(c == Str.ofString "__debug__")
noncomputable def trRaise (k : Kd) (f : Expr → Option PE) (e cause : Option Expr) : Option PS := match e with
  | none => none
  | some e => if cause.isSome then none else (match asCall1 e with
    | some (g, a, _) => (match asName g with
      | some (c, _) => if isG0 k c then (f a).map (.raise c) else none
      | none => none)
    | none => none)
noncomputable def asRet (st : Stmt) : Option (Expr × Pos) := match st with
  | .Return (some e) p => some (e, p)
  | _ => none
theorem asRet_is {st : Stmt} {e : Expr} {p : Pos} (h : asRet st = some (e, p)) : st = .Return (some e) p := by
  cases st with
  | Return e' p' =>
    cases e' with
    | none => exact nomatch (show (none : Option (Expr × Pos)) = some (e, p) from h)
    | some e' => cases h; rfl
  | _ => exact nomatch (show (none : Option (Expr × Pos)) = some (e, p) from h)
noncomputable def trHand (k : Kd) (f : Expr → Option PE) (e : Expr) (t : Option Expr) (x : Option Str) (h : Expr) : Option PS := match t with
  | none => none
  | some t => (match x with
    | none => none
    | some x => (match asName t with
      | none => none
      | some (c, _) => if isG0 k c && (k x == some .local && x != dot0) then (f e).bind fun e' => (f h).map fun h' => .tryr e' c x h' else none))
noncomputable def trTry (k : Kd) (f : Expr → Option PE) (body : List Stmt) (hs : List ExceptHandler) (els fin : List Stmt) : Option PS := match body with
  | [] => none
  | b :: br => (match hs with
    | [] => none
    | .ExceptHandler t x hb _ :: hr => (match hb with
      | [] => none
      | h1 :: hbr => if br.isEmpty && hr.isEmpty && hbr.isEmpty && els.isEmpty && fin.isEmpty then (match asRet b with
          | none => none
          | some (e, _) => (match asRet h1 with
            | none => none
            | some (h, _) => trHand k f e t x h)) else none))
noncomputable def tr1 (k : Kd) (f : Expr → Option PE) (b : List Stmt → Option PS) (st : Stmt) : Option PS := match st with
  | .Assign ts v _ => trAssign k f ts v
  | .Expr e _ => if isComp e then none else (f e).map .expr
  | .If c x y _ => (f c).bind fun c' => (b x).bind fun a' => (b y).map fun b' => .ite c' a' b'
  | .For t it body els _ => if els.isEmpty then (trT k t).bind fun t' => (trI k f it).bind fun it' => (b body).map fun b' => .for_ t' it' b' else none
  | .While c body els _ => if els.isEmpty then (f c).bind fun c' => (b body).map fun b' => .while_ c' b' else none
  | .Return e _ => trRet f e
  | .Raise e c _ => trRaise k f e c
  | .Try body hs els fin _ => trTry k f body hs els fin
  | .Break _ => some .brk
  | .Pass _ => some .skip
  | _ => none
noncomputable def trS : Nat → Kd → List Stmt → Option PS
  | 0, _, _ => none
  | n + 1, k, l => match l with
    | [] => some .skip
    | st :: rest => (tr1 k (trE 60 k) (trS n k) st).bind fun a => (trS n k rest).map fun b => .seq a b
end Mine
end
section
namespace Mine
open PySem
inductive All2 {α β : Type} (R : α → β → Prop) : List α → List β → Prop
  | nil : All2 R [] []
  | cons {a b as bs} : R a b → All2 R as bs → All2 R (a :: as) (b :: bs)
namespace All2
variable {α β : Type} {R S : α → β → Prop}
theorem length {as : List α} {bs : List β} (h : All2 R as bs) : as.length = bs.length := by
  induction h with
  | nil => rfl
  | cons _ _ ih => exact congrArg (· + 1) ih
theorem mono (f : ∀ a b, R a b → S a b) {as : List α} {bs : List β} (h : All2 R as bs) : All2 S as bs := by
  induction h with
  | nil => exact .nil
  | cons h _ ih => exact .cons (f _ _ h) ih
theorem append {as : List α} {bs : List β} {cs : List α} {ds : List β} (h : All2 R as bs) (k : All2 R cs ds) : All2 R (as ++ cs) (bs ++ ds) := by
  induction h with
  | nil => exact k
  | cons h _ ih => exact .cons h ih
theorem get {as : List α} {bs : List β} (h : All2 R as bs) : ∀ (i : Nat) (a : α), as[i]? = some a → ∃ b, bs[i]? = some b ∧ R a b := by
  induction h with
  | nil => intro i a e; cases e
  | cons h _ ih =>
    intro i a e
    cases i with
    | zero => cases e; exact ⟨_, rfl, h⟩
    | succ i => exact ih i a e
theorem take {as : List α} {bs : List β} (h : All2 R as bs) : ∀ n, All2 R (as.take n) (bs.take n) := by
  induction h with
  | nil => intro n; rw [List.take_nil, List.take_nil]; exact .nil
  | cons h _ ih =>
    intro n
    cases n with
    | zero => exact .nil
    | succ n => exact .cons h (ih n)
theorem drop {as : List α} {bs : List β} (h : All2 R as bs) : ∀ n, All2 R (as.drop n) (bs.drop n) := by
  induction h with
  | nil => intro n; rw [List.drop_nil, List.drop_nil]; exact .nil
  | cons h r ih =>
    intro n
    cases n with
    | zero => exact .cons h r
    | succ n => exact ih n
theorem set {as : List α} {bs : List β} (h : All2 R as bs) {a : α} {b : β} (k : R a b) : ∀ n, All2 R (as.set n a) (bs.set n b) := by
  induction h with
  | nil => intro n; exact .nil
  | cons h r ih =>
    intro n
    cases n with
    | zero => exact .cons k r
    | succ n => exact .cons h (ih n)
theorem replicate {a : α} {b : β} (h : R a b) : ∀ n, All2 R (List.replicate n a) (List.replicate n b)
  | 0 => .nil
  | n + 1 => .cons h (replicate h n)
theorem reverse {as : List α} {bs : List β} (h : All2 R as bs) : All2 R as.reverse bs.reverse := by
  induction h with
  | nil => exact .nil
  | cons h _ ih => rw [List.reverse_cons, List.reverse_cons]; exact ih.append (.cons h .nil)
theorem left {as : List α} {bs : List β} (h : All2 R as bs) : ∀ a ∈ as, ∃ b ∈ bs, R a b := by
  induction h with
  | nil => intro a h; cases h
  | cons h _ ih =>
    intro a m
    cases m with
    | head => exact ⟨_, .head _, h⟩
    | tail _ m => obtain ⟨b, hb, k⟩ := ih a m; exact ⟨b, .tail _ hb, k⟩
theorem right {as : List α} {bs : List β} (h : All2 R as bs) : ∀ b ∈ bs, ∃ a ∈ as, R a b := by
  induction h with
  | nil => intro a h; cases h
  | cons h _ ih =>
    intro a m
    cases m with
    | head => exact ⟨_, .head _, h⟩
    | tail _ m => obtain ⟨b, hb, k⟩ := ih a m; exact ⟨b, .tail _ hb, k⟩
end All2
set_option genSizeOf false in
set_option genInjectivity false in
structure Cx where
  prog : Program
  w : World
  base : Heap
  os : OsState
  G : Str → Option Value
  mg : Str → Option Value
  mb : Str → Option Value
  hg : base.Ns mainGlobals mg
  hb : base.Ns builtinsNs mb
  lim : base.NoLimit
  hN : ∀ x, G x ≠ some .none
  hG : ∀ x v, G x = some v → mg x = some v ∨ (mg x = none ∧ mb x = some v)
  frs : List Env
  calm : Prop
noncomputable def Cx.at (C : Cx) (fs : List Env) : Cx := { C with frs := fs }
variable (C : Cx)
noncomputable def VR (ρ : List Addr) : V → Value → Prop
  | .none, u => u = .none
  | .bool b, u => u = .bool b
  | .int i, u => ∃ t, u = .int i t
  | .str x, u => okT x = true ∧ ∃ t, u = .str ⟨x.toArray⟩ t
  | .ref n, u => ∃ a, u = .ref a ∧ ρ[n]? = some a
  | .glob g, u => C.G g = some u
  | .exc a, u => u = .ref a
noncomputable def ER (ρ : List Addr) (e : Txt × V) (d : DictEntry) : Prop :=
  VR C ρ (.str e.1) d.key ∧ d.hash = PyData.keyHash C.w.params ⟨e.1.toArray⟩ ∧ VR C ρ e.2 d.val
noncomputable def OR (ρ : List Addr) (h : Heap) (a : Addr) : AObj → Prop
  | .list xs => ∃ us n, h.get? a = some ⟨.type "list", none, .seq us n, #[]⟩ ∧ All2 (VR C ρ) xs us.toList ∧ xs.length ≤ lid
  | .tuple xs => ∃ us n, h.get? a = some ⟨.type "tuple", none, .seq us n, #[]⟩ ∧ All2 (VR C ρ) xs us.toList ∧ xs.length ≤ lid
  | .dict es n => ∃ ds, h.get? a = some ⟨.type "dict", none, .dict ds n, #[]⟩ ∧ All2 (ER C ρ) es ds.toList ∧ (es.map (·.1)).Nodup ∧ es.length ≤ lid
theorem VR.ext {ρ ρ' : List Addr} (l : List Addr) (e : ρ' = ρ ++ l) : ∀ {v : V} {u : Value}, VR C ρ v u → VR C ρ' v u
  | .none, _, h => h
  | .bool _, _, h => h
  | .int _, _, h => h
  | .str _, _, h => h
  | .ref n, _, ⟨a, e1, e2⟩ => ⟨a, e1, by
      rw [e, List.getElem?_append_left]
      · exact e2
      · exact (List.getElem?_eq_some_iff.mp e2).1⟩
  | .glob _, _, h => h
  | .exc _, _, h => h
theorem ER.ext {ρ ρ' : List Addr} (l : List Addr) (e : ρ' = ρ ++ l) {p : Txt × V} {d : DictEntry} (h : ER C ρ p d) : ER C ρ' p d := ⟨h.1.ext C l e, h.2.1, h.2.2.ext C l e⟩
theorem OR.alive {ρ : List Addr} {h : Heap} {a : Addr} : ∀ {o : AObj}, OR C ρ h a o → ∃ ob, h.get? a = some ob
  | .list _, ⟨_, _, e, _⟩ => ⟨_, e⟩
  | .tuple _, ⟨_, _, e, _⟩ => ⟨_, e⟩
  | .dict _ _, ⟨_, e, _⟩ => ⟨_, e⟩
theorem OR.keep {ρ ρ' : List Addr} {h h' : Heap} {a : Addr} (l : List Addr) (e : ρ' = ρ ++ l) (k : ∀ o, h.get? a = some o → h'.get? a = some o) : ∀ {o : AObj}, OR C ρ h a o → OR C ρ' h' a o
  | .list _, ⟨us, n, x, y, z⟩ => ⟨us, n, k _ x, y.mono fun _ _ q => q.ext C l e, z⟩
  | .tuple _, ⟨us, n, x, y, z⟩ => ⟨us, n, k _ x, y.mono fun _ _ q => q.ext C l e, z⟩
  | .dict _ _, ⟨us, x, y, z⟩ => ⟨us, k _ x, y.mono fun _ _ q => q.ext C l e, z⟩
noncomputable def IsNs (o : Obj) : Prop := ∃ es ep, o.data = .dict es ep
noncomputable def FrsOk (ρ : List Addr) (h : Heap) : Prop := ∀ env ∈ C.frs, env.scope.kind ≠ .module ∧ ∃ L o, env.frame = some L ∧ C.base.get? L = none ∧ L ∉ ρ ∧ h.get? L = some o ∧ IsNs o
theorem FrsOk.to {ρ ρ' : List Addr} {h h' : Heap} (x : FrsOk C ρ h) (k : ∀ b o, C.base.get? b = none → b ∉ ρ → IsNs o → h.get? b = some o → b ∉ ρ' ∧ ∃ o', h'.get? b = some o' ∧ IsNs o') : FrsOk C ρ' h' := fun env he => by
  obtain ⟨h1, L, o, h2, h3, h4, h5, h6⟩ := x env he
  obtain ⟨k1, o', k2, k3⟩ := k L o h3 h4 h6 h5
  exact ⟨h1, L, o', h2, h3, k1, k2, k3⟩
structure Sim (ρ : List Addr) (H : AHeap) (s : Shared) : Prop where
  len : ρ.length = H.length
  nodup : ρ.Nodup
  obj : ∀ (i : Nat) a o, ρ[i]? = some a → H[i]? = some o → OR C ρ s.heap a o
  stays : ∀ b o, C.base.get? b = some o → s.heap.get? b = some o
  fresh : ∀ (i : Nat) a, ρ[i]? = some a → i ≠ 0 → C.base.get? a = none
  sm : sysModules ∉ ρ
  gens : s.gens = #[]
  os : s.os = C.os
  frs : FrsOk C ρ s.heap
noncomputable def Same (o : Obj) (r : Option Obj) : Prop := r = some o ∨ (IsNs o ∧ ∃ sl, r = some { o with slots := sl })
theorem Same.trans {o : Obj} {r r' : Option Obj} (h : Same o r) (k : ∀ o', r = some o' → Same o' r') : Same o r' := by
  rcases h with h | ⟨hc, sl, h⟩
  · exact k o h
  · rcases k _ h with k | ⟨_, sl', k⟩
    · exact .inr ⟨hc, sl, k⟩
    · exact .inr ⟨hc, sl', k⟩
theorem Same.eq {o : Obj} {r : Option Obj} (h : Same o r) (hc : ¬ IsNs o) : r = some o := h.elim id fun z => (hc z.1).elim
theorem Same.ns {h h' : Heap} {a : Addr} {m : Str → Option Value} (hn : h.Ns a m) (k : ∀ o, h.get? a = some o → Same o (h'.get? a)) : h'.Ns a m := by
  obtain ⟨o, es, ep, ho, hd, r⟩ := hn
  rcases k o ho with q | ⟨_, sl, q⟩
  · exact ⟨o, es, ep, q, hd, r⟩
  · exact ⟨_, es, ep, q, hd, r⟩
theorem Same.cell {h h' : Heap} {a : Addr} {ov : Option Value} (hn : h.IsCell a ov) (k : ∀ o, h.get? a = some o → Same o (h'.get? a)) : h'.IsCell a ov := by
  obtain ⟨o, ho, hd⟩ := hn
  rcases k o ho with q | ⟨_, sl, q⟩
  · exact ⟨o, q, hd⟩
  · exact ⟨_, q, hd⟩
structure StepG (ex : Addr → Prop) (ρ : List Addr) (s : Shared) (ρ' : List Addr) (s' : Shared) : Prop where
  ext : ∃ l, ρ' = ρ ++ l ∧ ∀ a ∈ l, s.heap.get? a = none
  keep : ∀ b o, b ∉ ρ → ¬ ex b → s.heap.get? b = some o → Same o (s'.heap.get? b)
  live : ∀ b o, s.heap.get? b = some o → ∃ o', s'.heap.get? b = some o'
abbrev Step := StepG fun _ => False
variable {C}
theorem StepG.refl {ex : Addr → Prop} (ρ : List Addr) (s : Shared) : StepG ex ρ s ρ s := ⟨⟨[], by simp, fun _ h => nomatch h⟩, fun _ _ _ _ e => .inl e, fun _ o e => ⟨o, e⟩⟩
theorem StepG.mono {ex ex' : Addr → Prop} {ρ ρ' : List Addr} {s s' : Shared} (x : StepG ex ρ s ρ' s') (h : ∀ b, ex b → ex' b) : StepG ex' ρ s ρ' s' := ⟨x.ext, fun b o h1 h2 e => x.keep b o h1 (fun q => h2 (h b q)) e, x.live⟩
theorem StepG.up {ex : Addr → Prop} {ρ ρ' : List Addr} {s s' : Shared} (x : Step ρ s ρ' s') : StepG ex ρ s ρ' s' := x.mono fun _ h => h.elim
theorem StepG.trans {ex : Addr → Prop} {ρ ρ1 ρ2 : List Addr} {s s1 s2 : Shared} (x : StepG ex ρ s ρ1 s1) (y : StepG ex ρ1 s1 ρ2 s2) : StepG ex ρ s ρ2 s2 := by
  obtain ⟨l, e, f⟩ := x.ext
  obtain ⟨l2, e2, f2⟩ := y.ext
  refine ⟨⟨l ++ l2, by rw [e2, e, List.append_assoc], fun a ha => ?_⟩, fun b o hb hx q => ?_, fun b o q => ?_⟩
  · rcases List.mem_append.mp ha with ha | ha
    · exact f a ha
    · cases q : s.heap.get? a with
      | none => rfl
      | some o => obtain ⟨o', q'⟩ := x.live _ _ q; rw [f2 a ha] at q'; cases q'
  · refine (x.keep b o hb hx q).trans fun o' q' => y.keep b o' (fun hm => ?_) hx q'
    rw [e] at hm
    rcases List.mem_append.mp hm with hm | hm
    · exact hb hm
    · rw [f b hm] at q; cases q
  · obtain ⟨o1, q1⟩ := x.live b o q
    exact y.live b o1 q1
theorem StepG.toks {ρ : List Addr} {s : Shared} (t : Nat) : Step ρ s ρ { s with toks := t } := ⟨⟨[], by simp, fun _ h => nomatch h⟩, fun _ _ _ _ e => .inl e, fun _ o e => ⟨o, e⟩⟩
theorem Sim.toks {ρ : List Addr} {H : AHeap} {s : Shared} (S : Sim C ρ H s) (t : Nat) : Sim C ρ H { s with toks := t } := ⟨S.len, S.nodup, S.obj, S.stays, S.fresh, S.sm, S.gens, S.os, S.frs⟩
theorem StepG.vr {ex : Addr → Prop} {ρ ρ' : List Addr} {s s' : Shared} (x : StepG ex ρ s ρ' s') {v : V} {u : Value} (h : VR C ρ v u) : VR C ρ' v u := by
  obtain ⟨l, e, _⟩ := x.ext
  exact h.ext C l e
theorem StepG.vrs {ex : Addr → Prop} {ρ ρ' : List Addr} {s s' : Shared} (x : StepG ex ρ s ρ' s') {v : List V} {u : List Value} (h : All2 (VR C ρ) v u) : All2 (VR C ρ') v u := h.mono fun _ _ => x.vr
theorem Sim.grow {ρ : List Addr} {H : AHeap} {s : Shared} (S : Sim C ρ H s) {h' : Heap} {tk : Nat} (k : ∀ b o, s.heap.get? b = some o → h'.get? b = some o) :
    Sim C ρ H { s with heap := h', toks := tk } ∧ Step ρ s ρ { s with heap := h', toks := tk } :=
  ⟨⟨S.len, S.nodup, fun i a o e q => (S.obj i a o e q).keep C [] (by simp) fun _ x => k _ _ x, fun b o e => k _ _ (S.stays b o e), S.fresh, S.sm, S.gens, S.os, S.frs.to C fun b o _ hb hn e => ⟨hb, o, k b o e, hn⟩⟩,
   ⟨⟨[], by simp, fun _ h => nomatch h⟩, fun b o _ _ e => .inl (k b o e), fun b o e => ⟨o, k b o e⟩⟩⟩
theorem Sim.lookup {ρ : List Addr} {H : AHeap} {s : Shared} (S : Sim C ρ H s) {n : Nat} {o : AObj} {u : Value} (e : H[n]? = some o) (v : VR C ρ (.ref n) u) : ∃ a, u = .ref a ∧ ρ[n]? = some a ∧ OR C ρ s.heap a o :=
  by obtain ⟨a, e1, e2⟩ := v; exact ⟨a, e1, e2, S.obj n a o e2 e⟩
theorem Sim.alloc {ρ : List Addr} {H : AHeap} {s : Shared} (S : Sim C ρ H s) {h' : Heap} {tk : Nat} {a : Addr} {o : AObj} (k : ∀ b x, s.heap.get? b = some x → h'.get? b = some x)
    (hn : s.heap.get? a = none) (hsm : a ≠ sysModules) (ho : OR C ρ h' a o) :
    Sim C (ρ ++ [a]) (H ++ [o]) { s with heap := h', toks := tk } ∧ Step ρ s (ρ ++ [a]) { s with heap := h', toks := tk } ∧ VR C (ρ ++ [a]) (.ref H.length) (.ref a) := by
  have hm : a ∉ ρ := fun hm => by
    obtain ⟨i, hi, e⟩ := List.getElem_of_mem hm
    have hi' : i < H.length := by rw [← S.len]; exact hi
    obtain ⟨ob, q⟩ := (S.obj i a H[i] (by rw [List.getElem?_eq_getElem hi, e]) (List.getElem?_eq_getElem hi')).alive C
    rw [hn] at q; cases q
  refine ⟨⟨by simp [S.len], ?_, fun i b x e q => ?_, fun b x e => k _ _ (S.stays b x e), fun i b e hi => ?_, ?_, S.gens, S.os, S.frs.to C fun b o _ hb hq e => ⟨fun hm' => (List.mem_append.mp hm').elim hb fun z => (by rw [List.mem_singleton.mp z, hn] at e; cases e), o, k b o e, hq⟩⟩, ⟨⟨[a], rfl, fun b hb => by simp at hb; rw [hb]; exact hn⟩, fun b x _ _ e => .inl (k b x e), fun b x e => ⟨x, k b x e⟩⟩,
    ⟨a, rfl, by rw [← S.len]; simp⟩⟩
  · rw [List.nodup_append]
    exact ⟨S.nodup, by simp, fun x hx y hy => by simp at hy; rw [hy]; exact fun q => hm (q ▸ hx)⟩
  · rcases Nat.lt_or_ge i ρ.length with hi | hi
    · rw [List.getElem?_append_left hi] at e
      rw [List.getElem?_append_left (S.len ▸ hi)] at q
      exact (S.obj i b x e q).keep C [a] rfl fun _ x => k _ _ x
    · rw [List.getElem?_append_right hi] at e
      rw [List.getElem?_append_right (S.len ▸ hi)] at q
      rw [S.len] at e
      rcases Nat.eq_zero_or_pos (i - H.length) with z | z
      · rw [z] at e q
        simp at e q
        subst e q
        exact ho.keep C [a] rfl fun _ x => x
      · rw [List.getElem?_eq_none (by simp; lia)] at e; cases e
  · rcases Nat.lt_or_ge i ρ.length with hi' | hi'
    · rw [List.getElem?_append_left hi'] at e
      exact S.fresh i b e hi
    · rw [List.getElem?_append_right hi'] at e
      have : b = a := by
        rcases Nat.eq_zero_or_pos (i - ρ.length) with z | z
        · rw [z] at e; simpa using e.symm
        · rw [List.getElem?_eq_none (by simp; lia)] at e; cases e
      subst this
      cases q : C.base.get? b with
      | none => rfl
      | some x => rw [S.stays _ _ q] at hn; cases hn
  · intro hq
    rcases List.mem_append.mp hq with hq | hq
    · exact S.sm hq
    · simp only [List.mem_singleton] at hq
      exact hsm hq.symm
theorem Sim.size_ne {ρ : List Addr} {H : AHeap} {s : Shared} (S : Sim C ρ H s) : s.heap.objs.size ≠ sysModules := by
  obtain ⟨mc, ⟨o, es, ep, ho, _⟩, _⟩ := C.lim
  have h1 := Heap.lt_size (S.stays _ _ ho)
  exact fun q => absurd (Nat.lt_of_lt_of_le h1 (Nat.le_of_eq q)) (by decide)
theorem Sim.change {ρ : List Addr} {H : AHeap} {s : Shared} (S : Sim C ρ H s) {h' : Heap} {tk n : Nat} {a : Addr} {o : AObj} (hn : n ≠ 0) (e : ρ[n]? = some a) (k : ∀ b x, b ≠ a → s.heap.get? b = some x → h'.get? b = some x)
    (ho : OR C ρ h' a o) :
    Sim C ρ (H.set n o) { s with heap := h', toks := tk } ∧ Step ρ s ρ { s with heap := h', toks := tk } := by
  have hm : a ∈ ρ := List.mem_of_getElem? e
  refine ⟨⟨by simp [S.len], S.nodup, fun i b x e1 q => ?_, fun b x q => k _ _ (fun z => ?_) (S.stays b x q), S.fresh, S.sm, S.gens, S.os, S.frs.to C fun b o _ hb hq e => ⟨hb, o, k b o (fun z => hb (z ▸ hm)) e, hq⟩⟩,
    ⟨⟨[], by simp, fun _ h => nomatch h⟩, fun b x hb _ q => .inl (k b x (fun z => hb (z ▸ hm)) q), fun b x q => ?_⟩⟩
  · by_cases hi : i = n
    · subst hi
      rw [e] at e1; cases e1
      rw [List.getElem?_set_self] at q
      · cases q; exact ho
      · rw [← S.len]; exact (List.getElem?_eq_some_iff.mp e).1
    · rw [List.getElem?_set_ne (Ne.symm hi)] at q
      refine (S.obj i b x e1 q).keep C [] (by simp) fun y z => k _ _ (fun w => hi ?_) z
      subst w
      obtain ⟨h1, h2⟩ := List.getElem?_eq_some_iff.mp e
      obtain ⟨h3, h4⟩ := List.getElem?_eq_some_iff.mp e1
      exact (List.getElem_inj S.nodup).mp (h4.trans h2.symm)
  · rw [z, S.fresh n a e hn] at q; cases q
  · by_cases hb : b = a
    · subst hb; exact ho.alive C
    · exact ⟨x, k b x hb q⟩
end Mine
end
section
namespace Mine
open PySem PySem.Calls PyProof.Rows
noncomputable def Plain (h : Heap) (x : Addr) : Prop := ∃ o vs k, h.get? x = some o ∧ o.cls = .ref k ∧ o.data = .fields vs ∧ vs[2]? = some .none
noncomputable def HdAt (A : Around) (h : Heap) : Prop := A.handled = none ∨ ∃ x, A.handled = some (.ref x) ∧ Plain h x
theorem Plain.to {h h' : Heap} {x : Addr} (p : Plain h x) (k : ∀ o r, o.cls = .ref r → h.get? x = some o → h'.get? x = some o) : Plain h' x := by
  obtain ⟨o, vs, r, h1, h2, h3, h4⟩ := p
  exact ⟨o, vs, r, k o r h2 h1, h2, h3, h4⟩
theorem HdAt.to {A : Around} {h h' : Heap} (p : HdAt A h) (k : ∀ b o r, o.cls = .ref r → h.get? b = some o → h'.get? b = some o) : HdAt A h' := p.imp id fun ⟨x, h1, h2⟩ => ⟨x, h1, h2.to (k x)⟩
theorem HdAt.upd {A : Around} {h : Heap} {it : Addr} {o : Obj} {n : String} {f : Obj → Obj} (p : HdAt A h) (ho : h.get? it = some o) (hc : o.cls = .type n) : HdAt A (h.update it f) :=
  p.to fun b ob r hr e => (Heap.get?_update_other _ _ (fun q => by rw [← q, ho] at e; cases e; rw [hc] at hr; cases hr)).trans e
theorem entry_unchain : entryFor table "proto.unchain" = some Builtin.«proto.unchain» := entryFor_of_tree (by kernel_rfl)
section
variable {prog : Program} {w : World} {A : Around} {E : Value → Shared → Prop} {s : Shared}
theorem run_unchain {e x : Addr} {Q : Value → Shared → Prop} (hx : Plain s.heap x) (h : Q .none s) :
    wpAny (model prog w) A (runValue (.builtin "proto.unchain" ⟨[.ref e, .ref x, .ref x, .bool false], []⟩)) Q E s := by
  obtain ⟨o, vs, k, ho, hc, hd, h2⟩ := hx
  refine runValue_entry entry_unchain ?_
  unfold Builtin.«proto.unchain»
  dsimp only
  refine wpAny_bind (wpAny_field ho hd h2 ?_)
  first
  | exact wpAny_pure ⟨_, rfl, h⟩
  | (rw [if_pos (by rfl)]; exact wpAny_pure ⟨_, rfl, h⟩)
theorem raiseNew_at {α : Type} {e : Addr} {oe : Obj} {vs : Array Value} {n : String} {Q : α → Shared → Prop} (hh : HdAt A s.heap) (he : s.heap.get? e = some oe) (hc : oe.cls = .type n) (hd : oe.data = .fields vs) (hsz : 2 < vs.size)
    (h : ∀ h' o', h'.get? e = some o' → o'.cls = .type n → (∀ b o, b ≠ e → s.heap.get? b = some o → h'.get? b = some o) → E (.ref e) { s with heap := h' }) : wpAny (model prog w) A (raiseNew (.ref e) : Sem α) Q E s := by
  unfold raiseNew
  refine wpAny_bind (wpAny_handled ?_)
  rcases hh with hh | ⟨x, hh, hx⟩
  · rw [hh]
    exact wpAny_bind (wpAny_pure (wpAny_throw (h s.heap oe he hc fun _ _ _ e => e)))
  · rw [hh]
    dsimp only
    have hne : x ≠ e := fun q => by
      obtain ⟨o, _, k, ho, hc', _⟩ := hx
      rw [q, he] at ho; cases ho; rw [hc] at hc'; cases hc'
    rw [if_pos (show (Value.ref x != Value.ref e) = true from bne_iff_ne.mpr fun q => hne (by injection q))]
    refine wpAny_bind (wpAny_holding (run_unchain hx ?_))
    refine wpAny_bind (m := setField (.ref e) 2 (.ref x)) (wpAny_setField he hd hsz (wpAny_throw (h _ _ (Heap.get?_update_self _ he (Obj.isFreed_of_fields (Obj.data_mapFields hd _))) ((Obj.cls_mapFields ..).trans hc) fun b o hb q => (Heap.get?_update_other _ _ (Ne.symm hb)).trans q)))
theorem stop_at {α : Type} {Q : α → Shared → Prop} (hh : HdAt A s.heap)
    (h : ∀ e h' o', h'.get? e = some o' → o'.cls = .type "StopIteration" → (∀ b o, s.heap.get? b = some o → h'.get? b = some o) → E (.ref e) { s with heap := h' }) : wpAny (model prog w) A (newExc (.type "StopIteration") [] >>= fun e => (raiseNew e : Sem α)) Q E s := by
  refine wpAny_bind ?_
  simp only [newExc, newTuple]
  refine wpAny_bind (wpAny_newObj_type ?_ (by size_fits))
  refine wpAny_bind (m := firstArgMember _ _) (wpAny_of_eq (a := Value.none) (by first | rfl | (simp only [firstArgMember]; rfl)) ?_)
  refine wpAny_newObj_type ?_ (by size_fits)
  refine raiseNew_at (hh.to fun b o r _ q => Heap.get?_push_of_some _ (Heap.get?_push_of_some _ q)) (Heap.get?_push_size _ rfl) rfl rfl (by simp [Array.size_append]; lia) fun h' o' h1 h2 h3 => h _ h' o' h1 h2 fun b o q => h3 b o ?_ (Heap.get?_push_of_some _ (Heap.get?_push_of_some _ q))
  have := Heap.lt_size q
  simp only [Heap.size_push]; exact Nat.ne_of_lt (Nat.lt_succ_of_lt this)
theorem stop_next {e : Addr} {o : Obj} {Q : Option Value → Shared → Prop} (h1 : s.heap.get? e = some o) (h2 : o.cls = .type "StopIteration") (h : Q none s) :
    wpAny (model prog w) A (do if ← isInstance (.ref e) (.type "StopIteration") then pure none else throw (.ref e)) Q E s :=
  wpAny_bind (wpAny_isInstance (T := "StopIteration") (b := true) ⟨_, h1, h2⟩ isSubtype_stop (wpAny_pure h))
theorem next_list_end {it l : Addr} {i : Nat} {items : Array Value} {Q : Option Value → Shared → Prop} (hh : HdAt A s.heap)
    (hit : s.heap.IsListIter it l i) (hl : s.heap.IsList l items) (hn : items[i]? = none)
    (hQ : ∀ h', Heap.ExtBut it s.heap h' → Q none { s with heap := h' }) : wpAny (model prog w) A (pyNext (.ref it)) Q E s := by
  obtain ⟨o, ho, hc, hd⟩ := id hit
  obtain ⟨ol, hol, _, nl, hdl⟩ := hl
  unfold pyNext
  refine wpAny_bind (wpAny_attempt (wpAny_callSpecial?_slot (name := Str.ofString "__next__") hit.typeIs slot_listiter_next
    (wpAny_call_entry slot_listiter_next hit.typeIs entry_listiter_next ?_ (args_listiter_next _))))
  show wpAny _ _ (field (.ref it) 0 >>= _) _ _ s
  refine wpAny_bind (wpAny_field ho hd (x := .ref l) rfl ?_)
  show wpAny _ _ (if (Value.ref l == Value.none) = true then _ else _) _ _ s
  rw [if_neg (show ¬ ((Value.ref l == Value.none) = true) from Bool.false_ne_true)]
  show wpAny _ _ (field (.ref it) 1 >>= _) _ _ s
  refine wpAny_bind (wpAny_field ho hd (x := .int i 0) rfl ?_)
  show wpAny _ _ (seqItems? (.ref l) >>= _) _ _ s
  refine wpAny_bind (wpAny_seqItems hol hdl ?_)
  simp only [Int.toNat_natCast, hn]
  refine wpAny_bind (wpAny_rule (wpAny_bind (wpAny_setField ho hd (by simp) ?_)))
  exact stop_at (hh.upd ho hc) fun e h' o' h1 h2 h3 => stop_next h1 h2 (hQ _ fun b o hn q => h3 b o ((Heap.get?_update_other _ _ (Ne.symm hn)).trans q))
theorem next_tuple_end {it t : Addr} {i : Nat} {items : Array Value} {Q : Option Value → Shared → Prop} (hh : HdAt A s.heap)
    (hit : s.heap.IsTupleIter it t i) (ht : s.heap.IsTuple t items) (hn : items[i]? = none)
    (hQ : ∀ h', Heap.ExtBut it s.heap h' → Q none { s with heap := h' }) : wpAny (model prog w) A (pyNext (.ref it)) Q E s := by
  obtain ⟨o, ho, hc, hd⟩ := id hit
  obtain ⟨ol, hol, _, nl, hdl⟩ := ht
  unfold pyNext
  refine wpAny_bind (wpAny_attempt (wpAny_callSpecial?_slot (name := Str.ofString "__next__") hit.typeIs F.slot_tuple_iterator_next
    (wpAny_call_entry F.slot_tuple_iterator_next hit.typeIs F.entry_tuple_iterator_next ?_ (F.args_tuple_iterator_next_1 _))))
  show wpAny _ _ (field (.ref it) 0 >>= _) _ _ s
  refine wpAny_bind (wpAny_field ho hd (x := .ref t) rfl ?_)
  show wpAny _ _ (if (Value.ref t == Value.none) = true then _ else _) _ _ s
  rw [if_neg (show ¬ ((Value.ref t == Value.none) = true) from Bool.false_ne_true)]
  show wpAny _ _ (field (.ref it) 1 >>= _) _ _ s
  refine wpAny_bind (wpAny_field ho hd (x := .int i 0) rfl ?_)
  show wpAny _ _ (seqItems? (.ref t) >>= _) _ _ s
  refine wpAny_bind (wpAny_seqItems hol hdl ?_)
  simp only [Int.toNat_natCast, hn]
  refine wpAny_bind (wpAny_rule (wpAny_bind (wpAny_setField ho hd (by simp) ?_)))
  exact stop_at (hh.upd ho hc) fun e h' o' h1 h2 h3 => stop_next h1 h2 (hQ _ fun b o hn q => h3 b o ((Heap.get?_update_other _ _ (Ne.symm hn)).trans q))
theorem next_range_end {it : Addr} {x left step : Int} {Q : Option Value → Shared → Prop} (hh : HdAt A s.heap) (hit : IsRangeIter s.heap it x left step) (hleft : left ≤ 0)
    (hQ : ∀ h', Heap.ExtBut it s.heap h' → Q none { s with heap := h' }) : wpAny (model prog w) A (pyNext (.ref it)) Q E s := by
  have hT : s.TypeIs (.ref it) "range_iterator" := ⟨_, hit, rfl⟩
  unfold pyNext
  refine wpAny_bind (wpAny_attempt (wpAny_callSpecial?_slot (name := Str.ofString "__next__") hT F.slot_range_iterator_next
    (wpAny_call_entry F.slot_range_iterator_next hT F.entry_range_iterator_next ?_ (F.args_range_iterator_next_1 _))))
  show wpAny _ _ (field (.ref it) 0 >>= _) _ _ s
  refine wpAny_bind (wpAny_field hit rfl (x := rawInt x) rfl ?_)
  show wpAny _ _ (field (.ref it) 1 >>= _) _ _ s
  refine wpAny_bind (wpAny_field hit rfl (x := rawInt left) rfl ?_)
  show wpAny _ _ (field (.ref it) 2 >>= _) _ _ s
  refine wpAny_bind (wpAny_field hit rfl (x := rawInt step) rfl ?_)
  show wpAny _ _ (if left ≤ 0 then _ else _) _ _ s
  rw [if_pos hleft]
  refine wpAny_bind (wpAny_rule ?_)
  refine wpAny_bind ?_
  exact stop_at hh fun e h' o' h1 h2 h3 => stop_next h1 h2 (hQ _ fun b o _ q => h3 b o q)
theorem next_ascii_end {it : Addr} {x : Str} {t : Tok} {i : Nat} {Q : Option Value → Shared → Prop} (hh : HdAt A s.heap)
    (hit : s.heap.IsStrIter it "str_ascii_iterator" x t i) (hx : x.cps[i]? = none)
    (hQ : ∀ h', Heap.ExtBut it s.heap h' → Q none { s with heap := h' }) : wpAny (model prog w) A (pyNext (.ref it)) Q E s := by
  obtain ⟨o, ho, hc, hd⟩ := id hit
  unfold pyNext
  refine wpAny_bind (wpAny_attempt (wpAny_callSpecial?_slot (name := Str.ofString "__next__") hit.typeIs F.slot_str_ascii_iterator_next
    (wpAny_call_entry F.slot_str_ascii_iterator_next hit.typeIs F.entry_str_ascii_iterator_next ?_ (F.args_str_ascii_iterator_next_1 _))))
  show wpAny _ _ (field (.ref it) 0 >>= _) _ _ s
  refine wpAny_bind (wpAny_field ho hd (x := .str x t) rfl ?_)
  show wpAny _ _ (field (.ref it) 1 >>= _) _ _ s
  refine wpAny_bind (wpAny_field ho hd (x := .int i 0) rfl ?_)
  simp only [Int.toNat_natCast, hx]
  refine wpAny_bind (wpAny_rule (wpAny_bind (wpAny_setField ho hd (by simp) (wpAny_bind (wpAny_letGo ?_)))))
  exact stop_at (hh.upd ho hc) fun e h' o' h1 h2 h3 => stop_next h1 h2 (hQ _ fun b o hn q => h3 b o ((Heap.get?_update_other _ _ (Ne.symm hn)).trans q))
theorem next_wide_end {it : Addr} {x : Str} {t : Tok} {i : Nat} {Q : Option Value → Shared → Prop} (hh : HdAt A s.heap)
    (hit : s.heap.IsStrIter it "str_iterator" x t i) (hx : x.cps[i]? = none)
    (hQ : ∀ h', Heap.ExtBut it s.heap h' → Q none { s with heap := h' }) : wpAny (model prog w) A (pyNext (.ref it)) Q E s := by
  obtain ⟨o, ho, hc, hd⟩ := id hit
  unfold pyNext
  refine wpAny_bind (wpAny_attempt (wpAny_callSpecial?_slot (name := Str.ofString "__next__") hit.typeIs F.slot_str_iterator_next
    (wpAny_call_entry F.slot_str_iterator_next hit.typeIs F.entry_str_iterator_next ?_ (F.args_str_iterator_next_1 _))))
  show wpAny _ _ (field (.ref it) 0 >>= _) _ _ s
  refine wpAny_bind (wpAny_field ho hd (x := .str x t) rfl ?_)
  show wpAny _ _ (field (.ref it) 1 >>= _) _ _ s
  refine wpAny_bind (wpAny_field ho hd (x := .int i 0) rfl ?_)
  simp only [Int.toNat_natCast, hx]
  refine wpAny_bind (wpAny_rule (wpAny_bind (wpAny_setField ho hd (by simp) (wpAny_bind (wpAny_letGo ?_)))))
  exact stop_at (hh.upd ho hc) fun e h' o' h1 h2 h3 => stop_next h1 h2 (hQ _ fun b o hn q => h3 b o ((Heap.get?_update_other _ _ (Ne.symm hn)).trans q))
theorem unpackItems_at {t : Addr} {items : Array Value} {Q : List Value → Shared → Prop} (hh : HdAt A s.heap) (ht : s.heap.IsTuple t items)
    (hQ : ∀ h', Heap.ExtBut s.heap.objs.size s.heap h' → Q items.toList { s with heap := h' }) : wpAny (model prog w) A (unpackItems (.ref t) items.size none) Q E s := by
  have hlt : t ≠ s.heap.objs.size := by obtain ⟨o, ho, _⟩ := ht; exact Nat.ne_of_lt (Heap.lt_size ho)
  unfold unpackItems
  refine wpAny_bind ?_
  · unfold notIterableAtAll
    refine wpAny_bind (wpAny_specialOf ht.typeIs F.slot_tuple_iter.lookup ?_)
    refine wpAny_pure ?_
    simp only [Bool.false_eq_true, if_false]
    refine wpAny_bind (wpAny_holding (wpAny_pyIter_tuple ht ?_))
    refine wpAny_bind (wpAny_holding (wpAny_draw_tuple hlt items.size 0 _ _ ⟨_, Heap.get?_push_size _ rfl, rfl, rfl⟩ (ht.push _) (by lia) fun h₁ hit₁ hs₁ => ?_))
    have hall : List.take items.size (List.drop 0 items.toList) = items.toList := by
      rw [List.drop_zero]; exact List.take_of_length_le (by simp)
    rw [hall]
    rw [if_neg (by simp)]
    have ht₁ : h₁.IsTuple t items := (ht.push _).extBut hs₁.extBut hlt
    refine wpAny_bind (wpAny_holding (next_tuple_end (hh.to fun b o r _ q => hs₁.extBut b o (Nat.ne_of_lt (Heap.lt_size q)) (Heap.get?_push_of_some _ q)) hit₁ ht₁ (by simp) fun h₂ he₂ => ?_))
    simp only [Option.isSome_none, Bool.false_eq_true, if_false]
    refine wpAny_pure (hQ h₂ fun b o hb e => he₂ b o hb (hs₁.extBut b o hb (Heap.get?_push_of_some _ e)))
end
end Mine
end
section
namespace Mine
open PySem PySem.Calls PyProof.Rows
abbrev Cx.M (C : Cx) : Model := model C.prog C.w
noncomputable def HdOk (C : Cx) (A : Around) : Prop := HdAt A C.base
theorem HdOk.at {C : Cx} {A : Around} (h : HdOk C A) {ρ : List Addr} {H : AHeap} {s : Shared} (S : Sim C ρ H s) : HdAt A s.heap := HdAt.to h fun b o _ _ e => S.stays b o e
structure AOk (C : Cx) (K : Nat) (A : Around) : Prop where
  h : HdOk C A
  hc : C.calm → A.handled = none
  d : A.depth + K < recursionLimit
  u : A.units + 5 * K + 200 < cLine
  fr : A.frames = some C.frs
theorem AOk.deeper {C : Cx} {K : Nat} {A : Around} (a : AOk C (K + 1) A) (env : Env) : AOk (C.at (env :: C.frs)) K (A.deeper env) := ⟨a.h, a.hc, by show A.depth + 1 + K < _; rw [Nat.add_right_comm]; exact a.d, by show A.units + 3 + 5 * K + 200 < _; have := a.u; lia, by show A.frames.map _ = _; rw [a.fr]; rfl⟩
theorem AOk.le {C : Cx} {K K' : Nat} {A : Around} (a : AOk C K A) (h : K' ≤ K) : AOk C K' A := ⟨a.h, a.hc, Nat.lt_of_le_of_lt (Nat.add_le_add_left h _) a.d, Nat.lt_of_le_of_lt (Nat.add_le_add_right (Nat.add_le_add_left (Nat.mul_le_mul_left 5 h) _) _) a.u, a.fr⟩
variable (C : Cx)
inductive TrX (ρ : List Addr) (s₀ s : Shared) (a : Addr) (vs : Array Value) : Prop
  | mk (t : Addr) (ot : Obj) (ts : Array Value) : vs[1]? = some (.ref t) → t ∉ ρ → C.base.get? t = none → s₀.heap.get? t = none → t ≠ a → s.heap.get? t = some ot → ot.data = .fields ts → ts[3]? = some .none → TrX ρ s₀ s a vs
inductive XR (ρ : List Addr) (c : Str) (e : Value) (s₀ s : Shared) : Prop
  | mk (a k : Addr) (o : Obj) (vs : Array Value) : e = .ref a → C.G c = some (.ref k) → a ∉ ρ → C.base.get? a = none → s₀.heap.get? a = none → s.heap.get? a = some o → o.cls = .ref k → o.data = .fields vs → vs[2]? = some .none →
    (vs[1]? = some .none ∨ TrX C ρ s₀ s a vs) → XR ρ c e s₀ s
inductive PV (ρ : List Addr) (s : Shared) (Q : VPost) (u : Value) (s' : Shared) : Prop
  | mk (ρ' : List Addr) (H' : AHeap) (v : V) : Step ρ s ρ' s' → Sim C ρ' H' s' → VR C ρ' v u → Q v H' → PV ρ s Q u s'
inductive PL (ρ : List Addr) (s : Shared) (Q : List V → AHeap → Prop) (us : List Value) (s' : Shared) : Prop
  | mk (ρ' : List Addr) (H' : AHeap) (vs : List V) : Step ρ s ρ' s' → Sim C ρ' H' s' → All2 (VR C ρ') vs us → Q vs H' → PL ρ s Q us s'
inductive PB (ρ : List Addr) (s : Shared) (Q : Bool → AHeap → Prop) (b : Bool) (s' : Shared) : Prop
  | mk (ρ' : List Addr) (H' : AHeap) : Step ρ s ρ' s' → Sim C ρ' H' s' → Q b H' → PB ρ s Q b s'
inductive PX (ex : Addr → Prop) (ρ : List Addr) (s : Shared) (X : XPost) (e : Value) (s' : Shared) : Prop
  | mk (ρ' : List Addr) (H' : AHeap) (c : Str) : StepG ex ρ s ρ' s' → Sim C ρ' H' s' → XR C ρ' c e s s' → X c H' → PX ex ρ s X e s'
structure FR (env : Env) (σ : Sg) (ρ : List Addr) (h : Heap) : Prop where
  dot : σ dot0 = none
  kind : env.scope.kind = .function
  glob : env.globals = mainGlobals
  bl : env.builtins = builtinsNs
  ns : ∃ m, h.Ns env.locals m ∧ ∀ x v, σ x = some v → env.kindOf x = some .local → ∃ u, m x = some u ∧ VR C ρ v u
  cells : ∀ x c, env.cells.lookup x = some c → ∃ ov, h.IsCell c ov ∧ ∀ v, σ x = some v → env.kindOf x = some .cell → ∃ u, ov = some u ∧ VR C ρ v u
  has : ∀ x, env.kindOf x = some .cell → ∃ c, env.cells.lookup x = some c
  nL : env.locals ∉ ρ
  nC : ∀ x c, env.cells.lookup x = some c → c ∉ ρ ∧ c ≠ env.locals
  apart : ∀ x y c, env.cells.lookup x = some c → env.cells.lookup y = some c → x = y
  bL : C.base.get? env.locals = none
  bC : ∀ x c, env.cells.lookup x = some c → C.base.get? c = none
variable {C}
theorem PV.trans {ρ ρ1 : List Addr} {s s1 : Shared} {Q : VPost} {u : Value} {s' : Shared} (st : Step ρ s ρ1 s1) (h : PV C ρ1 s1 Q u s') : PV C ρ s Q u s' :=
  by obtain ⟨ρ', H', v, a, b, c, d⟩ := h; exact ⟨ρ', H', v, st.trans a, b, c, d⟩
theorem PB.trans {ρ ρ1 : List Addr} {s s1 : Shared} {Q : Bool → AHeap → Prop} {u : Bool} {s' : Shared} (st : Step ρ s ρ1 s1) (h : PB C ρ1 s1 Q u s') : PB C ρ s Q u s' :=
  by obtain ⟨ρ', H', a, b, d⟩ := h; exact ⟨ρ', H', st.trans a, b, d⟩
theorem XR.back {ρ : List Addr} {c : Str} {e : Value} {s₀ s₁ s : Shared} (x : XR C ρ c e s₁ s) (hl : ∀ b o, s₀.heap.get? b = some o → ∃ o', s₁.heap.get? b = some o') : XR C ρ c e s₀ s := by
  have nb : ∀ b, s₁.heap.get? b = none → s₀.heap.get? b = none := fun b hb => by
    cases q : s₀.heap.get? b with
    | none => rfl
    | some o => obtain ⟨o', q'⟩ := hl b o q; rw [hb] at q'; cases q'
  obtain ⟨a, k, o, vs, h1, h2, h3, h4, h5, h6, h7, h8, h9, h10⟩ := x
  refine ⟨a, k, o, vs, h1, h2, h3, h4, nb a h5, h6, h7, h8, h9, h10.imp id ?_⟩
  rintro ⟨t, ot, ts, k1, k2, k3, k4, k5, k6, k7, k8⟩
  exact ⟨t, ot, ts, k1, k2, k3, nb t k4, k5, k6, k7, k8⟩
theorem PX.trans {ex : Addr → Prop} {ρ ρ1 : List Addr} {s s1 : Shared} {X : XPost} {u : Value} {s' : Shared} (st : StepG ex ρ s ρ1 s1) (h : PX C ex ρ1 s1 X u s') : PX C ex ρ s X u s' :=
  by obtain ⟨ρ', H', v, a, b, c, d⟩ := h; exact ⟨ρ', H', v, st.trans a, b, c.back st.live, d⟩
theorem PX.no {ex : Addr → Prop} {ρ : List Addr} {s : Shared} {u : Value} {s' : Shared} (h : PX C ex ρ s (fun _ _ => False) u s') : False := by obtain ⟨_, _, _, _, _, _, q⟩ := h; exact q
abbrev Takes (C : Cx) (ρ : List Addr) (s : Shared) (X : XPost) (E : Value → Shared → Prop) : Prop := ∀ e s', PX C (fun _ => False) ρ s X e s' → E e s'
theorem Takes.on {ρ ρ1 : List Addr} {s s1 : Shared} {X : XPost} {E : Value → Shared → Prop} (h : Takes C ρ s X E) (st : Step ρ s ρ1 s1) : Takes C ρ1 s1 X E := fun e s' p => h e s' (p.trans st)
theorem FR.step {env : Env} {σ : Sg} {ρ ρ' : List Addr} {s s' : Shared} (F : FR C env σ ρ s.heap) (st : Step ρ s ρ' s') : FR C env σ ρ' s'.heap := by
  obtain ⟨l, e, f⟩ := st.ext
  have nn : ∀ b o, s.heap.get? b = some o → b ∉ ρ → b ∉ ρ' := fun b o q hb hm => by
    rw [e] at hm
    rcases List.mem_append.mp hm with hm | hm
    · exact hb hm
    · rw [f b hm] at q; cases q
  refine ⟨F.dot, F.kind, F.glob, F.bl, ?_, fun x c hc => ?_, F.has, ?_, fun x c hc => ⟨?_, (F.nC x c hc).2⟩, F.apart, F.bL, F.bC⟩
  · obtain ⟨m, hn, hv⟩ := F.ns
    exact ⟨m, Same.ns hn fun o q => st.keep _ o F.nL id q, fun x v h1 h2 => by obtain ⟨u, h3, h4⟩ := hv x v h1 h2; exact ⟨u, h3, st.vr h4⟩⟩
  · obtain ⟨ov, ⟨o, ho, hd⟩, hv⟩ := F.cells x c hc
    exact ⟨ov, Same.cell ⟨o, ho, hd⟩ fun o q => st.keep _ o (F.nC x c hc).1 id q, fun v h1 h2 => by obtain ⟨u, h3, h4⟩ := hv v h1 h2; exact ⟨u, h3, st.vr h4⟩⟩
  · obtain ⟨m, ⟨o, es, ep, ho, _⟩, _⟩ := F.ns
    exact nn _ o ho F.nL
  · obtain ⟨ov, ⟨o, ho, hd⟩, hv⟩ := F.cells x c hc
    exact nn _ o ho (F.nC x c hc).1
theorem load_ok {env : Env} {σ : Sg} {ρ : List Addr} {s : Shared} {A : Around} {E : Value → Shared → Prop} {Q : Value → Shared → Prop} {x : Str} {v : V} (F : FR C env σ ρ s.heap) (hx : σ x = some v)
    (hk : env.kindOf x = some .local ∨ env.kindOf x = some .cell) (h : ∀ u, VR C ρ v u → Q u s) : wpAny C.M A (loadName env x) Q E s := by
  rcases hk with hk | hk
  · obtain ⟨m, hn, hv⟩ := F.ns
    obtain ⟨u, h1, h2⟩ := hv x v hx hk
    exact wpAny_loadName_local F.kind hk hn h1 (h u h2)
  · obtain ⟨c, hc⟩ := F.has x hk
    obtain ⟨ov, hi, hv⟩ := F.cells x c hc
    obtain ⟨u, rfl, h2⟩ := hv v hx hk
    exact wpAny_loadName_cell F.kind hk hc hi (h u h2)
noncomputable def own (env : Env) (b : Addr) : Prop := b = env.locals ∨ ∃ x, env.cells.lookup x = some b
noncomputable def ownT (env : Env) (Z : List Str) (b : Addr) : Prop := b = env.locals ∨ ∃ x ∈ Z, env.kindOf x = some .cell ∧ env.cells.lookup x = some b
theorem ownT.own {env : Env} {Z : List Str} : ∀ b, ownT env Z b → own env b
  | _, .inl h => .inl h
  | _, .inr ⟨x, _, _, h⟩ => .inr ⟨x, h⟩
theorem Sim.frame {ρ : List Addr} {H : AHeap} {s : Shared} (S : Sim C ρ H s) {h' : Heap} {tk : Nat} {a : Addr} (ha : a ∉ ρ) (hb : C.base.get? a = none) (hs : Heap.SameBut a s.heap h') (hq : ∀ o, s.heap.get? a = some o → IsNs o → ∃ o', h'.get? a = some o' ∧ IsNs o') : Sim C ρ H { s with heap := h', toks := tk } :=
  ⟨S.len, S.nodup, fun i b o e q => (S.obj i b o e q).keep C [] (by simp) fun _ x => (hs.2 b fun z => ha (z ▸ List.mem_of_getElem? e)).trans x,
   fun b o e => (hs.2 b fun z => by rw [z, hb] at e; cases e).trans (S.stays b o e), S.fresh, S.sm, S.gens, S.os, S.frs.to C fun b o _ hb' hn e => ⟨hb', by
    by_cases z : b = a
    · subst z; exact hq o e hn
    · exact ⟨o, (hs.2 b z).trans e, hn⟩⟩⟩
theorem step_same {ex : Addr → Prop} {ρ : List Addr} {s : Shared} {h' : Heap} {tk : Nat} {a : Addr} {o₁ : Obj} (he : ex a) (hs : Heap.SameBut a s.heap h') (ho : h'.get? a = some o₁) : StepG ex ρ s ρ { s with heap := h', toks := tk } :=
  ⟨⟨[], by simp, fun _ h => nomatch h⟩, fun b o _ hx e => .inl ((hs.2 b fun z => hx (z ▸ he)).trans e), fun b o e => by
    by_cases z : b = a
    · exact ⟨o₁, z ▸ ho⟩
    · exact ⟨o, (hs.2 b z).trans e⟩⟩
theorem store_ok {env : Env} {σ : Sg} {ρ : List Addr} {H : AHeap} {s : Shared} {A : Around} {E : Value → Shared → Prop} {Q : Unit → Shared → Prop} {x : Str} {Z : List Str} {v : V} {u : Value} (F : FR C env σ ρ s.heap) (S : Sim C ρ H s) (hZ : x ∈ Z)
    (hk : env.kindOf x = some .local ∨ env.kindOf x = some .cell) (h0 : x ≠ dot0) (hu : VR C ρ v u)
    (h : ∀ s', FR C env (σ.set x v) ρ s'.heap → Sim C ρ H s' → StepG (ownT env Z) ρ s ρ s' → Q () s') : wpAny C.M A (storeName env x u) Q E s := by
  have hdot : σ.set x v dot0 = none := by unfold Sg.set; rw [if_neg (Ne.symm h0)]; exact F.dot
  rcases hk with hk | hk
  · obtain ⟨m, hn, hv⟩ := F.ns
    refine wpAny_storeName_local hk hn (fun h' hn' hs' => ?_) (by rw [F.kind]; rfl)
    obtain ⟨o₁, es, ep, ho, hdt, _⟩ := id hn'
    refine h _ ⟨hdot, F.kind, F.glob, F.bl, ⟨_, hn', fun y w h1 h2 => ?_⟩, fun y c hc => ?_, F.has, F.nL, F.nC, F.apart, F.bL, F.bC⟩ (S.frame F.nL F.bL hs' fun _ _ _ => ⟨o₁, ho, es, ep, hdt⟩) (step_same (.inl rfl) hs' ho)
    · by_cases hy : y = x
      · subst hy
        unfold Sg.set at h1
        rw [if_pos rfl] at h1 ⊢
        cases h1
        exact ⟨u, rfl, hu⟩
      · unfold Sg.set at h1
        rw [if_neg hy] at h1 ⊢
        exact hv y w h1 h2
    · obtain ⟨ov, hi, hc'⟩ := F.cells y c hc
      refine ⟨ov, hi.sameBut hs' (F.nC y c hc).2, fun w h1 h2 => ?_⟩
      have hy : y ≠ x := fun z => by rw [z, hk] at h2; cases h2
      unfold Sg.set at h1
      rw [if_neg hy] at h1
      exact hc' w h1 h2
  · obtain ⟨c, hc⟩ := F.has x hk
    obtain ⟨ov, hi, hv⟩ := F.cells x c hc
    refine wpAny_storeName_cell F.kind hk hc hi fun h' hi' hs' => ?_
    obtain ⟨o₁, ho, hd⟩ := id hi'
    refine h _ ⟨hdot, F.kind, F.glob, F.bl, ?_, fun y d hd' => ?_, F.has, F.nL, F.nC, F.apart, F.bL, F.bC⟩ (S.frame (tk := s.toks) (F.nC x c hc).1 (F.bC x c hc) hs' fun o e hn => by
        obtain ⟨oc, hoc, hdc⟩ := hi
        rw [hoc] at e; cases e
        obtain ⟨es, ep, q⟩ := hn
        rw [hdc] at q; cases q) (step_same (tk := s.toks) (.inr ⟨x, hZ, hk, hc⟩) hs' ho)
    · obtain ⟨m, hn, hm⟩ := F.ns
      refine ⟨m, hn.sameBut hs' (Ne.symm (F.nC x c hc).2), fun y w h1 h2 => ?_⟩
      have hy : y ≠ x := fun z => by rw [z, hk] at h2; cases h2
      unfold Sg.set at h1
      rw [if_neg hy] at h1
      exact hm y w h1 h2
    · by_cases hy : y = x
      · subst hy
        rw [hc] at hd'; cases hd'
        refine ⟨_, hi', fun w h1 _ => ?_⟩
        unfold Sg.set at h1
        rw [if_pos rfl] at h1
        cases h1
        exact ⟨u, rfl, hu⟩
      · obtain ⟨ov', hi2, hv2⟩ := F.cells y d hd'
        refine ⟨ov', hi2.sameBut hs' (fun z => hy (F.apart y x c (z ▸ hd') hc)), fun w h1 h2 => ?_⟩
        unfold Sg.set at h1
        rw [if_neg hy] at h1
        exact hv2 w h1 h2
theorem global_ok {env : Env} {σ : Sg} {ρ : List Addr} {H : AHeap} {s : Shared} {A : Around} {E : Value → Shared → Prop} {Q : Value → Shared → Prop} {x : Str} {u : Value} {pos : Pos} (F : FR C env σ ρ s.heap) (S : Sim C ρ H s)
    (hk : env.kindOf x = some .globalImplicit) (hg : C.G x = some u) (hd : (x == Str.ofString "__debug__") = false) (h : Q u s) : wpAny C.M A (eval (.Name x pos) env) Q E s := by
  refine Name_function_global F.kind hk ?_ hd
  rcases C.hG x u hg with e | ⟨e1, e2⟩
  · exact loadGlobal_global (by rw [F.glob]; exact C.hg.keeps S.stays) e h
  · exact loadGlobal_builtin (by rw [F.glob]; exact C.hg.keeps S.stays) e1 (by rw [F.bl]; exact C.hb.keeps S.stays) e2 h
end Mine
end
section
namespace Mine
open PySem PySem.Calls PyProof.Rows
theorem okT_iff {a : Txt} : okT a = true ↔ a.length ≤ lid ∧ ∀ c ∈ a, c < 1114112 := by
  unfold okT; rw [Bool.and_eq_true, decide_eq_true_eq, List.all_eq_true]
  exact ⟨fun h => ⟨h.1, fun c hc => of_decide_eq_true (h.2 c hc)⟩, fun h => ⟨h.1, fun c hc => decide_eq_true (h.2 c hc)⟩⟩
theorem okT_append {a b : Txt} (ha : okT a = true) (hb : okT b = true) (hl : a.length + b.length ≤ lid) : okT (a ++ b) = true := by
  rw [okT_iff] at *
  refine ⟨by rw [List.length_append]; exact hl, fun c hc => ?_⟩
  rcases List.mem_append.mp hc with h | h
  · exact ha.2 c h
  · exact hb.2 c h
theorem okT_take {a : Txt} (ha : okT a = true) (n : Nat) : okT (a.take n) = true := by
  rw [okT_iff] at *; exact ⟨Nat.le_trans (by rw [List.length_take]; exact Nat.min_le_right _ _) ha.1, fun c hc => ha.2 c (List.mem_of_mem_take hc)⟩
theorem okT_drop {a : Txt} (ha : okT a = true) (n : Nat) : okT (a.drop n) = true := by
  rw [okT_iff] at *; exact ⟨Nat.le_trans (by rw [List.length_drop]; exact Nat.sub_le _ _) ha.1, fun c hc => ha.2 c (List.mem_of_mem_drop hc)⟩
theorem okT_cut {a : Txt} (ha : okT a = true) (i j : Nat) : okT (cut a i j) = true := okT_drop (okT_take ha j) i
theorem str_append (a b : Txt) : (⟨a.toArray⟩ : Str) ++ ⟨b.toArray⟩ = ⟨(a ++ b).toArray⟩ := by
  show (⟨_⟩ : Str) = _
  congr 1
  simp
theorem str_len (a : Txt) : (⟨a.toArray⟩ : Str).length = a.length := by show a.toArray.size = _; simp
theorem str_cps (a : Txt) : (⟨a.toArray⟩ : Str).cps.toList = a := by simp
theorem lid_le {n : Nat} (h : n ≤ lid) : n ≤ sizeLine := by rw [sizeLine_eq]; unfold lid at h; omega
section
variable {C : Cx} {ρ : List Addr} {H : AHeap} {s : Shared} {A : Around} {E : Value → Shared → Prop} {Q : VPost}
theorem vi (i : Int) (t : Tok) : VR C ρ (.int i) (.int i t) := ⟨t, rfl⟩
theorem vt {x : Txt} (h : okT x = true) (t : Tok) : VR C ρ (.str x) (.str ⟨x.toArray⟩ t) := ⟨h, t, rfl⟩
theorem vb (b : Bool) : VR C ρ (.bool b) (.bool b) := rfl
theorem here {v : V} {u : Value} {t : Nat} (S : Sim C ρ H s) (hv : VR C ρ v u) (hq : Q v H) : PV C ρ s Q u { s with toks := t } := ⟨ρ, H, v, StepG.toks t, S.toks t, hv, hq⟩
theorem here0 {v : V} {u : Value} (S : Sim C ρ H s) (hv : VR C ρ v u) (hq : Q v H) : PV C ρ s Q u s := ⟨ρ, H, v, StepG.refl ρ s, S, hv, hq⟩
theorem get_push {h : Heap} {o : Obj} : ∀ b x, h.get? b = some x → (h.push o).get? b = some x := fun _ _ e => Heap.get?_push_of_some _ e
theorem get_size (h : Heap) : h.get? h.objs.size = none := by
  cases e : h.get? h.objs.size with
  | none => rfl
  | some o => exact absurd (Heap.lt_size e) (Nat.lt_irrefl _)
theorem pushed_list {us : List Value} {vs : List V} {tk : Nat} (S : Sim C ρ H s) (hv : All2 (VR C ρ) vs us) (hl : vs.length ≤ lid) (hq : Q (.ref H.length) (H ++ [.list vs])) :
    PV C ρ s Q (.ref s.heap.objs.size) { s with heap := s.heap.push { cls := .type "list", data := .seq us.toArray }, toks := tk } := by
  obtain ⟨a, b, c⟩ := S.alloc (a := s.heap.objs.size) (o := .list vs) (h' := s.heap.push { cls := .type "list", data := .seq us.toArray }) (tk := tk) get_push (get_size _) S.size_ne ⟨us.toArray, 0, Heap.get?_push_size _ rfl, by simpa using hv, hl⟩
  exact ⟨_, _, _, b, a, c, hq⟩
theorem pushed_tuple {us : List Value} {vs : List V} {tk : Nat} (S : Sim C ρ H s) (hv : All2 (VR C ρ) vs us) (hl : vs.length ≤ lid) (hq : Q (.ref H.length) (H ++ [.tuple vs])) :
    PV C ρ s Q (.ref s.heap.objs.size) { s with heap := s.heap.push { cls := .type "tuple", data := .seq us.toArray }, toks := tk } := by
  obtain ⟨a, b, c⟩ := S.alloc (a := s.heap.objs.size) (o := .tuple vs) (h' := s.heap.push { cls := .type "tuple", data := .seq us.toArray }) (tk := tk) get_push (get_size _) S.size_ne ⟨us.toArray, 0, Heap.get?_push_size _ rfl, by simpa using hv, hl⟩
  exact ⟨_, _, _, b, a, c, hq⟩
theorem lo64 {i : Int} (q : i.natAbs < 2 ^ 63) : -(2 ^ 64) < i := by omega
theorem hi64 {i : Int} (q : i.natAbs < 2 ^ 63) : i < 2 ^ 64 := by omega
theorem binA_ok {op : Operator} {a b : V} {u w : Value} (h : binA op a b H Q) (S : Sim C ρ H s) (hu : VR C ρ a u) (hw : VR C ρ b w) : wpAny C.M A (binaryOp op u w) (PV C ρ s Q) E s := by
  cases h with
  | add h => obtain ⟨t, rfl⟩ := hu; obtain ⟨t', rfl⟩ := hw; exact add_int (here S (vi _ _) h)
  | sub h => obtain ⟨t, rfl⟩ := hu; obtain ⟨t', rfl⟩ := hw; exact sub_int (here S (vi _ _) h)
  | mul h0 h =>
    obtain ⟨t, rfl⟩ := hu; obtain ⟨t', rfl⟩ := hw
    refine mul_int (here S (vi _ _) h) ?_
    rcases h0 with q | q
    · exact IntMulOk.of_left (intBits_le_64 (lo64 q) (hi64 q))
    · exact IntMulOk.of_right (intBits_le_64 (lo64 q) (hi64 q))
  | div h1 h2 h3 =>
    obtain ⟨t, rfl⟩ := hu; obtain ⟨t', rfl⟩ := hw
    refine floordiv_int (Int.ne_of_gt h1) ?_ (.inl (PyProof.noPylong_small (by omega)))
    rw [Int.fdiv_eq_ediv_of_nonneg _ (Int.le_of_lt h1)]
    exact here S (vi _ _) h3
  | mod h1 h3 =>
    obtain ⟨t, rfl⟩ := hu; obtain ⟨t', rfl⟩ := hw
    refine mod_int' (Int.ne_of_gt h1) ?_
    rw [Int.fmod_eq_emod_of_nonneg _ (Int.le_of_lt h1)]
    exact here S (vi _ _) h3
  | cat h1 h2 =>
    obtain ⟨hx, t, rfl⟩ := hu; obtain ⟨hy, t', rfl⟩ := hw
    refine P.add_str ?_
    split
    · rename_i q
      rw [str_len, beq_iff_eq] at q
      have := List.eq_nil_of_length_eq_zero q
      subst this
      exact here0 S (vt hy t') h2
    · split
      · rename_i q
        rw [str_len, beq_iff_eq] at q
        have := List.eq_nil_of_length_eq_zero q
        subst this
        rw [List.append_nil] at h2
        exact here0 S (vt hx t) h2
      · rw [str_append]
        exact ⟨by rw [str_len, List.length_append]; exact lid_le h1, here S (vt (okT_append hx hy h1) _) h2⟩
  | lcat e1 e2 h0 h =>
    obtain ⟨a, rfl, ea, us, n, ho, hs, hl⟩ := S.lookup e1 hu
    obtain ⟨b, rfl, eb, us', n', ho', hs', hl'⟩ := S.lookup e2 hw
    have l1 := hs.length
    have l2 := hs'.length
    refine P.add_list ho ho' ?_ (by rw [← show _ = us.size from l1, ← show _ = us'.size from l2]; exact lid_le h0)
    have := pushed_list (us := us.toList ++ us'.toList) (tk := s.toks) S (hs.append hs') (by rw [List.length_append]; exact h0) h
    rwa [← List.append_toArray] at this
noncomputable def Rdd (h : Heap) (n : Nat) (u : Value) (d : PyData) : Prop := ∃ as, Reads h u d as ∧ d.canLay0 = true ∧ d.depth ≤ n
theorem rdL_reads {f : V → Option PyData} {n : Nat} (ih : ∀ v d u, f v = some d → VR C ρ v u → Rdd s.heap n u d) {vs : List V} {us : List Value} (h : All2 (VR C ρ) vs us) : ∀ {ds : List PyData}, rdL f vs = some ds → ∃ as, ReadsAll s.heap us ds as ∧ PyData.canLayAll0 ds = true ∧ PyData.depthAll ds ≤ n := by
  induction h with
  | nil => intro ds e; cases e; exact ⟨[], .nil, rfl, Nat.zero_le _⟩
  | cons hv hr ih' =>
    intro ds e
    obtain ⟨d, e1, e⟩ := Option.bind_eq_some_iff.mp e
    obtain ⟨ds', e2, rfl⟩ := Option.map_eq_some_iff.mp e
    obtain ⟨as, r1, c1, d1⟩ := ih _ d _ e1 hv
    obtain ⟨bs, r2, c2, d2⟩ := ih' e2
    exact ⟨as ++ bs, .cons r1 r2, Bool.and_eq_true_iff.mpr ⟨c1, c2⟩, Nat.max_le.mpr ⟨d1, d2⟩⟩
theorem rdO_reads (S : Sim C ρ H s) {f : V → Option PyData} {n m : Nat} (ih : ∀ v d u, f v = some d → VR C ρ v u → Rdd s.heap n u d) {o : AObj} {d : PyData} {u : Value} (e : H[m]? = some o) (hv : VR C ρ (.ref m) u) (h : rdO f o = some d) : Rdd s.heap (n + 1) u d := by
  cases o with
  | list xs =>
    obtain ⟨b, rfl, eb, us, k, ho, hs, hl⟩ := S.lookup e hv
    obtain ⟨ds, e2, rfl⟩ := Option.map_eq_some_iff.mp h
    obtain ⟨as, r1, c1, d1⟩ := rdL_reads ih hs e2
    exact ⟨b :: as, .list ho rfl rfl r1, c1, Nat.succ_le_succ d1⟩
  | tuple xs =>
    obtain ⟨b, rfl, eb, us, k, ho, hs, hl⟩ := S.lookup e hv
    obtain ⟨ds, e2, rfl⟩ := Option.map_eq_some_iff.mp h
    obtain ⟨as, r1, c1, d1⟩ := rdL_reads ih hs e2
    exact ⟨as, .tuple ho rfl rfl r1, c1, Nat.succ_le_succ d1⟩
  | dict _ _ => cases h
theorem rdV_reads {f : Nat → Option PyData} {n : Nat} (ih : ∀ m d u, f m = some d → VR C ρ (.ref m) u → Rdd s.heap n u d) {v : V} {d : PyData} {u : Value} (h : rdV f v = some d) (hv : VR C ρ v u) : Rdd s.heap n u d := by
  cases v with
  | none => cases h; cases hv; exact ⟨[], .none, rfl, Nat.zero_le _⟩
  | bool b => cases h; cases hv; exact ⟨[], .bool b, rfl, Nat.zero_le _⟩
  | int i => cases h; obtain ⟨t, rfl⟩ := hv; exact ⟨[], .int i t, rfl, Nat.zero_le _⟩
  | str x =>
    cases h
    obtain ⟨ok, t, rfl⟩ := hv
    refine ⟨[], .str _ t, ?_, Nat.zero_le _⟩
    show x.toArray.all _ = true
    rw [Array.all_eq_true_iff_forall_mem]
    exact fun c hc => decide_eq_true ((okT_iff.mp ok).2 c (List.mem_toArray.mp hc))
  | ref a => exact ih a d u h hv
  | glob _ => cases h
  | exc _ => cases h
theorem rd_reads (S : Sim C ρ H s) : ∀ (n : Nat) (v : V) (d : PyData) (u : Value), rd H n v = some d → VR C ρ v u → Rdd s.heap n u d
  | 0, v, d, u, h, hv => rdV_reads (fun _ _ _ e => (no_some e : False).elim) h hv
  | n + 1, v, d, u, h, hv => rdV_reads (n := n + 1) (fun m d u e hv => by
      obtain ⟨o, e1, e2⟩ := Option.bind_eq_some_iff.mp e
      exact rdO_reads S (rd_reads S n) e1 hv e2) h hv
theorem dict_map {es : List (Txt × V)} {ds : Array DictEntry} {n : Nat} {a : Addr} (ho : s.heap.get? a = some ⟨.type "dict", none, .dict ds n, #[]⟩) (hs : All2 (ER C ρ) es ds.toList) :
    s.heap.MapOf (PySem.strKind C.prog C.w) a (fun k => findBy Value.isStrOf ds k) :=
  ⟨_, ds, n, ho, ⟨rfl, rfl, rfl⟩, rfl, fun e he => by
    obtain ⟨p, hp, ⟨_, t, e1⟩, e2, e3⟩ := hs.right e (Array.mem_toList_iff.mpr he)
    exact ⟨⟨p.1.toArray⟩, by rw [e1]; exact strKind_is _ _ _ t, e2⟩, fun _ => rfl⟩
theorem dict_find {k : Txt} : ∀ {es : List (Txt × V)} {l : List DictEntry}, All2 (ER C ρ) es l →
    (es.find? (fun e => e.1 == k) = none ∧ l.find? (fun e => Value.isStrOf ⟨k.toArray⟩ e.key) = none) ∨
    ∃ e d, es.find? (fun e => e.1 == k) = some e ∧ l.find? (fun e => Value.isStrOf ⟨k.toArray⟩ e.key) = some d ∧ VR C ρ e.2 d.val
  | _, _, .nil => .inl ⟨rfl, rfl⟩
  | _, _, .cons (a := e) (b := d) (as := es) (bs := l) h r => by
    obtain ⟨⟨_, t, e1⟩, e2, e3⟩ := h
    by_cases q : e.1 = k
    · refine .inr ⟨e, d, ?_, ?_, e3⟩
      · rw [List.find?_cons_of_pos (by simpa using q)]
      · rw [List.find?_cons_of_pos (by rw [e1, q]; simp [Value.isStrOf])]
    · have q1 : ¬ ((e.1 == k) = true) := by simpa using q
      have q2 : ¬ (Value.isStrOf ⟨k.toArray⟩ d.key = true) := by rw [e1]; simpa [Value.isStrOf] using q
      have q3 : (e :: es).find? (fun e => e.1 == k) = es.find? (fun e => e.1 == k) := List.find?_cons_of_neg (p := fun e : Txt × V => e.1 == k) q1
      have q4 : (d :: l).find? (fun e => Value.isStrOf ⟨k.toArray⟩ e.key) = l.find? (fun e => Value.isStrOf ⟨k.toArray⟩ e.key) := List.find?_cons_of_neg (p := fun e : DictEntry => Value.isStrOf ⟨k.toArray⟩ e.key) q2
      rw [q3, q4]
      exact dict_find (k := k) r
theorem any_find {k : Txt} (es : List (Txt × V)) : (es.any fun e => e.1 == k) = (es.find? fun e => e.1 == k).isSome := by
  induction es with
  | nil => rfl
  | cons e r ih =>
    rw [List.any_cons, ih, List.find?_cons]
    cases e.1 == k <;> simp
theorem dict_has {es : List (Txt × V)} {ds : Array DictEntry} {k : Txt} (hs : All2 (ER C ρ) es ds.toList) : (findBy Value.isStrOf ds ⟨k.toArray⟩).isSome = es.any fun e => e.1 == k := by
  unfold findBy
  rw [any_find, ← Array.find?_toList]
  rcases dict_find (k := k) hs with ⟨z1, z2⟩ | ⟨e', d', z1, z2, z3⟩
  · rw [z1, z2]; rfl
  · rw [z1, z2]; rfl
theorem Sim.not_sm (S : Sim C ρ H s) {n : Nat} {a : Addr} (e : ρ[n]? = some a) : (a == sysModules) = false := by
  have : a ≠ sysModules := fun z => S.sm (z ▸ List.mem_of_getElem? e)
  simpa using this
theorem deep {K m n : Nat} (h : A.units + 5 * K + 200 < cLine) (h1 : m ≤ 6) (h2 : n ≤ 6) : A.units + min m n < cLine := Nat.lt_of_le_of_lt (Nat.add_le_add (Nat.le_add_right _ (5 * K)) (Nat.le_trans (Nat.min_le_left _ _) (Nat.le_trans h1 (by decide)))) h
theorem deep1 {K m n : Nat} (h : A.units + 5 * K + 200 < cLine) (h2 : n ≤ 6) : A.units + 1 + min m n < cLine := Nat.lt_of_le_of_lt (by rw [Nat.add_assoc]; exact Nat.add_le_add (Nat.le_add_right _ (5 * K)) (Nat.add_le_add_left (Nat.le_trans (Nat.min_le_right _ _) (Nat.le_trans h2 (by decide : 6 ≤ 199))) 1)) h
theorem cmpA_ok {K : Nat} {op : CmpOp} {a b : V} {u w : Value} {q : Bool → Prop} (h : cmpA op a b H q) (S : Sim C ρ H s) (hA : AOk C K A) (hu : VR C ρ a u) (hw : VR C ρ b w) :
    wpAny C.M A (compareOp op u w) (fun r s' => ∃ c, r = .bool c ∧ Step ρ s ρ s' ∧ Sim C ρ H s' ∧ q c) E s := by
  have fin : ∀ c, q c → ∃ c', Value.bool c = .bool c' ∧ Step ρ s ρ s ∧ Sim C ρ H s ∧ q c' := fun c hc => ⟨c, rfl, StepG.refl _ _, S, hc⟩
  have fin' : ∀ c t, q c → ∃ c', Value.bool c = .bool c' ∧ Step ρ s ρ { s with toks := t } ∧ Sim C ρ H { s with toks := t } ∧ q c' := fun c t hc => ⟨c, rfl, StepG.toks _, S.toks _, hc⟩
  have hun := hA.u
  have isn : (u == Value.none) = decide (a = .none) := by
    cases a with
    | none => cases hu; rfl
    | bool b => cases hu; rfl
    | int i => obtain ⟨t, rfl⟩ := hu; rfl
    | str x => obtain ⟨_, t, rfl⟩ := hu; rfl
    | ref n => obtain ⟨x, rfl, _⟩ := hu; rfl
    | exc a => cases hu; rfl
    | glob g =>
      have hu : C.G g = some u := hu
      cases hz : u == Value.none with
      | false => simp
      | true =>
        exfalso
        have hz := beq_iff_eq.mp hz
        subst hz
        exact C.hN g hu
  cases h with
  | eq e1 e2 h =>
    obtain ⟨as, r1, c1, d1⟩ := rd_reads S _ _ _ _ e1 hu
    obtain ⟨bs, r2, c2, d2⟩ := rd_reads S _ _ _ _ e2 hw
    exact SeqAt.compareEq_reads r1 r2 c1 c2 (deep hun d1 d2) (fin _ h)
  | ne e1 e2 h =>
    obtain ⟨as, r1, c1, d1⟩ := rd_reads S _ _ _ _ e1 hu
    obtain ⟨bs, r2, c2, d2⟩ := rd_reads S _ _ _ _ e2 hw
    exact SeqAt.compareNe_reads r1 r2 c1 c2 (deep hun d1 d2) (fin _ h)
  | is h => cases hw; refine PySem.is_none ?_; rw [isn]; exact fin _ h
  | isn h => cases hw; refine PySem.isNot_none ?_; rw [isn]; exact fin _ h
  | lt h => obtain ⟨t, rfl⟩ := hu; obtain ⟨t', rfl⟩ := hw; exact lt_int (fin _ h)
  | le h => obtain ⟨t, rfl⟩ := hu; obtain ⟨t', rfl⟩ := hw; exact le_int (fin _ h)
  | gt h => obtain ⟨t, rfl⟩ := hu; obtain ⟨t', rfl⟩ := hw; exact gt_int (fin _ h)
  | ge h => obtain ⟨t, rfl⟩ := hu; obtain ⟨t', rfl⟩ := hw; exact ge_int (fin _ h)
  | inS h =>
    rename_i c u'
    obtain ⟨_, t, rfl⟩ := hu; obtain ⟨_, t', rfl⟩ := hw
    refine P.in_str ?_
    rw [show (⟨[c].toArray⟩ : Str) = ⟨#[c]⟩ from rfl, StrLaws.found_one, str_cps]
    exact fin _ h
  | inL e1 e2 h =>
    obtain ⟨as, r1, c1, d1⟩ := rd_reads S _ _ _ _ e1 hw
    obtain ⟨bs, r2, c2, d2⟩ := rd_reads S _ _ _ _ e2 hu
    exact SeqAt.in_list_reads r1 r2 c1 c2 (deep1 hun d2) (fin _ h)
  | inD e h =>
    obtain ⟨a, rfl, ea, ds, ho, hs, _⟩ := S.lookup e hw
    obtain ⟨_, t, rfl⟩ := hu
    refine wpAny_in_of (strKind_is _ _ _ t) (S.not_sm ea) (dict_map ho hs) ?_
    rw [dict_has hs]; exact fin' _ _ h
  | ninL e1 e2 h =>
    obtain ⟨as, r1, c1, d1⟩ := rd_reads S _ _ _ _ e1 hw
    obtain ⟨bs, r2, c2, d2⟩ := rd_reads S _ _ _ _ e2 hu
    exact SeqAt.notIn_list_reads r1 r2 c1 c2 (deep1 hun d2) (fin _ h)
  | ninD e h =>
    obtain ⟨a, rfl, ea, ds, ho, hs, _⟩ := S.lookup e hw
    obtain ⟨_, t, rfl⟩ := hu
    refine wpAny_notIn_of (strKind_is _ _ _ t) (S.not_sm ea) (dict_map ho hs) ?_
    rw [dict_has hs]; exact fin' _ _ h
end
end Mine
end
section
namespace Mine
open PySem PySem.Calls PyProof.Rows
theorem Pl.lt {n j : Nat} {k : Int} (h : Pl n k j) : j < n := by cases h <;> lia
theorem Pl.seq {n j : Nat} {k : Int} (h : Pl n k j) : seqIndex? k n = some j := by
  cases h with
  | pos h0 h1 => exact seqIndex_of h0 h1
  | neg h0 h1 => exact seqIndex_neg h0 h1
theorem Pl.fit {n j : Nat} {k : Int} (h : Pl n k j) (hn : n ≤ lid) : -(2 ^ 63) ≤ k ∧ k < 2 ^ 63 := by unfold lid at hn; cases h <;> lia
theorem clip_le (n : Nat) (i : Int) : clipAt n i ≤ n := Int.toNat_le.mpr (Int.max_le.mpr ⟨Int.natCast_nonneg n, Int.min_le_right _ _⟩)
theorem cut_eq {α : Type} (xs : List α) (a b : Nat) : (xs.drop a).take (b - a) = cut xs a b := by unfold cut; rw [List.drop_take]
theorem strIdx (lo hi : Option Int) (n : Nat) : Builtin.Str.strSliceIndices lo hi 1 n = sliceRange ((lo.elim 0 (clipAt n) : Nat) : Int) ((hi.elim n (clipAt n) : Nat) : Int) 1 := by
  cases lo <;> cases hi <;> simp [Builtin.Str.strSliceIndices, clipAt_cast]
theorem cut_len {α : Type} (xs : List α) (a b : Nat) : (cut xs a b).length ≤ xs.length := by
  unfold cut; rw [List.length_drop]; exact Nat.le_trans (Nat.sub_le _ _) (List.length_take_le' _ _)
theorem cut_whole (x : Txt) (a b : Nat) (hb : b ≤ x.length) (h : b - a = x.length) : cut x a b = x := by
  have e : b = x.length := Nat.le_antisymm hb (h ▸ Nat.sub_le _ _)
  subst e
  unfold cut
  rw [List.take_length]
  cases a with
  | zero => rfl
  | succ a =>
    have z : x.length = 0 := by lia
    rw [List.eq_nil_of_length_eq_zero z, List.drop_nil]
section
variable {C : Cx} {ρ : List Addr} {H : AHeap} {s : Shared} {A : Around} {E : Value → Shared → Prop} {Q : VPost}
theorem Bd.val {n d i : Nat} {v : V} {u : Value} (h : Bd n d v i) (hv : VR C ρ v u) : ∃ q : Option (Int × Tok), u = partValue q ∧ i = (q.map (·.1)).elim d (clipAt n) ∧ IsPart u (q.map (·.1)) := by
  cases h with
  | none => cases hv; exact ⟨Option.none, rfl, rfl, .none⟩
  | int => obtain ⟨t, rfl⟩ := hv; exact ⟨some (_, t), rfl, rfl, .int _ t⟩
theorem Bd.le {n i : Nat} {v : V} (h : Bd n n v i) : i ≤ n := by
  cases h with
  | none => exact Nat.le_refl _
  | int => exact clip_le _ _
theorem subA_ok {o i : V} {u w : Value} {value slice : Expr} (h : subA o i H fun v => Q v H) (S : Sim C ρ H s) (hu : VR C ρ o u) (hw : VR C ρ i w)
    (hs : subscripted slice false u w = operate [u, w] (getItem u w)) : wpAny C.M A (subscriptTail value slice u w) (PV C ρ s Q) E s := by
  cases h with
  | str e h =>
    rename_i t k j
    obtain ⟨ok, tk, rfl⟩ := hu; obtain ⟨tk', rfl⟩ := hw
    have b1 := e.lt
    obtain ⟨f1, f2⟩ := e.fit (okT_iff.mp ok).1
    refine tail_any (typeIs_str _ _ _) F.slot_str_getitem.lookup ?_ hs
    have e2 : (t.drop j).take 1 = [t[j]] := by rw [List.drop_eq_getElem_cons b1]; rfl
    refine P.getItem_str (c := t[j]) ?_ ?_ ?_
    · rw [decide_eq_false (Int.not_lt.mpr f1), decide_eq_false (Int.not_le.mpr f2)]; rfl
    · rw [str_len, e.seq]
      show t.toArray[j]? = _
      rw [List.getElem?_toArray, List.getElem?_eq_getElem b1]
    · rw [e2] at h
      exact here S (vt (by rw [← e2]; exact okT_take (okT_drop ok j) 1) _) h
  | list e e2 e3 h =>
    obtain ⟨a, rfl, ea, us, m, ho, hs', hl⟩ := S.lookup e hu
    obtain ⟨tk', rfl⟩ := hw
    obtain ⟨y, e4, hv⟩ := hs'.get _ _ e3
    rw [Array.getElem?_toList] at e4
    obtain ⟨f1, f2⟩ := e2.fit hl
    refine tail_any ⟨_, ho, rfl⟩ slot_list_getitem.lookup ?_ hs
    cases e2 with
    | pos h0 h1 => exact wpAny_getItem_list ⟨_, ho, rfl, m, rfl⟩ h0 f2 e4 (here0 S hv h)
    | neg h0 h1 =>
      rw [show _ = us.size from hs'.length] at e4 h1
      exact wpAny_getItem_list_neg ⟨_, ho, rfl, m, rfl⟩ h0 h1 f1 e4 (here0 S hv h)
  | tuple e e2 e3 h =>
    obtain ⟨a, rfl, ea, us, m, ho, hs', hl⟩ := S.lookup e hu
    obtain ⟨tk', rfl⟩ := hw
    obtain ⟨y, e4, hv⟩ := hs'.get _ _ e3
    rw [Array.getElem?_toList] at e4
    obtain ⟨f1, f2⟩ := e2.fit hl
    have e5 := e2.seq
    rw [show _ = us.size from hs'.length] at e5
    exact tail_any ⟨_, ho, rfl⟩ slot_tuple_getitem.lookup (P.getItem_tuple ho f1 f2 e5 e4 (here0 S hv h)) hs
  | dict e e2 h =>
    rename_i n k es ep p
    obtain ⟨a, rfl, ea, ds, ho, hs', _⟩ := S.lookup e hu
    obtain ⟨_, t, rfl⟩ := hw
    have hm := dict_map (C := C) (ρ := ρ) ho hs'
    rcases dict_find (k := k) hs' with ⟨z1, z2⟩ | ⟨e', d', z1, z2, z3⟩
    · rw [z1] at e2; cases e2
    · rw [z1] at e2; cases e2
      refine tail_any hm.typeIs slot_dict_getitem.lookup (wpAny_getItem_of (strKind_is _ _ _ t) hm (v := d'.val) ?_ (here S z3 h)) hs
      unfold findBy
      rw [← Array.find?_toList, z2]; rfl
theorem sliceA_ok {o lo hi : V} {u l w : Value} {value : Expr} {e1 e2 : Option Expr} {p : Pos} (h : sliceA o lo hi H Q) (S : Sim C ρ H s) (hu : VR C ρ o u) (hl : VR C ρ lo l) (hw : VR C ρ hi w) :
    wpAny C.M A (subscriptTail value (.Slice e1 e2 none p) u (.ref s.heap.objs.size)) (PV C ρ s Q) E { s with heap := s.heap.push { cls := .type "slice", data := .fields #[l, w, .none] } } := by
  have hs : ∀ x y, subscripted (.Slice e1 e2 none p) false x y = operate [y, x] (getItem x y) := fun _ _ => rfl
  obtain ⟨S1, st1⟩ := S.grow (h' := s.heap.push { cls := .type "slice", data := .fields #[l, w, .none] }) (tk := s.toks) get_push
  cases h with
  | str q1 q2 h =>
    rename_i t i j
    have hj := q2.le
    obtain ⟨ql, rfl, ei, a4⟩ := q1.val hl
    obtain ⟨qh, rfl, ej, b4⟩ := q2.val hw
    obtain ⟨ok, tk, rfl⟩ := hu
    refine tail_any (typeIs_str _ _ _) F.slot_str_getitem.lookup ?_ (hs _ _)
    refine wpAny_getItem_str_slice (l := ql) (u := qh) (st := none) ⟨_, Heap.get?_push_size _ rfl, rfl, rfl⟩ rfl ?_
    have hp : slicePicked ⟨t.toArray⟩ ql qh none = sliceRange ((i : Nat) : Int) ((j : Nat) : Int) 1 := by
      unfold slicePicked
      rw [str_len, ei, ej]
      exact strIdx _ _ _
    unfold sliceMade
    rw [hp, sliceRange_one, pick_run, cut_eq]
    split
    · rename_i q
      rw [List.length_map, List.length_range, str_len] at q
      have := cut_whole t i j hj (beq_iff_eq.mp (Bool.and_eq_true_iff.mp q).2)
      rw [this] at h
      exact ⟨ρ, H, _, st1, S1, vt ok tk, h⟩
    · refine ⟨?_, PV.trans st1 (here S1 (vt (okT_cut ok _ _) _) h)⟩
      rw [str_len]
      exact lid_le (Nat.le_trans (cut_len _ _ _) (okT_iff.mp ok).1)
  | list e q1 q2 h =>
    rename_i n xs i j
    obtain ⟨ql, rfl, ei, a4⟩ := q1.val hl
    obtain ⟨qh, rfl, ej, b4⟩ := q2.val hw
    obtain ⟨a, rfl, ea, us, m, ho, hs', hlx⟩ := S.lookup e hu
    have hlen : xs.length = us.size := hs'.length
    refine tail_any (T := "list") ⟨_, Heap.get?_push_of_some _ ho, rfl⟩ slot_list_getitem.lookup ?_ (hs _ _)
    refine wpAny_getItem_list_slice (lo := ql.map (·.1)) (hi := qh.map (·.1)) (st := none) ⟨_, Heap.get?_push_of_some _ ho, rfl, m, rfl⟩ (Heap.IsSliceOf.new ..) a4 b4 .none (fun z => nomatch z) ?_ (by rw [← hlen]; exact lid_le hlx)
    rw [slicePick_plain, cut_eq, ← hlen, ← ei, ← ej]
    exact PV.trans st1 (pushed_list (tk := s.toks) S1 ((hs'.take _).drop _) (Nat.le_trans (cut_len _ _ _) hlx) h)
theorem truthy_ok {v : V} {u : Value} {b : Bool} {R : Bool → Shared → Prop} (h : truthyA v = some b) (hv : VR C ρ v u) (hq : ∀ t, R b { s with toks := t }) : wpAny C.M A (truthy u) R E s := by
  cases v with
  | none => cases h; cases hv; exact fun _ _ _ => hq s.toks
  | bool _ => cases h; cases hv; exact wpAny_truthy_bool (hq s.toks)
  | int _ => cases h; obtain ⟨t, rfl⟩ := hv; exact P.truthy_int (hq s.toks)
  | str x =>
    cases h
    obtain ⟨ok, t, rfl⟩ := hv
    refine P.truthy_str (by rw [str_len]; have := (okT_iff.mp ok).1; unfold lid at this; lia) ?_
    rw [str_len, show ((x.length : Int) != 0) = !x.isEmpty by cases x <;> rfl]; exact hq _
  | ref _ => exact no_some h
  | glob _ => exact no_some h
  | exc _ => exact no_some h
end
end Mine
end
section
namespace Mine
open PySem PySem.Calls PyProof.Rows
noncomputable def Callee (C : Cx) (u : Value) : Prop := (∃ id, u = .builtin id) ∨ (∃ t, u = .type t) ∨ ∃ a o fd, u = .ref a ∧ C.base.get? a = some o ∧ o.data = .func fd
noncomputable def Call1 (C : Cx) (K : Nat) (sp : Spec) (u : Value) : Prop := ∀ vs H Q X, sp vs H Q X → ∀ ρ s us A E, Sim C ρ H s → All2 (VR C ρ) vs us → AOk C K A → Takes C ρ s X E → wpAny C.M A (call u us) (PV C ρ s Q) E s
noncomputable def CallOk (C : Cx) (K : Nat) (sp : Spec) (u : Value) : Prop := ∀ fs, Call1 (C.at fs) K sp u
theorem CallOk.here {C : Cx} {K : Nat} {sp : Spec} {u : Value} (h : CallOk C K sp u) : Call1 C K sp u := h C.frs
noncomputable def ExcCls (C : Cx) (c : Str) : Prop := ∃ kk B newId initId bm, C.G c = some (.ref kk) ∧ ExcBaseFacts B newId initId bm ∧ OwnCls c kk bm newId C.mg C.base
noncomputable def Caught (C : Cx) (k c : Str) : Prop := ∃ D, C.G c = some (.ref D) ∧ ∀ (kk : Addr) (s : Shared) (a : Addr) (o : Obj) (A : Around) (Q : Bool → Shared → Prop) (E : Value → Shared → Prop),
  C.G k = some (.ref kk) → (∀ b ob, C.base.get? b = some ob → s.heap.get? b = some ob) → s.heap.get? a = some o → o.cls = .ref kk → Q true s → wpAny C.M A (excMatches (.ref a) (.ref D)) Q E s
noncomputable def XIs (C : Cx) (ρ : List Addr) (k : Str) (a : Addr) (h : Heap) : Prop := ∃ kk o vs, C.G k = some (.ref kk) ∧ a ∉ ρ ∧ C.base.get? a = none ∧ h.get? a = some o ∧ o.cls = .ref kk ∧ o.data = .fields vs ∧ vs[2]? = some .none
structure TabOk (C : Cx) (T : Tab) (K : Nat) : Prop where
  gv : ∀ g v, T.gv g = some v → ∃ u, C.G g = some u ∧ ∀ ρ, VR C ρ v u
  fn : ∀ g, (∃ vs H Q X, T.fn g vs H Q X) → ∃ u, C.G g = some u ∧ Callee C u ∧ CallOk C K (T.fn g) u
  mt : ∀ kd m, T.has kd m = true → ∃ f, Callee C f ∧ CallOk C K (T.mt kd m) f ∧
    ∀ fs v H ρ s u pl A (Q : Value × List Value → Shared → Prop) E, kindA v H = some kd → Sim (C.at fs) ρ H s → VR C ρ v u → (∀ t, Q (f, [u]) { s with toks := t }) → wpAny C.M A (getMethod u m pl) Q E s
  range : C.G (Str.ofString "range") = some (.type "range")
  enum : C.G (Str.ofString "enumerate") = some (.type "enumerate")
  cls : ∀ c, T.cls c = true → C.calm ∧ ExcCls C c
  cat : ∀ k c, T.cat k c = true → Caught C k c
  hev : ∀ k a pe σ H Q, T.hev k a pe σ H Q → ∀ fs env e ρ s A, trE 60 env.kindOf e = some pe → FR (C.at fs) env σ ρ s.heap → Sim (C.at fs) ρ H s → A.handled = some (.ref a) → A.depth + K < recursionLimit → A.units + 5 * K + 200 < cLine →
    A.frames = some fs → XIs C ρ k a s.heap → wpAny C.M A (eval e env) (PV (C.at fs) ρ s Q) (fun _ _ => False) s
theorem TabOk.calm {C : Cx} {T : Tab} {K : Nat} (h : TabOk C T K) (k : T.calm) : C.calm := by obtain ⟨c, e⟩ := k; exact (h.cls c e).1
theorem TabOk.at {C : Cx} {T : Tab} {K : Nat} (h : TabOk C T K) (fs : List Env) : TabOk (C.at fs) T K where
  gv := h.gv
  fn := h.fn
  mt := h.mt
  range := h.range
  enum := h.enum
  cls := h.cls
  cat := h.cat
  hev := h.hev
section
variable (C : Cx) (T : Tab) (K : Nat)
noncomputable def EvOk (env : Env) (e : Expr) (pe : PE) : Prop := ∀ {σ : Sg} {ρ : List Addr} {H : AHeap} {s : Shared} {A : Around} {Q : VPost} {X : XPost} {E : Value → Shared → Prop},
  FR C env σ ρ s.heap → Sim C ρ H s → AOk C K A → (sem T pe).ev σ H Q X → Takes C ρ s X E → wpAny C.M A (eval e env) (PV C ρ s Q) E s
noncomputable def TtOk (env : Env) (e : Expr) (pe : PE) : Prop := ∀ {σ : Sg} {ρ : List Addr} {H : AHeap} {s : Shared} {A : Around} {q : Bool → AHeap → Prop} {X : XPost} {E : Value → Shared → Prop},
  FR C env σ ρ s.heap → Sim C ρ H s → AOk C K A → (sem T pe).tt σ H q X → Takes C ρ s X E → wpAny C.M A (isTrue e env (eval e env)) (PB C ρ s q) E s
noncomputable def ElOk (env : Env) (pos : Pos) (es : List Expr) (pe : PE) : Prop := ∀ {σ : Sg} {ρ : List Addr} {H : AHeap} {s : Shared} {A : Around} {q : List V → AHeap → Prop} {X : XPost} {E : Value → Shared → Prop},
  FR C env σ ρ s.heap → Sim C ρ H s → AOk C K A → (sem T pe).el σ H q X → Takes C ρ s X E → wpAny C.M A (spliced (backTo pos (starEach es env))) (PL C ρ s q) E s
end
section
variable {C : Cx} {T : Tab} {K : Nat} {env : Env}
theorem EvOk.bind {e : Expr} {pe : PE} (he : EvOk C T K env e pe) {σ : Sg} {ρ : List Addr} {H : AHeap} {s : Shared} {A : Around} {Q : VPost} {X : XPost} {E : Value → Shared → Prop} {R : Value → Shared → Prop}
    (F : FR C env σ ρ s.heap) (S : Sim C ρ H s) (hA : AOk C K A) (h : (sem T pe).ev σ H Q X) (hE : Takes C ρ s X E)
    (k : ∀ ρ' H' v u s', Step ρ s ρ' s' → FR C env σ ρ' s'.heap → Sim C ρ' H' s' → VR C ρ' v u → Q v H' → Takes C ρ' s' X E → R u s') : wpAny C.M A (eval e env) R E s :=
  wpAny_mono (he F S hA h hE) (fun u s' ⟨ρ', H', v, st, S', hv, hq⟩ => k ρ' H' v u s' st (F.step st) S' hv hq (hE.on st)) fun _ _ x => x
theorem TtOk.bind {e : Expr} {pe : PE} (he : TtOk C T K env e pe) {σ : Sg} {ρ : List Addr} {H : AHeap} {s : Shared} {A : Around} {q : Bool → AHeap → Prop} {X : XPost} {E : Value → Shared → Prop} {R : Bool → Shared → Prop}
    (F : FR C env σ ρ s.heap) (S : Sim C ρ H s) (hA : AOk C K A) (h : (sem T pe).tt σ H q X) (hE : Takes C ρ s X E)
    (k : ∀ ρ' H' b s', Step ρ s ρ' s' → FR C env σ ρ' s'.heap → Sim C ρ' H' s' → q b H' → Takes C ρ' s' X E → R b s') : wpAny C.M A (isTrue e env (eval e env)) R E s :=
  wpAny_mono (he F S hA h hE) (fun u s' ⟨ρ', H', st, S', hq⟩ => k ρ' H' u s' st (F.step st) S' hq (hE.on st)) fun _ _ x => x
theorem ElOk.bind {pos : Pos} {e : List Expr} {pe : PE} (he : ElOk C T K env pos e pe) {σ : Sg} {ρ : List Addr} {H : AHeap} {s : Shared} {A : Around} {q : List V → AHeap → Prop} {X : XPost} {E : Value → Shared → Prop} {R : List Value → Shared → Prop}
    (F : FR C env σ ρ s.heap) (S : Sim C ρ H s) (hA : AOk C K A) (h : (sem T pe).el σ H q X) (hE : Takes C ρ s X E)
    (k : ∀ ρ' H' vs us s', Step ρ s ρ' s' → FR C env σ ρ' s'.heap → Sim C ρ' H' s' → All2 (VR C ρ') vs us → q vs H' → Takes C ρ' s' X E → R us s') : wpAny C.M A (spliced (backTo pos (starEach e env))) R E s :=
  wpAny_mono (he F S hA h hE) (fun u s' ⟨ρ', H', vs, st, S', hv, hq⟩ => k ρ' H' vs u s' st (F.step st) S' hv hq (hE.on st)) fun _ _ x => x
theorem tt_of_ev {e : Expr} {pe : PE} (hi : ∀ whole, isTrue e env whole = (do let v ← whole; standAt e.pos; holding [v] (truthy v)))
    (ht : (sem T pe).tt = (Me.ofEv (sem T pe).ev).tt) (he : EvOk C T K env e pe) : TtOk C T K env e pe := by
  intro σ ρ H s A q X E F S hA h hE
  rw [ht] at h
  refine wpAny_isTrue_value ?_ (hi _)
  refine he.bind F S hA h hE fun ρ' H' v u s' st F' S' hv hq hE' => ?_
  split at hq
  · rename_i b e1
    exact truthy_ok e1 hv fun t => ⟨ρ', H', st.trans (StepG.toks t), S'.toks t, hq⟩
  · exact hq.elim
theorem ok_name {x : Str} {pos : Pos} (hk : env.kindOf x = some .local ∨ env.kindOf x = some .cell) (hd : (x == Str.ofString "__debug__") = false) : EvOk C T K env (.Name x pos) (.name x) := by
  intro σ ρ H s A Q X E F S hA h hE
  refine wpAny_Name ?_ hd
  change (match σ x with | some v => Q v H | none => False) at h
  split at h
  · rename_i v e
    exact load_ok F e hk fun u hu => here0 S hu h
  · exact h.elim
theorem ok_glob (hT : TabOk C T K) {x : Str} {pos : Pos} (hk : env.kindOf x = some .globalImplicit) (hd : (x == Str.ofString "__debug__") = false) : EvOk C T K env (.Name x pos) (.glob x) := by
  intro σ ρ H s A Q X E F S hA h hE
  change (match T.gv x with | some v => Q v H | none => False) at h
  split at h
  · rename_i v e
    obtain ⟨u, hu, hv⟩ := hT.gv x v e
    exact global_ok F S hk hu hd (here0 S (hv ρ) h)
  · exact h.elim
theorem ok_bin {l r : Expr} {op : Operator} {pos : Pos} {pl pr : PE} (hl : EvOk C T K env l pl) (hr : EvOk C T K env r pr) : EvOk C T K env (.BinOp l op r pos) (.bin op pl pr) := by
  intro σ ρ H s A Q X E F S hA h hE
  refine wpAny_BinOp (hl.bind F S hA h hE fun ρ1 H1 v1 u1 s1 st1 F1 S1 hv1 hq1 hE1 => hr.bind F1 S1 hA hq1 hE1 fun ρ2 H2 v2 u2 s2 st2 F2 S2 hv2 hq2 hE2 => ?_)
  exact wpAny_mono (binA_ok hq2 S2 (st2.vr hv1) hv2) (fun _ _ p => PV.trans (st1.trans st2) p) fun _ _ x => x
theorem cmp_marks {op : CmpOp} {e : Expr} (h : isSet e = false) : behindInMarks op e = false := by
  cases e <;> first | rfl | exact Bool.noConfusion h
theorem ok_cmp1 {l r : Expr} {op : CmpOp} {pos : Pos} {pl pr : PE} (hs : isSet r = false) (hl : EvOk C T K env l pl) (hr : EvOk C T K env r pr) :
    EvOk C T K env (.Compare l [op] [r] pos) (.cmp1 op pl pr) ∧ TtOk C T K env (.Compare l [op] [r] pos) (.cmp1 op pl pr) := by
  constructor
  · intro σ ρ H s A Q X E F S hA h hE
    refine wpAny_Compare1 (hl.bind F S hA h hE fun ρ1 H1 v1 u1 s1 st1 F1 S1 hv1 hq1 hE1 => hr.bind F1 S1 hA hq1 hE1 fun ρ2 H2 v2 u2 s2 st2 F2 S2 hv2 hq2 hE2 => ?_) (cmp_marks hs)
    refine wpAny_mono (cmpA_ok hq2 S2 hA (st2.vr hv1) hv2) (fun r s' p => ?_) fun _ _ x => x
    obtain ⟨c, rfl, st3, S3, hc⟩ := p
    exact ⟨ρ2, H2, _, (st1.trans st2).trans st3, S3, vb c, hc⟩
  · intro σ ρ H s A Q X E F S hA h hE
    refine wpAny_isTrue_Compare1 (hl.bind F S hA h hE fun ρ1 H1 v1 u1 s1 st1 F1 S1 hv1 hq1 hE1 => hr.bind F1 S1 hA hq1 hE1 fun ρ2 H2 v2 u2 s2 st2 F2 S2 hv2 hq2 hE2 => ?_) (cmp_marks hs)
    refine wpAny_mono (cmpA_ok hq2 S2 hA (st2.vr hv1) hv2) (fun r s' p => ?_) fun _ _ x => x
    obtain ⟨c, rfl, st3, S3, hc⟩ := p
    exact wpAny_truthy_bool ⟨ρ2, H2, (st1.trans st2).trans st3, S3, hc⟩
theorem ok_cmp2 {a b c : Expr} {o1 o2 : CmpOp} {pos : Pos} {pa pb pc : PE} (hs : isSet b = false) (hs' : isSet c = false) (ha : EvOk C T K env a pa) (hb : EvOk C T K env b pb) (hc : EvOk C T K env c pc) :
    EvOk C T K env (.Compare a [o1, o2] [b, c] pos) (.cmp2 o1 o2 pa pb pc) ∧ TtOk C T K env (.Compare a [o1, o2] [b, c] pos) (.cmp2 o1 o2 pa pb pc) := by
  have hm : lastMarks [o1, o2] [b, c] = false := cmp_marks (op := o2) hs'
  constructor
  · intro σ ρ H s A Q X E F S hA h hE
    refine Compare_chain (ha.bind F S hA h hE fun ρ1 H1 v1 u1 s1 st1 F1 S1 hv1 hq1 hE1 => chain_link (hb.bind F1 S1 hA hq1 hE1 fun ρ2 H2 v2 u2 s2 st2 F2 S2 hv2 hq2 hE2 => ?_)) hm
    refine wpAny_mono (cmpA_ok hq2 S2 hA (st2.vr hv1) hv2) (fun r s' p => ?_) fun _ _ x => x
    obtain ⟨c1, rfl, st3, S3, hc1⟩ := p
    refine wpAny_truthy_bool ?_
    cases c1 with
    | false => exact ⟨ρ2, H2, _, (st1.trans st2).trans st3, S3, vb _, hc1⟩
    | true =>
      rw [if_pos rfl] at hc1
      refine chain_last (hc.bind (F2.step st3) S3 hA hc1 (hE2.on st3) fun ρ4 H4 v4 u4 s4 st4 F4 S4 hv4 hq4 hE4 => ?_)
      refine wpAny_mono (cmpA_ok hq4 S4 hA (st4.vr (st3.vr hv2)) hv4) (fun r s' p => ?_) fun _ _ x => x
      obtain ⟨c2, rfl, st5, S5, hc2⟩ := p
      exact ⟨ρ4, H4, _, (((st1.trans st2).trans st3).trans st4).trans st5, S5, vb _, hc2⟩
  · intro σ ρ H s A Q X E F S hA h hE
    refine isTrue_chain (ha.bind F S hA h hE fun ρ1 H1 v1 u1 s1 st1 F1 S1 hv1 hq1 hE1 => test_link (hb.bind F1 S1 hA hq1 hE1 fun ρ2 H2 v2 u2 s2 st2 F2 S2 hv2 hq2 hE2 => ?_)) hm
    refine wpAny_mono (cmpA_ok hq2 S2 hA (st2.vr hv1) hv2) (fun r s' p => ?_) fun _ _ x => x
    obtain ⟨c1, rfl, st3, S3, hc1⟩ := p
    refine wpAny_truthy_bool ?_
    cases c1 with
    | false => exact ⟨ρ2, H2, (st1.trans st2).trans st3, S3, hc1⟩
    | true =>
      rw [if_pos rfl] at hc1
      refine test_last (hc.bind (F2.step st3) S3 hA hc1 (hE2.on st3) fun ρ4 H4 v4 u4 s4 st4 F4 S4 hv4 hq4 hE4 => ?_)
      refine wpAny_mono (cmpA_ok hq4 S4 hA (st4.vr (st3.vr hv2)) hv4) (fun r s' p => ?_) fun _ _ x => x
      obtain ⟨c2, rfl, st5, S5, hc2⟩ := p
      exact wpAny_truthy_bool ⟨ρ4, H4, (((st1.trans st2).trans st3).trans st4).trans st5, S5, hc2⟩
theorem ok_not {e : Expr} {pos : Pos} {pe : PE} (he : EvOk C T K env e pe) (ht : TtOk C T K env e pe) : EvOk C T K env (.UnaryOp .Not e pos) (.not pe) ∧ TtOk C T K env (.UnaryOp .Not e pos) (.not pe) := by
  constructor
  · intro σ ρ H s A Q X E F S hA h hE
    refine wpAny_UnaryOp (he.bind F S hA h hE fun ρ1 H1 v1 u1 s1 st1 F1 S1 hv1 hq1 hE1 => not_value ?_)
    split at hq1
    · rename_i b e1
      exact truthy_ok e1 hv1 fun t => ⟨ρ1, H1, _, st1.trans (StepG.toks t), S1.toks t, vb _, hq1⟩
    · exact hq1.elim
  · intro σ ρ H s A Q X E F S hA h hE
    exact wpAny_isTrue_Not (ht.bind F S hA h hE fun ρ1 H1 b s1 st1 F1 S1 hq1 hE1 => ⟨ρ1, H1, st1, S1, hq1⟩)
theorem ok_neg {e : Expr} {pos : Pos} {pe : PE} (he : EvOk C T K env e pe) : EvOk C T K env (.UnaryOp .USub e pos) (.neg pe) := by
  intro σ ρ H s A Q X E F S hA h hE
  refine wpAny_UnaryOp (he.bind F S hA h hE fun ρ1 H1 v1 u1 s1 st1 F1 S1 hv1 hq1 hE1 => ?_)
  split at hq1
  · obtain ⟨t, rfl⟩ := hv1
    exact P.neg_int (PV.trans st1 (here S1 (vi _ _) hq1))
  · exact hq1.elim
theorem boolOp_cons {M : Model} {A : Around} {E : Value → Shared → Prop} {s : Shared} {pos : Pos} {op : BoolOp} {x y : Sem Value} {r : List (Sem Value)} {R : Value → Shared → Prop}
    (h : wpAny M A x (fun v s1 => wpAny M A (truthy v) (fun t s2 => if t = (op == .And) then wpAny M A (boolOp pos op (y :: r)) R E s2 else R v s2) E s1) E s) : wpAny M A (boolOp pos op (x :: y :: r)) R E s := by
  show wpAny M A (do
    let v ← x
    standAt pos
    let t ← holding [v] (truthy v)
    match op, t with
    | .And, false | .Or, true => pure v
    | _, _ => boolOp pos op (y :: r)) R E s
  refine wpAny_bind (wpAny_mono h (fun v s₁ h₁ => wpAny_bind (wpAny_standAt (wpAny_bind (wpAny_holding (wpAny_mono h₁ (fun t s₂ h₂ => ?_) fun _ _ x => x))))) fun _ _ x => x)
  cases op <;> cases t <;> first | exact wpAny_pure h₂ | exact h₂
theorem ok_bool (op : BoolOp) (pos : Pos) : ∀ (vs : List Expr) (ps : List PE) (pe : PE), All2 (fun e p => EvOk C T K env e p ∧ TtOk C T K env e p) vs ps → trBool op ps = some pe →
    (∀ {σ : Sg} {ρ : List Addr} {H : AHeap} {s : Shared} {A : Around} {Q : VPost} {X : XPost} {E : Value → Shared → Prop}, FR C env σ ρ s.heap → Sim C ρ H s → AOk C K A → (sem T pe).ev σ H Q X → Takes C ρ s X E →
      wpAny C.M A (boolOp pos op (evalEach vs env)) (PV C ρ s Q) E s) ∧
    (∀ {σ : Sg} {ρ : List Addr} {H : AHeap} {s : Shared} {A : Around} {q : Bool → AHeap → Prop} {X : XPost} {E : Value → Shared → Prop}, FR C env σ ρ s.heap → Sim C ρ H s → AOk C K A → (sem T pe).tt σ H q X → Takes C ρ s X E →
      wpAny C.M A (allTrue op vs env) (PB C ρ s q) E s)
  | [], _, _, .nil, h => by cases h
  | [e], _, _, .cons (b := p) he .nil, h => by
    cases h
    refine ⟨fun F S hA h hE => he.1 F S hA h hE, fun {σ ρ H s A q X E} F S hA h hE => ?_⟩
    cases op with
    | And =>
      refine wpAny_allTrue_And_cons (wpAny_mono (he.2 F S hA h hE) (fun b s' p => ?_) fun _ _ x => x)
      cases b with
      | true => exact wpAny_allTrue_And_nil p
      | false => exact p
    | Or =>
      refine wpAny_allTrue_Or_cons (wpAny_mono (he.2 F S hA h hE) (fun b s' p => ?_) fun _ _ x => x)
      cases b with
      | true => exact p
      | false => exact wpAny_allTrue_Or_nil p
  | e :: e2 :: vs, _, pe, .cons (b := p) he (.cons (b := p2) (bs := ps) he2 hr), h => by
    have ht : ∃ x, trBool op (p2 :: ps) = some x ∧ pe = (if op = .And then PE.and p x else PE.or p x) := by
      unfold trBool at h
      cases hx : trBool op (p2 :: ps) with
      | none => rw [hx] at h; cases h
      | some x => rw [hx] at h; cases h; refine ⟨x, rfl, ?_⟩; cases op <;> rfl
    obtain ⟨x, hx, he0⟩ := ht
    obtain ⟨ih1, ih2⟩ := ok_bool op pos (e2 :: vs) (p2 :: ps) x (.cons he2 hr) hx
    clear h
    subst he0
    cases op with
    | And =>
      refine ⟨fun {σ ρ H s A Q X E} F S hA h hE => ?_, fun {σ ρ H s A q X E} F S hA h hE => ?_⟩
      · refine boolOp_cons (EvOk.bind he.1 F S hA h hE fun ρ1 H1 v1 u1 s1 st1 F1 S1 hv1 hq1 hE1 => ?_)
        split at hq1
        · rename_i b e1
          refine truthy_ok e1 hv1 fun t => ?_
          cases b with
          | true => exact wpAny_mono (ih1 (F1.step (StepG.toks t)) (S1.toks t) hA hq1 (hE1.on (StepG.toks t))) (fun _ _ p => PV.trans (st1.trans (StepG.toks t)) p) fun _ _ x => x
          | false => exact ⟨ρ1, H1, v1, st1.trans (StepG.toks t), S1.toks t, hv1, hq1⟩
        · exact hq1.elim
      · refine wpAny_allTrue_And_cons (TtOk.bind he.2 F S hA h hE fun ρ1 H1 b s1 st1 F1 S1 hq1 hE1 => ?_)
        cases b with
        | true => exact wpAny_mono (ih2 F1 S1 hA hq1 hE1) (fun _ _ p => PB.trans st1 p) fun _ _ x => x
        | false => exact ⟨ρ1, H1, st1, S1, hq1⟩
    | Or =>
      refine ⟨fun {σ ρ H s A Q X E} F S hA h hE => ?_, fun {σ ρ H s A q X E} F S hA h hE => ?_⟩
      · refine boolOp_cons (EvOk.bind he.1 F S hA h hE fun ρ1 H1 v1 u1 s1 st1 F1 S1 hv1 hq1 hE1 => ?_)
        split at hq1
        · rename_i b e1
          refine truthy_ok e1 hv1 fun t => ?_
          cases b with
          | false => exact wpAny_mono (ih1 (F1.step (StepG.toks t)) (S1.toks t) hA hq1 (hE1.on (StepG.toks t))) (fun _ _ p => PV.trans (st1.trans (StepG.toks t)) p) fun _ _ x => x
          | true => exact ⟨ρ1, H1, v1, st1.trans (StepG.toks t), S1.toks t, hv1, hq1⟩
        · exact hq1.elim
      · refine wpAny_allTrue_Or_cons (TtOk.bind he.2 F S hA h hE fun ρ1 H1 b s1 st1 F1 S1 hq1 hE1 => ?_)
        cases b with
        | false => exact wpAny_mono (ih2 F1 S1 hA hq1 hE1) (fun _ _ p => PB.trans st1 p) fun _ _ x => x
        | true => exact ⟨ρ1, H1, st1, S1, hq1⟩
theorem ok_nil {pos : Pos} : ElOk C T K env pos [] .nil := by
  intro σ ρ H s A q X E F S hA h hE
  exact wpAny_items_nil ⟨ρ, H, [], StepG.refl _ _, S, .nil, h⟩
theorem star_cons {e : Expr} (h : isStar e = false) (r : List Expr) : starEach (e :: r) env = (false, eval e env) :: starEach r env := by
  cases e <;> first | rfl | exact Bool.noConfusion h
theorem ok_cons {pos : Pos} {e : Expr} {r : List Expr} {pe pr : PE} (he : EvOk C T K env e pe) (hr : ElOk C T K env pos r pr) (hs : isStar e = false) : ElOk C T K env pos (e :: r) (.cons pe pr) := by
  intro σ ρ H s A q X E F S hA h hE
  refine wpAny_items_cons (he.bind F S hA h hE fun ρ1 H1 v1 u1 s1 st1 F1 S1 hv1 hq1 hE1 => hr.bind F1 S1 hA hq1 hE1 fun ρ2 H2 vs us s2 st2 F2 S2 hv2 hq2 hE2 => ?_) (star_cons hs r)
  exact ⟨ρ2, H2, v1 :: vs, st1.trans st2, S2, .cons (st2.vr hv1) hv2, hq2⟩
theorem evalArgs_any {M : Model} {A : Around} {E : Value → Shared → Prop} {s : Shared} {f : Value} {pos : Pos} : ∀ {es : List Expr} {R : Args → Shared → Prop}, (∀ e ∈ es, isStar e = false) →
    wpAny M A (spliced (backTo pos (starEach es env))) (fun vs s' => R ⟨vs, []⟩ s') E s → wpAny M A (evalArgs f true (backTo pos (starEach es env)) []) R E s
  | [], R, _, h => by
    unfold evalArgs
    show wpAny M A (spliced [] >>= _) R E s
    refine wpAny_bind (wpAny_mono h (fun vs s' h' => ?_) fun _ _ x => x)
    exact wpAny_bind (wpAny_pure (wpAny_holding (wpAny_bind (wpAny_pure (wpAny_bind (wpAny_pure (wpAny_pure h')))))))
  | e :: r, R, hs, h => by
    rw [star_cons (hs e (.head _)) r] at h ⊢
    exact evalArgs_plain h
theorem callWith_any {M : Model} {A : Around} {E : Value → Shared → Prop} {s : Shared} {pos : Pos} {u : Value} {first : List Value} {args : List (Bool × Sem Value)} {R : Value → Shared → Prop} (hp : args.any (·.1) = false)
    (h : wpAny M A (evalArgs u true args []) (fun a s₁ => ((∃ id, u = .builtin id) ∨ (∃ t, u = .type t) ∨ ∃ x o fd, u = .ref x ∧ s₁.heap.get? x = some o ∧ o.data = .func fd) ∧ wpAny M A (call u (first ++ a.pos) a.kw) R E s₁) E s) :
    wpAny M A (callWith pos u first args []) R E s := by
  unfold callWith
  refine wpAny_bind (wpAny_holding (wpAny_mono h (fun a s₁ h₁ => wpAny_bind (wpAny_standAt ?_)) fun _ _ x => x))
  have tail : ∀ {t : Sem Value}, wpAny M A t R E s₁ → wpAny M A (t >>= fun r => holding [r] point >>= fun _ => pure r) R E s₁ :=
    fun ht => wpAny_bind (wpAny_mono ht (fun r s₂ hr => wpAny_bind (wpAny_holding (wpAny_point (wpAny_pure hr)))) fun _ _ x => x)
  simp only [hp, List.any_nil, Bool.or_false]
  obtain ⟨hc, h₁⟩ := h₁
  rcases hc with ⟨id, rfl⟩ | ⟨t, rfl⟩ | ⟨x, o, fd, rfl, ho, hd⟩
  · exact wpAny_bind (wpAny_pure (tail h₁))
  · exact wpAny_bind (wpAny_pure (tail h₁))
  · refine wpAny_bind (m := keeperOf (.ref x)) ?_
    unfold keeperOf
    refine wpAny_bind (wpAny_load ho ?_)
    rw [hd]
    refine wpAny_pure ?_
    dsimp only
    refine wpAny_ite ?_
    split
    · exact tail h₁
    · exact tail (by unfold callMarked; exact Calls.wpAny_keep h₁)
theorem starEach_one {f : Expr → Option PE} (hf : ∀ e pe, f e = some pe → isStar e = false) : ∀ {es : List Expr} {pe : PE}, trL f es = some pe → ∀ e ∈ es, isStar e = false
  | [], _, _, _, h => nomatch h
  | e :: r, pe, h, e', hm => by
    obtain ⟨a, ha, h⟩ := Option.bind_eq_some_iff.mp h
    obtain ⟨b, hb, _⟩ := Option.map_eq_some_iff.mp h
    cases hm with
    | head => exact hf e a ha
    | tail _ hm => exact starEach_one hf hb e' hm
theorem any_false {pos : Pos} : ∀ {es : List Expr}, (∀ e ∈ es, isStar e = false) → (backTo pos (starEach es env)).any (·.1) = false
  | [], _ => rfl
  | e :: r, h => by
    rw [star_cons (h e (.head _)) r]
    have ih := any_false (pos := pos) (es := r) fun e' he' => h e' (.tail _ he')
    unfold backTo at ih ⊢
    rw [List.map_cons, List.any_cons, ih]; rfl
theorem ok_call (hT : TabOk C T K) {f : Expr} {args : List Expr} {pos : Pos} {pf pa : PE} (hf : EvOk C T K env f pf) (ha : ElOk C T K env pos args pa) (hs : ∀ e ∈ args, isStar e = false)
    (hc : eval (.Call f args [] pos) env = (do callWith pos (← eval f env) [] (backTo pos (starEach args env)) [])) : EvOk C T K env (.Call f args [] pos) (.call pf pa) := by
  intro σ ρ H s A Q X E F S hA h hE
  rw [hc]
  refine wpAny_bind (hf.bind F S hA h hE fun ρ1 H1 v1 u1 s1 st1 F1 S1 hv1 hq1 hE1 => ?_)
  split at hq1
  · rename_i g
    have hv1 : C.G g = some u1 := hv1
    refine callWith_any (any_false hs) (evalArgs_any hs (ha.bind F1 S1 hA hq1 hE1 fun ρ2 H2 vs us s2 st2 F2 S2 hv2 hq2 hE2 => ?_))
    obtain ⟨u, hu, hcal, hok⟩ := hT.fn g ⟨_, _, _, _, hq2⟩
    replace hok := hok.here
    rw [hv1] at hu; cases hu
    refine ⟨?_, ?_⟩
    · rcases hcal with q | q | ⟨a, o, fd, q1, q2, q3⟩
      · exact .inl q
      · exact .inr (.inl q)
      · exact .inr (.inr ⟨a, o, fd, q1, S2.stays _ _ q2, q3⟩)
    · exact wpAny_mono (hok _ _ _ _ hq2 _ _ _ _ _ S2 hv2 hA hE2) (fun _ _ p => PV.trans (st1.trans st2) p) fun _ _ x => x
  · exact hq1.elim
theorem attrBase {o : Expr} {m : Str} {whole : Sem Value} (h : callArgs o = true) : attributeBase o m env whole = whole := by
  unfold callArgs at h
  split at h
  · rename_i f as ks e
    cases asCall_is e
    cases as with
    | nil => cases h
    | cons _ _ => cases f <;> rfl
  · rename_i e
    cases o <;> first | rfl | cases e
theorem ok_meth (hT : TabOk C T K) {o : Expr} {m : Str} {args : List Expr} {apos pos : Pos} {po pa : PE} (ho : EvOk C T K env o po) (ha : ElOk C T K env pos args pa) (hs : ∀ e ∈ args, isStar e = false)
    (hl : apos.endLine = pos.line) (hn : args.length < 20) (hb : callArgs o = true) : EvOk C T K env (.Call (.Attribute o m apos) args [] pos) (.meth po m pa) := by
  intro σ ρ H s A Q X E F S hA h hE
  rw [arm_eval_Call, attrBase hb]
  refine wpAny_bind (ho.bind F S hA h hE fun ρ1 H1 v1 u1 s1 st1 F1 S1 hv1 hq1 hE1 => wpAny_bind (wpAny_standAt ?_))
  split at hq1
  · rename_i kd e1
    obtain ⟨hm, hq1⟩ := hq1
    obtain ⟨f, hcal, hok, hget⟩ := hT.mt kd m hm
    replace hok := hok.here
    unfold methodCall
    have hform : methodCallForm (args.length + ([] : List Keyword).length) (backTo pos (starEach args env)) (backToKw pos (keywordEach [] env)) = true := by
      have := any_false (env := env) (pos := pos) hs
      have h2 : (backTo pos (starEach args env)).all (fun x => !x.1) = true := by
        rw [List.all_eq_true]
        intro x hx
        have := List.any_eq_false.mp this x hx
        simpa using this
      unfold methodCallForm
      rw [h2]
      show (true && true && decide (args.length + 0 + 0 < 30)) = true
      simp; lia
    rw [hform]
    refine wpAny_bind (wpAny_holding ?_)
    unfold calleeOf
    rw [if_pos rfl]
    refine hget C.frs v1 H1 ρ1 s1 u1 _ A _ E e1 S1 hv1 fun t => ?_
    have hpos : methodCallPos true o env apos pos = pure pos := by
      unfold methodCallPos
      rw [hl]
      simp
    rw [hpos]
    refine wpAny_bind (wpAny_pure ?_)
    have st1' := st1.trans (StepG.toks (ρ := ρ1) (s := s1) t)
    refine callWith_any (any_false hs) (evalArgs_any hs (ha.bind (F1.step (StepG.toks t)) (S1.toks t) hA hq1 (hE1.on (StepG.toks t)) fun ρ2 H2 vs us s2 st2 F2 S2 hv2 hq2 hE2 => ?_))
    refine ⟨?_, ?_⟩
    · rcases hcal with q | q | ⟨a, o, fd, q1, q2, q3⟩
      · exact .inl q
      · exact .inr (.inl q)
      · exact .inr (.inr ⟨a, o, fd, q1, S2.stays _ _ q2, q3⟩)
    · exact wpAny_mono (hok _ _ _ _ hq2 _ _ _ _ _ S2 (.cons (st2.vr hv1) hv2) hA hE2) (fun _ _ p => PV.trans (st1'.trans st2) p) fun _ _ x => x
  · exact hq1.elim
theorem ok_sub {o i : Expr} {pos : Pos} {po pi : PE} (ho : EvOk C T K env o po) (hi : EvOk C T K env i pi) (hs : ∀ u w, subscripted i false u w = operate [u, w] (getItem u w)) : EvOk C T K env (.Subscript o i pos) (.sub po pi) := by
  intro σ ρ H s A Q X E F S hA h hE
  refine Subscript_ (ho.bind F S hA h hE fun ρ1 H1 v1 u1 s1 st1 F1 S1 hv1 hq1 hE1 => hi.bind F1 S1 hA hq1 hE1 fun ρ2 H2 v2 u2 s2 st2 F2 S2 hv2 hq2 hE2 => ?_)
  exact wpAny_mono (subA_ok hq2 S2 (st2.vr hv1) hv2 (hs _ _)) (fun _ _ p => PV.trans (st1.trans st2) p) fun _ _ x => x
noncomputable def PtOk (C : Cx) (T : Tab) (K : Nat) (env : Env) (e : Option Expr) (pe : PE) : Prop := ∀ {σ : Sg} {ρ : List Addr} {H : AHeap} {s : Shared} {A : Around} {Q : VPost} {X : XPost} {E : Value → Shared → Prop},
  FR C env σ ρ s.heap → Sim C ρ H s → AOk C K A → (sem T pe).ev σ H Q X → Takes C ρ s X E → wpAny C.M A (evalPart e env) (PV C ρ s Q) E s
theorem pt_none : PtOk C T K env none .none := fun F S hA h hE => wpAny_pure (here0 (v := .none) S rfl h)
theorem pt_some {e : Expr} {pe : PE} (he : EvOk C T K env e pe) : PtOk C T K env (some e) pe := fun F S hA h hE => he F S hA h hE
theorem ok_slice {o : Expr} {lo hi : Option Expr} {p pos : Pos} {po pl ph : PE} (ho : EvOk C T K env o po) (hl : PtOk C T K env lo pl) (hh : PtOk C T K env hi ph) :
    EvOk C T K env (.Subscript o (.Slice lo hi none p) pos) (.slice po pl ph) := by
  intro σ ρ H s A Q X E F S hA h hE
  refine Subscript_ (ho.bind F S hA h hE fun ρ1 H1 v1 u1 s1 st1 F1 S1 hv1 hq1 hE1 => wpAny_Slice ?_)
  refine wpAny_mono (hl F1 S1 hA hq1 hE1) (fun u2 s2 ⟨ρ2, H2, v2, st2, S2, hv2, hq2⟩ => ?_) fun _ _ x => x
  refine wpAny_mono (hh (F1.step st2) S2 hA hq2 (hE1.on st2)) (fun u3 s3 ⟨ρ3, H3, v3, st3, S3, hv3, hq3⟩ => ?_) fun _ _ x => x
  rw [evalPart_none]
  refine wpAny_pure ?_
  exact wpAny_mono (sliceA_ok hq3 S3 (st3.vr (st2.vr hv1)) (st3.vr hv2) hv3) (fun _ _ p => PV.trans ((st1.trans st2).trans st3) p) fun _ _ x => x
theorem ok_list {es : List Expr} {pos : Pos} {pe : PE} (he : ElOk C T K env pos es pe) : EvOk C T K env (.List es pos) (.list pe) := by
  intro σ ρ H s A Q X E F S hA h hE
  refine wpAny_List (he.bind F S hA h hE fun ρ1 H1 vs us s1 st1 F1 S1 hv1 hq1 hE1 => ?_)
  exact ⟨by rw [← hv1.length]; exact lid_le hq1.1, PV.trans st1 (pushed_list (tk := s1.toks) S1 hv1 hq1.1 hq1.2)⟩
theorem ok_tuple {es : List Expr} {k : Nat} {pos : Pos} {pe : PE} (he : ElOk C T K env pos es pe) : EvOk C T K env (.Tuple es k pos) (.tuple pe) := by
  intro σ ρ H s A Q X E F S hA h hE
  refine wpAny_Tuple (he.bind F S hA h hE fun ρ1 H1 vs us s1 st1 F1 S1 hv1 hq1 hE1 => ?_)
  exact ⟨by rw [← hv1.length]; exact lid_le hq1.1, PV.trans st1 (pushed_tuple (tk := s1.toks) S1 hv1 hq1.1 hq1.2)⟩
end
end Mine
end
section
namespace Mine
open PySem PySem.Calls PyProof.Rows
noncomputable def IR (C : Cx) (ρ : List Addr) (h0 h : Heap) : Item → Value → Prop
  | .one v, u => VR C ρ v u
  | .many vs, u => ∃ t us n, u = .ref t ∧ h.get? t = some ⟨.type "tuple", none, .seq us n, #[]⟩ ∧ h0.get? t = none ∧ All2 (VR C ρ) vs us.toList
noncomputable def tgtFits : Expr → Item → Prop
  | .Name _ _, .one _ => True
  | .Tuple _ _ _, _ => True
  | _, _ => False
theorem no_ns {o : Obj} {vs : Array Value} (h : o.data = .fields vs) : ¬ IsNs o := fun ⟨_, _, q⟩ => by rw [h] at q; cases q
structure Itr (C : Cx) (A : Around) (ρ0 : List Addr) (items : List Item) (Kp : AHeap → Prop) (I : Addr) (wr : List Addr) (St : Nat → Heap → Prop) : Prop where
  frame : ∀ i h h', St i h → (∀ b ∈ wr, ∀ o, h.get? b = some o → ¬ IsNs o → h'.get? b = some o) → St i h'
  alive : ∀ i h, St i h → ∀ b ∈ wr, ∃ o, h.get? b = some o
  next : ∀ i x target ρ H s E, items[i]? = some x → tgtFits target x → St i s.heap → Sim C ρ H s → (∃ l, ρ = ρ0 ++ l) → Kp H → (∀ b ∈ wr, b ∉ ρ) →
    wpAny C.M A (pyNext (.ref I)) (fun r s1 => ∃ u, r = some u ∧ wpAny C.M A (letOwnedTupleGo target (.ref I) u) (fun _ s2 => ∃ h tk, s2 = { s with heap := h, toks := tk } ∧ IR C ρ s.heap h x u ∧ St (i + 1) h ∧
      (∀ b o, b ∉ wr → s.heap.get? b = some o → h.get? b = some o)) E s1) E s
  done : ∀ ρ H s E, St items.length s.heap → Sim C ρ H s → (∃ l, ρ = ρ0 ++ l) → Kp H → (∀ b ∈ wr, b ∉ ρ) →
    wpAny C.M A (pyNext (.ref I)) (fun r s1 => r = none ∧ ∃ h tk, s1 = { s with heap := h, toks := tk } ∧ (∀ b o, b ∉ wr → s.heap.get? b = some o → h.get? b = some o)) E s
  self : ∀ i s (Q : Value → Shared → Prop) E, St i s.heap → Q (.ref I) s → wpAny C.M A (pyIter (.ref I)) Q E s
inductive Ready' (C : Cx) (A : Around) (ρ : List Addr) (s : Shared) (q : List Item → (AHeap → Prop) → AHeap → Prop) (it : Value) (s2 : Shared) : Prop
  | mk (ρ' : List Addr) (H' : AHeap) (items : List Item) (Kp : AHeap → Prop) (I : Addr) (wr : List Addr) (St : Nat → Heap → Prop) : it = .ref I → Itr C A ρ' items Kp I wr St → St 0 s2.heap → Step ρ s ρ' s2 → Sim C ρ' H' s2 → (∀ b ∈ wr, s.heap.get? b = none ∧ b ∉ ρ') → q items Kp H' → Ready' C A ρ s q it s2
noncomputable def ItOk (C : Cx) (T : Tab) (K : Nat) (env : Env) (e : Expr) (pe : PE) : Prop := ∀ {σ : Sg} {ρ : List Addr} {H : AHeap} {s : Shared} {A : Around} {q : List Item → (AHeap → Prop) → AHeap → Prop} {X : XPost} {E : Value → Shared → Prop},
  FR C env σ ρ s.heap → Sim C ρ H s → AOk C K A → (sem T pe).it σ H q X → Takes C ρ s X E → wpAny C.M A (eval e env) (fun xv s1 => wpAny C.M A (pyIter xv) (Ready' C A ρ s q) E s1) E s
theorem letGo_other {M : Model} {A : Around} {E : Value → Shared → Prop} {s : Shared} {target : Expr} {I : Addr} {u : Value} {Q : Unit → Shared → Prop} {o : Obj} {n : String} {vs : Array Value} (ho : s.heap.get? I = some o) (hc : o.cls = .type n) (hd : o.data = .fields vs)
    (hn : (["enumerate", "zip", "dict_itemiterator", "dict_reverseitemiterator", "odict_iterator", "itertools.zip_longest", "itertools.pairwise"].contains n) = false) (hQ : Q () s) : wpAny M A (letOwnedTupleGo target (.ref I) u) Q E s := by
  unfold letOwnedTupleGo
  split
  · split
    · rename_i heq; cases heq
      refine wpAny_bind (wpAny_load ho ?_)
      rw [hc, hd]
      dsimp only
      rw [hn]
      exact wpAny_pure hQ
    · exact wpAny_pure hQ
  · split
    · rename_i heq; cases heq
      refine wpAny_bind (wpAny_load ho ?_)
      rw [hc, hd]
      dsimp only
      rw [hn]
      exact wpAny_pure hQ
    · exact wpAny_pure hQ
  · exact wpAny_pure hQ
section
variable {C : Cx} {A : Around}
theorem ext_at {ρ0 ρ : List Addr} {n : Nat} {a : Addr} (h : ρ0[n]? = some a) (e : ∃ l, ρ = ρ0 ++ l) : ρ[n]? = some a := by
  obtain ⟨l, rfl⟩ := e
  rw [List.getElem?_append_left]
  · exact h
  · exact (List.getElem?_eq_some_iff.mp h).1
theorem get_map_one {xs : List V} {i : Nat} {x : Item} (h : (xs.map Item.one)[i]? = some x) : ∃ v, x = .one v ∧ xs[i]? = some v := by
  rw [List.getElem?_map] at h
  cases e : xs[i]? with
  | none => rw [e] at h; cases h
  | some v => rw [e] at h; cases h; exact ⟨v, rfl, rfl⟩
theorem itr_list (hA : HdOk C A) {I a : Addr} {n : Nat} {xs : List V} {ρ0 : List Addr} (hn : ρ0[n]? = some a) :
    Itr C A ρ0 (xs.map .one) (fun H => H[n]? = some (.list xs)) I [I] (fun i h => h.IsListIter I a i) where
  frame := fun i h h' x k => by obtain ⟨o, ho, hc, r⟩ := x; exact ⟨o, k I (.head _) o ho (no_ns r), hc, r⟩
  alive := fun i h x b hb => by simp at hb; subst hb; obtain ⟨o, ho, _⟩ := x; exact ⟨o, ho⟩
  next := fun i x target ρ H s E hx ht hst S hρ hK hw => by
    obtain ⟨v, rfl, hv⟩ := get_map_one hx
    have hna := ext_at hn hρ
    obtain ⟨us, m, ho, hs, _⟩ := S.obj n a _ hna hK
    obtain ⟨u, hu, hr⟩ := hs.get i v hv
    have hne : a ≠ I := fun z => hw I (.head _) (z ▸ List.mem_of_getElem? hna)
    refine wpAny_pyNext_list_item hst ⟨_, ho, rfl, m, rfl⟩ (by rw [← Array.getElem?_toList]; exact hu) fun h' hit hsb => ⟨u, rfl, ?_⟩
    obtain ⟨o, ho', hc, hd⟩ := id hit
    refine letGo_other ho' hc hd (by decide) ⟨h', s.toks, rfl, hr, hit, fun b o hb e => (hsb.2 b fun z => hb (by simp [z])).trans e⟩
  done := fun ρ H s E hst S hρ hK hw => by
    have hna := ext_at hn hρ
    obtain ⟨us, m, ho, hs, _⟩ := S.obj n a _ hna hK
    rw [List.length_map] at hst
    refine next_list_end (hA.at S) hst ⟨_, ho, rfl, m, rfl⟩ (by rw [← Array.getElem?_toList, hs.length, List.getElem?_eq_none (Nat.le_refl _)]) fun h' he => ⟨rfl, h', s.toks, rfl, fun b o hb e => he b o (fun z => hb (by simp [z])) e⟩
  self := fun i s Q E hst hq => wpAny_pyIter_listiter hst hq
theorem itr_tuple (hA : HdOk C A) {I a : Addr} {n : Nat} {xs : List V} {ρ0 : List Addr} (hn : ρ0[n]? = some a) :
    Itr C A ρ0 (xs.map .one) (fun H => H[n]? = some (.tuple xs)) I [I] (fun i h => h.IsTupleIter I a i) where
  frame := fun i h h' x k => by obtain ⟨o, ho, hc, r⟩ := x; exact ⟨o, k I (.head _) o ho (no_ns r), hc, r⟩
  alive := fun i h x b hb => by simp at hb; subst hb; obtain ⟨o, ho, _⟩ := x; exact ⟨o, ho⟩
  next := fun i x target ρ H s E hx ht hst S hρ hK hw => by
    obtain ⟨v, rfl, hv⟩ := get_map_one hx
    have hna := ext_at hn hρ
    obtain ⟨us, m, ho, hs, _⟩ := S.obj n a _ hna hK
    obtain ⟨u, hu, hr⟩ := hs.get i v hv
    refine wpAny_pyNext_tuple_item hst ⟨_, ho, rfl, m, rfl⟩ (by rw [← Array.getElem?_toList]; exact hu) fun h' hit hsb => ⟨u, rfl, ?_⟩
    obtain ⟨o, ho', hc, hd⟩ := id hit
    refine letGo_other ho' hc hd (by decide) ⟨h', s.toks, rfl, hr, hit, fun b o hb e => (hsb.2 b fun z => hb (by simp [z])).trans e⟩
  done := fun ρ H s E hst S hρ hK hw => by
    have hna := ext_at hn hρ
    obtain ⟨us, m, ho, hs, _⟩ := S.obj n a _ hna hK
    rw [List.length_map] at hst
    refine next_tuple_end (hA.at S) hst ⟨_, ho, rfl, m, rfl⟩ (by rw [← Array.getElem?_toList, hs.length, List.getElem?_eq_none (Nat.le_refl _)]) fun h' he => ⟨rfl, h', s.toks, rfl, fun b o hb e => he b o (fun z => hb (by simp [z])) e⟩
  self := fun i s Q E hst hq => wpAny_pyIter_tupleiter hst hq
theorem itr_range (hA : HdOk C A) {I : Addr} {a c : Int} {n : Nat} {ρ0 : List Addr} :
    Itr C A ρ0 ((List.range n).map fun k => Item.one (.int (a + (k : Nat) * c))) (fun _ => True) I [I] (fun i h => IsRangeIter h I (a + (i : Nat) * c) ((n : Int) - (i : Nat)) c) where
  frame := fun i h h' x k => k I (.head _) _ x (no_ns rfl)
  alive := fun i h x b hb => by simp at hb; subst hb; exact ⟨_, x⟩
  next := fun i x target ρ H s E hx ht hst S hρ hK hw => by
    rw [List.getElem?_map] at hx
    have hi : i < n := by
      rcases Nat.lt_or_ge i n with h | h
      · exact h
      · rw [List.getElem?_eq_none (by simpa using h)] at hx; cases hx
    rw [List.getElem?_eq_getElem (by simpa using hi)] at hx
    simp at hx
    subst hx
    refine wpAny_pyNext_range_item hst (by lia) fun h' hit hsb => ⟨_, rfl, ?_⟩
    refine letGo_other hit rfl rfl (by decide) ⟨h', s.toks + 1, rfl, vi (C := C) (ρ := ρ) _ _, ?_, fun b o hb e => (hsb.2 b fun z => hb (by simp [z])).trans e⟩
    have e1 : a + (i : Int) * c + c = a + ((i + 1 : Nat) : Int) * c := by rw [Int.natCast_add, Int.add_mul]; simp; lia
    have e2 : (n : Int) - i - 1 = n - ((i + 1 : Nat) : Int) := by lia
    rw [e1, e2] at hit; exact hit
  done := fun ρ H s E hst S hρ hK hw => by
    simp only [List.length_map, List.length_range] at hst
    exact next_range_end (hA.at S) hst (by lia) fun h' he => ⟨rfl, h', s.toks, rfl, fun b o hb e => he b o (fun z => hb (by simp [z])) e⟩
  self := fun i s Q E hst hq => wpAny_pyIter_rangeiter hst hq
theorem one_sign {t : Txt} {i c : Nat} (ok : okT t = true) (h : t.toArray[i]? = some c) : okT [c] = true := by
  rw [okT_iff] at *
  refine ⟨by simp [lid], fun d hd => ?_⟩
  simp only [List.mem_singleton] at hd
  subst hd
  exact ok.2 d (by simpa using Array.mem_of_getElem? h)
theorem get_map_sign {t : Txt} {i : Nat} {x : Item} (h : (t.map fun c => Item.one (.str [c]))[i]? = some x) : ∃ c, x = .one (.str [c]) ∧ t[i]? = some c := by
  rw [List.getElem?_map] at h
  cases e : t[i]? with
  | none => rw [e] at h; cases h
  | some v => rw [e] at h; cases h; exact ⟨v, rfl, rfl⟩
theorem itr_ascii (hA : HdOk C A) {I : Addr} {t : Txt} {tk : Tok} {ρ0 : List Addr} (ok : okT t = true) :
    Itr C A ρ0 (t.map fun c => Item.one (.str [c])) (fun _ => True) I [I] (fun i h => h.IsStrIter I "str_ascii_iterator" ⟨t.toArray⟩ tk i) where
  frame := fun i h h' x k => by obtain ⟨o, ho, hc, r⟩ := x; exact ⟨o, k I (.head _) o ho (no_ns r), hc, r⟩
  alive := fun i h x b hb => by simp at hb; subst hb; obtain ⟨o, ho, _⟩ := x; exact ⟨o, ho⟩
  next := fun i x target ρ H s E hx ht hst S hρ hK hw => by
    obtain ⟨c, rfl, hc⟩ := get_map_sign hx
    have hc' : t.toArray[i]? = some c := by simpa using hc
    refine wpAny_pyNext_ascii_item hst hc' fun h' hit hsb => ⟨_, rfl, ?_⟩
    obtain ⟨o, ho', hc1, hd⟩ := id hit
    exact letGo_other ho' hc1 hd (by decide) ⟨h', s.toks + 1, rfl, vt (C := C) (ρ := ρ) (one_sign ok hc') _, hit, fun b o hb e => (hsb.2 b fun z => hb (by simp [z])).trans e⟩
  done := fun ρ H s E hst S hρ hK hw => by
    rw [List.length_map] at hst
    exact next_ascii_end (hA.at S) hst (by simp) fun h' he => ⟨rfl, h', s.toks, rfl, fun b o hb e => he b o (fun z => hb (by simp [z])) e⟩
  self := fun i s Q E hst hq => wpAny_pyIter_striter_ascii hst hq
theorem itr_wide (hA : HdOk C A) {I : Addr} {t : Txt} {tk : Tok} {ρ0 : List Addr} (ok : okT t = true) :
    Itr C A ρ0 (t.map fun c => Item.one (.str [c])) (fun _ => True) I [I] (fun i h => h.IsStrIter I "str_iterator" ⟨t.toArray⟩ tk i) where
  frame := fun i h h' x k => by obtain ⟨o, ho, hc, r⟩ := x; exact ⟨o, k I (.head _) o ho (no_ns r), hc, r⟩
  alive := fun i h x b hb => by simp at hb; subst hb; obtain ⟨o, ho, _⟩ := x; exact ⟨o, ho⟩
  next := fun i x target ρ H s E hx ht hst S hρ hK hw => by
    obtain ⟨c, rfl, hc⟩ := get_map_sign hx
    have hc' : t.toArray[i]? = some c := by simpa using hc
    refine wpAny_pyNext_wide_item hst hc' fun h' hit hsb => ⟨_, rfl, ?_⟩
    obtain ⟨o, ho', hc1, hd⟩ := id hit
    exact letGo_other ho' hc1 hd (by decide) ⟨h', s.toks + 1, rfl, vt (C := C) (ρ := ρ) (one_sign ok hc') _, hit, fun b o hb e => (hsb.2 b fun z => hb (by simp [z])).trans e⟩
  done := fun ρ H s E hst S hρ hK hw => by
    rw [List.length_map] at hst
    exact next_wide_end (hA.at S) hst (by simp) fun h' he => ⟨rfl, h', s.toks, rfl, fun b o hb e => he b o (fun z => hb (by simp [z])) e⟩
  self := fun i s Q E hst hq => wpAny_pyIter_striter_wide hst hq
noncomputable def DK (C : Cx) (ρ : List Addr) (e : Txt × V) (kv : Str × Value) : Prop := kv.1 = ⟨e.1.toArray⟩ ∧ okT e.1 = true ∧ VR C ρ e.2 kv.2
theorem dk_keys {ρ : List Addr} {es : List (Txt × V)} {kvs : List (Str × Value)} (h : All2 (DK C ρ) es kvs) : kvs.map (·.1) = (es.map (·.1)).map fun t => (⟨t.toArray⟩ : Str) := by
  induction h with
  | nil => rfl
  | cons he _ ih => rw [List.map_cons, List.map_cons, List.map_cons, ih, he.1]
theorem str_inj {t u : Txt} (h : (⟨t.toArray⟩ : Str) = ⟨u.toArray⟩) : t = u := by
  have := congrArg (fun x : Str => x.cps.toList) h
  exact this
theorem er_pairs {ρ : List Addr} {es : List (Txt × V)} {l : List DictEntry} (h : All2 (ER C ρ) es l) : ∃ kvs, Pairs (PySem.strKind C.prog C.w) l kvs ∧ All2 (DK C ρ) es kvs := by
  induction h with
  | nil => exact ⟨[], .nil, .nil⟩
  | @cons e d es l he _ ih =>
    obtain ⟨kvs, h1, h2⟩ := ih
    obtain ⟨⟨ok, t, e1⟩, e2, e3⟩ := he
    exact ⟨(⟨e.1.toArray⟩, d.val) :: kvs, .cons (by rw [e1]; exact strKind_is _ _ _ t) rfl h1, .cons ⟨rfl, ok, e3⟩ h2⟩
theorem dict_at {ρ : List Addr} {h : Heap} {a : Addr} {es : List (Txt × V)} {ep : Nat} (o : OR C ρ h a (.dict es ep)) :
    ∃ kvs : List (Str × Value), h.DictAt (PySem.strKind C.prog C.w) a kvs ep ∧ All2 (DK C ρ) es kvs := by
  obtain ⟨ds, ho, hs, hn, _⟩ := o
  obtain ⟨kvs, h1, h2⟩ := er_pairs hs
  refine ⟨kvs, ⟨_, ds, ho, ⟨rfl, rfl, rfl⟩, rfl, fun e he => ?_, h1, ?_⟩, h2⟩
  · obtain ⟨p, hp, ⟨_, t, e1⟩, e2, e3⟩ := hs.right e (Array.mem_toList_iff.mpr he)
    exact ⟨⟨p.1.toArray⟩, by rw [e1]; exact strKind_is _ _ _ t, e2⟩
  · rw [dk_keys h2]
    exact List.Pairwise.map _ (fun x y hxy q => hxy (str_inj q)) hn
theorem dict_of {ρ : List Addr} {h : Heap} {a : Addr} {es : List (Txt × V)} {ep : Nat} (o : OR C ρ h a (.dict es ep)) :
    ∃ kvs : List (Str × Value), h.DictOf (PySem.strKind C.prog C.w) a kvs ∧ All2 (DK C ρ) es kvs := by
  obtain ⟨kvs, ⟨o, ds, ho, a1, b1, c1, d1, e1⟩, h2⟩ := dict_at o
  exact ⟨kvs, ⟨o, ds, ep, ho, a1, b1, c1, d1, e1⟩, h2⟩
theorem dict_is {ρ : List Addr} {h : Heap} {a : Addr} {es : List (Txt × V)} {kvs : List (Str × Value)} (hd : h.DictOf (PySem.strKind C.prog C.w) a kvs) (hk : All2 (DK C ρ) es kvs) (hl : es.length ≤ lid) : ∃ ep, OR C ρ h a (.dict es ep) := by
  obtain ⟨o, ds, ep, ho, ⟨x1, x2, x3⟩, hdat, hks, hp, hn⟩ := hd
  refine ⟨ep, ds, ?_, ?_, ?_, hl⟩
  · obtain ⟨c, d, dt, sl⟩ := o
    cases x1; cases x2; cases x3; cases hdat
    exact ho
  · have go : ∀ {es : List (Txt × V)} {kvs : List (Str × Value)}, All2 (DK C ρ) es kvs → ∀ {l : List DictEntry}, Pairs (PySem.strKind C.prog C.w) l kvs → (∀ d ∈ l, ∃ k, (PySem.strKind C.prog C.w).is k d.key = true ∧ d.hash = (PySem.strKind C.prog C.w).hash k) → All2 (ER C ρ) es l := by
      intro es kvs h
      induction h with
      | nil => intro l hp _; cases hp; exact .nil
      | @cons e kv es kvs he _ ih =>
        intro l hp hh
        cases hp with
        | @cons d _ l' _ h1 h2 h3 =>
          refine .cons ?_ (ih h3 fun d hd => hh d (.tail _ hd))
          obtain ⟨e1, ok, e3⟩ := he
          rw [e1] at h1
          obtain ⟨t, ht⟩ := Value.isStrOf_shape h1
          obtain ⟨k', hk', hh'⟩ := hh d (.head _)
          have hkk : k' = ⟨e.1.toArray⟩ := by
            rw [ht] at hk'
            obtain ⟨t', ht'⟩ := Value.isStrOf_shape (show Value.isStrOf k' (.str ⟨e.1.toArray⟩ t) = true from hk')
            cases ht'; rfl
          exact ⟨⟨ok, t, ht⟩, by rw [hh', hkk]; rfl, by rw [h2]; exact e3⟩
    exact go hk hp fun d hd => hks d (Array.mem_toList_iff.mp hd)
  · rw [dk_keys hk] at hn
    exact (List.pairwise_map.mp hn).imp fun hxy q => hxy (by rw [q])
theorem dk_stored {ρ : List Addr} {k : Txt} {v : V} {u : Value} (ok : okT k = true) (hv : VR C ρ v u) {es : List (Txt × V)} {kvs : List (Str × Value)} (h : All2 (DK C ρ) es kvs) : All2 (DK C ρ) (stA es k v) (PySem.stored kvs ⟨k.toArray⟩ u) := by
  have eqk : ∀ {e : Txt × V} {kv : Str × Value}, DK C ρ e kv → (kv.1 = ⟨k.toArray⟩ ↔ e.1 = k) := fun he => by
    rw [he.1]; exact ⟨str_inj, fun q => by rw [q]⟩
  have hany : (kvs.any fun kv => decide (kv.1 = ⟨k.toArray⟩)) = es.any fun e => decide (e.1 = k) := by
    induction h with
    | nil => rfl
    | cons he _ ih => rw [List.any_cons, List.any_cons, ih, decide_eq_decide.mpr (eqk he)]
  unfold stA PySem.stored
  rw [hany]
  split
  · rename_i hh
    clear hany hh
    induction h with
    | nil => exact .nil
    | @cons e kv es kvs he _ ih =>
      rw [List.map_cons, List.map_cons]
      refine .cons ?_ ih
      by_cases q : e.1 = k
      · rw [if_pos q, if_pos ((eqk he).mpr q)]; exact ⟨he.1, he.2.1, hv⟩
      · rw [if_neg q, if_neg fun z => q ((eqk he).mp z)]; exact he
  · exact h.append (.cons ⟨rfl, ok, hv⟩ .nil)
theorem get_map_key {es : List (Txt × V)} {i : Nat} {x : Item} (h : (es.map fun e => Item.one (.str e.1))[i]? = some x) : ∃ e, x = .one (.str e.1) ∧ es[i]? = some e := by
  rw [List.getElem?_map] at h
  cases e : es[i]? with
  | none => rw [e] at h; cases h
  | some v => rw [e] at h; cases h; exact ⟨v, rfl, rfl⟩
theorem itr_dict (hA : A.handled = none) {I a : Addr} {n : Nat} {es : List (Txt × V)} {ep : Nat} {ρ0 : List Addr} (hn : ρ0[n]? = some a) :
    Itr C A ρ0 (es.map fun e => Item.one (.str e.1)) (fun H => H[n]? = some (.dict es ep)) I [I] (fun i h => h.IsKeyIter I a i es.length ep) where
  frame := fun i h h' x k => by obtain ⟨o, ho, hc, r⟩ := x; exact ⟨o, k I (.head _) o ho (no_ns r), hc, r⟩
  alive := fun i h x b hb => by simp at hb; subst hb; obtain ⟨o, ho, _⟩ := x; exact ⟨o, ho⟩
  next := fun i x target ρ H s E hx ht hst S hρ hK hw => by
    obtain ⟨e, rfl, he⟩ := get_map_key hx
    have hna := ext_at hn hρ
    have ho := S.obj n a _ hna hK
    obtain ⟨kvs, hd, hk⟩ := dict_at ho
    obtain ⟨kv, e2, hi, okk, _⟩ := hk.get i e he
    rw [hk.length] at hst ⊢
    refine wpAny_pyNext_dict_item hst hd (k := kv.1) (v := kv.2) e2 fun key h' hkey hit hsb => ⟨key, rfl, ?_⟩
    obtain ⟨o, ho', hc1, hd1⟩ := id hit
    rw [hi] at hkey
    obtain ⟨tk, rfl⟩ := Value.isStrOf_shape hkey
    exact letGo_other ho' hc1 hd1 (by decide) ⟨h', s.toks, rfl, vt (C := C) (ρ := ρ) okk tk, hit, fun b o hb e => (hsb.2 b fun z => hb (by simp [z])).trans e⟩
  done := fun ρ H s E hst S hρ hK hw => by
    have hna := ext_at hn hρ
    obtain ⟨kvs, hd, hk⟩ := dict_at (S.obj n a _ hna hK)
    rw [List.length_map, hk.length] at hst
    exact wpAny_pyNext_dict_end hA hst hd (by simp) fun h' he => ⟨rfl, h', s.toks, rfl, fun b o hb e => he b o (fun z => hb (by simp [z])) e⟩
  self := fun i s Q E hst hq => wpAny_pyIter_keyiter hst hq
variable {T : Tab} {K : Nat} {env : Env}
theorem fresh_new {ρ : List Addr} {H : AHeap} {s : Shared} (S : Sim C ρ H s) : s.heap.objs.size ∉ ρ := fun hm => by
  obtain ⟨i, hi, e⟩ := List.getElem_of_mem hm
  have hi' : i < H.length := by rw [← S.len]; exact hi
  obtain ⟨ob, q⟩ := (S.obj i _ H[i] (by rw [List.getElem?_eq_getElem hi, e]) (List.getElem?_eq_getElem hi')).alive C
  rw [get_size] at q; cases q
theorem none_before {ρ ρ' : List Addr} {s s' : Shared} {ex : Addr → Prop} (st : StepG ex ρ s ρ' s') {a : Addr} (h : s'.heap.get? a = none) : s.heap.get? a = none := by
  cases e : s.heap.get? a with
  | none => rfl
  | some o => obtain ⟨o', q⟩ := st.live a o e; rw [h] at q; cases q
theorem ready_new {ρ ρ1 : List Addr} {H1 : AHeap} {s s1 : Shared} {o : Obj} {q : List Item → (AHeap → Prop) → AHeap → Prop} {items : List Item} {Kp : AHeap → Prop} {St : Nat → Heap → Prop} (st1 : Step ρ s ρ1 s1) (S1 : Sim C ρ1 H1 s1)
    (hI : Itr C A ρ1 items Kp s1.heap.objs.size [s1.heap.objs.size] St) (hSt : St 0 (s1.heap.push o)) (hq : q items Kp H1) : Ready' C A ρ s q (.ref s1.heap.objs.size) { s1 with heap := s1.heap.push o } := by
  obtain ⟨S2, st2⟩ := S1.grow (h' := s1.heap.push o) (tk := s1.toks) get_push
  exact ⟨ρ1, H1, _, _, _, [s1.heap.objs.size], _, rfl, hI, hSt, st1.trans st2, S2, fun b hb => by cases List.mem_singleton.mp hb; exact ⟨none_before st1 (get_size _), fresh_new S1⟩, hq⟩
theorem it_val (hT : TabOk C T K) {e : Expr} {pe : PE} (he : EvOk C T K env e pe) : ItOk C T K env e (.itVal pe) := by
  intro σ ρ H s A q X E F S hA h hE
  refine he.bind F S hA h hE fun ρ1 H1 v1 u1 s1 st1 F1 S1 hv1 hq1 hE1 => ?_
  cases hq1 with
  | str hq1 =>
    obtain ⟨ok, tk, rfl⟩ := hv1
    rename_i t
    cases ha : (⟨t.toArray⟩ : Str).cps.all (· < 128) with
    | true => exact wpAny_pyIter_ascii ha (ready_new st1 S1 (itr_ascii hA.h ok) ⟨_, Heap.get?_push_size _ rfl, rfl, rfl⟩ hq1)
    | false => exact wpAny_pyIter_wide ha (ready_new st1 S1 (itr_wide hA.h ok) ⟨_, Heap.get?_push_size _ rfl, rfl, rfl⟩ hq1)
  | list e1 hq1 =>
    obtain ⟨a, rfl, ea, us, m, ho, hs, _⟩ := S1.lookup e1 hv1
    exact wpAny_pyIter_list ⟨_, ho, rfl, m, rfl⟩ (ready_new st1 S1 (itr_list hA.h ea) ⟨_, Heap.get?_push_size _ rfl, rfl, rfl⟩ hq1)
  | tuple e1 hq1 =>
    obtain ⟨a, rfl, ea, us, m, ho, hs, _⟩ := S1.lookup e1 hv1
    exact wpAny_pyIter_tuple ⟨_, ho, rfl, m, rfl⟩ (ready_new st1 S1 (itr_tuple hA.h ea) ⟨_, Heap.get?_push_size _ rfl, rfl, rfl⟩ hq1)
  | dict hcm e1 hq1 =>
    obtain ⟨a, rfl, ea, hor⟩ := S1.lookup e1 hv1
    obtain ⟨kvs, hd, hk⟩ := dict_at hor
    refine wpAny_pyIter_dict (S1.not_sm ea) hd (ready_new st1 S1 (itr_dict (hA.hc (hT.calm hcm)) ea) ⟨_, Heap.get?_push_size _ rfl, rfl, ?_⟩ hq1)
    rw [← hk.length]; rfl
theorem type_call1 {g : Str} {t : String} {p pos : Pos} {e : Expr} {pe : PE} {R : Value → Shared → Prop} (hk : env.kindOf g = some .globalImplicit) (hg : C.G g = some (.type t)) (hd : (g == Str.ofString "__debug__") = false) (hs : isStar e = false)
    (he : EvOk C T K env e pe) {σ : Sg} {ρ : List Addr} {H : AHeap} {s : Shared} {Q : VPost} {X : XPost} {E : Value → Shared → Prop}
    (F : FR C env σ ρ s.heap) (S : Sim C ρ H s) (hA : AOk C K A) (h : (sem T pe).ev σ H Q X) (hE : Takes C ρ s X E)
    (k : ∀ ρ' H' v u s', Step ρ s ρ' s' → FR C env σ ρ' s'.heap → Sim C ρ' H' s' → VR C ρ' v u → Q v H' → Takes C ρ' s' X E → wpAny C.M A (call (.type t) [u]) R E s') : wpAny C.M A (eval (.Call (.Name g p) [e] [] pos) env) R E s := by
  have hs' : ∀ x ∈ [e], isStar x = false := fun x hx => by simp at hx; subst hx; exact hs
  have e1 : starEach [e] env = (false, eval e env) :: starEach [] env := star_cons hs []
  show wpAny C.M A (do callWith pos (← eval (.Name g p) env) [] (backTo pos (starEach [e] env)) []) R E s
  refine wpAny_bind (global_ok F S hk hg hd ?_)
  refine callWith_any (any_false hs') (evalArgs_any hs' ?_)
  refine wpAny_items_cons (he.bind F S hA h hE fun ρ' H' v u s' st F' S' hv hq hE' => wpAny_items_nil ⟨.inr (.inl ⟨t, rfl⟩), ?_⟩) e1
  exact k ρ' H' v u s' st F' S' hv hq hE'
theorem range_ready {ρ ρ1 : List Addr} {H1 : AHeap} {s s1 : Shared} {r : Addr} {a b : Int} {t u v : Tok} {q : List Item → (AHeap → Prop) → AHeap → Prop} {E : Value → Shared → Prop} (hA : HdOk C A) (st1 : Step ρ s ρ1 s1) (S1 : Sim C ρ1 H1 s1)
    (hr : IsRange s1.heap r a b 1 t u v) (ha : -(2 ^ 62) ≤ a) (ha' : a < 2 ^ 62) (hb : -(2 ^ 62) ≤ b) (hb' : b < 2 ^ 62) (hq : q ((intsFrom a (b - a).toNat).map fun i => .one (.int i)) (fun _ => True) H1) :
    wpAny C.M A (pyIter (.ref r)) (Ready' C A ρ s q) E s1 := by
  refine wpAny_pyIter_range hr (small_one ha ha' hb hb') ?_
  rw [rangeSize_one]
  have hz : ((if a < b then b - a else 0 : Int)) = (((b - a).toNat : Nat) : Int) := by split <;> lia
  rw [hz]
  have hi := itr_range (C := C) (A := A) hA (I := s1.heap.objs.size) (a := a) (c := 1) (n := (b - a).toNat) (ρ0 := ρ1)
  have hitems : ((List.range (b - a).toNat).map fun k => Item.one (.int (a + (k : Nat) * 1))) = (intsFrom a (b - a).toNat).map fun i => Item.one (.int i) := by
    unfold intsFrom; rw [List.map_map]; simp
  rw [hitems] at hi
  refine ready_new st1 S1 hi ?_ hq
  have := Heap.get?_push_size s1.heap (o := { cls := .type "range_iterator", data := .fields #[rawInt a, rawInt (((b - a).toNat : Nat) : Int), rawInt 1] }) rfl
  simpa using this
theorem it_range1 (hT : TabOk C T K) {g : Str} {p pos : Pos} {e : Expr} {pe : PE} (hg : isG env.kindOf g "range" = true) (hs : isStar e = false) (he : EvOk C T K env e pe) : ItOk C T K env (.Call (.Name g p) [e] [] pos) (.itRange1 pe) := by
  intro σ ρ H s A q X E F S hA h hE
  unfold isG at hg
  obtain ⟨hg1, hg2⟩ := Bool.and_eq_true_iff.mp hg
  have hg1 := beq_iff_eq.mp hg1
  subst hg1
  refine type_call1 (beq_iff_eq.mp hg2) hT.range (by decide +kernel) hs he F S hA h hE fun ρ1 H1 v1 u1 s1 st1 F1 S1 hv1 hq1 hE1 => ?_
  split at hq1
  · rename_i j
    obtain ⟨hj0, hj, hq1⟩ := hq1
    obtain ⟨tk, rfl⟩ := hv1
    unfold lid at hj
    obtain ⟨S2, st2⟩ := S1.grow (h' := s1.heap.push { cls := .type "range", data := .fields #[.int 0 s1.toks, .int j tk, .int 1 (s1.toks + 1)] }) (tk := s1.toks + 1 + 1) get_push
    refine call_range_1 (range_ready hA.h (st1.trans st2) S2 (IsRange.new _ _ _ _ _ _ _) (by lia) (by lia) (by lia) (by lia) ?_)
    rw [Int.sub_zero]; exact hq1
  · exact hq1.elim
theorem it_range2 (hT : TabOk C T K) {g : Str} {p pos : Pos} {e1 e2 : Expr} {p1 p2 : PE} (hg : isG env.kindOf g "range" = true) (hs1 : isStar e1 = false) (hs2 : isStar e2 = false)
    (he1 : EvOk C T K env e1 p1) (he2 : EvOk C T K env e2 p2) : ItOk C T K env (.Call (.Name g p) [e1, e2] [] pos) (.itRange2 p1 p2) := by
  intro σ ρ H s A q X E F S hA h hE
  unfold isG at hg
  obtain ⟨hg1, hg2⟩ := Bool.and_eq_true_iff.mp hg
  have hg1 := beq_iff_eq.mp hg1
  subst hg1
  have hs' : ∀ x ∈ [e1, e2], isStar x = false := fun x hx => by
    rcases List.mem_cons.mp hx with rfl | hx
    · exact hs1
    · simp at hx; subst hx; exact hs2
  have q1 : starEach [e1, e2] env = (false, eval e1 env) :: starEach [e2] env := star_cons hs1 [e2]
  have q2 : starEach [e2] env = (false, eval e2 env) :: starEach [] env := star_cons hs2 []
  show wpAny C.M A (do callWith pos (← eval (.Name (Str.ofString "range") p) env) [] (backTo pos (starEach [e1, e2] env)) []) _ E s
  refine wpAny_bind (global_ok F S (beq_iff_eq.mp hg2) hT.range (by decide +kernel) ?_)
  refine callWith_any (any_false hs') (evalArgs_any hs' ?_)
  refine wpAny_items_cons (he1.bind F S hA h hE fun ρ1 H1 v1 u1 s1 st1 F1 S1 hv1 hq1 hE1 => wpAny_items_cons (he2.bind F1 S1 hA hq1 hE1 fun ρ2 H2 v2 u2 s2 st2 F2 S2 hv2 hq2 hE2 => wpAny_items_nil ⟨.inr (.inl ⟨_, rfl⟩), ?_⟩) q2) q1
  split at hq2
  · rename_i i j
    obtain ⟨hi0, hi, hj0, hj, hq2⟩ := hq2
    obtain ⟨tk, rfl⟩ := hv1
    obtain ⟨tk2, rfl⟩ := hv2
    unfold lid at hi hj
    obtain ⟨S3, st3⟩ := S2.grow (h' := s2.heap.push { cls := .type "range", data := .fields #[.int i tk, .int j tk2, .int 1 s2.toks] }) (tk := s2.toks + 1) get_push
    exact call_range_2 (range_ready hA.h ((st1.trans st2).trans st3) S3 (IsRange.new _ _ _ _ _ _ _) (by lia) (by lia) (by lia) (by lia) hq2)
  · exact hq2.elim
theorem get_map_enum {xs : List V} {i : Nat} {x : Item} (h : (xs.zipIdx.map fun p => Item.many [.int p.2, p.1])[i]? = some x) : ∃ v, x = .many [.int i, v] ∧ xs[i]? = some v := by
  rw [List.getElem?_map, List.getElem?_zipIdx] at h
  cases e : xs[i]? with
  | none => rw [e] at h; cases h
  | some v => rw [e] at h; simp at h; exact ⟨v, h.symm, rfl⟩
theorem itr_enum (hA : A.handled = none) {e it a : Addr} {n : Nat} {xs : List V} {ρ0 : List Addr} (hn : ρ0[n]? = some a) (hne : e ≠ it) :
    Itr C A ρ0 (xs.zipIdx.map fun p => Item.many [.int p.2, p.1]) (fun H => H[n]? = some (.list xs)) e [e, it] (fun i h => (∃ old, IsEnum h e it i old) ∧ h.IsListIter it a i) where
  frame := fun i h h' x k => ⟨by obtain ⟨old, z⟩ := x.1; exact ⟨old, k e (.head _) _ z (no_ns rfl)⟩, by obtain ⟨o, ho, hc, r⟩ := x.2; exact ⟨o, k it (.tail _ (.head _)) o ho (no_ns r), hc, r⟩⟩
  alive := fun i h x b hb => by
    rcases List.mem_cons.mp hb with rfl | hb
    · obtain ⟨⟨old, z⟩, _⟩ := x; exact ⟨_, z⟩
    · simp at hb; subst hb; obtain ⟨_, o, ho, _⟩ := x; exact ⟨o, ho⟩
  next := fun i x target ρ H s E hx ht hst S hρ hK hw => by
    obtain ⟨v, rfl, hv⟩ := get_map_enum hx
    have hna := ext_at hn hρ
    obtain ⟨us, m, ho, hs, _⟩ := S.obj n a _ hna hK
    obtain ⟨u, hu, hr⟩ := hs.get i v hv
    obtain ⟨⟨old, he⟩, hit⟩ := hst
    cases target <;> first | exact ht.elim | skip
    refine wpAny_pyNext_enum_item he hit ⟨_, ho, rfl, m, rfl⟩ (by rw [← Array.getElem?_toList]; exact hu) hne fun h' hout hit' htup hsz hk => ⟨_, rfl, ?_⟩
    refine wpAny_letOwnedTupleGo_enum hout fun h'' he'' hsb => ⟨h'', s.toks + 1, rfl, ⟨s.heap.objs.size, _, _, rfl, (hsb.2 _ fun z => ?_).trans htup, get_size _, .cons (vi _ _) (.cons hr .nil)⟩, ⟨⟨u, he''⟩, hit'.at fun o z => (hsb.2 it (Ne.symm hne)).trans z⟩, fun b o hb z => (hsb.2 b fun q => hb (by simp [q])).trans (hk b o (fun q => hb (by simp [q])) (fun q => hb (by simp [q])) z)⟩
    have := Heap.lt_size he
    rw [← z] at this
    exact absurd this (Nat.lt_irrefl _)
  done := fun ρ H s E hst S hρ hK hw => by
    have hna := ext_at hn hρ
    obtain ⟨us, m, ho, hs, _⟩ := S.obj n a _ hna hK
    obtain ⟨⟨old, he⟩, hit⟩ := hst
    simp only [List.length_map, List.length_zipIdx] at he hit
    exact wpAny_pyNext_enum_end hA he hit ⟨_, ho, rfl, m, rfl⟩ (by rw [← Array.getElem?_toList, hs.length, List.getElem?_eq_none (Nat.le_refl _)]) fun h' hx => ⟨rfl, h', s.toks, rfl, fun b o hb z => hx b o (fun q => hb (by simp [q])) z⟩
  self := fun i s Q E hst hq => by
    obtain ⟨⟨old, he⟩, _⟩ := hst
    exact wpAny_pyIter_enum he hq
theorem it_enum (hT : TabOk C T K) {g : Str} {p pos : Pos} {e : Expr} {pe : PE} (hg : isG env.kindOf g "enumerate" = true) (hs : isStar e = false) (he : EvOk C T K env e pe) : ItOk C T K env (.Call (.Name g p) [e] [] pos) (.itEnum pe) := by
  intro σ ρ H s A q X E F S hA h hE
  unfold isG at hg
  obtain ⟨hg1, hg2⟩ := Bool.and_eq_true_iff.mp hg
  have hg1 := beq_iff_eq.mp hg1
  subst hg1
  refine type_call1 (beq_iff_eq.mp hg2) hT.enum (by decide +kernel) hs he F S hA h.2 hE fun ρ1 H1 v1 u1 s1 st1 F1 S1 hv1 hq1 hE1 => ?_
  obtain ⟨n, xs, rfl, e1, hq1⟩ := hq1
  obtain ⟨a, rfl, ea, us, m, ho, hs, _⟩ := S1.lookup e1 hv1
  refine call_enumerate_list ⟨_, ho, rfl, m, rfl⟩ fun h' hen hit hsz hk => ?_
  refine wpAny_pyIter_enum hen ?_
  obtain ⟨S2, st2⟩ := S1.grow (h' := h') (tk := s1.toks) hk
  refine ⟨ρ1, H1, _, _, _, [_, _], _, rfl, itr_enum (hA.hc (hT.calm h.1)) ea (Nat.succ_ne_self _), ⟨⟨_, hen⟩, hit⟩, st1.trans st2, S2, fun b hb => ?_, hq1⟩
  have hn : ∀ k, s1.heap.objs.size ≤ k → s1.heap.get? k = none := fun k hk => by
    cases e : s1.heap.get? k with
    | none => rfl
    | some o => exact absurd (Heap.lt_size e) (Nat.not_lt.mpr hk)
  have hnr : ∀ k, s1.heap.objs.size ≤ k → k ∉ ρ1 := fun k hk hm => by
    obtain ⟨i, hi, e⟩ := List.getElem_of_mem hm
    have hi' : i < H1.length := by rw [← S1.len]; exact hi
    obtain ⟨ob, q⟩ := (S1.obj i _ H1[i] (by rw [List.getElem?_eq_getElem hi, e]) (List.getElem?_eq_getElem hi')).alive C
    rw [hn k hk] at q; cases q
  rcases List.mem_cons.mp hb with rfl | hb
  · exact ⟨none_before st1 (hn _ (Nat.le_succ _)), hnr _ (Nat.le_succ _)⟩
  · simp at hb; subst hb
    exact ⟨none_before st1 (hn _ (Nat.le_refl _)), hnr _ (Nat.le_refl _)⟩
end
end Mine
end
section
namespace Mine
open PySem PySem.Calls PyProof.Rows
section
variable {C : Cx} {env : Env} {A : Around} {E : Value → Shared → Prop}
theorem stored_iff {k : Kd} {x : Str} (h : stored k x = true) : k x = some .local ∨ k x = some .cell := by
  unfold stored at h
  rcases Bool.or_eq_true_iff.mp (Bool.and_eq_true_iff.mp h).1 with h | h
  · exact .inl (by simpa using h)
  · exact .inr (by simpa using h)
theorem stored_ne {k : Kd} {x : Str} (h : stored k x = true) : x ≠ dot0 := by
  unfold stored at h
  simpa using (Bool.and_eq_true_iff.mp h).2
theorem tgt_each : ∀ {elts : List Expr} {xs : List Str}, tgtNames elts = some xs → ∃ ps : List Pos, ps.length = xs.length ∧ (assignEach elts env).map (·.2) = (xs.zip ps).map (fun p u => assign (.Name p.1 p.2) env u) ∧ (assignEach elts env).findIdx? (·.1) = none ∧ (assignEach elts env).length = xs.length
  | [], _, h => by cases h; exact ⟨[], rfl, rfl, rfl, rfl⟩
  | e :: r, xs, h => by
    unfold tgtNames at h
    split at h
    · rename_i x p he
      cases asName_is he
      obtain ⟨ys, hr, rfl⟩ := Option.map_eq_some_iff.mp h
      obtain ⟨ps, h1, h2, h3, h5⟩ := tgt_each hr
      have e1 : assignEach (.Name x p :: r) env = (false, assign (.Name x p) env) :: assignEach r env := rfl
      refine ⟨p :: ps, congrArg (· + 1) h1, ?_, ?_, congrArg (· + 1) h5⟩
      · rw [e1, List.map_cons, List.zip_cons_cons, List.map_cons, h2]
      · rw [e1, List.findIdx?_cons, h3]; rfl
    · cases h
theorem stores_zip {Z : List Str} : ∀ (xs : List Str) (ps : List Pos) (vs : List V) (us : List Value) (σ : Sg) (ρ : List Addr) (H : AHeap) (s : Shared) (Q : Unit → Shared → Prop), ps.length = xs.length →
    xs.length = vs.length → All2 (VR C ρ) vs us → (∀ x ∈ xs, x ∈ Z) → (∀ x ∈ xs, stored env.kindOf x = true) → FR C env σ ρ s.heap → Sim C ρ H s →
    (∀ s', FR C env (σ.sets (xs.zip vs)) ρ s'.heap → Sim C ρ H s' → StepG (ownT env Z) ρ s ρ s' → Q () s') → wpAny C.M A (assignInOrder ((xs.zip ps).map fun p u => assign (.Name p.1 p.2) env u) us) Q E s
  | [], _, [], _, σ, ρ, H, s, Q, _, _, .nil, _, _, F, S, h => by rw [List.zip_nil_left]; exact wpAny_pure (h s F S (StepG.refl _ _))
  | x :: xs, p :: ps, v :: vs, _, σ, ρ, H, s, Q, hp, hl,   .cons (b := u) (bs := us) hv hr, hz, hk, F, S, h => by
    rw [List.zip_cons_cons, List.map_cons, assignInOrder]
    refine wpAny_bind (wpAny_holding (assign_Name (store_ok F S (hz x (.head _)) (stored_iff (hk x (.head _))) (stored_ne (hk x (.head _))) hv fun s1 F1 S1 st1 => ?_)))
    refine stores_zip xs ps vs us _ ρ H s1 Q (by simpa using hp) (by simpa using hl) hr (fun y hy => hz y (.tail _ hy)) (fun y hy => hk y (.tail _ hy)) F1 S1 fun s2 F2 S2 st2 => h s2 F2 S2 (st1.trans st2)
  | _ :: _, [], _, _, _, _, _, _, _, hp, _, _, _, _, _, _, _ => by simp at hp
  | [], _, _ :: _, _, _, _, _, _, _, _, hl, _, _, _, _, _, _ => by simp at hl
  | _ :: _, _, [], _, _, _, _, _, _, _, hl, _, _, _, _, _, _ => by simp at hl
theorem unpack_tuple {ρ : List Addr} {H : AHeap} {s : Shared} {t : Addr} {us : Array Value} {n m : Nat} {Q : List Value → Shared → Prop} (hA : HdOk C A) (S : Sim C ρ H s) (ho : s.heap.get? t = some ⟨.type "tuple", none, .seq us n, #[]⟩) (hm : m = us.size)
    (h : ∀ h', (∀ b o, s.heap.get? b = some o → h'.get? b = some o) → Q us.toList { s with heap := h' }) : wpAny C.M A (unpackItems (.ref t) m none) Q E s := by
  subst hm
  exact unpackItems_at (hA.at S) ⟨_, ho, rfl, n, rfl⟩ fun h' he => h h' fun b o e => he b o (Nat.ne_of_lt (Heap.lt_size e)) e
theorem assign_ok {t : Expr} {t' : Tgt} {x : Item} {u : Value} {σ σ' : Sg} {ρ : List Addr} {H : AHeap} {s : Shared} {h0 : Heap} {Q : Unit → Shared → Prop} (hA : HdOk C A) (ht : trT env.kindOf t = some t') (hb : bindA t' x H σ = some σ') (hx : IR C ρ h0 s.heap x u)
    (F : FR C env σ ρ s.heap) (S : Sim C ρ H s) (h : ∀ s', FR C env σ' ρ s'.heap → Sim C ρ H s' → StepG (ownT env t'.names) ρ s ρ s' → Q () s') : wpAny C.M A (assign t env u) Q E s := by
  cases x with
  | one v =>
    unfold trT at ht
    split at ht
    · rename_i y p e
      cases asName_is e
      split at ht
      · rename_i hk
        cases ht
        cases hb
        exact assign_Name (store_ok F S (Z := [y]) (.head _) (stored_iff hk) (stored_ne hk) hx h)
      · cases ht
    · split at ht
      · rename_i elts k p e
        cases asTup_is e
        split at ht
        · rename_i xs hxs
          split at ht
          · rename_i hk
            cases ht
            have hk1 : ∀ x ∈ xs, stored env.kindOf x = true := List.all_eq_true.mp (Bool.and_eq_true_iff.mp hk).1
            obtain ⟨ps, h1, h2, h3, h5⟩ := tgt_each (env := env) hxs
            rw [arm_assign_Tuple]
            refine wpAny_bind (wpAny_standAt ?_)
            unfold unpack
            rw [h2, h3, h5]
            unfold bindA at hb
            dsimp only at hb
            split at hb
            · rename_i n
              split at hb
              · rename_i vs e1
                split at hb
                · rename_i hl
                  cases hb
                  obtain ⟨a, rfl, ea, us, m, ho, hs, _⟩ := S.lookup e1 hx
                  have hz : xs.length = us.size := hl.trans (hs.length.trans Array.length_toList)
                  refine wpAny_bind (wpAny_holding (unpack_tuple hA S ho hz fun h' hk' => ?_))
                  obtain ⟨S1, st1⟩ := S.grow (h' := h') (tk := s.toks) hk'
                  exact stores_zip (Z := xs) xs ps vs us.toList σ ρ H _ Q h1 hl hs (fun _ h => h) hk1 (F.step st1) S1 fun s2 F2 S2 st2 => h s2 F2 S2 ((StepG.up st1).trans st2)
                · cases hb
              · cases hb
            · cases hb
          · cases ht
        · cases ht
      · cases ht
  | many vs =>
    unfold trT at ht
    split at ht
    · split at ht
      · cases ht; cases hb
      · cases ht
    · split at ht
      · rename_i elts k p e
        cases asTup_is e
        split at ht
        · rename_i xs hxs
          split at ht
          · rename_i hk
            cases ht
            have hk1 : ∀ x ∈ xs, stored env.kindOf x = true := List.all_eq_true.mp (Bool.and_eq_true_iff.mp hk).1
            obtain ⟨ps, h1, h2, h3, h5⟩ := tgt_each (env := env) hxs
            rw [arm_assign_Tuple]
            refine wpAny_bind (wpAny_standAt ?_)
            unfold unpack
            rw [h2, h3, h5]
            unfold bindA at hb
            dsimp only at hb
            split at hb
            · rename_i hl
              cases hb
              obtain ⟨a, us, m, rfl, ho, _, hs⟩ := hx
              have hz : xs.length = us.size := hl.trans (hs.length.trans Array.length_toList)
              refine wpAny_bind (wpAny_holding (unpack_tuple hA S ho hz fun h' hk' => ?_))
              obtain ⟨S1, st1⟩ := S.grow (h' := h') (tk := s.toks) hk'
              exact stores_zip (Z := xs) xs ps vs us.toList σ ρ H _ Q h1 hl hs (fun _ h => h) hk1 (F.step st1) S1 fun s2 F2 S2 st2 => h s2 F2 S2 ((StepG.up st1).trans st2)
            · cases hb
          · cases ht
        · cases ht
      · cases ht
end
end Mine
end
section
namespace Mine
open PySem PySem.Calls PyProof.Rows
section
variable {C : Cx} {env : Env} {A : Around} {E : Value → Shared → Prop}
theorem FR.at {σ : Sg} {ρ : List Addr} {h h' : Heap} (F : FR C env σ ρ h) (k : ∀ b, own env b → ∀ o, h.get? b = some o → h'.get? b = some o) : FR C env σ ρ h' := by
  refine ⟨F.dot, F.kind, F.glob, F.bl, ?_, fun x c hc => ?_, F.has, F.nL, F.nC, F.apart, F.bL, F.bC⟩
  · obtain ⟨m, hn, hv⟩ := F.ns
    exact ⟨m, hn.at' fun o q => k _ (.inl rfl) o q, hv⟩
  · obtain ⟨ov, ⟨o, ho, hd⟩, hv⟩ := F.cells x c hc
    exact ⟨ov, ⟨o, k _ (.inr ⟨x, hc⟩) o ho, hd⟩, hv⟩
theorem FR.less {σ σ' : Sg} {ρ : List Addr} {h : Heap} (F : FR C env σ ρ h) (l : ∀ x v, σ' x = some v → σ x = some v) : FR C env σ' ρ h := by
  refine ⟨?_, F.kind, F.glob, F.bl, ?_, fun x c hc => ?_, F.has, F.nL, F.nC, F.apart, F.bL, F.bC⟩
  · cases e : σ' dot0 with
    | none => rfl
    | some v => have := l _ _ e; rw [F.dot] at this; cases this
  · obtain ⟨m, hn, hv⟩ := F.ns
    exact ⟨m, hn, fun x v h1 h2 => hv x v (l _ _ h1) h2⟩
  · obtain ⟨ov, hi, hv⟩ := F.cells x c hc
    exact ⟨ov, hi, fun v h1 h2 => hv v (l _ _ h1) h2⟩
theorem FR.alive {σ : Sg} {ρ : List Addr} {h : Heap} (F : FR C env σ ρ h) : ∀ b, own env b → ∃ o, h.get? b = some o
  | _, .inl e => by obtain ⟨m, ⟨o, es, ep, ho, _⟩, _⟩ := F.ns; exact ⟨o, e ▸ ho⟩
  | _, .inr ⟨x, e⟩ => by obtain ⟨ov, ⟨o, ho, _⟩, _⟩ := F.cells x _ e; exact ⟨o, ho⟩
theorem adrift {ex : Addr → Prop} {ρ ρ1 : List Addr} {H1 : AHeap} {s t : Shared} {W : Addr → Prop} {h' : Heap} {tk : Nat} (st : StepG ex ρ s ρ1 t) (S : Sim C ρ1 H1 t) (hW : ∀ b, W b → s.heap.get? b = none ∧ b ∉ ρ1 ∧ C.base.get? b = none)
    (k : ∀ b o, ¬ W b → t.heap.get? b = some o → h'.get? b = some o) (h0 : FrsOk C ρ s.heap) : StepG ex ρ s ρ1 { t with heap := h', toks := tk } ∧ Sim C ρ1 H1 { t with heap := h', toks := tk } := by
  refine ⟨⟨st.ext, fun b o hb hx e => (st.keep b o hb hx e).trans fun o' q => .inl (k b o' (fun w => ?_) q), fun b o e => ?_⟩, ⟨S.len, S.nodup, fun i a o e q => ?_, fun b o e => k b o (fun w => ?_) (S.stays b o e), S.fresh, S.sm, S.gens, S.os, fun env he => by
    obtain ⟨_, L, o, h2, _, _, h5, _⟩ := h0 env he
    obtain ⟨k1, L', o', k2, k3, k4, k5, k6⟩ := S.frs env he
    cases h2.symm.trans k2
    exact ⟨k1, L, o', k2, k3, k4, k _ _ (fun w => by rw [(hW L w).1] at h5; cases h5) k5, k6⟩⟩⟩
  · rw [(hW b w).1] at e; cases e
  · obtain ⟨o1, e1⟩ := st.live b o e
    exact ⟨o1, k b o1 (fun w => by rw [(hW b w).1] at e; cases e) e1⟩
  · exact (S.obj i a o e q).keep C [] (by simp) fun x hx => k a x (fun w => (hW a w).2.1 (List.mem_of_getElem? e)) hx
  · rw [(hW b w).2.2] at e; cases e
theorem Sim.adopt {ρ : List Addr} {H : AHeap} {t : Shared} {D : Addr} {o : AObj} (S : Sim C ρ H t) (hD : D ∉ ρ) (hb : C.base.get? D = none) (hsm : D ≠ sysModules) (ho : OR C ρ t.heap D o) (hnd : ∀ x, t.heap.get? D = some x → ¬ IsNs x) :
    Sim C (ρ ++ [D]) (H ++ [o]) t ∧ VR C (ρ ++ [D]) (.ref H.length) (.ref D) := by
  refine ⟨⟨by simp [S.len], ?_, fun i b x e q => ?_, S.stays, fun i b e hi => ?_, ?_, S.gens, S.os, S.frs.to C fun b o _ hb' hn e => ⟨fun hm => (List.mem_append.mp hm).elim hb' fun z => hnd o (by rw [← List.mem_singleton.mp z]; exact e) hn, o, e, hn⟩⟩, ⟨D, rfl, by rw [← S.len]; simp⟩⟩
  · rw [List.nodup_append]
    exact ⟨S.nodup, by simp, fun x hx y hy => by simp at hy; rw [hy]; exact fun q => hD (q ▸ hx)⟩
  · rcases Nat.lt_or_ge i ρ.length with hi | hi
    · rw [List.getElem?_append_left hi] at e
      rw [List.getElem?_append_left (S.len ▸ hi)] at q
      exact (S.obj i b x e q).keep C [D] rfl fun _ x => x
    · rw [List.getElem?_append_right hi] at e
      rw [List.getElem?_append_right (S.len ▸ hi)] at q
      rw [S.len] at e
      rcases Nat.eq_zero_or_pos (i - H.length) with z | z
      · rw [z] at e q
        simp at e q
        subst e q
        exact ho.keep C [D] rfl fun _ x => x
      · rw [List.getElem?_eq_none (by simp; lia)] at e; cases e
  · rcases Nat.lt_or_ge i ρ.length with hi' | hi'
    · rw [List.getElem?_append_left hi'] at e
      exact S.fresh i b e hi
    · rw [List.getElem?_append_right hi'] at e
      rcases Nat.eq_zero_or_pos (i - ρ.length) with z | z
      · rw [z] at e; simp at e; rw [← e]; exact hb
      · rw [List.getElem?_eq_none (by simp; lia)] at e; cases e
  · intro hq
    rcases List.mem_append.mp hq with hq | hq
    · exact S.sm hq
    · simp only [List.mem_singleton] at hq
      exact hsm hq.symm
theorem step_adopt {ρ ρ1 : List Addr} {s t : Shared} {D : Addr} (st : Step ρ s ρ1 t) (hD : s.heap.get? D = none) : Step ρ s (ρ1 ++ [D]) t := by
  obtain ⟨l, e, f⟩ := st.ext
  refine ⟨⟨l ++ [D], by rw [e, List.append_assoc], fun a ha => ?_⟩, st.keep, st.live⟩
  rcases List.mem_append.mp ha with ha | ha
  · exact f a ha
  · simp at ha; rw [ha]; exact hD
theorem base_none {ρ : List Addr} {H : AHeap} {s : Shared} (S : Sim C ρ H s) {b : Addr} (h : s.heap.get? b = none) : C.base.get? b = none := by
  cases e : C.base.get? b with
  | none => rfl
  | some o => rw [S.stays b o e] at h; cases h
theorem none_ρ {ρ : List Addr} {H : AHeap} {s : Shared} (S : Sim C ρ H s) {b : Addr} (h : s.heap.get? b = none) : b ∉ ρ := fun hm => by
  obtain ⟨i, hi, e⟩ := List.getElem_of_mem hm
  have hi' : i < H.length := by rw [← S.len]; exact hi
  obtain ⟨ob, q⟩ := (S.obj i b H[i] (by rw [List.getElem?_eq_getElem hi, e]) (List.getElem?_eq_getElem hi')).alive C
  rw [h] at q; cases q
theorem stay_out {ex : Addr → Prop} {ρ ρ1 : List Addr} {s t : Shared} (st : StepG ex ρ s ρ1 t) {b : Addr} {o : Obj} (h : s.heap.get? b = some o) (hb : b ∉ ρ) : b ∉ ρ1 := fun hm => by
  obtain ⟨l, e, f⟩ := st.ext
  rw [e] at hm
  rcases List.mem_append.mp hm with hm | hm
  · exact hb hm
  · rw [f b hm] at h; cases h
theorem closure_go (g : Str → Addr) : ∀ (names : List (Str × NameKind)) (acc : List (Str × Addr)), (∀ p ∈ names, p.2 = .free → env.cells.lookup p.1 = some (g p.1)) →
    (forIn names acc fun x r => match x with
      | (name, kind) => if (kind == NameKind.free) = true then do let c ← cellOf env name; pure (ForInStep.yield ((name, c) :: r)) else pure (ForInStep.yield r) : Sem (List (Str × Addr))) =
    pure (((names.filter fun p => p.2 == .free).map fun p => (p.1, g p.1)).reverse ++ acc)
  | [], acc, _ => rfl
  | (x, k) :: r, acc, h => by
    rw [List.forIn_cons]
    dsimp only
    by_cases hk : (k == NameKind.free) = true
    · have hc := h (x, k) (.head _) (by simpa using hk)
      have e1 : cellOf env x = pure (g x) := by unfold cellOf; rw [hc]
      rw [if_pos hk, e1]
      have ih := closure_go g r ((x, g x) :: acc) fun p hp => h p (.tail _ hp)
      simp only [List.filter_cons, hk, if_true, List.map_cons, List.reverse_cons, List.append_assoc, List.singleton_append]
      exact ih
    · rw [if_neg hk]
      have ih := closure_go g r acc fun p hp => h p (.tail _ hp)
      simp only [List.filter_cons, hk]
      exact ih
theorem closure_ok {sc : Scope} (hc : ∀ x, env.kindOf x = some .cell → ∃ c, env.cells.lookup x = some c) (hs : scOk sc env.kindOf = true) :
    ∃ cl, closureFor sc env = pure cl ∧ (∀ x c, cl.lookup x = some c → env.cells.lookup x = some c) ∧ (∀ x, (x, NameKind.free) ∈ sc.names → ∃ c, cl.lookup x = some c) := by
  have hs := (Bool.and_eq_true_iff.mp hs).2
  have hf : ∀ p ∈ sc.names, p.2 = .free → env.cells.lookup p.1 = some ((env.cells.lookup p.1).getD 0) := fun p hp hk => by
    have := List.all_eq_true.mp hs p hp
    rw [hk] at this
    dsimp only at this
    obtain ⟨c, hc'⟩ := hc p.1 (by simpa using this)
    rw [hc']; rfl
  refine ⟨((sc.names.filter fun p => p.2 == .free).map fun p => (p.1, (env.cells.lookup p.1).getD 0)).reverse ++ [], ?_, fun x c h => ?_, fun x h => ?_⟩
  · unfold closureFor
    have := closure_go (env := env) (fun x => (env.cells.lookup x).getD 0) sc.names [] hf
    simp only [this]
    rfl
  · have hm := mem_of_lookup h
    rw [List.append_nil, List.mem_reverse, List.mem_map] at hm
    obtain ⟨p, hp, e⟩ := hm
    obtain ⟨hp1, hp2⟩ := List.mem_filter.mp hp
    have := hf p hp1 (by simpa using hp2)
    cases e
    exact this
  · have hm : (x, (env.cells.lookup x).getD 0) ∈ ((sc.names.filter fun p => p.2 == .free).map fun p => (p.1, (env.cells.lookup p.1).getD 0)).reverse ++ [] := by
      rw [List.append_nil, List.mem_reverse, List.mem_map]
      exact ⟨(x, .free), List.mem_filter.mpr ⟨h, by rfl⟩, rfl⟩
    cases e : List.lookup x (((sc.names.filter fun (p : Str × NameKind) => p.2 == .free).map fun p => (p.1, (env.cells.lookup p.1).getD 0)).reverse ++ []) with
    | some c => exact ⟨c, rfl⟩
    | none =>
      exfalso
      rw [List.lookup_eq_none_iff] at e
      have := e _ hm
      simp at this
theorem inner_kind {sc : Scope} {cl : List (Str × Addr)} {L : Addr} (hf : env.scope.kind = .function) : (compEnvC sc cl L env).kindOf = inner sc env.kindOf := by
  funext x
  unfold Env.kindOf compEnvC relabel inner
  dsimp only
  rw [hf]
  congr 1
  refine List.map_congr_left fun p _ => ?_
  have : (NameKind.free == NameKind.free && (ScopeKind.function == ScopeKind.function)) = true := rfl
  simp only [beq_self_eq_true, Bool.and_true]
  rfl
theorem inner_cell {sc : Scope} (hs : scOk sc env.kindOf = true) {x : Str} (h : inner sc env.kindOf x = some .cell) : (x, NameKind.free) ∈ sc.names ∧ env.kindOf x = some .cell := by
  have hs := (Bool.and_eq_true_iff.mp hs).2
  unfold inner at h
  have hm := mem_of_lookup h
  obtain ⟨p, hp, e⟩ := List.mem_map.mp hm
  split at e
  · rename_i hc
    obtain ⟨h1, h2⟩ := Bool.and_eq_true_iff.mp hc
    cases e
    have h1 : p.2 = .free := by simpa using h1
    exact ⟨by rw [← h1]; exact hp, by simpa using h2⟩
  · have e1 : p = (x, NameKind.cell) := e
    subst e1
    have := List.all_eq_true.mp hs _ hp
    exact absurd this (by simp)
theorem inner_local {sc : Scope} (hs : scOk sc env.kindOf = true) {x : Str} (h : inner sc env.kindOf x = some .local) : (x, NameKind.local) ∈ sc.names := by
  unfold inner at h
  have hm := mem_of_lookup h
  obtain ⟨p, hp, e⟩ := List.mem_map.mp hm
  split at e
  · cases e
  · have e1 : p = (x, NameKind.local) := e
    exact e1 ▸ hp
theorem FR.comp {sc : Scope} {cl : List (Str × Addr)} {L : Addr} {σ σ0 : Sg} {ρ : List Addr} {h : Heap} {m : Str → Option Value} (F : FR C env σ ρ h) (hs : scOk sc env.kindOf = true) (h1 : ∀ x c, cl.lookup x = some c → env.cells.lookup x = some c)
    (h2 : ∀ x, (x, NameKind.free) ∈ sc.names → ∃ c, cl.lookup x = some c) (hl : h.Ns L m) (hL : L ∉ ρ) (hb : C.base.get? L = none) (hC : ∀ x, env.cells.lookup x ≠ some L) (l : ∀ x v, σ0 x = some v → σ x = some v ∧ (x, NameKind.local) ∉ sc.names) :
    FR C (compEnvC sc cl L env) σ0 ρ h := by
  have hk := inner_kind (sc := sc) (cl := cl) (L := L) F.kind
  refine ⟨?_, ?_, F.glob, F.bl, ⟨m, hl, fun x v e1 e2 => ?_⟩, fun x c hc => ?_, fun x hx => ?_, hL, fun x c hc => ⟨(F.nC x c (h1 x c hc)).1, fun q => ?_⟩, fun x y c hx hy => F.apart x y c (h1 _ _ hx) (h1 _ _ hy), hb, fun x c hc => F.bC x c (h1 _ _ hc)⟩
  · cases e : σ0 dot0 with
    | none => rfl
    | some v => have := (l _ _ e).1; rw [F.dot] at this; cases this
  · show sc.kind = .function
    simpa using (Bool.and_eq_true_iff.mp hs).1
  · rw [hk] at e2
    exact absurd (inner_local hs e2) (l _ _ e1).2
  · obtain ⟨ov, hi, hv⟩ := F.cells x c (h1 x c hc)
    refine ⟨ov, hi, fun v e1 e2 => hv v (l _ _ e1).1 ?_⟩
    rw [hk] at e2
    exact (inner_cell hs e2).2
  · rw [hk] at hx
    exact h2 x (inner_cell hs hx).1
  · exact hC x (by rw [h1 x c hc, q]; rfl)
end
end Mine
end
section
namespace Mine
open PySem PySem.Calls PyProof.Rows
section
variable {M : Model} {A : Around} {E : Value → Shared → Prop} {s : Shared}
structure LeftAt (fs : List Addr) (e : Addr) (oe : Obj) (vs : Array Value) (h h' : Heap) : Prop where
  keep : ∀ b o, b ∉ fs → b ≠ e → vs[1]? ≠ some (.ref b) → h.get? b = some o → h'.get? b = some o
  frames : ∀ b o, b ∈ fs → h.get? b = some o → ∃ sl, h'.get? b = some { o with slots := sl }
  exc : ∃ t ot ts, h.get? t = none ∧ h'.get? e = some (oe.mapFields (·.setIfInBounds 1 (.ref t))) ∧ h'.get? t = some ot ∧ ot.data = .fields ts ∧ ts[3]? = some .none ∧ t ≠ e
  live : ∀ b o, h.get? b = some o → ∃ o', h'.get? b = some o'
theorem note_core {base : Heap} {env : Env} {outer : List Env} {L e : Addr} {oe : Obj} {vs : Array Value} {head : Value} {hadNext : Bool} {Q : Unit → Shared → Prop} (hfr : A.frames = some (env :: outer)) (hl : s.heap.FunFrames base (env :: outer)) (hf : env.frame = some L)
    (he : s.heap.get? e = some oe) (hd : oe.data = .fields vs) (hsz : 1 < vs.size)
    (h : ∀ h', LeftAt ((env :: outer).filterMap (·.frame)) e oe vs s.heap h' → Q () { s with heap := h' }) :
    wpAny M A (do let a ← frameOf env; let pl ← entryPlaceOf L hadNext; let b ← EntryCells.newEntry head a .none (rawInt L) .none pl; setField (.ref e) 1 b) (fun _ s' => wpAny M A (setFlight (.ref e) none) Q E s') E s := by
  have hene : e ∉ (env :: outer).filterMap (·.frame) := fun hm => by
    obtain ⟨_, o, ho, hnf⟩ := hl.mem hm
    rw [he] at ho; injection ho with ho; subst ho; exact hnf vs hd
  refine wpAny_bind (wpAny_frameOf_fun hfr hl hf fun h₁ hs₁ => ?_)
  refine wpAny_bind (wpAny_entryPlaceOf fun pl hpl => ?_)
  unfold EntryCells.newEntry newFields
  refine wpAny_bind (wpAny_newObj_type ?_ (hpl.sizeOk5 _ _ _ _ _))
  have he₁ : h₁.get? e = some oe := (hs₁.2.1 e hene).trans he
  have he₂ := Heap.get?_push_of_some (h := h₁) { cls := .type "traceback", dict := none, data := .fields ([head, .ref L, .none, rawInt L, .none] ++ (if pl.isEmpty then List.replicate 6 Value.none else pl)).toArray } he₁
  refine wpAny_setField he₂ hd hsz ?_
  have hTe : h₁.objs.size ≠ e := Nat.ne_of_gt (Heap.lt_size he₁)
  have hd₃ := Obj.data_mapFields hd (·.setIfInBounds 1 (Value.ref h₁.objs.size))
  have he₃ := Heap.get?_update_self (Obj.mapFields (·.setIfInBounds 1 (Value.ref h₁.objs.size))) he₂ (Obj.isFreed_of_fields hd₃)
  have hT₃ := (Heap.get?_update_other (h₁.push { cls := .type "traceback", dict := none, data := .fields ([head, .ref L, .none, rawInt L, .none] ++ (if pl.isEmpty then List.replicate 6 Value.none else pl)).toArray })
    (Obj.mapFields (·.setIfInBounds 1 (Value.ref h₁.objs.size))) (Ne.symm hTe)).trans (Heap.get?_push_size h₁ rfl)
  unfold setFlight
  refine wpAny_bind (wpAny_field he₃ hd₃ (x := .ref h₁.objs.size) (by simp [hsz]) ?_)
  rw [if_pos (show (Value.ref h₁.objs.size != Value.none) = true from by simp)]
  refine wpAny_setField hT₃ rfl (by simp only [List.size_toArray, List.length_append, List.length_cons, List.length_nil] <;> lia) (h _ ?_)
  have keep : ∀ b o, b ≠ e → h₁.get? b = some o →
      (((h₁.push { cls := .type "traceback", dict := none, data := .fields ([head, .ref L, .none, rawInt L, .none] ++ (if pl.isEmpty then List.replicate 6 Value.none else pl)).toArray }).update e (Obj.mapFields (·.setIfInBounds 1 (Value.ref h₁.objs.size)))).update h₁.objs.size
        (Obj.mapFields (·.setIfInBounds 3 ((none : Option Addr).elim Value.none fun f => rawInt f)))).get? b = some o := fun b o hbe hb => by
    have hbT : h₁.objs.size ≠ b := Nat.ne_of_gt (Heap.lt_size hb)
    rw [Heap.get?_update_other _ _ hbT, Heap.get?_update_other _ _ (Ne.symm hbe)]
    exact Heap.get?_push_of_some _ hb
  have hE : (((h₁.push { cls := .type "traceback", dict := none, data := .fields ([head, .ref L, .none, rawInt L, .none] ++ (if pl.isEmpty then List.replicate 6 Value.none else pl)).toArray }).update e (Obj.mapFields (·.setIfInBounds 1 (Value.ref h₁.objs.size)))).update h₁.objs.size
        (Obj.mapFields (·.setIfInBounds 3 ((none : Option Addr).elim Value.none fun f => rawInt f)))).get? e = some (oe.mapFields (·.setIfInBounds 1 (Value.ref h₁.objs.size))) := by rw [Heap.get?_update_other _ _ hTe]; exact he₃
  refine ⟨fun b o hb hbe _ hbo => keep b o hbe ((hs₁.2.1 b hb).trans hbo), fun b o hb hbo => ?_, ⟨h₁.objs.size, _, _, ?_, hE, Heap.get?_update_self _ hT₃ (Obj.isFreed_of_fields (Obj.data_mapFields rfl _)), Obj.data_mapFields rfl _, ?_, hTe⟩, fun b o hbo => ?_⟩
  · obtain ⟨sl, hs⟩ := hs₁.2.2 b o hbo
    exact ⟨sl, keep b _ (fun q => hene (q ▸ hb)) hs⟩
  · cases q : s.heap.get? h₁.objs.size with
    | none => rfl
    | some o =>
      obtain ⟨sl, hs⟩ := hs₁.2.2 _ o q
      exact absurd (Heap.lt_size hs) (Nat.lt_irrefl _)
  · first | (simp; done) | (rcases hpl with rfl | ⟨_, _, _, _, _, _, _, rfl⟩ <;> simp)
  · by_cases q : b = e
    · rw [q]; exact ⟨_, hE⟩
    · obtain ⟨sl, hs⟩ := hs₁.2.2 b o hbo
      exact ⟨_, keep b _ q hs⟩
theorem note_any {base : Heap} {env : Env} {outer : List Env} {L e : Addr} {oe : Obj} {vs : Array Value} {Q : Unit → Shared → Prop} (hfr : A.frames = some (env :: outer)) (hl : s.heap.FunFrames base (env :: outer)) (hf : env.frame = some L)
    (he : s.heap.get? e = some oe) (hd : oe.data = .fields vs) (h1 : vs[1]? = some .none ∨ ∃ t ot ts, vs[1]? = some (.ref t) ∧ t ≠ e ∧ s.heap.get? t = some ot ∧ ot.data = .fields ts ∧ ts[3]? = some .none)
    (h : ∀ h', LeftAt ((env :: outer).filterMap (·.frame)) e oe vs s.heap h' → Q () { s with heap := h' }) : wpAny M A (noteFrame (.ref e) env) (fun _ s' => wpAny M A (setFlight (.ref e) none) Q E s') E s := by
  unfold noteFrame
  simp only [hf]
  rcases h1 with h1 | ⟨t, ot, ts, h1, hte, ht, hdt, h3⟩
  · refine wpAny_bind (wpAny_field he hd h1 ?_)
    rw [if_neg (by decide)]
    exact note_core hfr hl hf he hd (Array.getElem?_eq_some_iff.mp h1).1 h
  · refine wpAny_bind (wpAny_field he hd h1 ?_)
    rw [if_pos (show (Value.ref t != Value.none) = true from by simp)]
    refine wpAny_bind (wpAny_field ht hdt h3 ?_)
    rw [if_neg (show ¬ ((Value.none == rawInt L) = true) from by simp [rawInt])]
    refine wpAny_bind (wpAny_setField ht hdt (Array.getElem?_eq_some_iff.mp h3).1 ?_)
    have other : ∀ b, b ≠ t → (s.heap.update t (Obj.mapFields (·.setIfInBounds 3 Value.none))).get? b = s.heap.get? b := fun b hb => Heap.get?_update_other _ _ (Ne.symm hb)
    have noRecord : ∀ b o, s.heap.get? b = some o → (∀ vs, o.data ≠ .fields vs) → b ≠ t := fun b o hb hnf q => by
      rw [q, ht] at hb; injection hb with hb; subst hb; exact hnf ts hdt
    have ht' := Heap.get?_update_self (Obj.mapFields (·.setIfInBounds 3 Value.none)) ht (Obj.isFreed_of_fields (Obj.data_mapFields hdt _))
    refine note_core hfr (hl.of_keeps fun b o hb hnf => ⟨o, (other b (noRecord b o hb hnf)).trans hb, rfl⟩) hf ((other e (Ne.symm hte)).trans he) hd (Array.getElem?_eq_some_iff.mp h1).1 fun h' x => h h' ?_
    have live' : ∀ b o, s.heap.get? b = some o → ∃ o', (s.heap.update t (Obj.mapFields (·.setIfInBounds 3 Value.none))).get? b = some o' := fun b o hb => by
      by_cases q : b = t
      · rw [q]; exact ⟨_, ht'⟩
      · exact ⟨o, (other b q).trans hb⟩
    refine ⟨fun b o hb hbe hbt hbo => x.keep b o hb hbe hbt ((other b fun q => hbt (q ▸ h1)).trans hbo), fun b o hb hbo => ?_, ?_, fun b o hbo => ?_⟩
    · have hbt : b ≠ t := by
        obtain ⟨_, o', ho', hnf⟩ := hl.mem hb
        exact noRecord b o' ho' hnf
      exact x.frames b o hb ((other b hbt).trans hbo)
    · obtain ⟨u, ou, us, k1, k2, k3, k4, k5, k6⟩ := x.exc
      refine ⟨u, ou, us, ?_, k2, k3, k4, k5, k6⟩
      cases q : s.heap.get? u with
      | none => rfl
      | some o => obtain ⟨o', q'⟩ := live' u o q; rw [k1] at q'; cases q'
    · obtain ⟨o', q⟩ := live' b o hbo
      exact x.live b o' q
theorem flight_again {e t : Addr} {oe ot : Obj} {vs ts : Array Value} {Q : Unit → Shared → Prop} (he : s.heap.get? e = some oe) (hd : oe.data = .fields vs) (h1 : vs[1]? = some (.ref t))
    (ht : s.heap.get? t = some ot) (hdt : ot.data = .fields ts) (h3 : ts[3]? = some .none)
    (h : ∀ h', (∀ b o, b ≠ t → s.heap.get? b = some o → h'.get? b = some o) → (∃ o', h'.get? t = some o') → Q () { s with heap := h' }) : wpAny M A (setFlight (.ref e) none) Q E s := by
  unfold setFlight
  refine wpAny_bind (wpAny_field he hd h1 ?_)
  rw [if_pos (show (Value.ref t != Value.none) = true from by simp)]
  refine wpAny_setField ht hdt (Array.getElem?_eq_some_iff.mp h3).1 (h _ (fun b o hb q => (Heap.get?_update_other _ _ (Ne.symm hb)).trans q) ⟨_, Heap.get?_update_self _ ht (Obj.isFreed_of_fields (Obj.data_mapFields hdt _))⟩)
end
end Mine
end
section
namespace Mine
open PySem PySem.Calls PyProof.Rows
section
variable {C : Cx}
theorem FrsOk.funs {ρ : List Addr} {h : Heap} (x : FrsOk C ρ h) : h.FunFrames C.base C.frs := by
  have go : ∀ l : List Env, (∀ env ∈ l, env ∈ C.frs) → h.FunFrames C.base l := by
    intro l
    induction l with
    | nil => intro _; trivial
    | cons env r ih =>
      intro hl
      obtain ⟨h1, L, o, h2, h3, h4, h5, es, ep, h6⟩ := x env (hl env (.head _))
      exact ⟨h1, ⟨L, o, h2, h3, h5, fun vs q => by rw [h6] at q; cases q⟩, ih fun e he => hl e (.tail _ he)⟩
  exact go C.frs fun _ h => h
theorem FrsOk.mem {ρ : List Addr} {h : Heap} (x : FrsOk C ρ h) {b : Addr} (hb : b ∈ C.frs.filterMap (·.frame)) : C.base.get? b = none ∧ b ∉ ρ ∧ ∃ o, h.get? b = some o ∧ IsNs o := by
  obtain ⟨env, he, hf⟩ := List.mem_filterMap.mp hb
  obtain ⟨_, L, o, h2, h3, h4, h5, h6⟩ := x env he
  rw [h2] at hf; cases hf
  exact ⟨h3, h4, o, h5, h6⟩
theorem Sim.left {ρ : List Addr} {H : AHeap} {s : Shared} (S : Sim C ρ H s) {h' : Heap} {tk : Nat} {W : Addr → Prop} (hW : ∀ b, W b → b ∉ ρ ∧ C.base.get? b = none ∧ ∀ o, s.heap.get? b = some o → ¬ IsNs o)
    (k : ∀ b o, ¬ W b → s.heap.get? b = some o → h'.get? b = some o ∨ (b ∉ ρ ∧ C.base.get? b = none ∧ IsNs o ∧ ∃ sl, h'.get? b = some { o with slots := sl })) : Sim C ρ H { s with heap := h', toks := tk } :=
  ⟨S.len, S.nodup, fun i a o e q => (S.obj i a o e q).keep C [] (by simp) fun o x => (k a o (fun z => (hW a z).1 (List.mem_of_getElem? e)) x).elim id fun z => (z.1 (List.mem_of_getElem? e)).elim,
   fun b o e => (k b o (fun z => by rw [(hW b z).2.1] at e; cases e) (S.stays b o e)).elim id (fun z => by rw [z.2.1] at e; cases e), S.fresh, S.sm, S.gens, S.os,
   S.frs.to C fun b o hb hr hn e => ⟨hr, by
    rcases k b o (fun z => (hW b z).2.2 o e hn) e with q | ⟨_, _, _, sl, q⟩
    · exact ⟨o, q, hn⟩
    · exact ⟨_, q, hn⟩⟩⟩
inductive LfS (C : Cx) (ex : Addr → Prop) (ρ : List Addr) (s : Shared) (ρ1 : List Addr) (H1 : AHeap) (s1 : Shared) (h' : Heap) (a kk : Addr) (o : Obj) : Prop
  | mk : Sim C ρ1 H1 { s1 with heap := h' } → StepG ex ρ s ρ1 { s1 with heap := h' } → ∀ (t : Addr) (ot : Obj) (ts vs' : Array Value), h'.get? a = some (o.mapFields (·.setIfInBounds 1 (.ref t))) → (o.mapFields (·.setIfInBounds 1 (.ref t))).cls = .ref kk → (o.mapFields (·.setIfInBounds 1 (.ref t))).data = .fields vs' →
      vs'[1]? = some (.ref t) → t ∉ ρ1 → C.base.get? t = none → s.heap.get? t = none → h'.get? t = some ot → ot.data = .fields ts → ts[3]? = some .none → t ≠ a → vs'[2]? = some .none → LfS C ex ρ s ρ1 H1 s1 h' a kk o
theorem left_step {ex : Addr → Prop} {ρ ρ1 : List Addr} {H1 : AHeap} {s s1 : Shared} {h' : Heap} {a kk : Addr} {o : Obj} {vs : Array Value} (st1 : StepG ex ρ s ρ1 s1) (S1 : Sim C ρ1 H1 s1) (hL : LeftAt (C.frs.filterMap (·.frame)) a o vs s1.heap h')
    (hcl : o.cls = .ref kk) (hdt : o.data = .fields vs) (ha1 : a ∉ ρ1) (ha2 : C.base.get? a = none) (ha3 : s.heap.get? a = none) (ho : s1.heap.get? a = some o)
    (h1 : vs[1]? = some .none ∨ TrX C ρ1 s s1 a vs) (h2 : vs[2]? = some .none) : LfS C ex ρ s ρ1 H1 s1 h' a kk o := by
  have old : ∀ b, vs[1]? = some (.ref b) → b ∉ ρ1 ∧ C.base.get? b = none ∧ s.heap.get? b = none ∧ ∀ ob, s1.heap.get? b = some ob → ¬ IsNs ob := fun b hb => by
    rcases h1 with h1 | ⟨t, ot, ts, z1, z2, z3, z4, _, z5, z6, _⟩
    · rw [h1] at hb; cases hb
    · rw [z1] at hb; cases hb
      exact ⟨z2, z3, z4, fun ob hob => by rw [z5] at hob; cases hob; exact fun ⟨_, _, q⟩ => by rw [z6] at q; cases q⟩
  have tri : ∀ b ob, ¬ (b = a ∨ vs[1]? = some (.ref b)) → s1.heap.get? b = some ob → h'.get? b = some ob ∨ (b ∉ ρ1 ∧ C.base.get? b = none ∧ IsNs ob ∧ ∃ sl, h'.get? b = some { ob with slots := sl }) := fun b ob hW hb => by
    by_cases hf : b ∈ C.frs.filterMap (·.frame)
    · obtain ⟨f1, f2, o', f3, f4⟩ := S1.frs.mem hf
      rw [hb] at f3; cases f3
      exact .inr ⟨f2, f1, f4, hL.frames b ob hf hb⟩
    · exact .inl (hL.keep b ob hf (fun q => hW (.inl q)) (fun q => hW (.inr q)) hb)
  have hsz : 1 < vs.size := by
    rcases h1 with h1 | ⟨_, _, _, h1, _⟩ <;> exact (Array.getElem?_eq_some_iff.mp h1).1
  obtain ⟨t, ot, ts, k1, k2, k3, k4, k5, k6⟩ := hL.exc
  refine ⟨S1.left (tk := s1.toks) (W := fun b => b = a ∨ vs[1]? = some (.ref b)) (fun b hb => ?_) tri, ⟨st1.ext, fun b ob hb hx e => ?_, fun b ob e => ?_⟩, t, ot, ts, _, k2, (Obj.cls_mapFields ..).trans hcl, Obj.data_mapFields hdt _, ?_, none_ρ S1 k1, base_none S1 k1, ?_, k3, k4, k5, k6, ?_⟩
  · rcases hb with rfl | hb
    · exact ⟨ha1, ha2, fun ob hob => by rw [ho] at hob; cases hob; exact fun ⟨_, _, q⟩ => by rw [hdt] at q; cases q⟩
    · obtain ⟨z1, z2, _, z4⟩ := old b hb
      exact ⟨z1, z2, z4⟩
  · refine (st1.keep b ob hb hx e).trans fun o' q => ?_
    rcases tri b o' (fun z => by
      rcases z with rfl | z
      · rw [ha3] at e; cases e
      · rw [(old b z).2.2.1] at e; cases e) q with z | ⟨_, _, z1, z2⟩
    · exact .inl z
    · exact .inr ⟨z1, z2⟩
  · obtain ⟨o', q⟩ := st1.live b ob e
    exact hL.live b o' q
  · simp [hsz]
  · cases q : s.heap.get? t with
    | none => rfl
    | some o => obtain ⟨o', q'⟩ := st1.live t o q; rw [k1] at q'; cases q'
  · rw [Array.getElem?_setIfInBounds_ne (by decide)]; exact h2
theorem flight_step {ex : Addr → Prop} {ρ ρ1 : List Addr} {H1 : AHeap} {s s1 : Shared} {h' : Heap} {t : Addr} {ot : Obj} {ts : Array Value} (st1 : StepG ex ρ s ρ1 s1) (S1 : Sim C ρ1 H1 s1) (h1 : t ∉ ρ1) (h2 : C.base.get? t = none) (h3 : s.heap.get? t = none)
    (hd : ot.data = .fields ts) (ht : s1.heap.get? t = some ot) (hk : ∀ b o, b ≠ t → s1.heap.get? b = some o → h'.get? b = some o) (hl : ∃ o', h'.get? t = some o') : Sim C ρ1 H1 { s1 with heap := h' } ∧ StepG ex ρ s ρ1 { s1 with heap := h' } := by
  refine ⟨S1.left (tk := s1.toks) (W := fun b => b = t) (fun b hb => ?_) fun b o hb e => .inl (hk b o hb e), st1.ext, fun b o hb hx e => ?_, fun b o e => ?_⟩
  · subst hb
    exact ⟨h1, h2, fun o e => by rw [ht] at e; cases e; exact fun ⟨_, _, q⟩ => by rw [hd] at q; cases q⟩
  · exact (st1.keep b o hb hx e).trans fun o' q => .inl (hk b o' (fun z => by rw [z, h3] at e; cases e) q)
  · obtain ⟨o', q⟩ := st1.live b o e
    by_cases z : b = t
    · subst z; exact hl
    · exact ⟨o', hk b o' z q⟩
theorem FR.frs {env : Env} {σ : Sg} {ρ : List Addr} {h : Heap} (F : FR C env σ ρ h) (fs : List Env) : FR (C.at fs) env σ ρ h := ⟨F.dot, F.kind, F.glob, F.bl, F.ns, F.cells, F.has, F.nL, F.nC, F.apart, F.bL, F.bC⟩
theorem Sim.pop {ρ : List Addr} {H : AHeap} {s : Shared} {fs : List Env} (S : Sim (C.at fs) ρ H s) (h : ∀ env ∈ C.frs, env ∈ fs) : Sim C ρ H s := ⟨S.len, S.nodup, S.obj, S.stays, S.fresh, S.sm, S.gens, S.os, fun env he => S.frs env (h env he)⟩
end
end Mine
end
section
namespace Mine
open PySem PySem.Calls PyProof.Rows
section
variable {prog : Program} {w : World} {A : Around} {R : Result → Shared → Prop} {s : Shared}
theorem compLoop_any {elt target iter : Expr} {ifs : List Expr} {scope : Scope} {pos : Pos} {it acc : Value} {env : Env} (I : Nat → Shared → Prop)
    (turn : ∀ n s, I n s → wpAny (model prog w) A (pyNext it) (fun r s₁ => match r with
      | none => R (.ok .next) s₁
      | some v => wpAny (model prog w) A (letOwnedTupleGo target it v) (fun _ s₁' => wpAny (model prog w) A (assign target env v) (fun _ s₂ =>
          wpAny (model prog w) A (forIn ifs true fun c r => if r = true then do let ok ← isTrue c env (eval c env); pure (ForInStep.yield ok) else pure (ForInStep.yield r)) (fun ok s₃ =>
            if ok = true then wpAny (model prog w) A (eval elt env) (fun x s₄ =>
              wpAny (model prog w) A (call (.builtin "list.append") [acc, x]) (fun _ s₅ => ∃ m, m < n ∧ I m s₅) (notedBy (model prog w) A env fun e s' => R (.error e) s') s₄) (notedBy (model prog w) A env fun e s' => R (.error e) s') s₃
            else ∃ m, m < n ∧ I m s₃) (notedBy (model prog w) A env fun e s' => R (.error e) s') s₂) (notedBy (model prog w) A env fun e s' => R (.error e) s') s₁')
             (notedBy (model prog w) A env fun e s' => R (.error e) s') s₁) (notedBy (model prog w) A env fun e s' => R (.error e) s') s)
    (n : Nat) (h : I n s) :
    codeAny (model prog w) A (.compLoop (.ListComp elt [⟨target, iter, ifs, 0⟩] scope pos) 0 it acc env) R s := by
  refine codeAny_loop rfl I (fun n s hI => ?_) n h
  show wpAny _ A ((compTurn (.ListComp elt [⟨target, iter, ifs, 0⟩] scope pos) 0 it acc env).onRaise (fun x => do noteFrame x env; theTreesLotGoes x)) _ _ s
  refine wpAny_noted ?_
  rw [compTurn_list]
  refine wpAny_bind (wpAny_standAt (wpAny_bind (wpAny_mono (turn n s hI) (fun r s₁ h₁ => ?_) fun _ _ h' => h')))
  cases r with
  | none => exact wpAny_pure h₁
  | some v =>
    refine wpAny_bind (wpAny_mono h₁ (fun _ s₁' h₁' => ?_) fun _ _ h' => h')
    refine wpAny_bind (wpAny_mono h₁' (fun _ s₂ h₂ => wpAny_bind (wpAny_mono h₂ (fun ok s₃ h₃ => ?_) fun _ _ h' => h')) fun _ _ h' => h')
    cases ok with
    | false => exact wpAny_pure ⟨rfl, h₃⟩
    | true =>
      exact wpAny_bind (wpAny_bind (wpAny_mono h₃ (fun x s₄ h₄ => wpAny_bind (wpAny_mono h₄ (fun _ s₅ h₅ => wpAny_pure (wpAny_pure ⟨rfl, h₅⟩)) fun _ _ h' => h')) fun _ _ h' => h'))
end
noncomputable def Sg.less (σ : Sg) (xs : List Str) : Sg := fun y => if y ∈ xs then none else σ y
theorem sets_off : ∀ (ps : List (Str × V)) (σ τ : Sg) (y : Str), (y ∈ ps.map (·.1) ∨ σ y = τ y) → σ.sets ps y = τ.sets ps y
  | [], σ, τ, y, h => by
    rcases h with h | h
    · cases h
    · exact h
  | (x, v) :: r, σ, τ, y, h => by
    unfold Sg.sets
    refine sets_off r _ _ y ?_
    by_cases e : y = x
    · right; unfold Sg.set; rw [if_pos e, if_pos e]
    · rcases h with h | h
      · left
        rw [List.map_cons] at h
        cases h with
        | head => exact absurd rfl e
        | tail _ h => exact h
      · right; unfold Sg.set; rw [if_neg e, if_neg e]; exact h
theorem sets_out : ∀ (ps : List (Str × V)) (σ : Sg) (y : Str), y ∉ ps.map (·.1) → σ.sets ps y = σ y
  | [], _, _, _ => rfl
  | (x, v) :: r, σ, y, h => by
    unfold Sg.sets
    rw [sets_out r _ y fun q => h (.tail _ q)]
    unfold Sg.set
    exact if_neg fun (q : y = x) => h (by rw [q, List.map_cons]; exact .head _)
theorem map_fst_zip {xs : List Str} {vs : List V} (h : xs.length = vs.length) : (xs.zip vs).map (·.1) = xs := by
  rw [List.map_fst_zip]; lia
theorem sets_less {xs : List Str} {vs : List V} {σ : Sg} (h : xs.length = vs.length) : (σ.less xs).sets (xs.zip vs) = σ.sets (xs.zip vs) := by
  funext y
  refine sets_off _ _ _ y ?_
  rw [map_fst_zip h]
  by_cases hy : y ∈ xs
  · exact .inl hy
  · right; unfold Sg.less; rw [if_neg hy]
theorem bindA_sets {t : Tgt} {x : Item} {H : AHeap} {σ σ' : Sg} (h : bindA t x H σ = some σ') : ∃ vs : List V, t.names.length = vs.length ∧ σ' = σ.sets (t.names.zip vs) ∧ ∀ τ, bindA t x H τ = some (τ.sets (t.names.zip vs)) := by
  cases x with
  | one v =>
    cases t with
    | name y => cases h; exact ⟨[v], rfl, rfl, fun τ => rfl⟩
    | tup ys =>
      unfold bindA at h
      dsimp only at h
      split at h
      · split at h
        · rename_i vs e
          split at h
          · rename_i hl
            cases h
            exact ⟨vs, hl, rfl, fun τ => by unfold bindA; dsimp only; rw [e]; dsimp only; rw [if_pos hl]; rfl⟩
          · cases h
        · cases h
      · cases h
  | many vs =>
    cases t with
    | name y => cases h
    | tup ys =>
      unfold bindA at h
      dsimp only at h
      split at h
      · rename_i hl
        cases h
        exact ⟨vs, hl, rfl, fun τ => by unfold bindA; dsimp only; rw [if_pos hl]; rfl⟩
      · cases h
theorem fits {k : Kd} {target : Expr} {t : Tgt} {x : Item} {H : AHeap} {σ σ' : Sg} (ht : trT k target = some t) (h : bindA t x H σ = some σ') : tgtFits target x := by
  unfold trT at ht
  split at ht
  · rename_i e; cases asName_is e; split at ht; (cases ht; cases x with | one v => trivial | many vs => cases h); cases ht
  · split at ht
    · rename_i e; cases asTup_is e; trivial
    · cases ht
noncomputable def TsOk (C : Cx) (K : Nat) (env : Env) (ifs : List Expr) (test : Sg → AHeap → (Bool → AHeap → Prop) → Prop) : Prop := ∀ {σ : Sg} {ρ : List Addr} {H : AHeap} {s : Shared} {A : Around} {q : Bool → AHeap → Prop} {E : Value → Shared → Prop},
  FR C env σ ρ s.heap → Sim C ρ H s → AOk C K A → test σ H q →
    wpAny C.M A (forIn ifs true fun c r => if r = true then do let ok ← isTrue c env (eval c env); pure (ForInStep.yield ok) else pure (ForInStep.yield r)) (PB C ρ s q) E s
noncomputable def LtOk (C : Cx) (K : Nat) (env : Env) (e : Expr) (el : Sg → AHeap → VPost → Prop) : Prop := ∀ {σ : Sg} {ρ : List Addr} {H : AHeap} {s : Shared} {A : Around} {Q : VPost} {E : Value → Shared → Prop},
  FR C env σ ρ s.heap → Sim C ρ H s → AOk C K A → el σ H Q → wpAny C.M A (eval e env) (PV C ρ s Q) E s
section
variable {C : Cx} {T : Tab} {K : Nat} {env : Env} {A : Around} {E : Value → Shared → Prop}
theorem plain_same {h h' : Heap} {a : Addr} {us : Array Value} (x : Heap.PlainList h a us) (k : ∀ o, h.get? a = some o → Same o (h'.get? a)) : Heap.PlainList h' a us := by
  obtain ⟨n, e⟩ := x
  exact ⟨n, (k _ e).eq fun ⟨_, _, q⟩ => nomatch q⟩
theorem comp_walk {elt iter target : Expr} {ifs : List Expr} {sc : Scope} {pos : Pos} {t' : Tgt} {items : List Item} {Kp : AHeap → Prop} {I : Addr} {wr : List Addr} {St : Nat → Heap → Prop} {ρ ρ0 : List Addr} {H H0 : AHeap} {s s2 : Shared} {σ : Sg}
    {test : Sg → AHeap → (Bool → AHeap → Prop) → Prop} {el : Sg → AHeap → VPost → Prop} {Q : List V → AHeap → Prop} {RR : Value → Addr → Result → Shared → Prop} {cl : List (Str × Addr)}
    (hA : AOk C K A) (F : FR C env σ ρ s.heap) (S : Sim C ρ H s) (hs : scOk sc env.kindOf = true) (ho : onlyHere sc t' = true) (htr : trT (inner sc env.kindOf) target = some t')
    (h1 : ∀ x c, cl.lookup x = some c → env.cells.lookup x = some c) (h2 : ∀ x, (x, NameKind.free) ∈ sc.names → ∃ c, cl.lookup x = some c)
    (hI : Itr C A ρ0 items Kp I wr St) (hst : St 0 s2.heap) (st : Step ρ s ρ0 s2) (S2 : Sim C ρ0 H0 s2) (hw : ∀ b ∈ wr, s.heap.get? b = none ∧ b ∉ ρ0)
    (hgo : compGo Kp (fun x H' => bindA t' x H' σ) test el Q items [] H0) (hlen : items.length ≤ lid)
    (hts : ∀ cenv : Env, cenv.kindOf = inner sc env.kindOf → TsOk C K cenv ifs test) (hel : ∀ cenv : Env, cenv.kindOf = inner sc env.kindOf → LtOk C K cenv elt el)
    (hRR : ∀ D Cc ρ1 H1 acc t m, Step ρ s (ρ1 ++ [D]) t → Sim C (ρ1 ++ [D]) (H1 ++ [.list acc]) t → VR C (ρ1 ++ [D]) (.ref H1.length) (.ref D) → Q acc H1 → t.heap.Ns Cc m → Cc ∉ ρ1 ++ [D] → s.heap.get? Cc = none → RR (.ref D) Cc (.ok .next) t) :
    wpAny C.M A (newList []) (fun acc s₃ => wpAny C.M A (newFunctionEnv sc env.globals cl [] env.qual none .none (some env)) (fun cenv s₄ =>
      codeAny C.M A (.compStart (.ListComp elt [⟨target, iter, ifs, 0⟩] sc pos) 0 (.ref I) acc { cenv with scope := relabel sc env }) (RR acc cenv.locals) s₄) E s₃) E s2 := by
  have hkind : sc.kind = .function := by simpa using (Bool.and_eq_true_iff.mp hs).1
  have hcell : ∀ x ∈ sc.names, x.2 ≠ .cell := fun x hx e => by
    have := List.all_eq_true.mp (Bool.and_eq_true_iff.mp hs).2 x hx
    rw [e] at this; cases this
  refine wpAny_newObj_type (wpAny_newFunctionEnv hcell (by intro y hy; simp at hy) (fun h₁ hns₁ hsb₁ => ?_) hkind)
  dsimp only at hns₁ hsb₁ ⊢
  generalize hH2 : s2.heap.push { cls := .type "list", dict := none, data := .seq ([] : List Value).toArray } = H2 at hns₁ hsb₁ ⊢
  have hC : H2.objs.size = s2.heap.objs.size + 1 := by rw [← hH2, Heap.size_push]
  have hDC : s2.heap.objs.size ≠ H2.objs.size := by rw [hC]; exact Nat.ne_of_lt (Nat.lt_succ_self _)
  have below : ∀ b, b < s2.heap.objs.size → b ≠ H2.objs.size := fun b hb => by rw [hC]; exact Nat.ne_of_lt (Nat.lt_succ_of_lt hb)
  have old : ∀ b o, s2.heap.get? b = some o → h₁.get? b = some o := fun b o e => hsb₁.extBut b o (below b (Heap.lt_size e)) (Heap.get?_push_of_some _ (hH2 ▸ Heap.get?_push_of_some _ e))
  have hacc : h₁.PlainList s2.heap.objs.size #[] := ⟨_, hsb₁.extBut _ _ hDC (Heap.get?_push_of_some _ (hH2 ▸ Heap.get?_push_size _ rfl))⟩
  have hDn : s2.heap.get? s2.heap.objs.size = none := get_size _
  have hCn : s2.heap.get? H2.objs.size = none := by
    cases e : s2.heap.get? H2.objs.size with
    | none => rfl
    | some o => exact absurd rfl (below _ (Heap.lt_size e))
  have back : ∀ b, s2.heap.get? b = none → s.heap.get? b = none := fun b hb => by
    cases e : s.heap.get? b with
    | none => rfl
    | some o => obtain ⟨o', e'⟩ := st.live b o e; rw [hb] at e'; cases e'
  have hDsm : s2.heap.objs.size ≠ sysModules := S2.size_ne
  generalize hDD : s2.heap.objs.size = D at *
  generalize hCC : H2.objs.size = Cc at *
  have hDw : D ∉ wr := fun q => by obtain ⟨o, e⟩ := hI.alive _ _ hst D q; rw [hDn] at e; cases e
  have hCw : Cc ∉ wr := fun q => by obtain ⟨o, e⟩ := hI.alive _ _ hst Cc q; rw [hCn] at e; cases e
  obtain ⟨S3, st3⟩ := S2.grow (h' := h₁) (tk := s2.toks + ([] : List (Str × Value)).length) old
  have hst₁ : St 0 h₁ := hI.frame _ _ _ hst fun b _ o e _ => old b o e
  have ho1 : ∀ x ∈ t'.names, sc.names.lookup x = some .local := fun x hx => by simpa using List.all_eq_true.mp (Bool.and_eq_true_iff.mp ho).1 x hx
  have ho2 : ∀ x, (x, NameKind.local) ∈ sc.names → x = dot0 ∨ x ∈ t'.names := fun x hx => by
    have := List.all_eq_true.mp (Bool.and_eq_true_iff.mp ho).2 _ hx
    simpa using this
  have hW : ∀ ρ1 : List Addr, (∀ b ∈ wr, b ∉ ρ1) → D ∉ ρ1 → Cc ∉ ρ1 → ∀ b, (b ∈ wr ∨ b = D ∨ b = Cc) → s.heap.get? b = none ∧ b ∉ ρ1 ∧ C.base.get? b = none := fun ρ1 x1 x2 x3 b hb => by
    have hsn : s.heap.get? b = none := by
      rcases hb with hb | rfl | rfl
      · exact (hw b hb).1
      · exact back _ hDn
      · exact back _ hCn
    refine ⟨hsn, ?_, base_none S hsn⟩
    rcases hb with hb | rfl | rfl
    · exact x1 b hb
    · exact x2
    · exact x3
  have hCown : ∀ x, env.cells.lookup x ≠ some Cc := fun x e => by
    obtain ⟨o, e1⟩ := F.alive Cc (.inr ⟨x, e⟩)
    rw [back _ hCn] at e1; cases e1
  have hDown : ¬ own env D := fun e => by
    obtain ⟨o, e1⟩ := F.alive D e
    rw [back _ hDn] at e1; cases e1
  have hwown : ∀ b ∈ wr, ¬ own env b := fun b hb e => by
    obtain ⟨o, e1⟩ := F.alive b e
    rw [(hw b hb).1] at e1; cases e1
  have ownc : ∀ b, own (compEnvC sc cl Cc env) b → b = Cc ∨ own env b := fun b hb => by
    rcases hb with rfl | ⟨x, e⟩
    · exact .inl rfl
    · exact .inr (.inr ⟨x, h1 _ _ e⟩)
  have ltl : ∀ x v, σ.less t'.names x = some v → σ x = some v ∧ (x, NameKind.local) ∉ sc.names := fun x v e => by
    unfold Sg.less at e
    by_cases hx : x ∈ t'.names
    · rw [if_pos hx] at e; cases e
    · rw [if_neg hx] at e
      refine ⟨e, fun q => ?_⟩
      rcases ho2 x q with rfl | q
      · rw [F.dot] at e; cases e
      · exact hx q
  have ck := inner_kind (sc := sc) (cl := cl) (L := Cc) F.kind
  let Inv : Nat → Shared → Prop := fun n t => ∃ i acc us ρ1 H1, i + n = items.length ∧ acc.length ≤ i ∧ St i t.heap ∧ Step ρ s ρ1 t ∧ (∃ l, ρ1 = ρ0 ++ l) ∧ Sim C ρ1 H1 t ∧ (∀ b ∈ wr, b ∉ ρ1) ∧ D ∉ ρ1 ∧ Cc ∉ ρ1 ∧ t.heap.PlainList D us ∧ All2 (VR C ρ1) acc us.toList ∧
    FR C (compEnvC sc cl Cc env) (σ.less t'.names) ρ1 t.heap ∧ compGo Kp (fun x H' => bindA t' x H' σ) test el Q (items.drop i) acc H1
  have loop : ∀ s₃ : Shared, s₃ = { s2 with heap := h₁, toks := s2.toks + ([] : List (Str × Value)).length } →
      codeAny C.M A (.compLoop (.ListComp elt [⟨target, iter, ifs, 0⟩] sc pos) 0 (.ref I) (.ref D) (compEnvC sc cl Cc env)) (RR (.ref D) Cc) s₃ := by
    rintro s₃ rfl
    refine compLoop_any Inv (fun n t hInv => ?_) items.length ?_
    · obtain ⟨i, acc, us, ρ1, H1, hin, hai, hSt, st1, hl1, S1, hw1, hD1, hC1, hpl, hus, FC, hg⟩ := hInv
      cases n with
      | zero =>
        have hi : i = items.length := by lia
        subst hi
        rw [List.drop_length] at hg
        obtain ⟨hK, hq⟩ := hg
        refine wpAny_mono (hI.done ρ1 H1 t _ hSt S1 hl1 hK hw1) (fun r s1 hr => ?_) fun _ _ x => x
        obtain ⟨rfl, h', tk, rfl, hk⟩ := hr
        dsimp only
        obtain ⟨st4, S4⟩ := adrift (h' := h') (tk := tk) st1 S1 (hW ρ1 hw1 hD1 hC1) (fun b o hb e => hk b o (fun q => hb (.inl q)) e) S.frs
        have hpl' : Heap.PlainList h' D us := hpl.at fun o e => hk _ o hDw e
        obtain ⟨nn, hob⟩ := hpl'
        obtain ⟨S5, v5⟩ := S4.adopt (D := D) (o := .list acc) hD1 (base_none S (back _ hDn)) hDsm ⟨us, nn, hob, hus, by unfold lid at *; lia⟩ (fun x hx hq => by rw [hob] at hx; cases hx; obtain ⟨_, _, q⟩ := hq; cases q)
        obtain ⟨m, hm, _⟩ := FC.ns
        refine hRR D Cc ρ1 H1 acc _ m (step_adopt st4 (back _ hDn)) S5 v5 hq (hm.at' fun o e => hk _ o hCw e) (fun q => ?_) (back _ hCn)
        rcases List.mem_append.mp q with q | q
        · exact hC1 q
        · simp at q; exact hDC q.symm
      | succ n =>
        have hi : i < items.length := by lia
        rw [List.drop_eq_getElem_cons hi] at hg
        obtain ⟨hK, hg⟩ := hg
        dsimp only at hg
        split at hg
        · rename_i σ' hb
          obtain ⟨vs, hvl, rfl, hball⟩ := bindA_sets hb
          refine wpAny_mono (hI.next i items[i] target ρ1 H1 t _ (List.getElem?_eq_getElem hi) (fits htr hb) hSt S1 hl1 hK hw1) (fun r s1 hr => ?_) fun _ _ x => x
          obtain ⟨u, rfl, hu⟩ := hr
          refine wpAny_mono hu (fun _ s1' hs1 => ?_) fun _ _ x => x
          obtain ⟨h', tk, rfl, hIR, hSt', hk⟩ := hs1
          obtain ⟨st4, S4⟩ := adrift (h' := h') (tk := tk) st1 S1 (hW ρ1 hw1 hD1 hC1) (fun b o hb e => hk b o (fun q => hb (.inl q)) e) S.frs
          have FC4 : FR C (compEnvC sc cl Cc env) (σ.less t'.names) ρ1 h' := FC.at fun b hb o e => hk b o (fun q => by
            rcases ownc b hb with rfl | hb
            · exact hCw q
            · exact hwown b q hb) e
          have hb2 : bindA t' items[i] H1 (σ.less t'.names) = some (σ.sets (t'.names.zip vs)) := by rw [hball, sets_less hvl]
          refine assign_ok hA.h (by rw [ck]; exact htr) hb2 hIR FC4 S4 fun s5 FC5 S5 st5 => ?_
          -- what the target's store left alone
          have hk5 : ∀ b o, b ∉ ρ1 → b ≠ Cc → h'.get? b = some o → Same o (s5.heap.get? b) := fun b o hb hbc e => st5.keep b o hb (fun q => by
            rcases q with q | ⟨x, hx, hxc, _⟩
            · exact hbc q
            · have h3 := ho1 x hx
              rw [ck] at hxc
              have := lookup_relabel_local (env := env) h3
              have h4 := inner_kind (sc := sc) (cl := cl) (L := Cc) F.kind
              rw [← h4] at hxc
              have h5 : (compEnvC sc cl Cc env).kindOf x = some .local := this
              rw [h5] at hxc; cases hxc) e
          have st5' : Step ρ s ρ1 s5 := ⟨st4.ext, fun b o hb hx e => (st4.keep b o hb hx e).trans fun o' e' => hk5 b o' (stay_out st4 e hb) (fun q => by rw [q, back _ hCn] at e; cases e) e', fun b o e => by obtain ⟨o1, e1⟩ := st4.live b o e; exact st5.live b o1 e1⟩
          have hSt5 : St (i + 1) s5.heap := hI.frame _ _ _ hSt' fun b hb o e hc => (hk5 b o (hw1 b hb) (fun q => hCw (q ▸ hb)) e).eq hc
          have hpl5 : Heap.PlainList s5.heap D us := plain_same hpl fun o e => hk5 _ o hD1 hDC (hk _ o hDw e)
          refine wpAny_mono (hts _ ck FC5 S5 hA hg) (fun ok s6 h6 => ?_) fun _ _ x => x
          obtain ⟨ρ2, H2', st6, S6, hg⟩ := h6
          have kept : ∀ b o, b ∉ ρ1 → s5.heap.get? b = some o → Same o (s6.heap.get? b) := fun b o hb e => st6.keep b o hb id e
          have out : ∀ b o, s5.heap.get? b = some o → b ∉ ρ1 → b ∉ ρ2 := fun b o e hb => stay_out st6 e hb
          have FC6 := FC5.step st6
          have hSt6 : St (i + 1) s6.heap := hI.frame _ _ _ hSt5 fun b hb o e hc => (kept b o (hw1 b hb) e).eq hc
          have hw6 : ∀ b ∈ wr, b ∉ ρ2 := fun b hb => by obtain ⟨o, e⟩ := hI.alive _ _ hSt5 b hb; exact out b o e (hw1 b hb)
          have hD6 : D ∉ ρ2 := by obtain ⟨nn, e⟩ := hpl5; exact out D _ e hD1
          have hC6 : Cc ∉ ρ2 := by
            obtain ⟨m, ⟨o, es, ep, e, _⟩, _⟩ := FC5.ns
            exact out Cc o e hC1
          have hpl6 : Heap.PlainList s6.heap D us := plain_same hpl5 fun o e => kept _ o hD1 e
          have hl6 : ∃ l, ρ2 = ρ0 ++ l := by
            obtain ⟨l, e⟩ := hl1
            obtain ⟨l', e', _⟩ := st6.ext
            exact ⟨l ++ l', by rw [e', e, List.append_assoc]⟩
          have lessl : ∀ x v, σ.less t'.names x = some v → σ.sets (t'.names.zip vs) x = some v := fun x v e => by
            unfold Sg.less at e
            by_cases hx : x ∈ t'.names
            · rw [if_pos hx] at e; cases e
            · rw [if_neg hx] at e
              rw [sets_out _ _ _ (by rw [map_fst_zip hvl]; exact hx)]; exact e
          cases ok with
          | false =>
            rw [if_neg (by simp)]
            refine ⟨n, Nat.lt_succ_self n, i + 1, acc, us, ρ2, H2', by lia, by lia, hSt6, st5'.trans st6, hl6, S6, hw6, hD6, hC6, hpl6, st6.vrs hus, FC6.less lessl, hg⟩
          | true =>
            rw [if_pos rfl]
            refine wpAny_mono (hel _ ck FC6 S6 hA hg) (fun x s7 h7 => ?_) fun _ _ x => x
            obtain ⟨ρ3, H3, v, st7, S7, hv, hg⟩ := h7
            have kept7 : ∀ b o, b ∉ ρ2 → s6.heap.get? b = some o → Same o (s7.heap.get? b) := fun b o hb e => st7.keep b o hb id e
            have hpl7 : Heap.PlainList s7.heap D us := plain_same hpl6 fun o e => kept7 _ o hD6 e
            have hus7 := st7.vrs (st6.vrs hus)
            refine wpAny_list_append_plain hpl7 (fun h8 hpl8 hsb8 => ?_) (by
              have h0 : acc.length = us.size := by rw [hus.length]; simp
              unfold lid at *; unfold sizeLine; lia)
            have FC7 := FC6.step st7
            have hD7 : D ∉ ρ3 := by obtain ⟨nn, e⟩ := hpl6; exact stay_out st7 e hD6
            have hC7 : Cc ∉ ρ3 := by
              obtain ⟨m, ⟨o, es, ep, e, _⟩, _⟩ := FC6.ns
              exact stay_out st7 e hC6
            have hw7 : ∀ b ∈ wr, b ∉ ρ3 := fun b hb => by
              obtain ⟨o, e⟩ := hI.alive _ _ hSt6 b hb
              exact stay_out st7 e (hw6 b hb)
            obtain ⟨st8, S8⟩ := adrift (h' := h8) (tk := s7.toks) ((st5'.trans st6).trans st7) S7 (hW ρ3 hw7 hD7 hC7) (fun b o hb e => hsb8.extBut b o (fun q => hb (.inr (.inl q))) e) S.frs
            refine ⟨n, Nat.lt_succ_self n, i + 1, acc ++ [v], us.push x, ρ3, H3, by lia, by simp; lia, ?_, st8, ?_, S8, hw7, hD7, hC7, hpl8, ?_, ?_, hg⟩
            · exact hI.frame _ _ _ hSt6 fun b hb o e hc => hsb8.extBut b o (fun q => hDw (q ▸ hb)) ((kept7 b o (hw6 b hb) e).eq hc)
            · obtain ⟨l, e⟩ := hl6
              obtain ⟨l', e', _⟩ := st7.ext
              exact ⟨l ++ l', by rw [e', e, List.append_assoc]⟩
            · rw [Array.toList_push]
              exact hus7.append (.cons hv .nil)
            · refine (FC7.less lessl).at fun b hb o e => hsb8.extBut b o (fun q => ?_) e
              rcases ownc b hb with rfl | hb
              · exact hDC q.symm
              · exact hDown (q ▸ hb)
        · exact hg.elim
    · refine ⟨0, [], #[], ρ0, H0, by simp, by simp, hst₁, st.trans st3, ⟨[], by simp⟩, S3, fun b hb => (hw b hb).2, none_ρ S2 hDn, none_ρ S2 hCn, hacc, .nil, ?_, by simpa using hgo⟩
      have F3 : FR C env σ ρ0 h₁ := F.step (st.trans st3)
      exact F3.comp hs h1 h2 hns₁ (none_ρ S2 hCn) (base_none S2 hCn) hCown ltl
  refine codeAny_compStart_list (loop _ rfl) (hI.self 0 _ _ _ hst₁ (loop _ rfl))
end
end Mine
end
section
namespace Mine
open PySem PySem.Calls PyProof.Rows
section
variable {C : Cx} {T : Tab} {K : Nat} {env : Env} {A : Around} {E : Value → Shared → Prop}
theorem scOk_names {sc : Scope} (hs : scOk sc env.kindOf = true) : sc.kind = .function ∧ ∀ x ∈ sc.names, x.2 = .local → sc.names.lookup x.1 = some .local := by
  refine ⟨by simpa using (Bool.and_eq_true_iff.mp hs).1, fun x hx e => ?_⟩
  have := List.all_eq_true.mp (Bool.and_eq_true_iff.mp hs).2 x hx
  rw [e] at this
  simpa using this
theorem comp_any {elt iter target : Expr} {ifs : List Expr} {sc : Scope} {pos p' : Pos} {t' : Tgt} {pit : PE} {test : Sg → AHeap → (Bool → AHeap → Prop) → Prop} {el : Sg → AHeap → VPost → Prop} {σ : Sg} {ρ : List Addr} {H : AHeap} {s : Shared} {Q : VPost} {X : XPost}
    {use : Option (Value → Sem Unit)} {R : Value → Shared → Prop}
    (hA : AOk C K A) (F : FR C env σ ρ s.heap) (S : Sim C ρ H s) (hE : Takes C ρ s X E) (hs : scOk sc env.kindOf = true) (ho : onlyHere sc t' = true) (htr : trT (inner sc env.kindOf) target = some t') (hf : ∀ x, foldedSetIterable iter env x = pure x)
    (hit : ItOk C T K env iter pit)
    (hts : ∀ cenv : Env, cenv.kindOf = inner sc env.kindOf → TsOk C K cenv ifs test) (hel : ∀ cenv : Env, cenv.kindOf = inner sc env.kindOf → LtOk C K cenv elt el)
    (h : (sem T pit).it σ H (fun items Kp H1 => items.length ≤ lid ∧ compGo Kp (fun x H' => bindA t' x H' σ) test el (fun acc H' => Q (.ref H'.length) (H' ++ [.list acc])) items [] H1) X)
    (hR : ∀ D Cc t m, PV C ρ s Q (.ref D) t → t.heap.Ns Cc m → s.heap.get? Cc = none → (∀ ρ1 H1 v, Step ρ s ρ1 t → Sim C ρ1 H1 t → VR C ρ1 v (.ref D) → Q v H1 → Cc ∉ ρ1 → compPost C.M A E use R (.ref D) Cc (.ok .next) t)) :
    wpAny C.M A (comprehension (.ListComp elt [⟨target, iter, ifs, 0⟩] sc pos) sc env p' (newList []) false (eval iter env) use) R E s := by
  obtain ⟨cl, hcl, h1, h2⟩ := closure_ok (sc := sc) F.has hs
  refine wpAny_comprehension_free (use := use) rfl hf hcl (scOk_names hs).1 (scOk_names hs).2 ?_
  refine wpAny_mono (hit F S hA h hE) (fun xv s₁ h₁ => wpAny_mono h₁ (fun it s₂ h₂ => ?_) fun _ _ e => e) fun _ _ e => e
  obtain ⟨ρ0, H0, items, Kp, I, wr, St, rfl, hI, hst, st, S2, hw, hlen, hgo⟩ := h₂
  refine comp_walk (RR := fun acc Cc => compPost C.M A E use R acc Cc) hA F S hs ho htr h1 h2 hI hst st S2 hw hgo hlen hts hel ?_
  intro D Cc ρ1 H1 acc t m st1 S1 v1 hq hm hC hCn
  exact hR D Cc t m ⟨_, _, _, st1, S1, v1, hq⟩ hm hCn (ρ1 ++ [D]) _ _ st1 S1 v1 hq hC
theorem letgo_same {ρ ρ1 : List Addr} {H H1 : AHeap} {s t : Shared} {Cc : Addr} {h' : Heap} (S : Sim C ρ H s) (st : Step ρ s ρ1 t) (S1 : Sim C ρ1 H1 t) (hn : s.heap.get? Cc = none) (hC : Cc ∉ ρ1) (hs : Heap.SameBut Cc t.heap h') :
    Step ρ s ρ1 { t with heap := h' } ∧ Sim C ρ1 H1 { t with heap := h' } :=
  adrift (W := fun b => b = Cc) (tk := t.toks) st S1 (fun b hb => by subst hb; exact ⟨hn, hC, base_none S hn⟩) (fun b o hb e => hs.extBut b o hb e) S.frs
theorem ok_comp {elt iter target : Expr} {ifs : List Expr} {sc : Scope} {pos : Pos} {t' : Tgt} {pe pit : PE} {test : XPost → Sg → AHeap → (Bool → AHeap → Prop) → Prop} {el : XPost → Sg → AHeap → VPost → Prop}
    (hs : scOk sc env.kindOf = true) (ho : onlyHere sc t' = true) (htr : trT (inner sc env.kindOf) target = some t') (hf : ∀ x, foldedSetIterable iter env x = pure x) (hit : ItOk C T K env iter pit)
    (hts : ∀ X, ∀ cenv : Env, cenv.kindOf = inner sc env.kindOf → TsOk C K cenv ifs (test X)) (hel : ∀ X, ∀ cenv : Env, cenv.kindOf = inner sc env.kindOf → LtOk C K cenv elt (el X))
    (hsem : ∀ σ H Q X, (sem T pe).ev σ H Q X → (sem T pit).it σ H (fun items Kp H1 => items.length ≤ lid ∧ compGo Kp (fun x H' => bindA t' x H' σ) (test X) (el X) (fun acc H' => Q (.ref H'.length) (H' ++ [.list acc])) items [] H1) X) :
    EvOk C T K env (.ListComp elt [⟨target, iter, ifs, 0⟩] sc pos) pe := by
  intro σ ρ H s A Q X E F S hA h hE
  rw [eval_ListComp]
  refine comp_any (use := none) hA F S hE hs ho htr hf hit (hts X) (hel X) (hsem σ H Q X h) ?_
  intro D Cc t m _ hm hn ρ1 H1 v st1 S1 v1 hq hC
  refine ⟨m, hm, fun h' hsb => ?_⟩
  obtain ⟨st2, S2⟩ := letgo_same S st1 S1 hn hC hsb
  exact ⟨ρ1, H1, v, st2, S2, v1, hq⟩
theorem ok_dict0 {pos : Pos} : EvOk C T K env (.Dict [] [] pos) .dict0 := by
  intro σ ρ H s A Q X E F S hA h hE
  refine wpAny_Dict_empty ?_
  obtain ⟨S1, st1, v1⟩ := S.alloc (h' := s.heap.push { cls := .type "dict", data := .dict #[] }) (tk := s.toks) (a := s.heap.objs.size) (o := .dict [] 0) get_push (get_size _) S.size_ne ⟨#[], Heap.get?_push_size _ rfl, .nil, by simp, by simp⟩
  exact ⟨_, _, _, st1, S1, v1, h⟩
theorem tr_star {n : Nat} {k : Kd} {e : Expr} {pe : PE} (h : trE n k e = some pe) : isStar e = false := by
  cases e <;> first | rfl | (cases n <;> cases h)
theorem bnd2_some {a b : Option PE} {f : PE → PE → PE} {r : PE} (h : bnd2 a b f = some r) : ∃ x y, a = some x ∧ b = some y ∧ r = f x y := by
  obtain ⟨x, hx, h⟩ := Option.bind_eq_some_iff.mp h
  obtain ⟨y, hy, rfl⟩ := Option.map_eq_some_iff.mp h
  exact ⟨x, y, hx, hy, rfl⟩
theorem bnd3_some {a b c : Option PE} {f : PE → PE → PE → PE} {r : PE} (h : bnd3 a b c f = some r) : ∃ x y z, a = some x ∧ b = some y ∧ c = some z ∧ r = f x y z := by
  obtain ⟨x, hx, h⟩ := Option.bind_eq_some_iff.mp h
  obtain ⟨y, hy, h⟩ := Option.bind_eq_some_iff.mp h
  obtain ⟨z, hz, rfl⟩ := Option.map_eq_some_iff.mp h
  exact ⟨x, y, z, hx, hy, hz, rfl⟩
theorem map_some' {a : Option PE} {f : PE → PE} {r : PE} (h : a.map f = some r) : ∃ x, a = some x ∧ r = f x := by
  obtain ⟨x, hx, rfl⟩ := Option.map_eq_some_iff.mp h; exact ⟨x, hx, rfl⟩
theorem el_ok {f : Expr → Option PE} {pos : Pos} : ∀ {es : List Expr} {pe : PE}, (∀ e pe, f e = some pe → EvOk C T K env e pe) → (∀ e pe, f e = some pe → isStar e = false) → trL f es = some pe → ElOk C T K env pos es pe
  | [], _, _, _, h => by cases h; exact ok_nil
  | e :: r, pe, h1, h2, h => by
    obtain ⟨a, ha, h⟩ := Option.bind_eq_some_iff.mp h
    obtain ⟨b, hb, rfl⟩ := Option.map_eq_some_iff.mp h
    exact ok_cons (h1 e a ha) (el_ok h1 h2 hb) (h2 e a ha)
theorem els_ok {f : Expr → Option PE} {P : Expr → PE → Prop} : ∀ {es : List Expr} {ps : List PE}, (∀ e pe, f e = some pe → P e pe) → trLs f es = some ps → All2 P es ps
  | [], _, _, h => by cases h; exact .nil
  | e :: r, ps, h1, h => by
    obtain ⟨a, ha, h⟩ := Option.bind_eq_some_iff.mp h
    obtain ⟨b, hb, rfl⟩ := Option.map_eq_some_iff.mp h
    exact .cons (h1 e a ha) (els_ok h1 hb)
theorem folded_no {e : Expr} (h : isSet e = false) : ∀ x, foldedSetIterable e env x = pure x := by
  intro x
  cases e <;> first | rfl | cases h
theorem isGE_is {k : Kd} {e : Expr} {n : String} (h : isGE k e n = true) : ∃ g p, e = .Name g p ∧ isG k g n = true := by
  unfold isGE at h
  split at h
  · rename_i g p e1; exact ⟨g, p, asName_is e1, h⟩
  · cases h
theorem trI_ok (hT : TabOk C T K) {f : Expr → Option PE} (h1 : ∀ e pe, f e = some pe → EvOk C T K env e pe) (h2 : ∀ e pe, f e = some pe → isStar e = false) {e : Expr} {pe : PE} (h : trI env.kindOf f e = some pe) :
    ItOk C T K env e pe ∧ isSet e = false := by
  unfold trI at h
  split at h
  · cases h
  · rename_i hs
    refine ⟨?_, by simpa using hs⟩
    have val : ∀ {p : PE}, (f e).map .itVal = some p → ItOk C T K env e p := fun h => by
      obtain ⟨x, hx, rfl⟩ := map_some' h
      intro σ ρ H s A q X E
      exact it_val hT (h1 _ _ hx)
    split at h
    · rename_i g a pos e1
      cases asCall1_is e1
      split at h
      · rename_i hg
        obtain ⟨g', p', rfl, hg⟩ := isGE_is hg
        obtain ⟨x, hx, rfl⟩ := map_some' h
        intro σ ρ H s A q X E
        exact it_range1 hT hg (h2 _ _ hx) (h1 _ _ hx)
      · split at h
        · rename_i hg
          obtain ⟨g', p', rfl, hg⟩ := isGE_is hg
          obtain ⟨x, hx, rfl⟩ := map_some' h
          intro σ ρ H s A q X E
          exact it_enum hT hg (h2 _ _ hx) (h1 _ _ hx)
        · exact fun {_ _ _ _ _ _ _ _} => val h
    · split at h
      · rename_i g a b pos e1
        cases asCall2_is e1
        split at h
        · rename_i hg
          obtain ⟨g', p', rfl, hg⟩ := isGE_is hg
          obtain ⟨x, y, hx, hy, rfl⟩ := bnd2_some h
          intro σ ρ H s A q X E
          exact it_range2 hT hg (h2 _ _ hx) (h2 _ _ hy) (h1 _ _ hx) (h1 _ _ hy)
        · exact fun {_ _ _ _ _ _ _ _} => val h
      · exact fun {_ _ _ _ _ _ _ _} => val h
theorem sub_plain {i : Expr} (h : asSlice i = none) (u w : Value) : subscripted i false u w = operate [u, w] (getItem u w) := by
  cases i <;> first | rfl | cases h
theorem pt_ok {f : Expr → Option PE} (h1 : ∀ e pe, f e = some pe → EvOk C T K env e pe) {o : Option Expr} {pe : PE} (h : trO f o = some pe) : PtOk C T K env o pe := by
  cases o with
  | none => cases h; exact pt_none
  | some e => exact pt_some (h1 _ _ h)
end
end Mine
end
section
namespace Mine
open PySem PySem.Calls PyProof.Rows
section
variable {C : Cx} {T : Tab} {K : Nat}
theorem both {env : Env} {e : Expr} {pe : PE} (he : EvOk C T K env e pe) (hi : ∀ whole, isTrue e env whole = (do let v ← whole; standAt e.pos; holding [v] (truthy v))) (ht : (sem T pe).tt = (Me.ofEv (sem T pe).ev).tt) :
    EvOk C T K env e pe ∧ TtOk C T K env e pe := ⟨he, tt_of_ev hi ht he⟩
theorem ok_const {env : Env} {c : Const} {k : Nat} {pos : Pos} {pe : PE} (h : trConst c = some pe) : EvOk C T K env (.Constant c k pos) pe ∧ TtOk C T K env (.Constant c k pos) pe := by
  cases c with
  | none => cases h; exact both (fun F S hA h hE => Constant_none (here0 (v := .none) S rfl h)) (fun _ => rfl) rfl
  | bool b => cases h; exact both (fun F S hA h hE => Constant_bool (here0 (v := .bool b) S rfl h)) (fun _ => rfl) rfl
  | int i => cases h; exact both (fun F S hA h hE => wpAny_Constant_int (here S (vi _ _) h)) (fun _ => rfl) rfl
  | str x =>
    unfold trConst at h
    dsimp only at h
    split at h
    · rename_i hx
      cases h
      refine both (fun {σ ρ H s A Q X E} F S hA h hE => wpAny_Constant_str (here S (v := .str x.cps.toList) ⟨hx, s.toks, ?_⟩ h)) (fun _ => rfl) rfl
      cases x; simp
    · cases h
  | _ => cases h
theorem ok_nm (hT : TabOk C T K) {env : Env} {x : Str} {pos : Pos} {pe : PE} (h : trName env.kindOf x = some pe) : EvOk C T K env (.Name x pos) pe ∧ TtOk C T K env (.Name x pos) pe := by
  unfold trName at h
  split at h
  · cases h
  · rename_i hd
    have hd : (x == Str.ofString "__debug__") = false := by simpa using hd
    split at h
    · rename_i hx; cases h; exact both (ok_name (.inl hx) hd) (fun _ => rfl) rfl
    · rename_i hx; cases h; exact both (ok_name (.inr hx) hd) (fun _ => rfl) rfl
    · rename_i hx; cases h; exact both (ok_glob hT hx hd) (fun _ => rfl) rfl
    · cases h
theorem ok_callE (hT : TabOk C T K) {env : Env} {f : Expr → Option PE} (h1 : ∀ e pe, f e = some pe → EvOk C T K env e pe) (h2 : ∀ e pe, f e = some pe → isStar e = false) {fn : Expr} {args : List Expr} {kws : List Keyword} {pos : Pos} {pe : PE}
    (h : trCall env.kindOf f fn args kws pos = some pe) : EvOk C T K env (.Call fn args kws pos) pe ∧ TtOk C T K env (.Call fn args kws pos) pe := by
  unfold trCall at h
  split at h
  · split at h
    · rename_i hn
      split at h
      · rename_i o m apos e1
        have := asAttr_is e1
        subst this
        split at h
        · rename_i hc
          obtain ⟨hc1, hc2⟩ := Bool.and_eq_true_iff.mp hc
          obtain ⟨x, y, hx, hy, rfl⟩ := bnd2_some h
          exact both (ok_meth hT (h1 _ _ hx) (el_ok h1 h2 hy) (starEach_one h2 hy) (by simpa using hc1) (by simpa using hn) (by simpa using hc2)) (fun _ => rfl) rfl
        · cases h
      · split at h
        · rename_i hc
          obtain ⟨⟨g, p⟩, e1⟩ := Option.isSome_iff_exists.mp hc
          have := asName_is e1
          subst this
          obtain ⟨x, y, hx, hy, rfl⟩ := bnd2_some h
          exact both (ok_call hT (h1 _ _ hx) (el_ok h1 h2 hy) (starEach_one h2 hy) rfl) (fun _ => rfl) rfl
        · cases h
    · cases h
  · cases h
theorem ok_subE (hT : TabOk C T K) {env : Env} {f : Expr → Option PE} (h1 : ∀ e pe, f e = some pe → EvOk C T K env e pe) {o i : Expr} {pos : Pos} {pe : PE} (h : trSub f o i = some pe) : EvOk C T K env (.Subscript o i pos) pe ∧ TtOk C T K env (.Subscript o i pos) pe := by
  unfold trSub at h
  split at h
  · rename_i lo hi st p e1
    cases asSlice_is e1
    split at h
    · rename_i hn
      cases Option.isNone_iff_eq_none.mp hn
      obtain ⟨x, y, z, hx, hy, hz, rfl⟩ := bnd3_some h
      exact both (ok_slice (h1 _ _ hx) (pt_ok h1 hy) (pt_ok h1 hz)) (fun _ => rfl) rfl
    · cases h
  · rename_i e1
    obtain ⟨x, y, hx, hy, rfl⟩ := bnd2_some h
    exact both (ok_sub (h1 _ _ hx) (h1 _ _ hy) (sub_plain e1)) (fun _ => rfl) rfl
structure CompOk (C : Cx) (T : Tab) (K : Nat) (env : Env) (elt : Expr) (gens : List Comprehension) (sc : Scope) (pe : PE) (target iter : Expr) (ifs : List Expr) (t' : Tgt) (pit : PE) (test : XPost → Sg → AHeap → (Bool → AHeap → Prop) → Prop) (el : XPost → Sg → AHeap → VPost → Prop) : Prop where
  hgens : gens = [⟨target, iter, ifs, 0⟩]
  hsc : scOk sc env.kindOf = true
  only : onlyHere sc t' = true
  tgt : trT (inner sc env.kindOf) target = some t'
  fold : ∀ x, foldedSetIterable iter env x = pure x
  hit : ItOk C T K env iter pit
  ts : ∀ X, ∀ cenv : Env, cenv.kindOf = inner sc env.kindOf → TsOk C K cenv ifs (test X)
  hel : ∀ X, ∀ cenv : Env, cenv.kindOf = inner sc env.kindOf → LtOk C K cenv elt (el X)
  hsem : ∀ σ H Q X, (sem T pe).ev σ H Q X → (sem T pit).it σ H (fun items Kp H1 => items.length ≤ lid ∧ compGo Kp (fun x H' => bindA t' x H' σ) (test X) (el X) (fun acc H' => Q (.ref H'.length) (H' ++ [.list acc])) items [] H1) X
  htt : (sem T pe).tt = (Me.ofEv (sem T pe).ev).tt
theorem tr_comp (hT : TabOk C T K) {env : Env} {f f' : Expr → Option PE} {elt : Expr} {gens : List Comprehension} {sc : Scope} {pe : PE} (h1 : ∀ e pe, f e = some pe → EvOk C T K env e pe) (h2 : ∀ e pe, f e = some pe → isStar e = false)
    (h3 : ∀ cenv : Env, cenv.kindOf = inner sc env.kindOf → ∀ e pe, f' e = some pe → EvOk C T K cenv e pe ∧ TtOk C T K cenv e pe) (h : trComp env.kindOf f f' elt gens sc = some pe) : ∃ target iter ifs t' pit test el, CompOk C T K env elt gens sc pe target iter ifs t' pit test el := by
  cases gens with
  | nil => cases h
  | cons g r =>
    obtain ⟨tg, iter, ifs, asy⟩ := g
    unfold trComp at h
    dsimp only at h
    split at h
    · rename_i hc
      obtain ⟨hc, hr⟩ := Bool.and_eq_true_iff.mp hc
      obtain ⟨hs, ha⟩ := Bool.and_eq_true_iff.mp hc
      cases List.isEmpty_iff.mp hr
      cases beq_iff_eq.mp ha
      obtain ⟨t', ht, h⟩ := Option.bind_eq_some_iff.mp h
      obtain ⟨it', hit, h⟩ := Option.bind_eq_some_iff.mp h
      obtain ⟨e', he, h⟩ := Option.bind_eq_some_iff.mp h
      split at h
      · rename_i ho
        obtain ⟨hit1, hit2⟩ := trI_ok hT h1 h2 hit
        have hel : ∀ X : XPost, ∀ cenv : Env, cenv.kindOf = inner sc env.kindOf → LtOk C K cenv elt fun σ' H' q => (sem T e').ev σ' H' q fun _ _ => False := by
          intro X cenv hc σ ρ H s A Q E F S hA h
          exact (h3 cenv hc _ _ he).1 F S hA h fun e s' p => p.no.elim
        cases ifs with
        | nil =>
          cases h
          refine ⟨_, _, _, t', it', fun _ _ H' q => q true H', _, rfl, hs, ho, ht, folded_no hit2, hit1, fun X cenv hc => ?_, hel, fun σ H Q X h => h, rfl⟩
          intro σ ρ H s A q E F S hA h
          exact wpAny_tests_nil ⟨ρ, H, StepG.refl _ _, S, h⟩
        | cons c r =>
          have h : (if r.isEmpty then (f' c).map fun c' => PE.comp1 e' t' it' c' else none) = some pe := h
          split at h
          · rename_i hr
            cases List.isEmpty_iff.mp hr
            obtain ⟨c', hc', rfl⟩ := map_some' h
            refine ⟨_, _, _, t', it', fun X σ' H' q => (sem T c').tt σ' H' q fun _ _ => False, _, rfl, hs, ho, ht, folded_no hit2, hit1, fun X cenv hc => ?_, hel, fun σ H Q X h => h, rfl⟩
            intro σ ρ H s A q E F S hA h
            exact wpAny_tests_one ((h3 cenv hc _ _ hc').2 F S hA h fun e s' p => p.no.elim)
          · cases h
      · cases h
    · cases h
theorem ok_cmpE {env : Env} {f : Expr → Option PE} (h1 : ∀ e pe, f e = some pe → EvOk C T K env e pe) {a : Expr} {ops : List CmpOp} {cs : List Expr} {pos : Pos} {pe : PE} (h : trCmp f a ops cs = some pe) : EvOk C T K env (.Compare a ops cs pos) pe ∧ TtOk C T K env (.Compare a ops cs pos) pe := by
  cases ops with
  | nil => cases h
  | cons o os =>
    cases cs with
    | nil => cases h
    | cons b r =>
      unfold trCmp at h
      dsimp only at h
      split at h
      · cases h
      · rename_i hs
        have hs := Bool.eq_false_iff.mpr hs
        cases os with
        | nil =>
          unfold trCmp2 at h
          dsimp only at h
          split at h
          · rename_i hr
            cases List.isEmpty_iff.mp hr
            obtain ⟨x, y, hx, hy, rfl⟩ := bnd2_some h
            exact ok_cmp1 hs (h1 _ _ hx) (h1 _ _ hy)
          · cases h
        | cons o2 os =>
          cases r with
          | nil => cases h
          | cons c r =>
            unfold trCmp2 at h
            dsimp only at h
            split at h
            · cases h
            · rename_i hc
              have hc := Bool.eq_false_iff.mpr hc
              obtain ⟨hc1, hr⟩ := Bool.or_eq_false_iff.mp hc
              obtain ⟨hc2, ho⟩ := Bool.or_eq_false_iff.mp hc1
              cases List.isEmpty_iff.mp (Bool.not_eq_eq_eq_not.mp hr)
              cases List.isEmpty_iff.mp (Bool.not_eq_eq_eq_not.mp ho)
              obtain ⟨x, y, z, hx, hy, hz, rfl⟩ := bnd3_some h
              exact ok_cmp2 hs hc2 (h1 _ _ hx) (h1 _ _ hy) (h1 _ _ hz)
theorem tr_ok (hT : TabOk C T K) : ∀ (n : Nat) (k : Kd) (e : Expr) (pe : PE), trE n k e = some pe → ∀ env : Env, env.kindOf = k → EvOk C T K env e pe ∧ TtOk C T K env e pe
  | 0, _, _, _, h, _, _ => by cases h
  | n + 1, k, e, pe, h, env, hk => by
    have ih := tr_ok hT n
    subst hk
    have ih1 : ∀ e pe, trE n env.kindOf e = some pe → EvOk C T K env e pe := fun e pe h => (ih _ e pe h env rfl).1
    have ih2 : ∀ e pe, trE n env.kindOf e = some pe → TtOk C T K env e pe := fun e pe h => (ih _ e pe h env rfl).2
    have st : ∀ e pe, trE n env.kindOf e = some pe → isStar e = false := fun e pe h => tr_star h
    cases e with
    | Name x pos => exact ok_nm hT h
    | Constant c k pos => exact ok_const h
    | BinOp l op r pos =>
      obtain ⟨x, y, hx, hy, rfl⟩ := bnd2_some h
      exact both (ok_bin (ih1 _ _ hx) (ih1 _ _ hy)) (fun _ => rfl) rfl
    | UnaryOp op x pos =>
      have h : trUn (trE n env.kindOf) op x = some pe := h
      cases op with
      | Not => obtain ⟨x, hx, rfl⟩ := map_some' h; exact ok_not (ih1 _ _ hx) (ih2 _ _ hx)
      | USub => obtain ⟨x, hx, rfl⟩ := map_some' h; exact both (ok_neg (ih1 _ _ hx)) (fun _ => rfl) rfl
      | _ => cases h
    | BoolOp op vs pos =>
      have h : (trLs (trE n env.kindOf) vs).bind (trBool op) = some pe := h
      obtain ⟨ps, hps, h⟩ := Option.bind_eq_some_iff.mp h
      · obtain ⟨h1, h2⟩ := ok_bool op pos vs ps pe (els_ok (fun e pe h => ih _ e pe h env rfl) hps) h
        exact ⟨fun F S hA h hE => h1 F S hA h hE, fun F S hA h hE => by rw [arm_isTrue_BoolOp]; exact h2 F S hA h hE⟩
    | Compare a ops cs pos => exact ok_cmpE ih1 h
    | Call f args kws pos => exact ok_callE hT ih1 st h
    | Subscript o i pos => exact ok_subE hT ih1 h
    | List es pos =>
      obtain ⟨x, hx, rfl⟩ := map_some' (f := .list) h
      exact both (ok_list (el_ok ih1 st hx)) (fun _ => rfl) rfl
    | Tuple es k pos =>
      obtain ⟨x, hx, rfl⟩ := map_some' (f := .tuple) h
      exact both (ok_tuple (el_ok ih1 st hx)) (fun _ => rfl) rfl
    | Dict ks vs pos =>
      have h : trDict ks vs = some pe := h
      unfold trDict at h
      split at h
      · rename_i hc
        obtain ⟨hc1, hc2⟩ := Bool.and_eq_true_iff.mp hc
        cases List.isEmpty_iff.mp hc1
        cases List.isEmpty_iff.mp hc2
        cases h
        exact both ok_dict0 (fun _ => rfl) rfl
      · cases h
    | ListComp elt gens sc pos =>
      obtain ⟨target, iter, ifs, t', pit, test, el, c⟩ := tr_comp hT ih1 st (fun cenv hc e pe h => ih _ e pe h cenv hc) h
      have hg := c.hgens
      subst hg
      exact both (ok_comp c.hsc c.only c.tgt c.fold c.hit c.ts c.hel c.hsem) (fun _ => rfl) c.htt
    | _ => cases h
end
end Mine
end
section
namespace Mine
open PySem PySem.Calls PyProof.Rows
section
variable (C : Cx) (T : Tab) (K : Nat)
noncomputable def FlR (ρ : List Addr) : Fl → Flow → Prop
  | .next, f => f = .next
  | .brk, f => f = .brk
  | .ret v, f => ∃ u, f = .ret u ∧ VR C ρ v u
inductive PF (env : Env) (ρ : List Addr) (s : Shared) (Q : SPost) (f : Flow) (s' : Shared) : Prop
  | mk (ρ' : List Addr) (H' : AHeap) (σ' : Sg) (fl : Fl) : StepG (own env) ρ s ρ' s' → Sim C ρ' H' s' → FR C env σ' ρ' s'.heap → FlR C ρ' fl f → Q fl σ' H' → PF env ρ s Q f s'
abbrev TakesS (env : Env) (ρ : List Addr) (s : Shared) (X : XPost) (E : Value → Shared → Prop) : Prop := ∀ e s', PX C (own env) ρ s X e s' → E e s'
noncomputable def BlOk (env : Env) (b : List Stmt) (ps : PS) : Prop := ∀ {σ : Sg} {ρ : List Addr} {H : AHeap} {s : Shared} {A : Around} {Q : SPost} {X : XPost} {E : Value → Shared → Prop},
  FR C env σ ρ s.heap → Sim C ρ H s → AOk C K A → semS T ps σ H Q X → TakesS C env ρ s X E → wpAny C.M A (execs b env) (PF C env ρ s Q) E s
noncomputable def S1Ok (env : Env) (st : Stmt) (ps : PS) : Prop := ∀ {σ : Sg} {ρ : List Addr} {H : AHeap} {s : Shared} {A : Around} {Q : SPost} {X : XPost} {E : Value → Shared → Prop},
  FR C env σ ρ s.heap → Sim C ρ H s → AOk C K A → semS T ps σ H Q X → TakesS C env ρ s X E → wpAny C.M A (exec st env) (PF C env ρ s Q) E s
end
section
variable {C : Cx} {T : Tab} {K : Nat} {env : Env}
theorem TakesS.takes {ρ : List Addr} {s : Shared} {X : XPost} {E : Value → Shared → Prop} (h : TakesS C env ρ s X E) : Takes C ρ s X E := fun e s' ⟨ρ', H', c, st, S, x, q⟩ => h e s' ⟨ρ', H', c, st.up, S, x, q⟩
theorem TakesS.on {ρ ρ1 : List Addr} {s s1 : Shared} {X : XPost} {E : Value → Shared → Prop} (h : TakesS C env ρ s X E) (st : StepG (own env) ρ s ρ1 s1) : TakesS C env ρ1 s1 X E := fun e s' p => h e s' (p.trans st)
theorem PF.trans {ρ ρ1 : List Addr} {s s1 s' : Shared} {Q : SPost} {f : Flow} (st : StepG (own env) ρ s ρ1 s1) (h : PF C env ρ1 s1 Q f s') : PF C env ρ s Q f s' :=
  by obtain ⟨ρ', H', σ', fl, a, b, c, d, e⟩ := h; exact ⟨ρ', H', σ', fl, st.trans a, b, c, d, e⟩
theorem not_swap {v t : Expr} {line : Nat} (hv : isComp v = false) : swapsWith v (some t) line env = pure false := by
  cases v <;> first | rfl | cases hv
theorem not_swap0 {v : Expr} {line : Nat} (hv : isComp v = false) : swapsWith v none line env = pure false := by
  cases v <;> first | rfl | cases hv
theorem not_swap_t {v t : Expr} {line : Nat} (ht : ∀ x p, t ≠ .Name x p) : swapsWith v (some t) line env = pure false := by
  cases v <;> first | rfl | (cases t <;> first | rfl | exact absurd rfl (ht _ _))
theorem bl_nil : BlOk C T K env [] .skip := fun F S hA h hE => wpAny_execs_nil ⟨_, _, _, .next, StepG.refl _ _, S, F, rfl, h⟩
theorem bl_cons {st : Stmt} {r : List Stmt} {p q : PS} (h1 : S1Ok C T K env st p) (h2 : BlOk C T K env r q) : BlOk C T K env (st :: r) (.seq p q) := by
  intro σ ρ H s A Q X E F S hA h hE
  refine wpAny_execs_cons (wpAny_mono (h1 F S hA h hE) (fun f s1 ⟨ρ1, H1, σ1, fl, st1, S1, F1, hf, hq⟩ => ?_) fun _ _ x => x)
  cases fl with
  | next =>
    cases hf
    exact wpAny_mono (h2 F1 S1 hA hq (TakesS.on hE st1)) (fun _ _ p => PF.trans st1 p) fun _ _ x => x
  | brk => cases hf; exact ⟨ρ1, H1, σ1, .brk, st1, S1, F1, rfl, hq⟩
  | ret v => obtain ⟨u, rfl, hv⟩ := hf; exact ⟨ρ1, H1, σ1, .ret v, st1, S1, F1, ⟨u, rfl, hv⟩, hq⟩
theorem s_pass {pos : Pos} : S1Ok C T K env (.Pass pos) .skip := fun F S hA h hE => wpAny_Pass ⟨_, _, _, .next, StepG.refl _ _, S, F, rfl, h⟩
theorem s_break {pos : Pos} : S1Ok C T K env (.Break pos) .brk := fun F S hA h hE => wpAny_Break ⟨_, _, _, .brk, StepG.refl _ _, S, F, rfl, h⟩
theorem s_ret {e : Expr} {pos : Pos} {pe : PE} (he : EvOk C T K env e pe) : S1Ok C T K env (.Return (some e) pos) (.ret pe) := by
  intro σ ρ H s A Q X E F S hA h hE
  exact wpAny_Return_some (he.bind F S hA h (TakesS.takes hE) fun ρ1 H1 v u s1 st F1 S1 hv hq hE1 => ⟨ρ1, H1, σ, .ret v, st.up, S1, F1, ⟨u, rfl, hv⟩, hq⟩)
theorem s_ret0 {pos : Pos} : S1Ok C T K env (.Return none pos) (.ret .none) := fun F S hA h hE => wpAny_Return_none ⟨_, _, _, .ret .none, StepG.refl _ _, S, F, ⟨_, rfl, rfl⟩, h⟩
theorem s_expr {e : Expr} {pos : Pos} {pe : PE} (he : EvOk C T K env e pe) (hc : isComp e = false) : S1Ok C T K env (.Expr e pos) (.expr pe) := by
  intro σ ρ H s A Q X E F S hA h hE
  exact wpAny_Expr_any (he.bind F S hA h (TakesS.takes hE) fun ρ1 H1 v u s1 st F1 S1 hv hq hE1 => ⟨ρ1, H1, σ, .next, st.up, S1, F1, rfl, hq⟩) (by unfold interactive; rw [F.kind]; rfl) (not_swap0 hc)
theorem s_if {c : Expr} {a b : List Stmt} {pos : Pos} {pc : PE} {pa pb : PS} (hc : TtOk C T K env c pc) (ha : BlOk C T K env a pa) (hb : BlOk C T K env b pb) : S1Ok C T K env (.If c a b pos) (.ite pc pa pb) := by
  intro σ ρ H s A Q X E F S hA h hE
  refine wpAny_If (hc.bind F S hA h (TakesS.takes hE) fun ρ1 H1 t s1 st F1 S1 hq hE1 => ?_)
  cases t with
  | true => exact wpAny_mono (ha F1 S1 hA hq (TakesS.on hE st.up)) (fun _ _ p => PF.trans st.up p) fun _ _ x => x
  | false => exact wpAny_mono (hb F1 S1 hA hq (TakesS.on hE st.up)) (fun _ _ p => PF.trans st.up p) fun _ _ x => x
theorem set_ok {o i v : V} {ou iu vu : Value} {H : AHeap} {q : AHeap → Prop} {ρ : List Addr} {s : Shared} {A : Around} {E : Value → Shared → Prop} (h : setItemA o i v H q) (S : Sim C ρ H s) (ho : VR C ρ o ou) (hi : VR C ρ i iu) (hv : VR C ρ v vu) :
    wpAny C.M A (setItem ou iu vu) (fun _ s' => ∃ H', Step ρ s ρ s' ∧ Sim C ρ H' s' ∧ q H') E s := by
  cases h with
  | @dict n es ep k hn e1 hl hq =>
    obtain ⟨a, rfl, ea, hor⟩ := S.lookup e1 ho
    obtain ⟨ok, tk, rfl⟩ := hi
    obtain ⟨kvs, hd, hdk⟩ := dict_of hor
    refine wpAny_setItem_pairs (strKind_is _ _ _ tk) hd (fun h' hm hsb => ?_) (by rw [← hdk.length]; exact lid_le (Nat.le_of_lt hl))
    obtain ⟨ep', ho'⟩ := dict_is hm (dk_stored ok hv hdk) (by
      unfold stA
      split
      · rw [List.length_map]; exact Nat.le_of_lt hl
      · rw [List.length_append]; exact hl)
    obtain ⟨S1, st1⟩ := S.change (h' := h') (tk := s.toks + 1) (o := .dict (stA es k v) ep') hn ea (fun b x hb e => hsb.extBut b x hb e) ho'
    exact ⟨_, st1, S1, hq ep'⟩
theorem s_setItem {o i e : Expr} {p pos : Pos} {po pi pe : PE} (ho : EvOk C T K env o po) (hi : EvOk C T K env i pi) (he : EvOk C T K env e pe) : S1Ok C T K env (.Assign [.Subscript o i p] e pos) (.setItem po pi pe) := by
  intro σ ρ H s A Q X E F S hA h hE
  refine wpAny_Assign_Subscript (he.bind F S hA h (TakesS.takes hE) fun ρ1 H1 v1 u1 s1 st1 F1 S1 hv1 hq1 hE1 => ho.bind F1 S1 hA hq1 hE1 fun ρ2 H2 v2 u2 s2 st2 F2 S2 hv2 hq2 hE2 => hi.bind F2 S2 hA hq2 hE2 fun ρ3 H3 v3 u3 s3 st3 F3 S3 hv3 hq3 hE3 => ?_) (not_swap_t fun _ _ q => by cases q)
  refine wpAny_mono (set_ok hq3 S3 (st3.vr hv2) hv3 (st3.vr (st2.vr hv1))) (fun _ s' ⟨H', st4, S4, hq4⟩ => ?_) fun _ _ x => x
  exact ⟨ρ3, H', σ, .next, (((st1.trans st2).trans st3).trans st4).up, S4, F3.step st4, rfl, hq4⟩
end
end Mine
end
section
namespace Mine
open PySem PySem.Calls PyProof.Rows
section
variable {C : Cx} {T : Tab} {K : Nat} {env : Env}
theorem ownT_step {Z : List Str} {ρ ρ1 : List Addr} {s s1 : Shared} (st : StepG (ownT env Z) ρ s ρ1 s1) : StepG (own env) ρ s ρ1 s1 := st.mono ownT.own
theorem s_assign_plain {x : Str} {p pos : Pos} {v : Expr} {pv : PE} (hx : stored env.kindOf x = true) (hv : EvOk C T K env v pv) (hs : swapsWith v (some (.Name x p)) pos.line env = pure false) : S1Ok C T K env (.Assign [.Name x p] v pos) (.assign (.name x) pv) := by
  intro σ ρ H s A Q X E F S hA h hE
  refine wpAny_Assign_Name (hv.bind F S hA h (TakesS.takes hE) fun ρ1 H1 v1 u1 s1 st1 F1 S1 hv1 hq1 hE1 => ?_) hs
  refine store_ok (Z := [x]) F1 S1 (.head _) (stored_iff hx) (stored_ne hx) hv1 fun s2 F2 S2 st2 => ?_
  exact ⟨ρ1, H1, _, .next, (StepG.up st1).trans (ownT_step st2), S2, F2, rfl, hq1⟩
theorem s_assign_name (hT : TabOk C T K) {x : Str} {p pos : Pos} {v : Expr} {pv : PE} {n : Nat} (hx : stored env.kindOf x = true) (h : trE n env.kindOf v = some pv) : S1Ok C T K env (.Assign [.Name x p] v pos) (.assign (.name x) pv) := by
  have hv : EvOk C T K env v pv := (tr_ok hT n _ v pv h env rfl).1
  cases hc : isComp v with
  | true =>
    cases v <;> first | (cases hc; done) | skip
    · rename_i elt gens sc cpos
      cases n with
      | zero => cases h
      | succ n =>
      obtain ⟨b, hb⟩ : ∃ b, swapsWith (.ListComp elt gens sc cpos) (some (.Name x p)) pos.line env = pure b := ⟨_, rfl⟩
      cases b with
      | false => intro σ ρ H s A Q X E; exact s_assign_plain hx hv hb
      | true =>
        obtain ⟨target, iter, ifs, t', pit, test, el, cc⟩ := tr_comp hT (fun e pe h => (tr_ok hT n _ e pe h env rfl).1) (fun e pe h => tr_star h) (fun cenv hc e pe h => tr_ok hT n _ e pe h cenv hc) h
        obtain ⟨rfl, hs, ho, htr, hf, hit, hts, hel, hsem, _⟩ := cc
        intro σ ρ H s A Q X E F S hA h hE
        rw [exec_Assign_Name_used _ _ _ _ hb]
        refine wpAny_bind (wpAny_standAt (wpAny_bind ?_))
        show wpAny _ A (do let _ ← comprehension (.ListComp elt [⟨target, iter, ifs, 0⟩] sc cpos) sc env _ (newList []) false (eval iter env) (some (assign (.Name x p) env))) _ _ s
        refine wpAny_bind (wpAny_mono (Q := fun _ s' => PF C env ρ s Q .next s') ?_ (fun _ s' hq => wpAny_pure (wpAny_pure hq)) fun _ _ e => e)
        refine comp_any (use := some (assign (.Name x p) env)) hA F S (TakesS.takes hE) hs ho htr hf hit (hts X) (hel X) (hsem σ H _ X h) ?_
        intro D Cc t m _ hm hn ρ1 H1 v st1 S1 v1 hq hC
        show wpAny _ A (assign (.Name x p) env (.ref D)) _ _ _
        refine assign_Name (store_ok (Z := [x]) (F.step st1) S1 (.head _) (stored_iff hx) (stored_ne hx) v1 fun s2 F2 S2 st2 => ?_)
        have hown : ¬ own env Cc := fun q => by obtain ⟨o, e⟩ := F.alive _ q; rw [hn] at e; cases e
        obtain ⟨ob, es, ep, eC, _⟩ := id hm
        refine ⟨m, Same.ns hm fun o e => st2.keep _ o hC (fun q => hown (ownT.own _ q)) e, fun h' hsb => ?_⟩
        obtain ⟨st3, S3⟩ := adrift (W := fun b => b = Cc) (h' := h') (tk := s2.toks) ((StepG.up st1).trans (ownT_step st2)) S2 (fun b hb => by subst hb; exact ⟨hn, hC, base_none S hn⟩) (fun b o hb e => hsb.extBut b o hb e) S.frs
        exact ⟨ρ1, H1, _, .next, st3, S3, F2.at fun b hb o e => hsb.extBut b o (fun q => hown (q ▸ hb)) e, rfl, hq⟩
    · cases n <;> cases h
    · cases n <;> cases h
  | false => intro σ ρ H s A Q X E; exact s_assign_plain hx hv (not_swap hc)
theorem sets_cons_ne : ∀ (ps : List (Str × V)) (σ : Sg) (x : Str) (v : V), x ∉ ps.map (·.1) → (σ.set x v).sets ps = (σ.sets ps).set x v
  | [], _, _, _, _ => rfl
  | (y, w) :: r, σ, x, v, h => by
    have hxy : x ≠ y := fun q => h (by rw [q, List.map_cons]; exact .head _)
    have h' : x ∉ r.map (·.1) := fun q => h (by rw [List.map_cons]; exact .tail _ q)
    unfold Sg.sets
    have : (σ.set x v).set y w = (σ.set y w).set x v := by
      funext z
      unfold Sg.set
      by_cases z1 : z = x <;> by_cases z2 : z = y
      · exact absurd (z1.symm.trans z2) hxy
      · simp [z1, hxy]
      · simp [z2, Ne.symm hxy]
      · simp [z1, z2]
    rw [this, sets_cons_ne r _ x v h']
theorem sets_append : ∀ (ps qs : List (Str × V)) (σ : Sg), σ.sets (ps ++ qs) = (σ.sets ps).sets qs
  | [], _, _ => rfl
  | (y, w) :: r, qs, σ => by
    show (σ.set y w).sets (r ++ qs) = ((σ.set y w).sets r).sets qs
    exact sets_append r qs _
theorem sets_reverse : ∀ (ps : List (Str × V)) (σ : Sg), (ps.map (·.1)).Nodup → σ.sets ps.reverse = σ.sets ps
  | [], _, _ => rfl
  | (y, w) :: r, σ, h => by
    rw [List.map_cons, List.nodup_cons] at h
    rw [List.reverse_cons, sets_append, sets_reverse r σ h.2]
    show (σ.sets r).set y w = (σ.set y w).sets r
    rw [sets_cons_ne r σ y w h.1]
theorem stores_list {A : Around} {E : Value → Shared → Prop} {Z : List Str} : ∀ (xs : List Str) (vs : List V) (us : List Value) (σ : Sg) (ρ : List Addr) (H : AHeap) (s : Shared) (Q : Unit → Shared → Prop),
    xs.length = vs.length → All2 (VR C ρ) vs us → (∀ x ∈ xs, x ∈ Z) → (∀ x ∈ xs, stored env.kindOf x = true) → FR C env σ ρ s.heap → Sim C ρ H s →
    (∀ s', FR C env (σ.sets (xs.zip vs)) ρ s'.heap → Sim C ρ H s' → StepG (ownT env Z) ρ s ρ s' → Q () s') → wpAny C.M A (assignInOrder (xs.map fun x => bindName env x) us) Q E s
  | [], [], _, σ, ρ, H, s, Q, _, .nil, _, _, F, S, h => wpAny_pure (h s F S (StepG.refl _ _))
  | x :: xs, v :: vs, _, σ, ρ, H, s, Q, hl, .cons (b := u) (bs := us) hv hr, hz, hk, F, S, h => by
    rw [List.map_cons, assignInOrder]
    refine wpAny_bind (wpAny_holding (bindName_ (store_ok F S (hz x (.head _)) (stored_iff (hk x (.head _))) (stored_ne (hk x (.head _))) hv fun s1 F1 S1 st1 => ?_)))
    refine stores_list xs vs us _ ρ H s1 Q (by simpa using hl) hr (fun y hy => hz y (.tail _ hy)) (fun y hy => hk y (.tail _ hy)) F1 S1 fun s2 F2 S2 st2 => h s2 F2 S2 (st1.trans st2)
  | [], _ :: _, _, _, _, _, _, _, hl, _, _, _, _, _, _ => by simp at hl
  | _ :: _, [], _, _, _, _, _, _, hl, _, _, _, _, _, _ => by simp at hl
theorem tgt_filter {p : Str → Pos → Bool} : ∀ {ts : List Expr} {xs : List Str}, tgtNames ts = some xs → (ts.filterMap fun | .Name id pos => if p id pos then some id else none | _ => none).length = ts.length → (ts.filterMap fun | .Name id pos => if p id pos then some id else none | _ => none) = xs
  | [], _, h, _ => by cases h; rfl
  | e :: r, xs, h, hl => by
    unfold tgtNames at h
    split at h
    · rename_i x q he
      cases asName_is he
      obtain ⟨ys, hr, rfl⟩ := Option.map_eq_some_iff.mp h
      rw [List.filterMap_cons] at hl ⊢
      dsimp only at hl ⊢
      by_cases hp : p x q = true
      · rw [if_pos hp] at hl ⊢
        dsimp only at hl ⊢
        rw [tgt_filter hr (Nat.succ.inj hl)]
      · rw [if_neg hp] at hl
        dsimp only at hl
        have := List.length_filterMap_le (fun | .Name id pos => if p id pos then some id else none | _ => none) r
        rw [hl] at this
        exact absurd this (Nat.not_succ_le_self _)
    · cases h
theorem swapped_one {ts : List Expr} {k : Nat} {tp : Pos} {v : Expr} {xs : List Str} (hx : tgtNames ts = some xs) (hv : oneTup v = false) : swappedStores [.Tuple ts k tp] v env = pure none ∨ swappedStores [.Tuple ts k tp] v env = pure (some xs) := by
  cases v <;> first | exact .inl rfl | skip
  rename_i vs k' vp
  unfold swappedStores
  dsimp only
  split
  · exact .inl rfl
  · split
    · exact .inl rfl
    · split
      · exact .inl rfl
      · rename_i hn
        split
        · exact .inl rfl
        · have : (vs.all (constantsAlone 8)) = false := hv
          rw [this]
          right
          rw [if_neg (by simp)]
          rw [Bool.or_eq_true, not_or] at hn
          have hn1 := hn.1
          simp only [bne_iff_ne, ne_eq, Decidable.not_not] at hn1
          exact congrArg (fun l => (pure (some l) : Sem (Option (List Str)))) (tgt_filter (p := fun id pos => env.kindOf id == some .local && pos.line == (Option.map (fun x => x.pos.line) ts.head?).getD 0) hx hn1)
theorem s_assign_tup {ts : List Expr} {k : Nat} {tp pos : Pos} {v : Expr} {pv : PE} {t' : Tgt} (ht : trT env.kindOf (.Tuple ts k tp) = some t') (hv : EvOk C T K env v pv) (hc : isComp v = false) (ho : oneTup v = false) : S1Ok C T K env (.Assign [.Tuple ts k tp] v pos) (.assign t' pv) := by
  intro σ ρ H s A Q X E F S hA h hE
  have hs : swapsWithSole [.Tuple ts k tp] v pos.line env = pure false := by
    unfold swapsWithSole
    exact not_swap_t (t := .Tuple ts k tp) fun _ _ q => nomatch q
  have ht0 := ht
  have ht : (match tgtNames ts with
      | some xs => if xs.all (stored env.kindOf) && decide xs.Nodup then some (Tgt.tup xs) else none
      | none => none) = some t' := ht
  split at ht
  · rename_i xs hxs
    split at ht
    · rename_i hk
      cases ht
      obtain ⟨hk1, hk2⟩ := Bool.and_eq_true_iff.mp hk
      have hk1 : ∀ x ∈ xs, stored env.kindOf x = true := List.all_eq_true.mp hk1
      have hk2 : xs.Nodup := by simpa using hk2
      rcases swapped_one (env := env) (k := k) (tp := tp) hxs ho with hw | hw
      · refine Assign_Tuple (hv.bind F S hA h (TakesS.takes hE) fun ρ1 H1 v1 u1 s1 st1 F1 S1 hv1 hq1 hE1 => ?_) hs hw
        split at hq1
        · rename_i σ' hb
          refine assign_ok (x := .one v1) (h0 := s1.heap) hA.h ht0 hb hv1 F1 S1 fun s2 F2 S2 st2 => ?_
          exact ⟨ρ1, H1, σ', .next, (StepG.up st1).trans (ownT_step st2), S2, F2, rfl, hq1⟩
        · exact hq1.elim
      · refine Assign_Tuple_swapped (names := xs) (hv.bind F S hA h (TakesS.takes hE) fun ρ1 H1 v1 u1 s1 st1 F1 S1 hv1 hq1 hE1 => ?_) hs hw
        split at hq1
        · rename_i σ' hb
          cases v1 with
          | ref n =>
            unfold bindA at hb
            dsimp only at hb
            split at hb
            · rename_i vs e1
              split at hb
              · rename_i hl
                cases hb
                obtain ⟨a, rfl, ea, us, m, hob, hs', _⟩ := S1.lookup e1 hv1
                have hz : xs.length = us.size := by rw [hl, hs'.length]; simp
                refine unpack_tuple hA.h S1 hob hz fun h' hk' => ?_
                obtain ⟨S2, st2⟩ := S1.grow (h' := h') (tk := s1.toks) hk'
                refine stores_list (Z := xs) xs.reverse vs.reverse us.toList.reverse σ ρ1 H1 _ _ (by simpa using hl) hs'.reverse (fun x hx => by simpa using hx) (fun x hx => hk1 x (by simpa using hx)) (F1.step st2) S2 fun s3 F3 S3 st3 => ?_
                have e4 : xs.reverse.zip vs.reverse = (xs.zip vs).reverse := by
                  unfold List.zip; exact (List.reverse_zipWith hl).symm
                rw [e4, sets_reverse _ _ (by rw [map_fst_zip hl]; exact hk2)] at F3
                exact ⟨ρ1, H1, _, .next, ((StepG.up st1).trans (StepG.up st2)).trans (ownT_step st3), S3, F3, rfl, hq1⟩
              · cases hb
            · cases hb
          | _ => cases hb
        · exact hq1.elim
    · cases ht
  · cases ht
end
end Mine
end
section
namespace Mine
open PySem PySem.Calls PyProof.Rows
section
variable {C : Cx} {T : Tab} {K : Nat} {env : Env}
theorem s_for {t it : Expr} {body : List Stmt} {pos : Pos} {t' : Tgt} {pit : PE} {pb : PS} (ht : trT env.kindOf t = some t') (hit : ItOk C T K env it pit) (hf : ∀ x, foldedSetIterable it env x = pure x) (hb : BlOk C T K env body pb) :
    S1Ok C T K env (.For t it body [] pos) (.for_ t' pit pb) := by
  intro σ ρ H s A Q X E F S hA h hE
  refine wpAny_For ?_ hf
  refine wpAny_mono (hit F S hA h (TakesS.takes hE)) (fun xv s₁ h₁ => wpAny_mono h₁ (fun itv s₂ h₂ => ?_) fun _ _ e => e) fun _ _ e => e
  obtain ⟨ρ0, H0, items, Kp, I, wr, St, rfl, hI, hst, st0, S0, hw, hgo⟩ := h₂
  have hwown : ∀ b ∈ wr, ¬ own env b := fun b hb e => by
    obtain ⟨o, e1⟩ := F.alive b e
    rw [(hw b hb).1] at e1; cases e1
  have hW : ∀ ρ1 : List Addr, (∀ b ∈ wr, b ∉ ρ1) → ∀ b, b ∈ wr → s.heap.get? b = none ∧ b ∉ ρ1 ∧ C.base.get? b = none := fun ρ1 x1 b hb => ⟨(hw b hb).1, x1 b hb, base_none S (hw b hb).1⟩
  let Inv : Nat → Shared → Prop := fun n t => ∃ i σ1 ρ1 H1, i + n = items.length ∧ St i t.heap ∧ StepG (own env) ρ s ρ1 t ∧ (∃ l, ρ1 = ρ0 ++ l) ∧ Sim C ρ1 H1 t ∧ (∀ b ∈ wr, b ∉ ρ1) ∧
    FR C env σ1 ρ1 t.heap ∧ forGo Kp (fun x H' σ' => bindA t' x H' σ') (fun σ' H' q => semS T pb σ' H' q fun _ _ => False) Q (items.drop i) σ1 H1
  refine codeAny_forLoop_any Inv (fun n tt hInv => ?_) items.length ⟨0, σ, ρ0, H0, by simp, hst, StepG.up st0, ⟨[], by simp⟩, S0, fun b hb => (hw b hb).2, F.step st0, by simpa using hgo⟩
  obtain ⟨i, σ1, ρ1, H1, hin, hSt, st1, hl1, S1, hw1, F1, hg⟩ := hInv
  cases n with
  | zero =>
    have hi : i = items.length := by lia
    subst hi
    rw [List.drop_length] at hg
    obtain ⟨hK, hq⟩ := hg
    refine wpAny_mono (hI.done ρ1 H1 tt _ hSt S1 hl1 hK hw1) (fun r s1 hr => ?_) fun _ _ x => x
    obtain ⟨rfl, h', tk, rfl, hk⟩ := hr
    refine wpAny_execs_nil ?_
    obtain ⟨st4, S4⟩ := adrift (W := fun b => b ∈ wr) (h' := h') (tk := tk) st1 S1 (hW ρ1 hw1) (fun b o hb e => hk b o hb e) S.frs
    exact ⟨ρ1, H1, σ1, .next, st4, S4, F1.at fun b hb o e => hk b o (fun q => hwown b q hb) e, rfl, hq⟩
  | succ n =>
    have hi : i < items.length := by lia
    rw [List.drop_eq_getElem_cons hi] at hg
    obtain ⟨hK, hg⟩ := hg
    dsimp only at hg
    split at hg
    · rename_i σ' hb'
      refine wpAny_mono (hI.next i items[i] t ρ1 H1 tt _ (List.getElem?_eq_getElem hi) (fits ht hb') hSt S1 hl1 hK hw1) (fun r s1 hr => ?_) fun _ _ x => x
      obtain ⟨u, rfl, hu⟩ := hr
      refine wpAny_mono hu (fun _ s1' hs1 => ?_) fun _ _ x => x
      obtain ⟨h', tk, rfl, hIR, hSt', hk⟩ := hs1
      obtain ⟨st4, S4⟩ := adrift (W := fun b => b ∈ wr) (h' := h') (tk := tk) st1 S1 (hW ρ1 hw1) (fun b o hb e => hk b o hb e) S.frs
      have F4 : FR C env σ1 ρ1 h' := F1.at fun b hb o e => hk b o (fun q => hwown b q hb) e
      refine assign_ok hA.h ht hb' hIR F4 S4 fun s5 F5 S5 st5 => ?_
      have st5' := ownT_step st5
      have hSt5 : St (i + 1) s5.heap := hI.frame _ _ _ hSt' fun b hb o e hc => (st5'.keep b o (hw1 b hb) (hwown b hb) e).eq hc
      refine wpAny_mono (hb F5 S5 hA hg fun e s' p => p.no.elim) (fun f s6 h6 => ?_) fun _ _ x => x
      obtain ⟨ρ2, H2, σ2, fl, st6, S6, F6, hf6, hq6⟩ := h6
      have st46 := (st4.trans st5').trans st6
      cases fl with
      | next =>
        cases hf6
        refine ⟨n, Nat.lt_succ_self n, i + 1, σ2, ρ2, H2, by lia, hI.frame _ _ _ hSt5 fun b hb o e hc => (st6.keep b o (hw1 b hb) (hwown b hb) e).eq hc, st46, ?_, S6, fun b hb => ?_, F6, hq6⟩
        · obtain ⟨l, e⟩ := hl1
          obtain ⟨l', e', _⟩ := st6.ext
          exact ⟨l ++ l', by rw [e', e, List.append_assoc]⟩
        · obtain ⟨o, e⟩ := hI.alive _ _ hSt5 b hb
          exact stay_out st6 e (hw1 b hb)
      | brk =>
        cases hf6
        exact ⟨ρ2, H2, σ2, .next, st46, S6, F6, rfl, hq6⟩
      | ret v =>
        obtain ⟨u, rfl, hv⟩ := hf6
        exact ⟨ρ2, H2, σ2, .ret v, st46, S6, F6, ⟨u, rfl, hv⟩, hq6⟩
    · exact hg.elim
theorem s_while {c : Expr} {body : List Stmt} {pos : Pos} {pc : PE} {pb : PS} (hc : TtOk C T K env c pc) (hb : BlOk C T K env body pb) : S1Ok C T K env (.While c body [] pos) (.while_ pc pb) := by
  intro σ ρ H s A Q X E F S hA h hE
  obtain ⟨N, h⟩ := h
  refine wpAny_While ?_
  let Inv : Nat → Shared → Prop := fun n t => ∃ σ1 ρ1 H1, StepG (own env) ρ s ρ1 t ∧ Sim C ρ1 H1 t ∧ FR C env σ1 ρ1 t.heap ∧ whileGo (fun σ' H' q => (sem T pc).tt σ' H' q fun _ _ => False) (fun σ' H' q => semS T pb σ' H' q fun _ _ => False) Q n σ1 H1
  refine codeAny_whileLoop Inv (fun n tt hInv => ?_) N ⟨σ, ρ, H, StepG.refl _ _, S, F, h⟩
  obtain ⟨σ1, ρ1, H1, st1, S1, F1, hg⟩ := hInv
  cases n with
  | zero => exact hg.elim
  | succ n =>
    refine hc.bind F1 S1 hA hg (fun e s' p => p.no.elim) fun ρ2 H2 b s2 st2 F2 S2 hq hE2 => ?_
    cases b with
    | false =>
      rw [if_neg (by simp)]
      exact wpAny_execs_nil ⟨ρ2, H2, σ1, .next, st1.trans (StepG.up st2), S2, F2, rfl, hq⟩
    | true =>
      rw [if_pos rfl] at hq
      rw [if_pos rfl]
      refine wpAny_mono (hb F2 S2 hA hq fun e s' p => p.no.elim) (fun f s6 h6 => ?_) fun _ _ x => x
      obtain ⟨ρ3, H3, σ3, fl, st6, S6, F6, hf6, hq6⟩ := h6
      have st46 := (st1.trans (StepG.up st2)).trans st6
      cases fl with
      | next =>
        cases hf6
        exact ⟨n, Nat.lt_succ_self n, σ3, ρ3, H3, st46, S6, F6, hq6⟩
      | brk =>
        cases hf6
        exact ⟨ρ3, H3, σ3, .next, st46, S6, F6, rfl, hq6⟩
      | ret v =>
        obtain ⟨u, rfl, hv⟩ := hf6
        exact ⟨ρ3, H3, σ3, .ret v, st46, S6, F6, ⟨u, rfl, hv⟩, hq6⟩
theorem s_raise (hT : TabOk C T K) {c : Str} {np cpos pos : Pos} {a : Expr} {pa : PE} (hg : isG0 env.kindOf c = true) (ha : EvOk C T K env a pa) (hs : isStar a = false) :
    S1Ok C T K env (.Raise (some (.Call (.Name c np) [a] [] cpos)) none pos) (.raise c pa) := by
  intro σ ρ H s A Q X E F S hA h hE
  obtain ⟨hc, h⟩ := h
  obtain ⟨hk, hd⟩ := Bool.and_eq_true_iff.mp hg
  obtain ⟨hcalm, kk, B, newId, initId, bm, hG, FB, O⟩ := hT.cls c hc
  obtain ⟨tl, N, nm, q, bs, hdct, sn, sub, ab, col, dd, k0, k1, k2, k3, k5, mN, hC, hN, hni, TT⟩ := O.obj
  have hs' : ∀ x ∈ [a], isStar x = false := fun x hx => by simp at hx; subst hx; exact hs
  refine wpAny_Raise_call_subT (C := kk) (nm := nm) (q := q) (N := N) (bs := bs) (bm := tl) (hdct := hdct) (sn := sn) (sub := sub) (ab := ab) (col := col) (dd := dd) (k0 := k0) (k1 := k1) (k2 := k2) (k3 := k3) (k5 := k5)
    FB (mN := mN) (TT.hasType FB.hasBase) (hA.hc hcalm) (any_false hs') hni (global_ok F S (beq_iff_eq.mp hk) hG (by simpa using hd) ⟨rfl, ?_⟩)
  refine evalArgs_any hs' (wpAny_items_cons (ha.bind F S hA h (TakesS.takes hE) fun ρ1 H1 v u s1 st F1 S1 hv hq hE1 => wpAny_items_nil ⟨rfl, by show 1 ≤ sizeLine; decide, S1.stays _ _ hC, hN.keeps S1.stays, TT.keeps S1.stays, fun h' e hm => ?_⟩) (star_cons hs []))
  obtain ⟨S2, st2⟩ := S1.grow (h' := h') (tk := s1.toks) hm.keeps
  obtain ⟨t, he, _, _⟩ := hm.there
  exact hE _ _ ⟨ρ1, H1, c, (st.trans st2).up, S2, ⟨e, kk, _, _, rfl, hG, none_ρ S1 hm.new, base_none S1 hm.new, none_before st hm.new, he, rfl, rfl, rfl, .inl rfl⟩, hq⟩
theorem s_try (hT : TabOk C T K) (hfr : ∃ fs, C.frs = env :: fs ∧ env.frame = some env.locals) {n : Nat} (hn : n = 60) {e h : Expr} {p1 p2 p3 p4 pos : Pos} {c x : Str} {pe ph : PE} (he : EvOk C T K env e pe) (hg : isG0 env.kindOf c = true)
    (hx : env.kindOf x = some .local) (hx0 : x ≠ dot0) (hh : trE n env.kindOf h = some ph) :
    S1Ok C T K env (.Try [.Return (some e) p1] [.ExceptHandler (some (.Name c p2)) (some x) [.Return (some h) p3] p4] [] [] pos) (.tryr pe c x ph) := by
  subst hn
  intro σ ρ H s A Q X E F S hA hq hE
  obtain ⟨hk, hd⟩ := Bool.and_eq_true_iff.mp hg
  obtain ⟨fs, hfs, hfL⟩ := hfr
  refine wpAny_Try_except (wpAny_execs_cons (wpAny_Return_some (he.bind F S hA hq ?_ fun ρ1 H1 v u s1 st F1 S1 hv hq1 hE1 => ?_)))
  · rintro e1 s1 ⟨ρ1, H1, k, st1, S1, ⟨a, kk, o, vs, rfl, hG, ha1, ha2, ha3, ho, hcl, hdt, h2, h1⟩, hcat, hev⟩
    obtain ⟨D, hD, hcat⟩ := hT.cat k c hcat
    have hff := S1.frs.funs
    rw [hfs] at hff
    refine note_any (base := C.base) (env := env) (outer := fs) (hA.fr.trans (by rw [hfs])) hff hfL ho hdt (h1.imp id fun ⟨t, ot, ts, z1, _, _, _, z2, z3, z4, z5⟩ => ⟨t, ot, ts, z1, z2, z3, z4, z5⟩) fun h' hL => ?_
    rw [← hfs] at hL
    obtain ⟨S2, st2, t, ot, ts, vs', kd1, kd2, kd3, kd4, kd5, kd6, kd7, kd8, kd9, kd10, kd11, kd12⟩ := left_step (ex := fun _ => False) st1 S1 hL hcl hdt ha1 ha2 ha3 ho h1 h2
    have F2 : FR C env σ ρ1 h' := F.step st2
    refine wpAny_handleBy_cons (codeAny_handlers_test (global_ok F2 S2 (beq_iff_eq.mp hk) hD (by simpa using hd) (hcat kk _ a _ _ _ _ hG S2.stays kd1 kd2 ?_))) (by intro q; cases q)
    rw [if_pos rfl]
    refine codeAny_handlers_suite_as (flight_again (s := { s1 with heap := h' }) kd1 kd3 kd4 kd8 kd9 kd10 fun h3 hk3 hl3 => ?_)
    obtain ⟨S3, st3⟩ := flight_step (ex := fun _ => False) st2 S2 kd5 kd6 kd7 kd9 kd8 hk3 hl3
    have F3 : FR C env σ ρ1 h3 := F.step st3
    have ha4 : h3.get? a = some _ := hk3 a _ (fun q => kd11 q.symm) kd1
    refine store_ok (Z := [x]) F3 S3 (.head _) (.inl hx) hx0 (v := .exc a) rfl fun s4 F4 S4 st4 => ?_
    have ha5 : s4.heap.get? a = some _ := (st4.keep a _ ha1 (fun q => by
      rcases q with q | ⟨y, hy, q, _⟩
      · rw [q] at ha3; obtain ⟨m, ⟨ob, _, _, hob, _⟩, _⟩ := F.ns; rw [ha3] at hob; cases hob
      · simp only [List.mem_singleton] at hy; rw [hy, hx] at q; cases q) ha4).eq (no_ns kd3)
    refine wpAny_execs_cons (wpAny_Return_some ?_)
    refine wpAny_mono (hT.hev k a ph _ H1 _ (hev a) C.frs env h ρ1 s4 (A.mark (some (.ref a))) hh F4 S4 rfl hA.d hA.u hA.fr ⟨kk, _, _, hG, ha1, ha2, ha5, kd2, kd3, kd12⟩) (fun u s5 p => ?_) fun _ _ z => z.elim
    obtain ⟨ρ5, H5, v, st5, S5, hv, hq5⟩ := p
    have F5 := F4.step st5
    obtain ⟨m5, hm5, _⟩ := F5.ns
    refine wpAny_nameGoes hx hm5 (by rw [F.kind]; rfl) fun h6 m6 hm6 hs6 => ?_
    obtain ⟨o6, es6, ep6, ho6, hd6, _⟩ := id hm6
    have st45 : StepG (own env) ρ s ρ5 s5 := ((StepG.up st3).trans (ownT_step st4)).trans (StepG.up st5)
    refine ⟨ρ5, H5, fun _ => none, .ret v, st45.trans (step_same (.inl rfl) hs6 ho6), S5.frame F5.nL F5.bL hs6 fun _ _ _ => ⟨o6, ho6, es6, ep6, hd6⟩, ?_, ⟨u, rfl, hv⟩, hq5⟩
    exact ⟨rfl, F5.kind, F5.glob, F5.bl, ⟨m6, hm6, fun y w q => by cases q⟩, fun y cc hcc => by
      obtain ⟨ov, hi, _⟩ := F5.cells y cc hcc
      exact ⟨ov, hi.sameBut hs6 (F5.nC y cc hcc).2, fun w q => by cases q⟩, F5.has, F5.nL, F5.nC, F5.apart, F5.bL, F5.bC⟩
  · exact ⟨ρ1, H1, σ, .ret v, StepG.up st, S1, F1, ⟨u, rfl, hv⟩, hq1⟩
theorem trT_shape {k : Kd} {t : Expr} {t' : Tgt} (h : trT k t = some t') : (∃ x p, t = .Name x p ∧ t' = .name x ∧ stored k x = true) ∨ ∃ ts n p xs, t = .Tuple ts n p ∧ t' = .tup xs := by
  unfold trT at h
  split at h
  · rename_i e
    split at h
    · rename_i hx; cases h; exact .inl ⟨_, _, asName_is e, rfl, hx⟩
    · cases h
  · split at h
    · rename_i e
      split at h
      · split at h
        · cases h; exact .inr ⟨_, _, _, _, asTup_is e, rfl⟩
        · cases h
      · cases h
    · cases h
theorem assign_tr (hT : TabOk C T K) {n : Nat} {ts : List Expr} {v : Expr} {pos : Pos} {ps : PS} (h : trAssign env.kindOf (trE n env.kindOf) ts v = some ps) : S1Ok C T K env (.Assign ts v pos) ps := by
  have ev : ∀ e pe, trE n env.kindOf e = some pe → EvOk C T K env e pe := fun e pe h => (tr_ok hT n _ e pe h env rfl).1
  cases ts with
  | nil => cases h
  | cons t r =>
    unfold trAssign at h
    dsimp only at h
    split at h
    · rename_i hr
      cases List.isEmpty_iff.mp hr
      split at h
      · rename_i o i p e1
        cases asSub_is e1
        split at h
        · cases h
        · obtain ⟨a, ha, h⟩ := Option.bind_eq_some_iff.mp h
          obtain ⟨b, hb, h⟩ := Option.bind_eq_some_iff.mp h
          obtain ⟨c, hc, rfl⟩ := Option.map_eq_some_iff.mp h
          intro σ ρ H s A Q X E
          exact s_setItem (ev _ _ hb) (ev _ _ hc) (ev _ _ ha)
      · obtain ⟨t', ht, h⟩ := Option.bind_eq_some_iff.mp h
        obtain ⟨v', hv, h⟩ := Option.bind_eq_some_iff.mp h
        rcases trT_shape ht with ⟨x, p, rfl, rfl, hx⟩ | ⟨ts, m, p, ys, rfl, rfl⟩
        · cases h
          intro σ ρ H s A Q X E
          exact s_assign_name hT hx hv
        · have h : (if isComp v || oneTup v then none else some (PS.assign (.tup ys) v')) = some ps := h
          split at h
          · cases h
          · rename_i hcv
            cases h
            obtain ⟨h1, h2⟩ := Bool.or_eq_false_iff.mp (Bool.eq_false_iff.mpr hcv)
            intro σ ρ H s A Q X E
            exact s_assign_tup ht (ev _ _ hv) h1 h2
    · cases h
theorem one_tr (hT : TabOk C T K) (hfr : ∃ fs, C.frs = env :: fs ∧ env.frame = some env.locals) {n : Nat} (hn : n = 60) {b : List Stmt → Option PS} (hb : ∀ x ps, b x = some ps → BlOk C T K env x ps) {st : Stmt} {ps : PS} (h : tr1 env.kindOf (trE n env.kindOf) b st = some ps) : S1Ok C T K env st ps := by
  have ev : ∀ e pe, trE n env.kindOf e = some pe → EvOk C T K env e pe := fun e pe h => (tr_ok hT n _ e pe h env rfl).1
  have et : ∀ e pe, trE n env.kindOf e = some pe → TtOk C T K env e pe := fun e pe h => (tr_ok hT n _ e pe h env rfl).2
  cases st with
  | Assign ts v pos =>
    intro σ ρ H s A Q X E
    exact assign_tr hT h
  | Expr e pos =>
    have h : (if isComp e then none else (trE n env.kindOf e).map PS.expr) = some ps := h
    split at h
    · cases h
    · rename_i hc
      obtain ⟨x, hx, rfl⟩ := Option.map_eq_some_iff.mp h
      intro σ ρ H s A Q X E
      exact s_expr (ev _ _ hx) (Bool.eq_false_iff.mpr hc)
  | If c x y pos =>
    obtain ⟨c', hc, h⟩ := Option.bind_eq_some_iff.mp h
    obtain ⟨a, ha, h⟩ := Option.bind_eq_some_iff.mp h
    obtain ⟨d, hd, rfl⟩ := Option.map_eq_some_iff.mp h
    intro σ ρ H s A Q X E
    exact s_if (et _ _ hc) (hb _ _ ha) (hb _ _ hd)
  | For t it body els pos =>
    unfold tr1 at h
    dsimp only at h
    split at h
    · rename_i hels
      cases List.isEmpty_iff.mp hels
      obtain ⟨t', ht, h⟩ := Option.bind_eq_some_iff.mp h
      obtain ⟨i', hi, h⟩ := Option.bind_eq_some_iff.mp h
      obtain ⟨b', hbb, rfl⟩ := Option.map_eq_some_iff.mp h
      obtain ⟨h1, h2⟩ := trI_ok hT ev (fun e pe h => tr_star h) hi
      intro σ ρ H s A Q X E
      exact s_for ht h1 (folded_no h2) (hb _ _ hbb)
    · cases h
  | While c body els pos =>
    unfold tr1 at h
    dsimp only at h
    split at h
    · rename_i hels
      cases List.isEmpty_iff.mp hels
      obtain ⟨c', hc, h⟩ := Option.bind_eq_some_iff.mp h
      obtain ⟨b', hbb, rfl⟩ := Option.map_eq_some_iff.mp h
      intro σ ρ H s A Q X E
      exact s_while (et _ _ hc) (hb _ _ hbb)
    · cases h
  | Return e pos =>
    cases e with
    | some e =>
      obtain ⟨x, hx, rfl⟩ := Option.map_eq_some_iff.mp (show (trE n env.kindOf e).map PS.ret = some ps from h)
      intro σ ρ H s A Q X E
      exact s_ret (ev _ _ hx)
    | none =>
      cases h
      intro σ ρ H s A Q X E
      exact s_ret0
  | Raise e c pos =>
    replace h : trRaise env.kindOf (trE n env.kindOf) e c = some ps := h
    unfold trRaise at h
    split at h
    · cases h
    · split at h
      · cases h
      · rename_i hc
        split at h
        · rename_i g a p e1
          cases asCall1_is e1
          split at h
          · rename_i c' p' e2
            cases asName_is e2
            split at h
            · rename_i hg
              obtain ⟨a', ha, rfl⟩ := Option.map_eq_some_iff.mp h
              have hc : c = none := by cases c with | none => rfl | some _ => exact absurd rfl hc
              subst hc
              intro σ ρ H s A Q X E
              exact s_raise hT hg (ev _ _ ha) (tr_star ha)
            · cases h
          · cases h
        · cases h
  | Try body hs els fin pos =>
    replace h : trTry env.kindOf (trE n env.kindOf) body hs els fin = some ps := h
    unfold trTry at h
    split at h
    · cases h
    · split at h
      · cases h
      · split at h
        · cases h
        · split at h
          · rename_i hz
            simp only [Bool.and_eq_true, List.isEmpty_iff] at hz
            obtain ⟨⟨⟨⟨rfl, rfl⟩, rfl⟩, rfl⟩, rfl⟩ := hz
            split at h
            · cases h
            · rename_i e p1 e1
              cases asRet_is e1
              split at h
              · cases h
              · rename_i hh p3 e3
                cases asRet_is e3
                unfold trHand at h
                split at h
                · cases h
                · split at h
                  · cases h
                  · split at h
                    · cases h
                    · rename_i c p2 e2
                      cases asName_is e2
                      split at h
                      · rename_i hg
                        obtain ⟨hg, hx⟩ := Bool.and_eq_true_iff.mp hg
                        obtain ⟨hx1, hx2⟩ := Bool.and_eq_true_iff.mp hx
                        obtain ⟨e', he, h⟩ := Option.bind_eq_some_iff.mp h
                        obtain ⟨h', hh', rfl⟩ := Option.map_eq_some_iff.mp h
                        intro σ ρ H s A Q X E
                        exact s_try hT hfr hn (ev _ _ he) hg (beq_iff_eq.mp hx1) (bne_iff_ne.mp hx2) hh'
                      · cases h
          · cases h
  | Break pos =>
    cases h
    intro σ ρ H s A Q X E
    exact s_break
  | Pass pos =>
    cases h
    intro σ ρ H s A Q X E
    exact s_pass
  | _ => cases h
theorem trS_ok (hT : TabOk C T K) (hfr : ∃ fs, C.frs = env :: fs ∧ env.frame = some env.locals) : ∀ (n : Nat) (b : List Stmt) (ps : PS), trS n env.kindOf b = some ps → BlOk C T K env b ps
  | 0, _, _, h => by cases h
  | _ + 1, [], _, h => by cases h; exact bl_nil
  | n + 1, st :: rest, ps, h => by
    obtain ⟨one, ho, h⟩ := Option.bind_eq_some_iff.mp (show (tr1 _ _ _ st).bind _ = some ps from h)
    obtain ⟨r, hr, rfl⟩ := Option.map_eq_some_iff.mp h
    exact bl_cons (one_tr hT hfr rfl (fun x ps h => trS_ok hT hfr n x ps h) ho) (trS_ok hT hfr n rest r hr)
end
end Mine
end
section
namespace Mine
open PySem PySem.Calls PyProof.Rows
noncomputable def sgOf (xs : List Str) (vs : List V) : Sg := Sg.sets (fun _ => none) (xs.zip vs)
noncomputable def fnSpec (T : Tab) (xs : List Str) (ps : PS) : Spec := fun vs H Q X => xs.length = vs.length ∧ semS T ps (sgOf xs vs) H (fun fl _ H' => match fl with
  | .ret v => Q v H'
  | .next => Q .none H'
  | .brk => False) X
noncomputable def plainArgs (p : Arguments) : Bool := p.posonlyargs.isEmpty && p.vararg.isNone && p.kwonlyargs.isEmpty && p.kwarg.isNone && p.defaults.isEmpty
noncomputable def goodDef (params : Arguments) (sc : Scope) : Bool :=
  let xs := params.args.map (·.arg)
  plainArgs params && decide xs.Nodup && sc.kind == .function && !sc.isCoroutine && !sc.isGenerator && xs.all (stored fun x => sc.names.lookup x)
theorem fm_congr {α β : Type} (f g : α → Option β) : ∀ (l : List α), (∀ n ∈ l, f n = g n) → l.filterMap f = l.filterMap g
  | [], _ => rfl
  | x :: r, h => by rw [List.filterMap_cons, List.filterMap_cons, h x (.head _), fm_congr f g r fun n hn => h n (.tail _ hn)]
theorem zip_lookup : ∀ (xs : List Str) (vals : List Value), xs.Nodup → xs.length = vals.length → xs.filterMap (fun n => ((xs.zip vals).lookup n).map fun v => (n, v)) = xs.zip vals
  | [], [], _, _ => rfl
  | [], _ :: _, _, h => by simp at h
  | _ :: _, [], _, h => by simp at h
  | x :: xs, v :: vals, hn, hl => by
    rw [List.nodup_cons] at hn
    rw [List.zip_cons_cons, List.filterMap_cons]
    simp only [List.lookup_cons, beq_self_eq_true]
    simp only [Option.map_some]
    congr 1
    refine Eq.trans (fm_congr _ _ xs fun n hn' => ?_) (zip_lookup xs vals hn.2 (by simpa using hl))
    have : (n == x) = false := by
      rw [beq_eq_false_iff_ne]
      exact fun q => hn.1 (q ▸ hn')
    rw [this]
theorem zip_full : ∀ (xs : List Str) (vals : List Value), xs.length = vals.length → (xs.filter fun n => ((xs.zip vals).lookup n).isNone) = [] := fun xs vals hl => by
  rw [List.filter_eq_nil_iff]
  intro n hn h
  have : ∀ (xs : List Str) (vals : List Value), xs.length = vals.length → n ∈ xs → ((xs.zip vals).lookup n).isSome = true := by
    intro xs
    induction xs with
    | nil => intro vals _ h; cases h
    | cons x xs ih =>
      intro vals hl hm
      cases vals with
      | nil => simp at hl
      | cons v vals =>
        rw [List.zip_cons_cons, List.lookup_cons]
        cases hb : n == x with
        | true => rfl
        | false =>
          cases hm with
          | head => simp at hb
          | tail _ hm => exact ih vals (by simpa using hl) hm
  have := this xs vals hl hn
  rw [Option.isNone_iff_eq_none] at h
  rw [h] at this; cases this
theorem bind_plain {name : Str} {p : Arguments} {body : List Stmt} {sc : Scope} {pm cd doc : Value} {vals : List Value} (hp : plainArgs p = true) (hn : (p.args.map (·.arg)).Nodup) (hl : (p.args.map (·.arg)).length = vals.length) :
    bindArgs (docDef name p body sc pm cd doc) ⟨vals, []⟩ = pure ((p.args.map (·.arg)).zip vals) := by
  obtain ⟨posonly, args, vararg, kwonly, kwd, kwarg, defaults⟩ := p
  unfold plainArgs at hp
  simp only [Bool.and_eq_true, List.isEmpty_iff, Option.isNone_iff_eq_none] at hp
  obtain ⟨⟨⟨⟨rfl, rfl⟩, rfl⟩, rfl⟩, rfl⟩ := hp
  unfold bindArgs
  have e1 : ∀ {α : Type} (k : Option (Array Value) → Sem α), (seqItems? (docDef name ⟨[], args, none, [], kwd, none, []⟩ body sc pm cd doc).defaults >>= k) = k none := fun k => rfl
  simp only [docDef, List.map_nil, List.nil_append, List.forIn_nil, List.append_nil]
  dsimp only at hl hn
  rw [pure_bind]
  have e2 : ∀ {α : Type} (k : Option (Array Value) → Sem α), (seqItems? Value.none >>= k) = k none := fun k => rfl
  rw [e2]
  simp only [Option.getD_none, Array.toList_empty, List.length_nil, Option.isNone_none, Bool.and_true, Nat.sub_self, List.drop_nil, Nat.sub_zero, List.zip_nil_right, List.forIn_nil]
  have h1 : ¬ (decide (vals.length > (List.map (fun x => x.arg) args).length) = true) := by simp; rw [← hl]; simp
  rw [if_neg h1]
  simp only [Nat.zero_sub, List.take_length, zip_full _ _ hl, List.isEmpty_nil, Bool.not_true, Bool.false_eq_true, if_false, pure_bind, List.drop_nil, List.zip_nil_right, List.forIn_nil, zip_lookup _ _ hn hl]
section
variable {C : Cx} {T : Tab} {K : Nat}
theorem cellsFrom_has : ∀ (names : List (Str × NameKind)) (n : Nat) (acc : List (Str × Addr)) (x : Str), ((x, NameKind.cell) ∈ names ∨ ∃ c, acc.lookup x = some c) → ∃ c, (cellsFrom n names acc).lookup x = some c
  | [], _, _, _, h => by
    rcases h with h | h
    · cases h
    · exact h
  | (y, k) :: r, n, acc, x, h => by
    unfold cellsFrom
    split
    · refine cellsFrom_has r _ _ x ?_
      by_cases e : x = y
      · right; exact ⟨n, by rw [List.lookup_cons, e]; simp⟩
      · rcases h with h | ⟨c, h⟩
        · cases h with
          | head => exact absurd rfl e
          | tail _ h => exact .inl h
        · right; exact ⟨c, by rw [List.lookup_cons, beq_eq_false_iff_ne.mpr e]; exact h⟩
    · rename_i hk
      refine cellsFrom_has r _ _ x ?_
      rcases h with h | h
      · cases h with
        | head => exact absurd rfl hk
        | tail _ h => exact .inl h
      · exact .inr h
theorem bindL_ok {ρ : List Addr} {kd : Kd} : ∀ (xs : List Str) (vs : List V) (us : List Value) (σ : Sg) (m : Str → Option Value), All2 (VR C ρ) vs us → xs.length = vs.length →
    (∀ x v, σ x = some v → kd x = some .local → ∃ u, m x = some u ∧ VR C ρ v u) → ∀ x v, σ.sets (xs.zip vs) x = some v → kd x = some .local → ∃ u, bindL kd (xs.zip us) m x = some u ∧ VR C ρ v u
  | [], _, _, _, _, _, _, h => h
  | y :: ys, w :: vs, _, σ, m, .cons (b := u) (bs := us) hv hr, hl, h => by
    rw [List.zip_cons_cons, List.zip_cons_cons]
    refine bindL_ok ys vs us _ _ hr (by simpa using hl) fun x v h1 h2 => ?_
    unfold Sg.set at h1
    by_cases e : x = y
    · subst e
      rw [if_pos rfl] at h1; cases h1
      rw [if_pos h2, if_pos rfl]
      exact ⟨u, rfl, hv⟩
    · rw [if_neg e] at h1
      obtain ⟨u', h3, h4⟩ := h x v h1 h2
      refine ⟨u', ?_, h4⟩
      by_cases hk : kd y = some .local
      · rw [if_pos hk, if_neg e]; exact h3
      · rw [if_neg hk]; exact h3
  | _ :: _, [], _, _, _, _, hl, _ => by simp at hl
theorem bindC_ok {ρ : List Addr} {kd : Kd} : ∀ (xs : List Str) (vs : List V) (us : List Value) (σ : Sg) (m : Str → Option Value), All2 (VR C ρ) vs us → xs.length = vs.length →
    (∀ x v, σ x = some v → kd x = some .cell → ∃ u, m x = some u ∧ VR C ρ v u) → ∀ x v, σ.sets (xs.zip vs) x = some v → kd x = some .cell → ∃ u, bindC kd (xs.zip us) m x = some u ∧ VR C ρ v u
  | [], _, _, _, _, _, _, h => h
  | y :: ys, w :: vs, _, σ, m, .cons (b := u) (bs := us) hv hr, hl, h => by
    rw [List.zip_cons_cons, List.zip_cons_cons]
    refine bindC_ok ys vs us _ _ hr (by simpa using hl) fun x v h1 h2 => ?_
    unfold Sg.set at h1
    by_cases e : x = y
    · subst e
      rw [if_pos rfl] at h1; cases h1
      rw [if_neg (by rw [h2]; decide), if_pos rfl]
      exact ⟨u, rfl, hv⟩
    · rw [if_neg e] at h1
      obtain ⟨u', h3, h4⟩ := h x v h1 h2
      refine ⟨u', ?_, h4⟩
      by_cases hk : kd y = some .local
      · rw [if_pos hk]; exact h3
      · rw [if_neg hk, if_neg e]; exact h3
  | _ :: _, [], _, _, _, _, hl, _ => by simp at hl
theorem fn_code (hT : TabOk C T K) {name : Str} {params : Arguments} {body : List Stmt} {sc : Scope} {pm cd doc : Value} {a : Addr} {o : Obj} {ps : PS} (ho : C.base.get? a = some o) (hd : o.data = .func (docDef name params body sc pm cd doc)) (hc : C.base.CodeRec cd name)
    (hg : goodDef params sc = true) (htr : trS 60 (fun x => sc.names.lookup x) body = some ps)
    {vs : List V} {H : AHeap} {Q : VPost} {X : XPost} {ρ : List Addr} {s : Shared} {us : List Value} {A : Around} {E : Value → Shared → Prop} (h : fnSpec T (params.args.map (·.arg)) ps vs H Q X) (S : Sim C ρ H s) (hus : All2 (VR C ρ) vs us) (hA : AOk C (K + 1) A) (hE : Takes C ρ s X E) :
    codeAny C.M A (.call (.ref a) ⟨us, []⟩) (fun r s' => match r with | .ok (.ret v) => PV C ρ s Q v s' | .ok _ => False | .error e => E e s') s := by
  obtain ⟨hlen, h⟩ := h
  unfold goodDef at hg
  simp only [Bool.and_eq_true, decide_eq_true_eq, beq_iff_eq, Bool.not_eq_true'] at hg
  obtain ⟨⟨⟨⟨⟨hpl, hnd⟩, hkind⟩, hco⟩, hgen⟩, hst⟩ := hg
  have hst : ∀ x ∈ params.args.map (·.arg), stored (fun x => sc.names.lookup x) x = true := List.all_eq_true.mp hst
  have hlu : (params.args.map (·.arg)).length = us.length := by rw [hlen, hus.length]
  have hget : s.heap.get? a = some o := S.stays _ _ ho
  have hroom : A.depth < recursionLimit := by have := hA.d; lia
  refine codeAny_call_cells (binds := (params.args.map (·.arg)).zip us) hroom hget hd (C.lim.keeps S.stays) (hc.keeps S.stays) rfl (bind_plain hpl hnd hlu) rfl (fun x hx => ?_) (fun s₁ hin => ?_) hco hgen hkind
  · have hx1 : x.1 ∈ params.args.map (·.arg) := (List.of_mem_zip (a := x.1) (b := x.2) hx).1
    rcases stored_iff (hst _ hx1) with hk | hk
    · exact .inl hk
    · right
      refine ⟨hk, ?_⟩
      obtain ⟨c, hc⟩ := cellsFrom_has sc.names (s.heap.objs.size + 1) [] x.1 (.inl (mem_of_lookup hk))
      show ((cellsFrom (s.heap.objs.size + 1) sc.names []).lookup x.1).isSome = true
      rw [hc]; rfl
  · generalize henv : callEnvC (docDef name params body sc pm cd doc) s.heap.objs.size a = env at hin ⊢
    have eS : env.scope = sc := by rw [← henv]; rfl
    have eK : env.kindOf = fun x => sc.names.lookup x := by unfold Env.kindOf; rw [eS]
    have eL : env.locals = s.heap.objs.size := by rw [← henv]; rfl
    have eG : env.globals = mainGlobals := by rw [← henv]; rfl
    have eB : env.builtins = builtinsNs := by rw [← henv]; rfl
    have eC : env.cells = cellsFrom (s.heap.objs.size + 1) sc.names [] := by rw [← henv]; rfl
    obtain ⟨⟨⟨h₁, tk, rfl⟩, hns, hkeep, hfr⟩, hcell, hapart, habove⟩ := hin
    have hLn : s.heap.get? env.locals = none := by rw [eL]; exact get_size _
    have hCn : ∀ x c, env.cells.lookup x = some c → s.heap.get? c = none := fun x c hc => by
      cases e : s.heap.get? c with
      | none => rfl
      | some o' =>
        have h1 := Heap.lt_size e
        have h2 := habove x c (mem_of_lookup hc)
        exact absurd (Nat.lt_trans (Nat.lt_of_le_of_lt hfr h2) h1) (Nat.lt_irrefl _)
    have hown : ∀ b, own env b → s.heap.get? b = none := fun b hb => by
      rcases hb with rfl | ⟨x, hx⟩
      · exact hLn
      · exact hCn x b hx
    obtain ⟨S1, st1⟩ := S.grow (h' := h₁) (tk := tk) hkeep
    have F1 : FR C env (sgOf (params.args.map (·.arg)) vs) ρ h₁ := by
      refine ⟨?_, by rw [eS]; exact hkind, eG, eB, ⟨_, hns, fun x v e1 e2 => ?_⟩, fun x c hc => ⟨_, hcell x c hc, fun v e1 e2 => ?_⟩, fun x hx => ?_, none_ρ S hLn, fun x c hc => ⟨none_ρ S (hCn x c hc), fun q => ?_⟩, fun x y c hx hy => name_of_addr hapart (mem_of_lookup hx) (mem_of_lookup hy), base_none S hLn, fun x c hc => base_none S (hCn x c hc)⟩
      · unfold sgOf
        rw [sets_out _ _ _ (by rw [map_fst_zip hlen]; exact fun q => stored_ne (hst _ q) rfl)]
      · exact bindL_ok _ vs us (fun _ => none) (fun _ => none) hus hlen (fun _ _ q => by cases q) x v e1 e2
      · exact bindC_ok _ vs us (fun _ => none) (fun _ => none) hus hlen (fun _ _ q => by cases q) x v e1 e2
      · rw [eC]
        rw [eK] at hx
        exact cellsFrom_has _ _ _ _ (.inl (mem_of_lookup hx))
      · have := habove x c (mem_of_lookup hc)
        rw [q] at this
        exact Nat.lt_irrefl _ this
    have eF : env.frame = some env.locals := by rw [← henv]; rfl
    have hnsL : ∃ ob, h₁.get? env.locals = some ob ∧ IsNs ob := by
      obtain ⟨ob, es, ep, hob, hdb, _⟩ := hns
      exact ⟨ob, hob, es, ep, hdb⟩
    have S1' : Sim (C.at (env :: C.frs)) ρ H { s with heap := h₁, toks := tk } := ⟨S1.len, S1.nodup, S1.obj, S1.stays, S1.fresh, S1.sm, S1.gens, S1.os, fun e he => by
      rcases List.mem_cons.mp he with rfl | he
      · obtain ⟨ob, hob, hn⟩ := hnsL
        exact ⟨by rw [eS, hkind]; decide, e.locals, ob, eF, base_none S hLn, none_ρ S hLn, hob, hn⟩
      · exact S1.frs e he⟩
    have stepIn : ∀ {ρ' : List Addr} {s' : Shared}, StepG (own env) ρ { s with heap := h₁, toks := tk } ρ' s' → Step ρ s ρ' s' := fun st2 => by
      refine ⟨?_, fun b ob hb hx e => st2.keep b ob hb (fun q => by rw [hown b q] at e; cases e) (hkeep b ob e), fun b ob e => st2.live b ob (hkeep b ob e)⟩
      obtain ⟨l, e, f⟩ := st2.ext
      refine ⟨l, e, fun b hb => ?_⟩
      cases q : s.heap.get? b with
      | none => rfl
      | some ob => have := f b hb; rw [hkeep b ob q] at this; cases this
    have hb : BlOk (C.at (env :: C.frs)) T K env body ps := trS_ok (hT.at _) ⟨C.frs, rfl, eF⟩ 60 body ps (by rw [eK]; exact htr)
    refine wpAny_mono (hb (F1.frs (env :: C.frs)) S1' (hA.deeper env) h fun e s' p => ?_) (fun f s' hp => ?_) fun e s' p => p
    · obtain ⟨ρ', H', c, st2, S2, ⟨x, kk, ox, vx, rfl, hG, x1, x2, x3, x4, x5, x6, x7, x8⟩, hX⟩ := p
      refine wpAny_bind (note_any (base := C.base) (env := env) (outer := C.frs) (hA.deeper env).fr S2.frs.funs eF x4 x6 (x8.imp id fun ⟨t, ot, ts, z1, _, _, _, z2, z3, z4, z5⟩ => ⟨t, ot, ts, z1, z2, z3, z4, z5⟩) fun h' hL => ?_)
      obtain ⟨S3, st3, t, ot, ts, vs', k1, k2, k3, k4, k5, k6, k7, k8, k9, k10, k11, k12⟩ := left_step (C := C.at (env :: C.frs)) st2 S2 hL x5 x6 x1 x2 x3 x4 x8 x7
      have nb : ∀ b, h₁.get? b = none → s.heap.get? b = none := fun b hb => by
        cases q : s.heap.get? b with
        | none => rfl
        | some ob => rw [hkeep b ob q] at hb; cases hb
      exact hE _ _ ⟨ρ', H', c, stepIn st3, Sim.pop (C := C) (fs := env :: C.frs) S3 fun e he => .tail _ he, ⟨x, kk, _, vs', rfl, hG, x1, x2, nb _ x3, k1, k2, k3, k12, .inr ⟨t, ot, ts, k4, k5, k6, nb _ k7, k11, k8, k9, k10⟩⟩, hX⟩
    · obtain ⟨ρ', H', σ', fl, st2, S2, F2, hf, hq⟩ := hp
      have st := stepIn st2
      have S2 : Sim C ρ' H' s' := Sim.pop (C := C) (fs := env :: C.frs) S2 fun e he => .tail _ he
      cases fl with
      | next => cases hf; exact ⟨ρ', H', .none, st, S2, rfl, hq⟩
      | brk => exact hq.elim
      | ret v => obtain ⟨u, rfl, hv⟩ := hf; exact ⟨ρ', H', v, st, S2, hv, hq⟩
theorem fn_ok (hT : TabOk C T K) {name : Str} {params : Arguments} {body : List Stmt} {sc : Scope} {pm cd doc : Value} {a : Addr} {o : Obj} {ps : PS} (ho : C.base.get? a = some o) (hd : o.data = .func (docDef name params body sc pm cd doc)) (hc : C.base.CodeRec cd name)
    (hg : goodDef params sc = true) (htr : trS 60 (fun x => sc.names.lookup x) body = some ps) : CallOk C (K + 1) (fnSpec T (params.args.map (·.arg)) ps) (.ref a) :=
  fun fs vs H Q X h ρ s us A E S hus hA hE => wpAny_call (fn_code (C := C.at fs) (hT.at fs) ho hd hc hg htr h S hus hA hE)
theorem CallOk.mono {sp : Spec} {u : Value} {K' : Nat} (h : CallOk C K sp u) (hk : K ≤ K') : CallOk C K' sp u := fun fs vs H Q X hs ρ s us A E S hu hA hE => h fs vs H Q X hs ρ s us A E S hu (hA.le hk) hE
theorem TabOk.mono {K' : Nat} (h : TabOk C T K) (hk : K ≤ K') : TabOk C T K' where
  gv := h.gv
  fn := fun g hg => by obtain ⟨u, a, b, c⟩ := h.fn g hg; exact ⟨u, a, b, c.mono hk⟩
  mt := fun kd m hm => by obtain ⟨f, a, b, c⟩ := h.mt kd m hm; exact ⟨f, a, b.mono hk, c⟩
  range := h.range
  enum := h.enum
  cls := h.cls
  cat := h.cat
  hev := fun k a pe σ H Q q fs env e ρ s A h1 h2 h3 h4 h5 h6 => h.hev k a pe σ H Q q fs env e ρ s A h1 h2 h3 h4 (Nat.lt_of_le_of_lt (Nat.add_le_add_left hk _) h5) (Nat.lt_of_le_of_lt (Nat.add_le_add_right (Nat.add_le_add_left (Nat.mul_le_mul_left 5 hk) _) _) h6)
noncomputable def Tab.add (T : Tab) (f : Str) (sp : Spec) : Tab := { T with gv := fun g => if g = f then some (.glob f) else T.gv g, fn := fun g => if g = f then sp else T.fn g }
end
end Mine
end
section
namespace Mine
open PySem PySem.Calls PyProof.Rows
noncomputable def dg : Nat → Nat → List Nat
  | 0, _ => []
  | f + 1, n => if n = 0 then [] else (n % 128) :: dg f (n / 128)
noncomputable def undg : List Nat → Nat
  | [] => 0
  | d :: r => d + 128 * undg r
theorem undg_dg : ∀ (f n : Nat), n < 128 ^ f → undg (dg f n) = n
  | 0, n, h => by simp at h; subst h; rfl
  | f + 1, n, h => by
    unfold dg
    split
    · rename_i e; rw [e]; rfl
    · show n % 128 + 128 * undg (dg f (n / 128)) = n
      rw [undg_dg f (n / 128) (by rw [Nat.pow_succ] at h; lia)]
      lia
theorem dg_small : ∀ (f n : Nat), ∀ d ∈ dg f n, d < 128
  | 0, _, d, h => by cases h
  | f + 1, n, d, h => by
    unfold dg at h
    split at h
    · cases h
    · cases h with
      | head => lia
      | tail _ h => exact dg_small f _ d h
noncomputable def nm (n : Nat) : Str := if n < 128 ^ 40 then ⟨(dg 40 n).toArray⟩ else ⟨#[n]⟩
theorem nm_inj {a b : Nat} : nm a = nm b ↔ a = b := by
  refine ⟨fun h => ?_, fun h => h ▸ rfl⟩
  unfold nm at h
  have big : ∀ a b : Nat, ¬ b < 128 ^ 40 → ((⟨(dg 40 a).toArray⟩ : Str) = ⟨#[b]⟩) → False := fun a b hb h => by
    have h1 : (dg 40 a).toArray = #[b] := congrArg Str.cps h
    have h2 : dg 40 a = [b] := by simpa using congrArg Array.toList h1
    have := dg_small 40 a b (by rw [h2]; exact .head _)
    exact hb (Nat.lt_of_lt_of_le this (by decide))
  split at h <;> split at h
  · rename_i ha hb
    have h1 : (dg 40 a).toArray = (dg 40 b).toArray := congrArg Str.cps h
    have h2 : dg 40 a = dg 40 b := by simpa using congrArg Array.toList h1
    rw [← undg_dg 40 a ha, ← undg_dg 40 b hb, h2]
  · rename_i ha hb; exact (big a b hb h).elim
  · rename_i ha hb; exact (big b a ha h.symm).elim
  · have h1 : #[a] = #[b] := congrArg Str.cps h
    simpa using h1
theorem set_nm (σ : Sg) (a b : Nat) (v : V) : (σ.set (nm a) v) (nm b) = if b = a then some v else σ (nm b) := by
  unfold Sg.set
  by_cases h : b = a
  · rw [if_pos h, if_pos (by rw [h])]
  · rw [if_neg h, if_neg (fun q => h (nm_inj.mp q))]
noncomputable def spNo : Spec := fun _ _ _ _ => False
inductive LenA (H : AHeap) (Q : VPost) : List V → Prop
  | str {t : Txt} : Q (.int t.length) H → LenA H Q [.str t]
  | list {n : Nat} {xs : List V} : H[n]? = some (.list xs) → Q (.int xs.length) H → LenA H Q [.ref n]
  | tuple {n : Nat} {xs : List V} : H[n]? = some (.tuple xs) → Q (.int xs.length) H → LenA H Q [.ref n]
noncomputable def spLen : Spec := fun vs H Q _ => LenA H Q vs
inductive IsiA (H : AHeap) (Q : VPost) : List V → Prop
  | str {t : Txt} : Q (.bool true) H → IsiA H Q [.str t, .glob (nm 1882739)]
  | list {n : Nat} {xs : List V} : H[n]? = some (.list xs) → Q (.bool true) H → IsiA H Q [.ref n, .glob (nm 245167340)]
  | tuple {n : Nat} {xs : List V} : H[n]? = some (.tuple xs) → Q (.bool true) H → IsiA H Q [.ref n, .glob (nm 27340323572)]
  | dict {n ep : Nat} {es : List (Txt × V)} : H[n]? = some (.dict es ep) → Q (.bool true) H → IsiA H Q [.ref n, .glob (nm 244905188)]
  | int {i : Int} : Q (.bool true) H → IsiA H Q [.int i, .glob (nm 1914729)]
  | bint {b : Bool} : Q (.bool true) H → IsiA H Q [.bool b, .glob (nm 1914729)]
  | nint : Q (.bool false) H → IsiA H Q [.none, .glob (nm 1914729)]
  | sint {t : Txt} : Q (.bool false) H → IsiA H Q [.str t, .glob (nm 1914729)]
  | bool {i : Int} : Q (.bool false) H → IsiA H Q [.int i, .glob (nm 228325346)]
  | bbool {b : Bool} : Q (.bool true) H → IsiA H Q [.bool b, .glob (nm 228325346)]
noncomputable def spIsi : Spec := fun vs H Q _ => IsiA H Q vs
noncomputable def spMin : Spec := fun vs H Q _ => ∃ a b : Int, vs = [.int a, .int b] ∧ Q (.int (if b < a then b else a)) H
noncomputable def spMax : Spec := fun vs H Q _ => ∃ a b : Int, vs = [.int a, .int b] ∧ Q (.int (if b > a then b else a)) H
noncomputable def spJoin : Spec := fun vs H Q _ => ∃ (n : Nat) (ts : List Txt), vs = [.str [], .ref n] ∧ H[n]? = some (.list (ts.map .str)) ∧ (ts.map List.length).sum + ts.length ≤ lid ∧ Q (.str ts.flatten) H
noncomputable def spAppend : Spec := fun vs H Q _ => ∃ (n : Nat) (v : V) (xs : List V), vs = [.ref n, v] ∧ n ≠ 0 ∧ H[n]? = some (.list xs) ∧ xs.length < lid ∧ Q .none (H.set n (.list (xs ++ [v])))
section
variable {C : Cx} {K : Nat}
theorem all2_one {ρ : List Addr} {a : V} {us : List Value} (h : All2 (VR C ρ) [a] us) : ∃ u, us = [u] ∧ VR C ρ a u := by
  cases h with
  | cons h r => cases r; exact ⟨_, rfl, h⟩
theorem all2_two {ρ : List Addr} {a b : V} {us : List Value} (h : All2 (VR C ρ) [a, b] us) : ∃ u w, us = [u, w] ∧ VR C ρ a u ∧ VR C ρ b w := by
  cases h with
  | cons h r => obtain ⟨w, rfl, hw⟩ := all2_one r; exact ⟨_, w, rfl, h, hw⟩
theorem all2_size {ρ : List Addr} {xs : List V} {us : Array Value} (h : All2 (VR C ρ) xs us.toList) : xs.length = us.size := by rw [h.length, Array.length_toList]
theorem lid63 {n : Nat} (h : n ≤ lid) : (n : Int) < 2 ^ 63 := by unfold lid at h; lia
theorem ok_len : Call1 C K spLen (.builtin "len") := by
  intro vs H Q X h ρ s us A E S hus hA hE
  cases h with
  | @str t hq =>
    obtain ⟨u, rfl, ok, tk, rfl⟩ := all2_one hus
    have e := str_len t
    refine len_str (by rw [e]; exact Int.not_le.mpr (lid63 (okT_iff.mp ok).1)) ?_
    rw [e]
    exact here S (vi _ _) hq
  | list e1 hq =>
    obtain ⟨u, rfl, hu⟩ := all2_one hus
    obtain ⟨a, rfl, ea, us, k, ho, hs, hl⟩ := S.lookup e1 hu
    have e := all2_size hs
    refine call_len_list ⟨_, ho, rfl, k, rfl⟩ (lid63 (e ▸ hl)) ?_
    rw [← e]
    exact here S (vi _ _) hq
  | tuple e1 hq =>
    obtain ⟨u, rfl, hu⟩ := all2_one hus
    obtain ⟨a, rfl, ea, us, k, ho, hs, hl⟩ := S.lookup e1 hu
    have e := all2_size hs
    refine len_tuple ⟨_, ho, rfl, k, rfl⟩ (lid63 (e ▸ hl)) ?_
    rw [← e]
    exact here S (vi _ _) hq
theorem ok_isi (h1 : C.G (nm 1882739) = some (.type "str")) (h2 : C.G (nm 245167340) = some (.type "list")) (h3 : C.G (nm 27340323572) = some (.type "tuple")) (h4 : C.G (nm 244905188) = some (.type "dict")) (h5 : C.G (nm 1914729) = some (.type "int")) (h6 : C.G (nm 228325346) = some (.type "bool")) : Call1 C K spIsi (.builtin "isinstance") := by
  intro vs H Q X h ρ s us A E S hus hA hE
  have ty : ∀ {g : Str} {w : Value} {t : String}, C.G g = some (.type t) → VR C ρ (.glob g) w → w = .type t := fun e h => Option.some.inj (h.symm.trans e)
  cases h with
  | str hq => obtain ⟨u, w, rfl, ⟨ok, tk, rfl⟩, hw⟩ := all2_two hus; cases ty h1 hw; exact IsiPair.str_str (here0 S (vb _) hq)
  | list e1 hq => obtain ⟨u, w, rfl, hu, hw⟩ := all2_two hus; cases ty h2 hw; obtain ⟨ad, rfl, ea, us, k, ho, _⟩ := S.lookup e1 hu; exact IsiPair.list_list ho rfl (here0 S (vb _) hq)
  | tuple e1 hq => obtain ⟨u, w, rfl, hu, hw⟩ := all2_two hus; cases ty h3 hw; obtain ⟨ad, rfl, ea, us, k, ho, _⟩ := S.lookup e1 hu; exact IsiPair.tuple_tuple ho rfl (here0 S (vb _) hq)
  | dict e1 hq => obtain ⟨u, w, rfl, hu, hw⟩ := all2_two hus; cases ty h4 hw; obtain ⟨ad, rfl, ea, us, ho, _⟩ := S.lookup e1 hu; exact IsiPair.dict_dict ho rfl (here0 S (vb _) hq)
  | int hq => obtain ⟨u, w, rfl, ⟨tk, rfl⟩, hw⟩ := all2_two hus; cases ty h5 hw; exact IsiPair.int_int (here0 S (vb _) hq)
  | bint hq => obtain ⟨u, w, rfl, hu, hw⟩ := all2_two hus; cases hu; cases ty h5 hw; exact IsiPair.bool_int (here0 S (vb _) hq)
  | nint hq => obtain ⟨u, w, rfl, hu, hw⟩ := all2_two hus; cases hu; cases ty h5 hw; exact IsiPair.NoneType_int (here S (vb _) hq)
  | sint hq => obtain ⟨u, w, rfl, ⟨ok, tk, rfl⟩, hw⟩ := all2_two hus; cases ty h5 hw; exact IsiPair.str_int (here S (vb _) hq)
  | bool hq => obtain ⟨u, w, rfl, ⟨tk, rfl⟩, hw⟩ := all2_two hus; cases ty h6 hw; exact IsiPair.int_bool (here S (vb _) hq)
  | bbool hq => obtain ⟨u, w, rfl, hu, hw⟩ := all2_two hus; cases hu; cases ty h6 hw; exact IsiPair.bool_bool (here0 S (vb _) hq)
theorem ok_min (hc : C.calm) : Call1 C K spMin (.builtin "min") := by
  intro vs H Q X h ρ s us A E S hus hA hE
  obtain ⟨a, b, rfl, h⟩ := h
  obtain ⟨u, w, rfl, ⟨t, rfl⟩, ⟨t', rfl⟩⟩ := all2_two hus
  refine min_two_ints (hA.hc hc) fun h' tk hk => ?_
  obtain ⟨S1, st1⟩ := S.grow (h' := h') (tk := tk) hk
  by_cases c : b < a
  · rw [if_pos c] at h ⊢; exact ⟨ρ, H, _, st1, S1, vi _ _, h⟩
  · rw [if_neg c] at h ⊢; exact ⟨ρ, H, _, st1, S1, vi _ _, h⟩
theorem ok_max (hc : C.calm) : Call1 C K spMax (.builtin "max") := by
  intro vs H Q X h ρ s us A E S hus hA hE
  obtain ⟨a, b, rfl, h⟩ := h
  obtain ⟨u, w, rfl, ⟨t, rfl⟩, ⟨t', rfl⟩⟩ := all2_two hus
  refine max_two_ints (hA.hc hc) fun h' tk hk => ?_
  obtain ⟨S1, st1⟩ := S.grow (h' := h') (tk := tk) hk
  by_cases c : b > a
  · rw [if_pos c] at h ⊢; exact ⟨ρ, H, _, st1, S1, vi _ _, h⟩
  · rw [if_neg c] at h ⊢; exact ⟨ρ, H, _, st1, S1, vi _ _, h⟩
theorem txts_are {ρ : List Addr} : ∀ {ts : List Txt} {us : List Value}, All2 (VR C ρ) (ts.map .str) us → StrsAre us (ts.map fun t => ⟨t.toArray⟩) ∧ ∀ t ∈ ts, okT t = true
  | [], _, .nil => ⟨.nil, fun _ h => nomatch h⟩
  | t :: ts, _, .cons ⟨ok, tk, e⟩ hr => by
    cases e
    obtain ⟨h1, h2⟩ := txts_are hr
    exact ⟨.cons _ _ h1, List.forall_mem_cons.mpr ⟨ok, h2⟩⟩
theorem join_flat : ∀ (ts : List Txt), Str.join ⟨#[]⟩ (ts.map fun t => ⟨t.toArray⟩) = ⟨ts.flatten.toArray⟩
  | [] => rfl
  | [t] => by rw [List.flatten_cons, List.flatten_nil, List.append_nil]; rfl
  | t :: u :: r => by
    have ih := join_flat (u :: r)
    rw [List.map_cons, List.map_cons]
    show (⟨t.toArray⟩ : Str) ++ ⟨#[]⟩ ++ Str.join ⟨#[]⟩ ((⟨u.toArray⟩ : Str) :: r.map fun t => ⟨t.toArray⟩) = _
    rw [← List.map_cons (f := fun t : Txt => (⟨t.toArray⟩ : Str)), ih]
    show (⟨t.toArray ++ #[] ++ (u :: r).flatten.toArray⟩ : Str) = _
    rw [Array.append_empty, List.append_toArray]; rfl
theorem okT_flat {ts : List Txt} (h : ∀ t ∈ ts, okT t = true) (hl : (ts.map List.length).sum ≤ lid) : okT ts.flatten = true := by
  rw [okT_iff]
  refine ⟨by rw [List.length_flatten]; exact hl, fun c hc => ?_⟩
  obtain ⟨t, ht, hc⟩ := List.mem_flatten.mp hc
  exact (okT_iff.mp (h t ht)).2 c hc
theorem ok_join : Call1 C K spJoin (.builtin "str.join") := by
  intro vs H Q X h ρ s us A E S hus hA hE
  obtain ⟨n, ts, rfl, e1, hl, hq⟩ := h
  obtain ⟨u, w, rfl, ⟨ok, tk, rfl⟩, hw⟩ := all2_two hus
  obtain ⟨a, rfl, ea, us, k, ho, hs, _⟩ := S.lookup e1 hw
  obtain ⟨h1, h2⟩ := txts_are hs
  have hl' := Nat.le_trans (Nat.le_add_right _ _) hl
  have hlen : ((ts.map fun t => (⟨t.toArray⟩ : Str)).map (·.length)).sum = (ts.map List.length).sum := by
    rw [List.map_map]
    congr 1
  refine join_list (ys := ts.map fun t => ⟨t.toArray⟩) ⟨_, ho, rfl, k, rfl⟩ h1 ?_ fun t' k' => ?_
  · rw [hlen]
    exact lid_le hl'
  · have e : PySem.Txt.join (⟨([] : Mine.Txt).toArray⟩ : Str) (ts.map fun t => ⟨t.toArray⟩) = ⟨ts.flatten.toArray⟩ := (StrLaws.glued_eq_join _ _).trans (join_flat ts)
    rw [e]
    exact here S (vt (okT_flat h2 hl') _) hq
theorem ok_append : Call1 C K spAppend (.builtin "list.append") := by
  intro vs H Q X h ρ s us A E S hus hA hE
  obtain ⟨n, v, xs, rfl, hn, e1, hl, hq⟩ := h
  obtain ⟨u, w, rfl, hu, hw⟩ := all2_two hus
  obtain ⟨a, rfl, ea, us, k, ho, hs, _⟩ := S.lookup e1 hu
  have e := all2_size hs
  refine wpAny_list_append_plain ⟨k, ho⟩ (fun h' ⟨k', ho'⟩ hsb => ?_) (by rw [← e]; exact lid_le (Nat.le_of_lt hl))
  obtain ⟨S1, st1⟩ := S.change (h' := h') (tk := s.toks) (o := .list (xs ++ [v])) hn ea (fun b x hb e => hsb.extBut b x hb e) ⟨_, k', ho', by rw [Array.toList_push]; exact hs.append (.cons hw .nil), by rw [List.length_append]; exact hl⟩
  exact ⟨ρ, _, .none, st1, S1, rfl, hq⟩
end
end Mine
end
section
namespace Mine
open PySem PySem.Calls PyProof.Rows
noncomputable def T0 (cls : Str → Bool) (cat : Str → Str → Bool) (hev : Str → Nat → PE → Sg → AHeap → VPost → Prop) : Tab where
  gv := fun _ => none
  fn := fun _ => spNo
  has := fun _ _ => false
  mt := fun _ _ => spNo
  cls := cls
  cat := cat
  hev := hev
noncomputable def Tab.val (T : Tab) (f : Str) (v : V) : Tab := { T with gv := fun g => if g = f then some v else T.gv g }
noncomputable def Tab.meth (T : Tab) (k : MK) (m : Str) (sp : Spec) : Tab := { T with has := fun kd x => if kd = k ∧ x = m then true else T.has kd x, mt := fun kd x => if kd = k ∧ x = m then sp else T.mt kd x }
noncomputable def Ct (T : Tab) (xs : List Str) (ps : PS) (sp : Spec) : Prop := ∀ vs H Q X, sp vs H Q X → fnSpec T xs ps vs H Q X
structure Has (T : Tab) (f : Str) (sp : Spec) : Prop where
  gv : T.gv f = some (.glob f)
  fn : T.fn f = sp
structure HasM (T : Tab) (k : MK) (m : Str) (sp : Spec) : Prop where
  has : T.has k m = true
  mt : T.mt k m = sp
inductive DefAt (C : Cx) (f : Str) (xs : List Str) (ps : PS) : Prop
  | mk (a : Addr) (o : Obj) (name : Str) (params : Arguments) (body : List Stmt) (sc : Scope) (pm cd doc : Value) : C.G f = some (.ref a) → C.base.get? a = some o → o.data = .func (docDef name params body sc pm cd doc) → C.base.CodeRec cd name → goodDef params sc = true → trS 60 (fun x => sc.names.lookup x) body = some ps → params.args.map (·.arg) = xs → DefAt C f xs ps
section
variable {C : Cx} {T : Tab} {K : Nat}
theorem CallOk.weak {sp sp' : Spec} {u : Value} (h : CallOk C K sp u) (hw : ∀ vs H Q X, sp' vs H Q X → sp vs H Q X) : CallOk C K sp' u := fun fs vs H Q X hs ρ s us A E S hu hA hE => h fs vs H Q X (hw _ _ _ _ hs) ρ s us A E S hu hA hE
theorem TabOk.base {cls : Str → Bool} {cat : Str → Str → Bool} {hev : Str → Nat → PE → Sg → AHeap → VPost → Prop} (h3 : C.G (Str.ofString "range") = some (.type "range")) (h4 : C.G (Str.ofString "reversed") = some (.type "reversed")) (h5 : C.G (Str.ofString "enumerate") = some (.type "enumerate"))
    (h9 : ∀ c, cls c = true → C.calm ∧ ExcCls C c) (h10 : ∀ k c, cat k c = true → Caught C k c)
    (h11 : ∀ k a pe σ H Q, hev k a pe σ H Q → ∀ fs env e ρ s A, trE 60 env.kindOf e = some pe → FR (C.at fs) env σ ρ s.heap → Sim (C.at fs) ρ H s → A.handled = some (.ref a) → A.depth + K < recursionLimit → A.units + 5 * K + 200 < cLine →
      A.frames = some fs → XIs C ρ k a s.heap → wpAny C.M A (eval e env) (PV (C.at fs) ρ s Q) (fun _ _ => False) s) : TabOk C (T0 cls cat hev) K where
  gv := fun _ _ h => by cases h
  fn := fun _ ⟨_, _, _, _, h⟩ => h.elim
  mt := fun _ _ h => by cases h
  range := h3
  enum := h5
  cls := h9
  cat := h10
  hev := h11
theorem TabOk.addB (h : TabOk C T K) {f : Str} {sp : Spec} {u : Value} (hu : C.G f = some u) (hc : Callee C u) (hok : CallOk C K sp u) : TabOk C (T.add f sp) K where
  gv := fun g v hg => by
    unfold Tab.add at hg
    dsimp only at hg
    split at hg
    · rename_i e
      cases hg
      exact ⟨u, e ▸ hu, fun ρ => hu⟩
    · exact h.gv g v hg
  fn := fun g hg => by
    unfold Tab.add at hg ⊢
    dsimp only at hg ⊢
    by_cases e : g = f
    · subst e
      exact ⟨u, hu, hc, by simpa using hok⟩
    · simp only [if_neg e] at hg ⊢
      exact h.fn g hg
  mt := h.mt
  range := h.range
  enum := h.enum
  cls := h.cls
  cat := h.cat
  hev := h.hev
theorem TabOk.addF (h : TabOk C T K) {f : Str} {xs : List Str} {ps : PS} {sp : Spec} (hd : DefAt C f xs ps) (hc : Ct T xs ps sp) : TabOk C (T.add f sp) (K + 1) := by
  obtain ⟨a, o, name, params, body, sc, pm, cd, doc, h1, h2, h3, h4, h5, h6, rfl⟩ := hd
  exact (h.mono (Nat.le_succ K)).addB h1 (.inr (.inr ⟨a, o, _, rfl, h2, h3⟩)) ((fn_ok h h2 h3 h4 h5 h6).weak hc)
theorem TabOk.val (h : TabOk C T K) {f : Str} {v : V} {u : Value} (hu : C.G f = some u) (hv : ∀ ρ, VR C ρ v u) : TabOk C (T.val f v) K where
  gv := fun g w hg => by
    unfold Tab.val at hg
    dsimp only at hg
    split at hg
    · rename_i e
      cases hg
      exact ⟨u, e ▸ hu, hv⟩
    · exact h.gv g w hg
  fn := h.fn
  mt := h.mt
  range := h.range
  enum := h.enum
  cls := h.cls
  cat := h.cat
  hev := h.hev
theorem TabOk.meth (h : TabOk C T K) {k : MK} {m : Str} {sp : Spec} {id : String} (hok : CallOk C K sp (.builtin id))
    (hg : ∀ fs v H ρ s u pl A (Q : Value × List Value → Shared → Prop) E, kindA v H = some k → Sim (C.at fs) ρ H s → VR C ρ v u → (∀ t, Q (.builtin id, [u]) { s with toks := t }) → wpAny C.M A (getMethod u m pl) Q E s) : TabOk C (T.meth k m sp) K where
  gv := h.gv
  fn := h.fn
  mt := fun kd x hx => by
    unfold Tab.meth at hx ⊢
    dsimp only at hx ⊢
    by_cases e : kd = k ∧ x = m
    · obtain ⟨rfl, rfl⟩ := e
      refine ⟨.builtin id, .inl ⟨id, rfl⟩, by simpa using hok, hg⟩
    · simp only [if_neg e] at hx ⊢
      exact h.mt kd x hx
  range := h.range
  enum := h.enum
  cls := h.cls
  cat := h.cat
  hev := h.hev
theorem kind_str {v : V} {H : AHeap} (h : kindA v H = some .str) : ∃ t, v = .str t := by
  unfold kindA at h
  split at h
  · exact ⟨_, rfl⟩
  · split at h <;> cases h
  · cases h
theorem kind_list {v : V} {H : AHeap} (h : kindA v H = some .list) : ∃ n xs, v = .ref n ∧ H[n]? = some (.list xs) := by
  unfold kindA at h
  split at h
  · cases h
  · split at h
    · exact ⟨_, _, rfl, by assumption⟩
    all_goals cases h
  · cases h
theorem kind_dict {v : V} {H : AHeap} (h : kindA v H = some .dict) : ∃ n es ep, v = .ref n ∧ H[n]? = some (.dict es ep) := by
  unfold kindA at h
  split at h
  · cases h
  · split at h
    · cases h
    · exact ⟨_, _, _, rfl, by assumption⟩
    all_goals cases h
  · cases h
theorem get_join : ∀ fs v H ρ s u pl A (Q : Value × List Value → Shared → Prop) E, kindA v H = some .str → Sim (C.at fs) ρ H s → VR C ρ v u → (∀ t, Q (.builtin "str.join", [u]) { s with toks := t }) → wpAny C.M A (getMethod u (nm 232421354) pl) Q E s := by
  intro fs v H ρ s u pl A Q E hk S hv h
  obtain ⟨t, rfl⟩ := kind_str hk
  obtain ⟨ok, tk, rfl⟩ := hv
  have e : nm 232421354 = Str.ofString "join" := by decide +kernel
  rw [e]
  exact GM.join (h s.toks)
theorem get_append : ∀ fs v H ρ s u pl A (Q : Value × List Value → Shared → Prop) E, kindA v H = some .list → Sim (C.at fs) ρ H s → VR C ρ v u → (∀ t, Q (.builtin "list.append", [u]) { s with toks := t }) → wpAny C.M A (getMethod u (nm 3465715398753) pl) Q E s := by
  intro fs v H ρ s u pl A Q E hk S hv h
  obtain ⟨n, xs, rfl, e1⟩ := kind_list hk
  obtain ⟨a, rfl, ea, us, k, ho, _⟩ := S.lookup e1 hv
  have e : nm 3465715398753 = Str.ofString "append" := by decide +kernel
  rw [e]
  exact getMethod_list_append ho rfl rfl (h s.toks)
noncomputable def biL : List (Str × Value) := [(nm 1815276, .builtin "len"), (nm 938756632654307293673, .builtin "isinstance"), (nm 1815789, .builtin "min"), (nm 1978605, .builtin "max"), (nm 1800947, .builtin "sum"), (nm 1783393, .builtin "all"),
  (nm 3463330969587, .builtin "sorted"), (nm 27329802482, .type "range"), (nm 56743180225065714, .type "reversed"), (nm 7343549747291846501, .type "enumerate"), (nm 244905188, .type "dict"), (nm 245167340, .type "list"), (nm 27340323572, .type "tuple"),
  (nm 1914729, .type "int"), (nm 1882739, .type "str"), (nm 228325346, .type "bool"), (nm 1059527485209827815638, .type "ValueError")]
end
end Mine
end
section
namespace Mine
open PySem
section
variable {H : AHeap} {Q : VPost} {X : XPost} {q : Bool → Prop}
theorem cut_zero {α : Type} (xs : List α) (j : Nat) : cut xs 0 j = xs.take j := rfl
theorem cut_all {α : Type} (xs : List α) (i : Nat) : cut xs i xs.length = xs.drop i := by unfold cut; rw [List.take_length]
theorem clip_int (n : Nat) {k : Int} (h : 0 ≤ k) : clipAt n k = min k.toNat n := by
  obtain ⟨m, rfl⟩ := Int.eq_ofNat_of_zero_le h; exact clipAt_nat n m
theorem take_clip {α : Type} (xs : List α) {k : Int} (h : 0 ≤ k) : xs.take (clipAt xs.length k) = xs.take k.toNat := by rw [clip_int _ h, List.take_eq_take_iff, Nat.min_assoc, Nat.min_self]
theorem drop_clip {α : Type} (xs : List α) {k : Int} (h : 0 ≤ k) : xs.drop (clipAt xs.length k) = xs.drop k.toNat := by
  rw [clip_int _ h]
  rcases Nat.le_total k.toNat xs.length with h | h
  · rw [Nat.min_eq_left h]
  · rw [Nat.min_eq_right h, List.drop_of_length_le h, List.drop_of_length_le (Nat.le_refl _)]
theorem beq_dec {α : Type} [BEq α] [LawfulBEq α] [DecidableEq α] (a b : α) : (a == b) = decide (a = b) := by rw [Bool.eq_iff_iff]; simp
theorem str_beq (a b : Txt) : PyData.eqv (.str ⟨a.toArray⟩) (.str ⟨b.toArray⟩) = decide (a = b) := by
  show ((⟨a.toArray⟩ : Str) == ⟨b.toArray⟩) = _
  rw [beq_dec, decide_eq_decide]
  exact ⟨fun h => List.toArray_inj (congrArg Str.cps h), fun h => by rw [h]⟩
theorem int_beq (a b : Int) : PyData.eqv (.int a) (.int b) = decide (a = b) := beq_dec a b
theorem bind_tup {ys : List Str} {n : Nat} {vs : List V} {σ : Sg} (h : H[n]? = some (.tuple vs)) (hl : ys.length = vs.length) : bindA (.tup ys) (.one (.ref n)) H σ = some (σ.sets (ys.zip vs)) := by
  unfold bindA; dsimp only; rw [h]; dsimp only; rw [if_pos hl]
theorem intsFrom_len (a : Int) (n : Nat) : (intsFrom a n).length = n := by unfold intsFrom; simp
theorem intsFrom_mem {a i : Int} {n : Nat} (h : i ∈ intsFrom a n) : a ≤ i ∧ i < a + n := by
  unfold intsFrom at h
  simp only [List.mem_map, List.mem_range] at h
  obtain ⟨k, hk, rfl⟩ := h
  lia
theorem st_any {n : Nat} {xs : List V} {k : Int} {p : V → Prop} (h : H[n]? = some (.list xs)) (h0 : 0 ≤ k) (h1 : k < xs.length) (hp : ∀ v ∈ xs, p v) : subA (.ref n) (.int k) H p :=
  have hk : k.toNat < xs.length := (Int.toNat_lt h0).mpr h1
  .list h (.pos h0 h1) (List.getElem?_eq_getElem hk) (hp _ (List.getElem_mem _))
theorem rd_tuple {a n : Nat} {xs : List V} (h : H[a]? = some (.tuple xs)) : rd H (n + 1) (.ref a) = (rdL (rd H n) xs).map .tuple := by show H[a]?.bind _ = _; rw [h]; rfl
theorem rd_list {a n : Nat} {xs : List V} (h : H[a]? = some (.list xs)) : rd H (n + 1) (.ref a) = (rdL (rd H n) xs).map .list := by show H[a]?.bind _ = _; rw [h]; rfl
theorem get_new {o : AObj} : (H ++ [o])[H.length]? = some o := by simp
end
structure Keep (H H' : AHeap) : Prop where
  le : H.length ≤ H'.length
  old : ∀ i, i < H.length → H'[i]? = H[i]?
theorem Keep.refl (H : AHeap) : Keep H H := ⟨Nat.le_refl _, fun _ _ => rfl⟩
theorem Keep.trans {H H1 H2 : AHeap} (a : Keep H H1) (b : Keep H1 H2) : Keep H H2 := ⟨Nat.le_trans a.le b.le, fun i h => (b.old i (Nat.lt_of_lt_of_le h a.le)).trans (a.old i h)⟩
theorem Keep.new (H : AHeap) (G : List AObj) : Keep H (H ++ G) := ⟨by simp, fun i h => List.getElem?_append_left h⟩
theorem Keep.get {H H' : AHeap} (k : Keep H H') {n : Nat} {o : AObj} (h : H[n]? = some o) : H'[n]? = some o := (k.old n (List.getElem?_eq_some_iff.mp h).1).trans h
theorem Keep.set {H H' : AHeap} (k : Keep H H') {n : Nat} {o : AObj} (h : H.length ≤ n) : Keep H (H'.set n o) := ⟨by simpa using k.le, fun i hi => by rw [List.getElem?_set_ne (by lia)]; exact k.old i hi⟩
theorem lt_of_get {H : AHeap} {n : Nat} {o : AObj} (h : H[n]? = some o) : n < H.length := (List.getElem?_eq_some_iff.mp h).1
theorem comp_map {K : AHeap → Prop} {bind : Item → AHeap → Option Sg} {elt : Sg → AHeap → VPost → Prop} {Q : List V → AHeap → Prop} {P : Item → V → Prop} : ∀ (items : List Item) (acc : List V) (H : AHeap),
    (∀ H', Keep H H' → K H') →
    (∀ x ∈ items, ∀ H', Keep H H' → ∃ σ, bind x H' = some σ ∧ ∀ q : VPost, (∀ v H'', P x v → Keep H' H'' → q v H'') → elt σ H' q) →
    (∀ vs H', All2 P items vs → Keep H H' → Q (acc ++ vs) H') → compGo K bind (fun _ H' q => q true H') elt Q items acc H
  | [], acc, H, hK, _, hQ => ⟨hK H (Keep.refl H), by simpa using hQ [] H .nil (Keep.refl H)⟩
  | x :: xs, acc, H, hK, hx, hQ => by
    obtain ⟨σ, hb, he⟩ := hx x (.head _) H (Keep.refl H)
    refine ⟨hK H (Keep.refl H), ?_⟩
    rw [hb]
    dsimp only
    rw [if_pos rfl]
    refine he _ fun v H1 hv k1 => ?_
    refine comp_map xs (acc ++ [v]) H1 (fun H' k => hK H' (k1.trans k)) (fun y hy H' k => hx y (.tail _ hy) H' (k1.trans k)) fun vs H' hvs k => ?_
    have := hQ (v :: vs) H' (.cons hv hvs) (k1.trans k)
    simpa using this
theorem comp_filter {K : AHeap → Prop} {bind : Item → AHeap → Option Sg} {test : Sg → AHeap → (Bool → AHeap → Prop) → Prop} {elt : Sg → AHeap → VPost → Prop} {Q : List V → AHeap → Prop} {p : Item → Bool} {P : Item → V → Prop} : ∀ (items : List Item) (acc : List V) (H : AHeap),
    (∀ H', Keep H H' → K H') →
    (∀ x ∈ items, ∀ H', Keep H H' → ∃ σ, bind x H' = some σ ∧ (∀ q : Bool → AHeap → Prop, (∀ H'', Keep H' H'' → q (p x) H'') → test σ H' q) ∧ (p x = true → ∀ H1, Keep H' H1 → ∀ q : VPost, (∀ v H'', P x v → Keep H1 H'' → q v H'') → elt σ H1 q)) →
    (∀ vs H', All2 P (items.filter p) vs → Keep H H' → Q (acc ++ vs) H') → compGo K bind test elt Q items acc H
  | [], acc, H, hK, _, hQ => ⟨hK H (Keep.refl H), by simpa using hQ [] H .nil (Keep.refl H)⟩
  | x :: xs, acc, H, hK, hx, hQ => by
    obtain ⟨σ, hb, ht, he⟩ := hx x (.head _) H (Keep.refl H)
    refine ⟨hK H (Keep.refl H), ?_⟩
    rw [hb]
    dsimp only
    refine ht _ fun H1 k1 => ?_
    cases hp : p x with
    | true =>
      rw [if_pos rfl]
      refine he hp H1 k1 _ fun v H2 hv k2 => ?_
      have k12 := k1.trans k2
      refine comp_filter xs (acc ++ [v]) H2 (fun H' k => hK H' (k12.trans k)) (fun y hy H' k => hx y (.tail _ hy) H' (k12.trans k)) fun vs H' hvs k => ?_
      have := hQ (v :: vs) H' (by rw [List.filter_cons, if_pos hp]; exact .cons hv hvs) (k12.trans k)
      simpa using this
    | false =>
      rw [if_neg (by simp)]
      refine comp_filter xs acc H1 (fun H' k => hK H' (k1.trans k)) (fun y hy H' k => hx y (.tail _ hy) H' (k1.trans k)) fun vs H' hvs k => ?_
      exact hQ vs H' (by rw [List.filter_cons, if_neg (by simp [hp])]; exact hvs) (k1.trans k)
noncomputable def spLaw : Spec := fun vs H Q _ => vs = [.ref 0] ∧ (∃ is : List Int, H[0]? = some (.list (is.map .int))) ∧ ∀ H', Q (.bool true) H'
theorem while_ind {test : Sg → AHeap → (Bool → AHeap → Prop) → Prop} {body : Sg → AHeap → SPost → Prop} {Q : SPost} (I : Nat → Sg → AHeap → Prop)
    (step : ∀ n σ H, I n σ H → ∀ W : Sg → AHeap → Prop, (∀ m σ H, n = m + 1 → I m σ H → W σ H) →
      test σ H fun b H1 => if b then body σ H1 fun fl σ2 H2 => match fl with
        | .next => W σ2 H2
        | .brk => Q .next σ2 H2
        | .ret v => Q (.ret v) σ2 H2
      else Q .next σ H1) : ∀ n σ H, I n σ H → whileGo test body Q (n + 1) σ H
  | 0, σ, H, h => step 0 σ H h (whileGo test body Q 0) fun m _ _ e => by cases e
  | n + 1, σ, H, h => step (n + 1) σ H h (whileGo test body Q (n + 1)) fun m σ' H' e hi => by cases e; exact while_ind I step n σ' H' hi
theorem for_ind {K : AHeap → Prop} {bind : Item → AHeap → Sg → Option Sg} {body : Sg → AHeap → SPost → Prop} {Q : SPost} (I : List Item → Sg → AHeap → Prop)
    (step : ∀ x xs σ H, I (x :: xs) σ H → K H ∧ ∃ σ', bind x H σ = some σ' ∧ ∀ W : Sg → AHeap → Prop, (∀ σ2 H2, I xs σ2 H2 → W σ2 H2) → body σ' H fun fl σ2 H2 => match fl with
        | .next => W σ2 H2
        | .brk => Q .next σ2 H2
        | .ret v => Q (.ret v) σ2 H2)
    (fin : ∀ σ H, I [] σ H → K H ∧ Q .next σ H) : ∀ items σ H, I items σ H → forGo K bind body Q items σ H
  | [], σ, H, h => fin σ H h
  | x :: xs, σ, H, h => by
    obtain ⟨hK, σ', hb, hs⟩ := step x xs σ H h
    refine ⟨hK, ?_⟩
    rw [hb]
    exact hs (forGo K bind body Q xs) fun σ2 H2 h2 => for_ind I step fin xs σ2 H2 h2
end Mine
end
section
namespace Mine
open PySem PySem.Calls PyProof.Rows
noncomputable def spList : Spec := fun vs H Q _ => ∃ (n : Nat) (xs : List V), vs = [.ref n] ∧ H[n]? = some (.list xs) ∧ Q (.ref H.length) (H ++ [.list xs])
noncomputable def spAll : Spec := fun vs H Q _ => ∃ (n : Nat) (bs : List Bool), vs = [.ref n] ∧ H[n]? = some (.list (bs.map .bool)) ∧ Q (.bool (bs.all id)) H
section
variable {C : Cx} {K : Nat}
theorem ok_list_call : Call1 C K spList (.type "list") := by
  intro vs H Q X h ρ s us A E S hus hA hE
  obtain ⟨n, xs, rfl, e1, h⟩ := h
  obtain ⟨u, rfl, hu⟩ := all2_one hus
  obtain ⟨a, rfl, ea, us, k, ho, hs, hl⟩ := S.lookup e1 hu
  refine call_list_seq a (.inl rfl) ho rfl rfl (fun h' c' hk hD => ?_) (lid_le (all2_size hs ▸ hl))
  obtain ⟨S1, st1, v1⟩ := S.alloc (h' := h') (tk := s.toks) (a := s.heap.objs.size) (o := .list xs) hk (get_size _) S.size_ne ⟨us, c', hD, hs, hl⟩
  exact ⟨_, _, _, st1, S1, v1, h⟩
theorem bools_at {ρ : List Addr} : ∀ {bs : List Bool} {us : List Value}, All2 (VR C ρ) (bs.map .bool) us → us = bs.map Value.bool
  | [], _, .nil => rfl
  | _ :: _, _, .cons e r => by cases e; rw [bools_at r]; rfl
theorem ok_all (hc : C.calm) : Call1 C K spAll (.builtin "all") := by
  intro vs H Q X h ρ s us A E S hus hA hE
  obtain ⟨n, bs, rfl, e1, h⟩ := h
  obtain ⟨u, rfl, hu⟩ := all2_one hus
  obtain ⟨a, rfl, ea, us, k, ho, hs, hl⟩ := S.lookup e1 hu
  have hus := bools_at hs
  have hL : s.heap.IsList a us := ⟨_, ho, rfl, k, rfl⟩
  have hlt : a < s.heap.objs.size := Heap.lt_size ho
  refine call_all_walk (wpAny_pyIter_list hL ?_)
  refine ⟨_, _, _, _, _, _, fun i => (bs[i]?).getD true, rfl, Walks.list (A := A.in1) (hA.hc hc) _ a (Nat.ne_of_lt hlt) us, ⟨⟨_, Heap.get?_push_size _ rfl, rfl, rfl⟩, hL.push _⟩, ?_, fun h' tk hk => ?_⟩
  · intro i v s' Q' E' hP hQ
    have h1 : us.toList[i]? = some v := by rw [Array.getElem?_toList]; exact hP
    rw [hus, List.getElem?_map] at h1
    cases e : bs[i]? with
    | none => rw [e] at h1; cases h1
    | some b =>
      dsimp only at hQ
      rw [e] at h1 hQ
      cases h1
      exact wpAny_truthy_bool hQ
  · have hlen : us.size = bs.length := by rw [← Array.length_toList, hus]; simp
    have e2 : (List.range us.size).all (fun i => (bs[i]?).getD true) = bs.all id := by
      rw [hlen, Bool.eq_iff_iff, List.all_eq_true, List.all_eq_true]
      constructor
      · intro hh b hb'
        obtain ⟨i, hi, rfl⟩ := List.getElem_of_mem hb'
        have := hh i (by simpa using hi)
        rw [List.getElem?_eq_getElem hi] at this
        exact this
      · intro hh i hi
        have hi : i < bs.length := by simpa using hi
        rw [List.getElem?_eq_getElem hi]
        exact hh _ (List.getElem_mem _)
    rw [e2]
    obtain ⟨S1, st1⟩ := S.grow (h' := h') (tk := tk) (fun b o e => hk b o (by simp; exact Nat.ne_of_lt (Heap.lt_size e)) (Heap.get?_push_of_some _ e))
    exact ⟨ρ, H, _, st1, S1, vb _, h⟩
end
end Mine
end
section
namespace Mine
open PySem PySem.Calls PyProof.Rows
section
variable {prog : Program} {w : World} {A : Around} {E : Value → Shared → Prop} {s : Shared}
theorem hint_dict {r : Addr} {Q : Bool → Shared → Prop} (hT : s.TypeIs (.ref r) "dict") (h : Q false s) : wpAny (model prog w) A (Builtin.List.listLengthHint (.ref r)) Q E s := by
  unfold Builtin.List.listLengthHint
  refine wpAny_bind (wpAny_specialOf hT F.slot_dict_len.lookup ?_)
  generalize hx : "dict.__len__" = x
  wp_delta
  have e : splitId x = some ("dict", "__len__") := by rw [← hx]; decide +kernel
  rw [e, ← hx]
  refine wpAny_bind (wpAny_isInstance (T := "dict") (b := true) hT (by rw [isSubtype_type]; kernel_rfl) ?_)
  refine wpAny_ite_split (fun q => absurd q (by decide)) fun _ => ?_
  exact wpAny_ite_split (fun _ => wpAny_bind (wpAny_typeOf hT (wpAny_pure h))) fun q => absurd (by decide +kernel) q
theorem collect_dict {knd : PySem.KeyKind prog w Str} {d : Addr} {kvs : List (Str × Value)} {ep : Nat} {Q : List Value → Shared → Prop} (hh : A.handled = none) (hd : (d == sysModules) = false) (hm : s.heap.DictAt knd d kvs ep) (hsz : kvs.length ≤ sizeLine)
    (hQ : ∀ s' acc, (∀ b o, s.heap.get? b = some o → s'.heap.get? b = some o) → s'.gens = s.gens → s'.drawn = s.drawn → s'.os = s.os → ItemsOf (fun i v => ∃ k x, kvs[i]? = some (k, x) ∧ knd.is k v = true) acc kvs.length → Q acc.toList s') :
    wpAny (model prog w) A (collect (.ref d)) Q E s := by
  have hlt := hm.lt_size
  unfold collect
  refine wpAny_bind (wpAny_runValue (codeAny_builtin F.entry_proto_collect ?_))
  rw [Around.under_plainId F.plain_proto_collect _]
  show wpAny _ A.in1 (newList [] >>= fun l => again (.builtin "list.__iadd__" ⟨[l, .ref d], []⟩)) _ _ s
  refine wpAny_bind (wpAny_newObj_type (wpAny_pure ⟨plainId_quiet F.plain_list_iadd _, codeAny_builtin F.entry_list_iadd ?_⟩))
  rw [Around.under_plainId F.plain_list_iadd _]
  show wpAny _ A.in1 (Builtin.List.listExtendWith (.ref s.heap.objs.size) (.ref d) (.ref s.heap.objs.size)) _ _ _
  unfold Builtin.List.listExtendWith
  have hm1 := hm.push { cls := .type "list", data := .seq ([] : List Value).toArray }
  have hS1 : (s.heap.push { cls := .type "list", data := .seq ([] : List Value).toArray }).get? s.heap.objs.size = some { cls := .type "list", data := .seq ([] : List Value).toArray } := Heap.get?_push_size _ rfl
  have hz : (s.heap.push { cls := .type "list", data := .seq ([] : List Value).toArray }).objs.size = s.heap.objs.size + 1 := Heap.size_push ..
  have k1 : ∀ b o, s.heap.get? b = some o → (s.heap.push { cls := .type "list", data := .seq ([] : List Value).toArray }).get? b = some o := fun b o e => Heap.get?_push_of_some _ e
  generalize s.heap.push { cls := .type "list", data := .seq ([] : List Value).toArray } = h1 at hm1 hS1 hz k1
  have hT : ({ s with heap := h1 } : Shared).TypeIs (.ref d) "dict" := hm1.dictOf.typeIs (s := { s with heap := h1 })
  refine wpAny_bind (wpAny_typeOf hT ?_)
  have ne1 : Builtin.List.listSameRef (.ref s.heap.objs.size) (.ref d) = false := by simp [Builtin.List.listSameRef]; exact Nat.ne_of_gt hlt
  rw [if_neg (by rw [ne1]; decide)]
  refine wpAny_bind (wpAny_pyIter_dict hd hm1 (wpAny_bind (wpAny_holding (hint_dict ?_ ?_))))
  · exact (hm1.push _).dictOf.typeIs (s := { s with heap := h1.push _ })
  have hne : d ≠ h1.objs.size := fun q => by rw [q, hz] at hlt; exact absurd hlt (Nat.not_lt.mpr (Nat.le_succ _))
  have hSf : s.heap.objs.size ∉ [h1.objs.size, d] := fun q => by
    simp only [List.mem_cons, List.not_mem_nil, or_false] at q
    rcases q with q | q
    · rw [hz] at q; exact Nat.ne_of_lt (Nat.lt_succ_self _) q
    · rw [← q] at hlt; exact Nat.lt_irrefl _ hlt
  have hit : (h1.push { cls := .type "dict_keyiterator", data := .fields #[.ref d, .int 0 0, .int kvs.length 0, .int ep 0] }).IsKeyIter h1.objs.size d 0 kvs.length ep := ⟨_, Heap.get?_push_size _ rfl, rfl, rfl⟩
  have hm2 := hm1.push { cls := .type "dict_keyiterator", data := .fields #[.ref d, .int 0 0, .int kvs.length 0, .int ep 0] }
  have hS2 : (h1.push { cls := .type "dict_keyiterator", data := .fields #[.ref d, .int 0 0, .int kvs.length 0, .int ep 0] }).get? s.heap.objs.size = some { cls := .type "list", data := .seq ([] : List Value).toArray } := Heap.get?_push_of_some _ hS1
  have k2 : ∀ b o, s.heap.get? b = some o → (h1.push { cls := .type "dict_keyiterator", data := .fields #[.ref d, .int 0 0, .int kvs.length 0, .int ep 0] }).get? b = some o := fun b o e => Heap.get?_push_of_some _ (k1 b o e)
  generalize h1.push { cls := .type "dict_keyiterator", data := .fields #[.ref d, .int 0 0, .int kvs.length 0, .int ep 0] } = h2 at hit hm2 hS2 k2
  show wpAny _ A.in1 (rule "list.extend.makes-room" >>= fun _ => Builtin.List.listTouch (.ref s.heap.objs.size) >>= fun _ =>
    again (.builtin "list.extend.loop" ⟨[.ref s.heap.objs.size, .ref h1.objs.size, .ref s.heap.objs.size], []⟩)) _ _ _
  refine wpAny_bind (wpAny_rule (wpAny_bind ?_))
  show wpAny _ A.in1 (updateSeq s.heap.objs.size (·.push .none) >>= fun _ => updateSeq s.heap.objs.size (·.pop)) _ _ _
  refine wpAny_bind (wpAny_updateSeq hS2 rfl ?_)
  have hS3 := Heap.get?_update_self (Obj.mapSeq (·.push Value.none)) hS2 rfl
  refine wpAny_updateSeq hS3 rfl ?_
  have hS4 := Heap.get?_update_self (Obj.mapSeq (·.pop)) hS3 rfl
  have oth : ∀ b o, b ≠ s.heap.objs.size → h2.get? b = some o → ((h2.update s.heap.objs.size (Obj.mapSeq (·.push Value.none))).update s.heap.objs.size (Obj.mapSeq (·.pop))).get? b = some o :=
    fun b o hb e => (Heap.get?_update_other _ _ (Ne.symm hb)).trans ((Heap.get?_update_other _ _ (Ne.symm hb)).trans e)
  generalize (h2.update s.heap.objs.size (Obj.mapSeq (·.push Value.none))).update s.heap.objs.size (Obj.mapSeq (·.pop)) = h3 at hS4 oth
  have hne1 : h1.objs.size ≠ s.heap.objs.size := fun q => by rw [hz] at q; exact Nat.ne_of_gt (Nat.lt_succ_self _) q
  refine wpAny_pure ⟨plainId_quiet F.plain_extend_loop _, codeAny_extend_loopS (Walks.dictKeys (knd := knd) (A := A.in1) hh h1.objs.size d hne kvs ep).toS hsz _ hSf _ kvs.length 0 _ _ _ rfl (Nat.zero_le _)
    ⟨hit.at fun o e => oth _ o hne1 e, hm2.at' fun o e => oth _ o (Nat.ne_of_lt hlt) e⟩ hS4 (ItemsOf.nil _) fun s' acc' c' hmv hS' hacc => ?_⟩
  show wpAny _ A (load s.heap.objs.size >>= _) _ _ s'
  refine wpAny_bind (wpAny_load hS' (wpAny_pure (hQ s' acc' (fun b o e => ?_) hmv.gens hmv.drawn hmv.os hacc)))
  have hb := Heap.lt_size e
  have hb1 : b ≠ s.heap.objs.size := Nat.ne_of_lt hb
  refine hmv.heap b o (fun q => ?_) (oth b o hb1 (k2 b o e))
  simp only [List.mem_cons, List.not_mem_nil, or_false] at q
  rcases q with q | q
  · exact hb1 q
  · rw [q, hz] at hb; exact absurd hb (Nat.not_lt.mpr (Nat.le_succ _))
end
end Mine
end
section
namespace Mine
open PySem PySem.Calls PyProof.Rows
section
variable {prog : Program} {w : World} {A : Around} {E : Value → Shared → Prop} {s : Shared} {κ : PyProof.Rows.KeyKind}
noncomputable def Kd1 (κ : PyProof.Rows.KeyKind) (p : Keyed) : Prop := ∃ a, κ.keyOf p.1 = some a
structure SI (a₀ : Array Keyed) (p : Array (Nat × Nat × Nat)) (st : SortSt) : Prop where
  perm : (arrOf st).Perm a₀
  kind : kindOf st = oneType'
  failed : failedOf st = none
  pend : pendingOf st = p
variable {a₀ : Array Keyed} {pd : Array (Nat × Nat × Nat)}
theorem SI.size {st : SortSt} (h : SI a₀ pd st) : (arrOf st).size = a₀.size := h.perm.size_eq
theorem SI.setArr {st : SortSt} (h : SI a₀ pd st) {xs : Array Keyed} (hp : xs.Perm (arrOf st)) : SI a₀ pd (setArr st xs) := ⟨hp.trans h.perm, h.kind, h.failed, h.pend⟩
theorem SI.at {st : SortSt} (h : SI a₀ pd st) (h0 : KeysOf κ a₀) {i : Nat} (hi : i < a₀.size) : ∃ p, (arrOf st)[i]? = some p ∧ Kd1 κ p := by
  have hi' : i < (arrOf st).size := by rw [h.size]; exact hi
  exact ⟨(arrOf st)[i], getElem?_pos _ i hi', h0 _ ((Array.perm_iff_toList_perm.mp h.perm).mem_iff.mp (by simp))⟩
theorem wp_lt (hO : κ.OneLt) {st : SortSt} {x y : Keyed} {Q : Option Bool → SortSt → Prop} (hk : kindOf st = oneType') (hx : Kd1 κ x) (hy : Kd1 κ y) (h : ∀ b, Q (some b) st) : wpS (model prog w) A E s (lt' x y) Q st := by
  obtain ⟨a, ha⟩ := hx
  obtain ⟨b, hb⟩ := hy
  rw [lt'_eq]
  refine wpS_bind (wpS_get ?_)
  rw [hk, keyLt'_oneType]
  exact wpS_bind (wpS_lift (wpAny_attempt (hO prog w A _ s x.1 y.1 a b ha hb ⟨rfl, wpS_pure (h _)⟩)))
theorem wp_ltAt (hO : κ.OneLt) (h0 : KeysOf κ a₀) {st : SortSt} {i j : Nat} {Q : Option Bool → SortSt → Prop} (hB : SI a₀ pd st) (hi : i < a₀.size) (hj : j < a₀.size) (h : ∀ b, Q (some b) st) : wpS (model prog w) A E s (ltAt' i j) Q st := by
  obtain ⟨p, e1, k1⟩ := hB.at h0 hi
  obtain ⟨q, e2, k2⟩ := hB.at h0 hj
  rw [ltAt'_eq]
  refine wpS_bind (wpS_get ?_)
  show wpS _ _ _ _ (do let x ← elem' (arrOf st) i; let y ← elem' (arrOf st) j; lt' x y) Q st
  rw [elem'_eq, elem'_eq, e1, e2]
  exact wpS_bind (wpS_pure (wpS_bind (wpS_pure (wp_lt hO hB.kind k1 k2 h))))
theorem wp_elem {arr : Array Keyed} {i : Nat} {st : SortSt} {Q : Keyed → SortSt → Prop} (hi : i < arr.size) (h : Q arr[i] st) : wpS (model prog w) A E s (elem' arr i) Q st := by
  rw [elem'_eq, getElem?_pos arr i hi]; exact wpS_pure h
theorem wp_rev {st : SortSt} {i j : Nat} {Q : Unit → SortSt → Prop} (hB : SI a₀ pd st) (h : ∀ st', SI a₀ pd st' → Q () st') : wpS (model prog w) A E s (reverseSlice' i j) Q st := wpS_reverse (h _ (hB.setArr (mirror_perm _ _ _ _)))
inductive Rs {ρ τ : Type} (S : SortSt → Prop) (P : ρ → Prop) (M : τ → Prop) : Option ρ × τ → SortSt → Prop
  | ret {r o st} : S st → P r → Rs S P M (some r, o) st
  | on {o st} : S st → M o → Rs S P M (none, o) st
noncomputable def Sp {ρ τ : Type} (S : SortSt → Prop) (P : ρ → Prop) (M I : τ → Prop) (r : ForInStep (Option ρ × τ)) (st : SortSt) : Prop := match r with | .done c => Rs S P M c st | .yield c => Rs S (fun _ => False) I c st
section
variable {ρ τ : Type} {S : SortSt → Prop} {P : ρ → Prop} {M I : τ → Prop} {st : SortSt} {r : ρ} {o : τ}
theorem sp_ret (sg : S st) (h : P r) : Sp S P M I (.done (some r, o)) st := .ret sg h
theorem sp_brk (sg : S st) (h : M o) : Sp S P M I (.done (none, o)) st := .on sg h
theorem sp_go (sg : S st) (h : I o) : Sp S P M I (.yield (none, o)) st := .on sg h
end
theorem b_loop {α ρ τ : Type} {a n : Nat} {f : Nat → Option ρ × τ → StateT SortSt Sem (ForInStep (Option ρ × τ))} {k : Option ρ × τ → StateT SortSt Sem α} {Q : α → SortSt → Prop} {c : τ} {st : SortSt} (S : SortSt → Prop) (P : ρ → Prop) (I : Nat → τ → Prop) (M : τ → Prop)
    (hs : ∀ i c st, a ≤ i → i < n → S st → I i c → wpS (model prog w) A E s (f i (none, c)) (Sp S P M (I (i + 1))) st)
    (he : ∀ c, I (max a n) c → M c) (sg : S st) (h : I a c) (hr : ∀ r c st, S st → P r → wpS (model prog w) A E s (k (some r, c)) Q st) (hk : ∀ c st, S st → M c → wpS (model prog w) A E s (k (none, c)) Q st) : wpS (model prog w) A E s (forIn [a:n] (none, c) f >>= k) Q st := by
  refine wpS_bind (wpS_mono (wpS_forRange (Q := Rs S P M) (fun i => Rs S (fun _ => False) (I i)) (fun i c st h1 h2 hi => ?_) (fun c st hi => ?_) (.on sg h)) fun c st hi => ?_)
  · cases hi with
    | ret _ hF => exact hF.elim
    | on sg hm => exact wpS_mono (hs _ _ _ h1 h2 sg hm) fun r _ h => by cases r <;> exact h
  · cases hi with
    | ret _ hF => exact hF.elim
    | on sg hm => exact .on sg (he _ hm)
  · cases hi with
    | ret sg h => exact hr _ _ _ sg h
    | on sg hm => exact hk _ _ sg hm
theorem wpS_ite {α : Type} {c : Prop} [Decidable c] {m n : StateT SortSt Sem α} {Q : α → SortSt → Prop} {st : SortSt} (h1 : c → wpS (model prog w) A E s m Q st) (h2 : ¬ c → wpS (model prog w) A E s n Q st) : wpS (model prog w) A E s (if c then m else n) Q st := by
  by_cases q : c
  · rw [if_pos q]; exact h1 q
  · rw [if_neg q]; exact h2 q
theorem b_elem {α : Type} {arr : Array Keyed} {i : Nat} {st : SortSt} {f : Keyed → StateT SortSt Sem α} {Q : α → SortSt → Prop} (hi : i < arr.size) (h : wpS (model prog w) A E s (f arr[i]) Q st) : wpS (model prog w) A E s (elem' arr i >>= f) Q st := wpS_bind (wp_elem hi h)
theorem b_rule {α : Type} {t : String} {st : SortSt} {f : Unit → StateT SortSt Sem α} {Q : α → SortSt → Prop} (h : wpS (model prog w) A E s (f ()) Q st) : wpS (model prog w) A E s ((liftM (rule t) : StateT SortSt Sem Unit) >>= f) Q st := wpS_bind (wpS_lift (wpAny_rule ⟨rfl, h⟩))
theorem ne_of {m n : Nat} (h : ¬ (m == n) = true) : m ≠ n := fun e => h (beq_iff_eq.mpr e)
theorem wp_countRun (hO : κ.OneLt) (h0 : KeysOf κ a₀) {st : SortSt} {lo nrem : Nat} {Q : Option Nat → SortSt → Prop} (hB : SI a₀ pd st) (hn : lo + nrem ≤ a₀.size) (h1 : 1 ≤ nrem) (h : ∀ m st', SI a₀ pd st' → 1 ≤ m → m ≤ nrem → Q (some m) st') : wpS (model prog w) A E s (countRun' lo nrem) Q st := by
  rw [countRun'_eq]
  extract_lets n0
  have hl : ∀ {n}, n < nrem → lo + n < a₀.size ∧ lo + n - 1 < a₀.size := fun h => ⟨by lia, by lia⟩
  refine b_loop (SI a₀ pd) (fun _ => False) (fun x n => n = x) (fun n => 1 ≤ n ∧ n ≤ nrem) ?step (fun c hc => ?fin) hB rfl (fun _ _ _ _ hF => hF.elim) ?post
  case fin => rw [hc, Nat.max_eq_right h1]; exact ⟨h1, Nat.le_refl _⟩
  case step =>
    rintro x _ st' h1x hx hB' rfl
    refine wpS_bind (wp_ltAt hO h0 hB' (hl hx).1 (hl hx).2 fun b => ?_)
    cases b with
    | true => exact wpS_pure (sp_brk hB' ⟨h1x, Nat.le_of_lt hx⟩)
    | false => exact wpS_pure (sp_go hB' rfl)
  case post =>
    clear hB
    rintro n st' hB' ⟨hn1, hn2⟩
    dsimp (zeta := false) (zetaHave := false) only
    extract_lets r0 n2 n3 jp
    have e2 : n = n2 := rfl
    have e3 : n2 + 1 = n3 := rfl
    clear_value n2 n3
    subst e2 e3
    have hjp : ∀ st', n < nrem → SI a₀ pd st' → wpS (model prog w) A E s (jp ()) Q st' := by
      intro st' hlt hB'
      refine b_rule ?_
      refine b_loop (SI a₀ pd) (fun _ => False) (fun x o => o.1 = x) (fun o => 1 ≤ o.1 ∧ o.1 ≤ nrem) ?step2 (fun c hc => ?fin2) hB' rfl (fun _ _ _ _ hF => hF.elim) ?post2
      case fin2 => rw [hc, Nat.max_eq_right hlt]; exact ⟨h1, Nat.le_refl _⟩
      case step2 =>
        rintro x ⟨_, q⟩ st' h1x hx hB' rfl
        refine wpS_bind (wp_ltAt hO h0 hB' (hl hx).1 (hl hx).2 fun b => ?_)
        cases b with
        | true => exact wpS_ite (fun _ => wpS_ite (fun _ => wpS_bind (wp_rev hB' fun st2 hB2 => wpS_pure (sp_go hB2 rfl))) fun _ => wpS_pure (sp_go hB' rfl)) fun hF => (hF rfl).elim
        | false =>
          refine wpS_bind (wp_ltAt hO h0 hB' (hl hx).2 (hl hx).1 fun b => ?_)
          cases b with
          | true => exact wpS_pure (sp_brk hB' ⟨Nat.le_trans (Nat.le_add_left _ _) h1x, Nat.le_of_lt hx⟩)
          | false => exact wpS_pure (sp_go hB' rfl)
      case post2 =>
        rintro ⟨m, q⟩ st' hB' ⟨hm1, hm2⟩
        dsimp (zeta := false) (zetaHave := false) only
        extract_lets s1 m2 q2 jp2
        have e4 : m = m2 := rfl
        clear_value m2
        subst e4
        have hjp2 : ∀ u st', SI a₀ pd st' → wpS (model prog w) A E s (jp2 u) Q st' := by
          intro u st' hB'
          refine wpS_bind (wp_rev hB' fun st' hB' => ?_)
          refine b_loop (SI a₀ pd) (fun _ => False) (fun x n => n = x) (fun n => 1 ≤ n ∧ n ≤ nrem) ?step3 (fun c hc => ?fin3) hB' rfl (fun _ _ _ _ hF => hF.elim) fun n st' hB' hn => wpS_pure (h n st' hB' hn.1 hn.2)
          case fin3 => rw [hc, Nat.max_eq_right hm2]; exact ⟨h1, Nat.le_refl _⟩
          case step3 =>
            rintro x _ st' h1x hx hB' rfl
            refine wpS_bind (wp_ltAt hO h0 hB' (hl hx).1 (hl hx).2 fun b => ?_)
            cases b with
            | true => exact wpS_pure (sp_brk hB' ⟨Nat.le_trans hm1 h1x, Nat.le_of_lt hx⟩)
            | false => exact wpS_pure (sp_go hB' rfl)
        clear_value jp2
        exact wpS_ite (fun _ => wpS_bind (wp_rev hB' fun st2 hB2 => hjp2 _ _ hB2)) fun _ => hjp2 _ _ hB'
    clear_value jp
    refine wpS_ite (fun _ => wpS_pure (h n st' hB' hn1 hn2)) fun hne => ?_
    have hlt := Nat.lt_of_le_of_ne hn2 (ne_of hne)
    refine wpS_ite (fun _ => ?_) fun _ => hjp _ hlt hB'
    refine wpS_bind (wp_ltAt hO h0 hB' (Nat.lt_of_lt_of_le (Nat.lt_add_of_pos_right h1) hn) (hl hlt).2 fun b => ?_)
    cases b with
    | true => exact wpS_pure (h n st' hB' hn1 hn2)
    | false => exact wpS_bind (wp_rev hB' fun st2 hB2 => hjp _ hlt hB2)
theorem mid_lt {l r k : Nat} (h : ¬ l ≥ r) (hr : r ≤ k) : (l + r) / 2 < k ∧ (l + r) / 2 ≤ r := ⟨by lia, by lia⟩
theorem wp_binarySort (hO : κ.OneLt) (h0 : KeysOf κ a₀) {st : SortSt} {lo n ok : Nat} {Q : Bool → SortSt → Prop} (hB : SI a₀ pd st) (hn : lo + n ≤ a₀.size) (h : ∀ st', SI a₀ pd st' → Q true st') : wpS (model prog w) A E s (binarySort' lo n ok) Q st := by
  rw [binarySort'_eq]
  refine b_loop (SI a₀ pd) (fun _ => False) (fun _ _ => True) (fun _ => True) ?step (fun _ h => h) hB trivial (fun _ _ _ _ hF => hF.elim) fun _ st' hB' _ => wpS_pure (h st' hB')
  rintro k _ st' hak hkn hB' -
  have hl : ∀ {x}, x < n → lo + x < a₀.size := fun hx => Nat.lt_of_lt_of_le (Nat.add_lt_add_left hx lo) hn
  refine b_loop (SI a₀ pd) (fun _ => False) (fun _ o => o.2 ≤ k) (fun _ => True) ?istep (fun _ _ => trivial) hB' (Nat.le_refl k) (fun _ _ _ _ hF => hF.elim) ?ipost
  case istep =>
    rintro x ⟨l, r⟩ st'' _ _ hB' hr
    refine wpS_ite (fun _ => wpS_pure (sp_brk hB' trivial)) fun hge => ?_
    have hm := mid_lt hge hr
    refine wpS_bind (wp_ltAt hO h0 hB' (hl hkn) (hl (Nat.lt_trans hm.1 hkn)) fun b => ?_)
    cases b with
    | true => exact wpS_pure (sp_go hB' (Nat.le_of_lt hm.1))
    | false => exact wpS_pure (sp_go hB' hr)
  case ipost =>
    rintro ⟨l, r⟩ st'' hB' -
    show wpS _ _ _ _ (moveDown' _ _ >>= _) _ _
    rw [moveDown'_eq]
    exact wpS_bind (wpS_modify (wpS_pure (sp_go (hB'.setArr (bubble_perm _ _ _)) trivial)))
noncomputable def gallop' : Bool → Keyed → Array Keyed → Nat → Nat → Nat → StateT SortSt Sem (Option Nat) := sortPriv% PySem.Builtin.gallop
noncomputable def mergeLo' : Array Keyed → Array Keyed → StateT SortSt Sem (Array Keyed) := sortPriv% PySem.Builtin.mergeLo
noncomputable def mergeHi' : Array Keyed → Array Keyed → StateT SortSt Sem (Array Keyed) := sortPriv% PySem.Builtin.mergeHi
theorem wp_beyond (hO : κ.OneLt) {left : Bool} {key : Keyed} {arr : Array Keyed} {i : Nat} {st : SortSt} {Q : Option Bool → SortSt → Prop} (hk : kindOf st = oneType') (hkey : Kd1 κ key) (ha : ∃ p, arr[i]? = some p ∧ Kd1 κ p) (h : ∀ b, Q (some b) st) :
    wpS (model prog w) A E s (do
      let x ← elem' arr i
      if left = true then lt' x key else do
        let r ← lt' key x
        pure (Option.map (fun x => !x) r)) Q st := by
  obtain ⟨p, e, hp⟩ := ha
  rw [elem'_eq, e]
  refine wpS_bind (wpS_pure ?_)
  cases left with
  | true => exact wp_lt hO hk hp hkey h
  | false => exact wpS_bind (wp_lt hO hk hkey hp fun b => wpS_pure (h _))
theorem mid2_lt {l r k : Nat} (h : ¬ l ≥ r) (hr : r ≤ k) : l + (r - l) / 2 < k := by lia
theorem wp_gallop (hO : κ.OneLt) {left : Bool} {key : Keyed} {arr : Array Keyed} {base n hint : Nat} {st : SortSt} {Q : Option Nat → SortSt → Prop} (hk : kindOf st = oneType') (hkey : Kd1 κ key) (ha : ∀ i, i < n → ∃ p, arr[base + i]? = some p ∧ Kd1 κ p) (hh : hint < n) (h : ∀ k, k ≤ n → Q (some k) st) :
    wpS (model prog w) A E s (gallop' left key arr base n hint) Q st := by
  refine wpS_bind (wp_beyond hO hk hkey (ha hint hh) fun b => ?_)
  dsimp (zeta := false) (zetaHave := false) only
  extract_lets jp m1 m2
  have hjp : ∀ u l o lo hi, hi ≤ n → wpS (model prog w) A E s (jp u l o lo hi) Q st := by
    intro u l o lo hi hhi
    refine b_loop (fun st' => st' = st) (fun _ => False) (fun _ o => o.2 ≤ n) (fun o => o.2 ≤ n) ?step (fun _ h => h) rfl hhi (fun _ _ _ _ hF => hF.elim) (fun o _ e ho => e ▸ wpS_pure (h _ ho))
    rintro x ⟨lo, hi⟩ _ _ _ rfl ho
    refine wpS_ite (fun _ => wpS_pure (sp_brk rfl ho)) fun hge => ?_
    have hm := mid2_lt hge ho
    refine wpS_bind (wp_beyond hO hk hkey (ha _ hm) fun b => ?_)
    cases b with
    | true => exact wpS_pure (sp_go rfl ho)
    | false => exact wpS_pure (sp_go rfl (Nat.le_of_lt hm))
  have e1 : m1 = n - hint := rfl
  have e2 : m2 = hint + 1 := rfl
  clear_value jp m1 m2
  refine wpS_ite (fun _ => ?_) fun _ => ?_
  · refine b_loop (fun st' => st' = st) (fun _ => False) (fun _ _ => True) (fun _ => True) ?step1 (fun _ h => h) rfl trivial (fun _ _ _ _ hF => hF.elim) ?post1
    case step1 =>
      rintro x ⟨l, o⟩ _ _ _ rfl -
      refine wpS_ite (fun _ => wpS_pure (sp_brk rfl trivial)) fun hge => ?_
      refine wpS_bind (wp_beyond hO hk hkey (ha _ (by subst e1; lia)) fun b => ?_)
      cases b <;> exact wpS_pure (by first | exact sp_go rfl trivial | exact sp_brk rfl trivial)
    case post1 =>
      rintro ⟨l, o⟩ _ rfl -
      exact hjp _ _ _ _ _ (by subst e1; lia)
  · refine b_loop (fun st' => st' = st) (fun _ => False) (fun _ _ => True) (fun _ => True) ?step2 (fun _ h => h) rfl trivial (fun _ _ _ _ hF => hF.elim) ?post2
    case step2 =>
      rintro x ⟨l, o⟩ _ _ _ rfl -
      refine wpS_ite (fun _ => wpS_pure (sp_brk rfl trivial)) fun hge => ?_
      refine wpS_bind (wp_beyond hO hk hkey (ha _ (by subst e2; lia)) fun b => ?_)
      cases b <;> exact wpS_pure (by first | exact sp_go rfl trivial | exact sp_brk rfl trivial)
    case post2 =>
      rintro ⟨l, o⟩ _ rfl -
      exact hjp _ _ _ _ _ (by subst e2; lia)
noncomputable def Mrg (κ : PyProof.Rows.KeyKind) (xs : Array Keyed) : Prop := ∀ p ∈ xs.toList, Kd1 κ p
theorem Mrg.at {xs : Array Keyed} (h : Mrg κ xs) {i : Nat} (hi : i < xs.size) : Kd1 κ xs[i] := h _ (by simp)
theorem Mrg.some {xs : Array Keyed} (h : Mrg κ xs) {i : Nat} (hi : i < xs.size) : ∃ p, xs[i]? = some p ∧ Kd1 κ p := ⟨_, getElem?_pos xs i hi, h.at hi⟩
structure SG (st st' : SortSt) : Prop where
  arr : arrOf st' = arrOf st
  kind : kindOf st' = kindOf st
  pend : pendingOf st' = pendingOf st
  failed : failedOf st' = failedOf st
noncomputable def Got (a b : Array Keyed) (out : Array Keyed) (i j : Nat) : Prop := out.toList.Perm (a.toList.take i ++ b.toList.take j)
section
variable {a b out : Array Keyed} {i j k : Nat}
theorem take_more {l : List Keyed} {i k : Nat} : l.take (i + k) = l.take i ++ (l.drop i).take k := by rw [List.take_add]
theorem ext_list {l : Array Keyed} {i k : Nat} : (l.extract i (i + k)).toList = (l.toList.drop i).take k := by
  rw [Array.toList_extract, List.extract_eq_take_drop]; congr 1; lia
theorem ext_rest {l : Array Keyed} {i : Nat} : (l.extract i l.size).toList = l.toList.drop i := by
  rw [Array.toList_extract, List.extract_eq_take_drop, List.take_of_length_le (by simp)]
theorem Got.addA (g : Got a b out i j) : Got a b (out ++ a.extract i (i + k)) (i + k) j := by
  unfold Got at *
  rw [Array.toList_append, ext_list, take_more, List.append_assoc]
  exact (g.append_right _).trans (by rw [List.append_assoc]; exact List.Perm.append_left _ List.perm_append_comm)
theorem Got.addB (g : Got a b out i j) : Got a b (out ++ b.extract j (j + k)) i (j + k) := by
  unfold Got at *
  rw [Array.toList_append, ext_list, take_more, ← List.append_assoc]
  exact g.append_right _
theorem push_ext {l : Array Keyed} {i : Nat} (h : i < l.size) : out.push l[i] = out ++ l.extract i (i + 1) := by
  apply Array.toList_inj.mp
  rw [Array.toList_push, Array.toList_append, ext_list, List.drop_eq_getElem_cons (by simpa using h)]
  simp
theorem Got.pushA (g : Got a b out i j) (h : i < a.size) : Got a b (out.push a[i]) (i + 1) j := by rw [push_ext h]; exact g.addA
theorem Got.pushB (g : Got a b out i j) (h : j < b.size) : Got a b (out.push b[j]) i (j + 1) := by rw [push_ext h]; exact g.addB
theorem Got.fin (g : Got a b out i j) : (out ++ a.extract i a.size ++ b.extract j b.size).toList.Perm (a.toList ++ b.toList) := by
  unfold Got at g
  rw [Array.toList_append, Array.toList_append, ext_rest, ext_rest]
  have h1 : (a.toList ++ b.toList) = (a.toList.take i ++ a.toList.drop i) ++ (b.toList.take j ++ b.toList.drop j) := by rw [List.take_append_drop, List.take_append_drop]
  rw [h1, List.append_assoc, List.append_assoc]
  refine (g.append_right _).trans ?_
  rw [List.append_assoc]
  refine List.Perm.append_left _ ?_
  rw [← List.append_assoc, ← List.append_assoc]
  exact List.Perm.append_right _ List.perm_append_comm
theorem Got.last (g : Got a b out i j) : (out ++ b.extract j b.size ++ a.extract i a.size).toList.Perm (a.toList ++ b.toList) := by
  refine List.Perm.trans ?_ g.fin
  rw [Array.toList_append, Array.toList_append, Array.toList_append, Array.toList_append, List.append_assoc, List.append_assoc]
  exact List.Perm.append_left _ List.perm_append_comm
end
theorem wp_mark {st : SortSt} {g : Nat} {Q : Unit → SortSt → Prop} (h : Q () (SortSt.mk' (kindOf st) (arrOf st) (pendingOf st) g (failedOf st))) : wpS (model prog w) A E s ((sortPriv% PySem.Builtin.setMinGallop) g) Q st := wpS_modify h
noncomputable def f1 : Nat → Nat
  | 0 => 0
  | _ + 1 => 1
theorem f1_le {x y z : Nat} (h : x + f1 y + 1 ≤ z) : x + 1 ≤ z := Nat.le_trans (Nat.succ_le_succ (Nat.le_add_right _ _)) h
theorem f1_pos {n : Nat} (h : 0 < n) : f1 (max 0 n) = 1 := by
  rw [Nat.zero_max]
  cases n with
  | zero => cases h
  | succ n => rfl
structure Mi (a b : Array Keyed) (x : Nat) (out : Array Keyed) (i j : Nat) : Prop where
  got : Got a b out i j
  ia : i + 1 < a.size
  jb : j < b.size
  le : x ≤ i + j
section
variable {a b out : Array Keyed} {x y i j k : Nat}
theorem Mi.lt (h : Mi a b x out i j) : i < a.size := Nat.lt_of_succ_lt h.ia
theorem Mi.dn (h : Mi a b y out i j) (k : x ≤ y) : Mi a b x out i j := ⟨h.got, h.ia, h.jb, Nat.le_trans k h.le⟩
theorem Mi.f (h : Mi a b (x + f1 y + 1) out i j) : Mi a b (x + 1) out i j := ⟨h.got, h.ia, h.jb, f1_le h.le⟩
theorem Mi.pushB (h : Mi a b x out i j) (e : ¬ (j + 1 == b.size) = true) : Mi a b (x + 1) (out.push (b[j]'h.jb)) i (j + 1) := ⟨h.got.pushB h.jb, h.ia, Nat.lt_of_le_of_ne h.jb (ne_of e), Nat.succ_le_succ h.le⟩
theorem Mi.pushA (h : Mi a b x out i j) (e : ¬ (i + 1 + 1 == a.size) = true) : Mi a b (x + 1) (out.push (a[i]'h.lt)) (i + 1) j := ⟨h.got.pushA h.lt, Nat.lt_of_le_of_ne h.ia (ne_of e), h.jb, by have := h.le; lia⟩
theorem Mi.addA (h : Mi a b x out i j) (hk : k ≤ a.size - i) (e : ¬ (i + k + 1 == a.size) = true) (e' : ¬ (i + k == a.size) = true) : Mi a b x (out ++ a.extract i (i + k)) (i + k) j := ⟨h.got.addA, by have := h.lt; have := ne_of e; have := ne_of e'; lia, h.jb, by have := h.le; lia⟩
theorem Mi.addB (h : Mi a b x out i j) (hk : k ≤ b.size - j) (e : ¬ (j + k == b.size) = true) : Mi a b x (out ++ b.extract j (j + k)) i (j + k) := ⟨h.got.addB, h.ia, by have := h.jb; have := ne_of e; lia, Nat.le_trans h.le (by lia)⟩
theorem Mi.no (h : Mi a b (max 0 (a.size + b.size)) out i j) : False := by have := h.ia; have := h.jb; have := h.le; rw [Nat.zero_max] at this; lia
end
noncomputable def M3 {τ : Type} (a b : Array Keyed) (x : Nat) (o : Array Keyed × Nat × Nat × τ) : Prop := Mi a b x o.1 o.2.1 o.2.2.1
noncomputable def Pm (a b r : Array Keyed) : Prop := r.toList.Perm (a.toList ++ b.toList)
theorem Mrg.off {xs : Array Keyed} (h : Mrg κ xs) {i t : Nat} (ht : t < xs.size - i) : ∃ p, xs[i + t]? = Option.some p ∧ Kd1 κ p := h.some (by lia)
theorem SG.mk' {st st' : SortSt} {g : Nat} (h : SG st st') : SG st (SortSt.mk' (kindOf st') (arrOf st') (pendingOf st') g (failedOf st')) := ⟨h.arr, h.kind, h.pend, h.failed⟩
theorem b_mark {α : Type} {st st' : SortSt} {g : Nat} {f : Unit → StateT SortSt Sem α} {Q : α → SortSt → Prop} (h : SG st st') (k : ∀ st'', SG st st'' → wpS (model prog w) A E s (f ()) Q st'') : wpS (model prog w) A E s ((sortPriv% PySem.Builtin.setMinGallop) g >>= f) Q st' := wpS_bind (wp_mark (k _ h.mk'))
theorem wp_mergeLo (hO : κ.OneLt) {a b : Array Keyed} {st : SortSt} {Q : Array Keyed → SortSt → Prop} (hk : kindOf st = oneType') (ha : Mrg κ a) (hb : Mrg κ b) (ha0 : 0 < a.size) (hb0 : 0 < b.size)
    (h : ∀ xs st', SG st st' → xs.toList.Perm (a.toList ++ b.toList) → Q xs st') : wpS (model prog w) A E s (mergeLo' a b) Q st := by
  refine b_rule ?_
  extract_lets total done last
  have hdone : ∀ {out i j}, Got a b out i j → Pm a b (done out i j) := fun g => g.fin
  have hlast : ∀ {out i j}, Got a b out i j → Pm a b (last out i j) := fun g => g.last
  have htot : total = a.size + b.size := rfl
  clear_value total done last
  subst htot
  refine b_elem hb0 ?_
  have sg0 : SG st st := ⟨rfl, rfl, rfl, rfl⟩
  have g0 : Got a b #[b[0]] 0 1 := Got.pushB (out := #[]) (j := 0) (by unfold Got; simp) hb0
  extract_lets out0
  replace g0 : Got a b out0 0 1 := g0
  clear_value out0
  refine wpS_ite (fun _ => wpS_pure (h _ _ sg0 (hdone g0))) fun e1 => ?_
  refine wpS_ite (fun _ => wpS_pure (h _ _ sg0 (hlast g0))) fun e2 => ?_
  refine wpS_bind (wpS_get ?_)
  have kd : ∀ {st'}, SG st st' → kindOf st' = oneType' := fun x => x.kind.trans hk
  have hm0 : Mi a b 0 out0 0 1 := ⟨g0, Nat.lt_of_le_of_ne ha0 (ne_of e2), Nat.lt_of_le_of_ne hb0 (ne_of e1), Nat.zero_le _⟩
  clear e1 e2 g0
  refine b_loop (SG st) (Pm a b) (M3 a b) (fun _ => False) ?step (fun _ hm => hm.no) sg0 hm0 (fun r _ st' sg hr => wpS_pure (h r st' sg hr)) fun _ _ _ hF => hF.elim
  clear hm0 sg0 h
  rintro x ⟨out, i, j, g⟩ st' _ _ sg hm
  refine b_loop (SG st) (Pm a b) (fun y => M3 a b (x + f1 y)) (M3 a b (x + 1)) ?s1 (fun c hm => ?f1) sg hm (fun r _ st' sg hr => wpS_pure (sp_ret sg hr)) ?p1
  case f1 => rw [f1_pos (Nat.add_pos_left ha0 _)] at hm; exact hm
  case s1 =>
    clear hm sg
    rintro y ⟨out, i, j, p, q⟩ st' _ _ sg hm
    replace hm : Mi a b (x + f1 y) out i j := hm
    refine b_elem hm.jb (b_elem hm.lt (wpS_bind (wp_lt hO (kd sg) (hb.at hm.jb) (ha.at hm.lt) fun t => ?_)))
    cases t with
    | true =>
      refine b_elem hm.jb ?_
      refine wpS_ite (fun _ => wpS_pure (sp_ret sg (hdone (hm.got.pushB hm.jb)))) fun e3 => ?_
      exact wpS_ite (fun _ => wpS_pure (sp_brk sg (hm.pushB e3).f)) fun _ => wpS_pure (sp_go sg (hm.pushB e3).f)
    | false =>
      refine b_elem hm.lt ?_
      refine wpS_ite (fun _ => wpS_pure (sp_ret sg (hlast (hm.got.pushA hm.lt)))) fun e3 => ?_
      exact wpS_ite (fun _ => wpS_pure (sp_brk sg (hm.pushA e3).f)) fun _ => wpS_pure (sp_go sg (hm.pushA e3).f)
  case p1 =>
    clear hm sg
    rintro ⟨out, i, j, p, q⟩ st' sg hm
    refine b_rule ?_
    refine b_loop (SG st) (Pm a b) (fun _ => M3 a b (x + 1)) (M3 a b (x + 1)) ?s2 (fun _ hm => hm) sg hm (fun r _ st' sg hr => wpS_pure (sp_ret sg hr)) fun _ _ sg hm => b_mark sg fun _ sg => wpS_pure (sp_go sg hm)
    clear hm sg
    rintro y ⟨out, i, j, g, p, q⟩ st' _ _ sg hm
    replace hm : Mi a b (x + 1) out i j := hm
    dsimp (zeta := false) (zetaHave := false) only
    extract_lets s1 o1 s2 i1 s3 j1 s4 g1 s5 p1 q1 jn jp
    have x1 : out = o1 := rfl
    have x2 : i = i1 := rfl
    have x3 : j = j1 := rfl
    have x4 : j1 + 1 = jn := rfl
    clear_value o1 i1 j1 g1 p1 q1 jn
    subst x1 x2 x3 x4
    have hjp : ∀ u g2 st2, SG st st2 → wpS (model prog w) A E s (jp u g2) (Sp (SG st) (Pm a b) (M3 a b (x + 1)) (M3 a b (x + 1))) st2 := by
      intro u g2 st2 sg
      refine b_mark sg fun st3 sg => ?_
      refine b_elem hm.jb (wpS_bind (wp_gallop hO (kd sg) (hb.at hm.jb) (fun t ht => ha.off ht) (Nat.sub_pos_of_lt hm.lt) fun k hk1 => ?_))
      dsimp (zeta := false) (zetaHave := false) only
      extract_lets ac jp2 o3 i3
      have hjp2 : ∀ u out' i', Mi a b (x + 1) out' i' j → wpS (model prog w) A E s (jp2 u out' i') (Sp (SG st) (Pm a b) (M3 a b (x + 1)) (M3 a b (x + 1))) st3 := by
        intro u out' i' hm
        refine b_elem hm.jb ?_
        have hg := hm.got.pushB hm.jb
        have hmB := hm.pushB
        extract_lets o2
        replace hg : Got a b o2 i' (j + 1) := hg
        replace hmB : ¬ (j + 1 == b.size) = true → Mi a b (x + 2) o2 i' (j + 1) := hmB
        clear_value o2
        refine wpS_ite (fun _ => wpS_pure (sp_ret sg (hdone hg))) fun e6 => ?_
        replace hm := (hmB e6).dn (Nat.le_succ (x + 1))
        clear hmB e6 hg
        refine b_elem hm.lt (wpS_bind (wp_gallop hO (kd sg) (ha.at hm.lt) (fun t ht => hb.off ht) (Nat.sub_pos_of_lt hm.jb) fun k2 hk2 => ?_))
        dsimp (zeta := false) (zetaHave := false) only
        extract_lets bc jp3 o4 j4
        have hjp3 : ∀ u out' j', Mi a b (x + 1) out' i' j' → wpS (model prog w) A E s (jp3 u out' j') (Sp (SG st) (Pm a b) (M3 a b (x + 1)) (M3 a b (x + 1))) st3 := by
          intro u out' j' hm
          refine b_elem hm.lt ?_
          refine wpS_ite (fun _ => wpS_pure (sp_ret sg (hlast (hm.got.pushA hm.lt)))) fun e8 => ?_
          replace hm := (hm.pushA e8).dn (Nat.le_succ (x + 1))
          exact wpS_ite (fun _ => wpS_pure (sp_brk sg hm)) fun _ => wpS_pure (sp_go sg hm)
        clear_value jp3
        refine wpS_ite (fun hk3 => ?_) fun hk3 => hjp3 _ _ _ hm
        exact wpS_ite (fun _ => wpS_pure (sp_ret sg (hdone hm.got.addB))) fun e7 => hjp3 _ _ _ (hm.addB hk2 e7)
      clear_value jp2
      refine wpS_ite (fun hk0 => ?_) fun hk0 => hjp2 _ _ _ hm
      refine wpS_ite (fun _ => wpS_pure (sp_ret sg (hlast hm.got.addA))) fun e4 => ?_
      exact wpS_ite (fun _ => wpS_pure (sp_ret sg (hdone hm.got.addA))) fun e5 => hjp2 _ _ _ (hm.addA hk1 e4 e5)
    clear_value jp
    exact wpS_ite (fun _ => hjp _ _ _ sg) fun _ => hjp _ _ _ sg
noncomputable def Lft (a b : Array Keyed) (out : Array Keyed) (i j : Nat) : Prop := out.toList.Perm (a.toList.drop i ++ b.toList.drop j)
section
variable {a b out : Array Keyed} {i j k : Nat}
theorem drop_more {l : List Keyed} {i k : Nat} (h : k ≤ i) : l.drop k = (l.take i).drop k ++ l.drop i := by
  have e : l.drop i = (l.drop k).drop (i - k) := by rw [List.drop_drop]; congr 1; lia
  rw [e, List.drop_take, List.take_append_drop]
theorem ext_rev {l : Array Keyed} {i k : Nat} : ((l.extract k i).reverse).toList.Perm ((l.toList.take i).drop k) := by
  rw [Array.toList_reverse, Array.toList_extract, List.extract_eq_take_drop, ← List.drop_take]
  exact List.reverse_perm _
theorem Lft.addA (g : Lft a b out i j) (h : k ≤ i) : Lft a b (out ++ (a.extract k i).reverse) k j := by
  unfold Lft at *
  rw [Array.toList_append, drop_more h, List.append_assoc]
  exact (g.append ext_rev).trans (List.perm_append_comm)
theorem Lft.addB (g : Lft a b out i j) (h : k ≤ j) : Lft a b (out ++ (b.extract k j).reverse) i k := by
  unfold Lft at *
  rw [Array.toList_append, drop_more (i := j) h]
  refine (g.append ext_rev).trans ?_
  rw [List.append_assoc]
  exact List.Perm.append_left _ List.perm_append_comm
theorem rev_one {l : Array Keyed} {i : Nat} (h : i < l.size) : out.push l[i] = out ++ (l.extract i (i + 1)).reverse := by
  rw [push_ext h]
  congr 1
  have : (l.extract i (i + 1)).size = 1 := by rw [Array.size_extract]; lia
  apply Array.ext
  · simp
  · intro t h1 h2
    rw [Array.getElem_reverse]
    congr 1
    lia
theorem Lft.pushA (g : Lft a b out (i + 1) j) (h : i < a.size) : Lft a b (out.push a[i]) i j := by rw [rev_one h]; exact g.addA (Nat.le_succ _)
theorem Lft.pushB (g : Lft a b out i (j + 1)) (h : j < b.size) : Lft a b (out.push b[j]) i j := by rw [rev_one h]; exact g.addB (Nat.le_succ _)
theorem ext_low {l : Array Keyed} {i : Nat} : (l.extract 0 i).toList = l.toList.take i := by
  rw [Array.toList_extract, List.extract_eq_take_drop]; simp
theorem Lft.fin (g : Lft a b out i j) : (a.extract 0 i ++ b.extract 0 j ++ out.reverse).toList.Perm (a.toList ++ b.toList) := by
  unfold Lft at g
  rw [Array.toList_append, Array.toList_append, ext_low, ext_low, Array.toList_reverse]
  have h1 : (a.toList ++ b.toList) = (a.toList.take i ++ a.toList.drop i) ++ (b.toList.take j ++ b.toList.drop j) := by rw [List.take_append_drop, List.take_append_drop]
  rw [h1, List.append_assoc, List.append_assoc]
  refine List.Perm.append_left _ ?_
  refine (List.Perm.append_left _ ((List.reverse_perm _).trans g)).trans ?_
  rw [← List.append_assoc, ← List.append_assoc]
  exact List.Perm.append_right _ List.perm_append_comm
theorem Lft.last (g : Lft a b out i j) : (b.extract 0 j ++ a.extract 0 i ++ out.reverse).toList.Perm (a.toList ++ b.toList) := by
  refine List.Perm.trans ?_ g.fin
  rw [Array.toList_append, Array.toList_append, Array.toList_append, Array.toList_append]
  exact List.Perm.append_right _ List.perm_append_comm
end
structure Mh (a b : Array Keyed) (x : Nat) (out : Array Keyed) (i j : Nat) : Prop where
  lft : Lft a b out i j
  i1 : 1 ≤ i
  ia : i ≤ a.size
  j2 : 2 ≤ j
  jb : j ≤ b.size
  le : x + i + j ≤ a.size + b.size
section
variable {a b out : Array Keyed} {x y i j k : Nat}
theorem pred_lt {i n : Nat} (h : 1 ≤ i) (k : i ≤ n) : i - 1 < n := Nat.lt_of_lt_of_le (Nat.sub_lt h Nat.one_pos) k
theorem Mh.ai (h : Mh a b x out i j) : i - 1 < a.size := pred_lt h.i1 h.ia
theorem Mh.j1 (h : Mh a b x out i j) : 1 ≤ j := Nat.le_of_succ_le h.j2
theorem Mh.bj (h : Mh a b x out i j) : j - 1 < b.size := pred_lt h.j1 h.jb
theorem Mh.dn (h : Mh a b (x + 1) out i j) : Mh a b x out i j := ⟨h.lft, h.i1, h.ia, h.j2, h.jb, by have := h.le; lia⟩
theorem Mh.f (h : Mh a b (x + f1 y + 1) out i j) : Mh a b (x + 1) out i j := ⟨h.lft, h.i1, h.ia, h.j2, h.jb, by have := h.le; lia⟩
theorem Mh.gA (h : Mh a b x out i j) : Lft a b (out.push (a[i - 1]'h.ai)) (i - 1) j := Lft.pushA (by rw [Nat.sub_add_cancel h.i1]; exact h.lft) h.ai
theorem Mh.gB (h : Mh a b x out i j) : Lft a b (out.push (b[j - 1]'h.bj)) i (j - 1) := Lft.pushB (by rw [Nat.sub_add_cancel h.j1]; exact h.lft) h.bj
theorem Mh.pushA (h : Mh a b x out i j) (e : ¬ (i - 1 == 0) = true) : Mh a b (x + 1) (out.push (a[i - 1]'h.ai)) (i - 1) j := ⟨h.gA, Nat.pos_of_ne_zero (ne_of e), Nat.le_of_lt h.ai, h.j2, h.jb, by have := h.le; have := h.i1; lia⟩
theorem Mh.pushB (h : Mh a b x out i j) (e : ¬ (j - 1 == 1) = true) : Mh a b (x + 1) (out.push (b[j - 1]'h.bj)) i (j - 1) := ⟨h.gB, h.i1, h.ia, by have := ne_of e; have := h.j2; lia, Nat.le_of_lt h.bj, by have := h.le; have := h.j2; lia⟩
theorem Mh.addA (h : Mh a b x out i j) (hk : k ≤ i) (e : ¬ (k == 0) = true) : Mh a b x (out ++ (a.extract k i).reverse) k j := ⟨h.lft.addA hk, Nat.pos_of_ne_zero (ne_of e), Nat.le_trans hk h.ia, h.j2, h.jb, Nat.le_trans (Nat.add_le_add_right (Nat.add_le_add_left hk _) _) h.le⟩
theorem Mh.addB (h : Mh a b x out i j) (hk : k ≤ j) (e : ¬ (k == 1) = true) (e' : ¬ (k == 0) = true) : Mh a b x (out ++ (b.extract k j).reverse) i k := ⟨h.lft.addB hk, h.i1, h.ia, by have := ne_of e; have := ne_of e'; lia, Nat.le_trans hk h.jb, Nat.le_trans (Nat.add_le_add_left hk _) h.le⟩
theorem Mh.no (h : Mh a b (max 0 (a.size + b.size)) out i j) : False := by have := h.i1; have := h.le; rw [Nat.zero_max] at this; lia
end
noncomputable def M4 {τ : Type} (a b : Array Keyed) (x : Nat) (o : Nat × Nat × Array Keyed × τ) : Prop := Mh a b x o.2.2.1 o.1 o.2.1
theorem Mrg.low {xs : Array Keyed} (h : Mrg κ xs) {i t : Nat} (hi : i ≤ xs.size) (ht : t < i) : ∃ p, xs[0 + t]? = Option.some p ∧ Kd1 κ p := h.some (by lia)
theorem wp_mergeHi (hO : κ.OneLt) {a b : Array Keyed} {st : SortSt} {Q : Array Keyed → SortSt → Prop} (hk : kindOf st = oneType') (ha : Mrg κ a) (hb : Mrg κ b) (ha0 : 0 < a.size) (hb0 : 0 < b.size)
    (h : ∀ xs st', SG st st' → xs.toList.Perm (a.toList ++ b.toList) → Q xs st') : wpS (model prog w) A E s (mergeHi' a b) Q st := by
  refine b_rule ?_
  extract_lets total done last na nb
  have hdone : ∀ {out i j}, Lft a b out i j → Pm a b (done out i j) := fun g => g.fin
  have hlast : ∀ {out i j}, Lft a b out i j → Pm a b (last out i j) := fun g => g.last
  have htot : total = a.size + b.size := rfl
  have hna : na = a.size - 1 := rfl
  have hnb : nb = b.size := rfl
  clear_value total done last na nb
  subst htot hna hnb
  have sg0 : SG st st := ⟨rfl, rfl, rfl, rfl⟩
  have hpa : a.size - 1 < a.size := pred_lt ha0 (Nat.le_refl _)
  refine b_elem hpa ?_
  have g0 : Lft a b #[a[a.size - 1]'hpa] (a.size - 1) b.size := Lft.pushA (out := #[]) (by unfold Lft; rw [Nat.sub_add_cancel ha0, List.drop_of_length_le (by simp), List.drop_of_length_le (by simp)]; exact List.Perm.refl _) hpa
  extract_lets out0
  replace g0 : Lft a b out0 (a.size - 1) b.size := g0
  clear_value out0
  refine wpS_ite (fun _ => wpS_pure (h _ _ sg0 (hdone g0))) fun e1 => ?_
  refine wpS_ite (fun _ => wpS_pure (h _ _ sg0 (hlast g0))) fun e2 => ?_
  refine wpS_bind (wpS_get ?_)
  have kd : ∀ {st'}, SG st st' → kindOf st' = oneType' := fun x => x.kind.trans hk
  have hm0 : Mh a b 0 out0 (a.size - 1) b.size := ⟨g0, Nat.pos_of_ne_zero (ne_of e1), Nat.le_of_lt hpa, Nat.lt_of_le_of_ne hb0 (Ne.symm (ne_of e2)), Nat.le_refl _, by lia⟩
  clear e1 e2 g0
  refine b_loop (SG st) (Pm a b) (M4 a b) (fun _ => False) ?step (fun _ hm => hm.no) sg0 hm0 (fun r _ st' sg hr => wpS_pure (h r st' sg hr)) fun _ _ _ hF => hF.elim
  clear hm0 sg0 h
  rintro x ⟨i, j, out, g⟩ st' _ _ sg hm
  refine b_loop (SG st) (Pm a b) (fun y => M4 a b (x + f1 y)) (M4 a b (x + 1)) ?s1 (fun c hm => ?f1) sg hm (fun r _ st' sg hr => wpS_pure (sp_ret sg hr)) ?p1
  case f1 => rw [f1_pos (Nat.add_pos_left ha0 _)] at hm; exact hm
  case s1 =>
    clear hm sg
    rintro y ⟨i, j, out, p, q⟩ st' _ _ sg hm
    replace hm : Mh a b (x + f1 y) out i j := hm
    refine b_elem hm.bj (b_elem hm.ai (wpS_bind (wp_lt hO (kd sg) (hb.at hm.bj) (ha.at hm.ai) fun t => ?_)))
    cases t with
    | true =>
      refine b_elem hm.ai ?_
      refine wpS_ite (fun _ => wpS_pure (sp_ret sg (hdone hm.gA))) fun e3 => ?_
      exact wpS_ite (fun _ => wpS_pure (sp_brk sg (hm.pushA e3).f)) fun _ => wpS_pure (sp_go sg (hm.pushA e3).f)
    | false =>
      refine b_elem hm.bj ?_
      refine wpS_ite (fun _ => wpS_pure (sp_ret sg (hlast hm.gB))) fun e3 => ?_
      exact wpS_ite (fun _ => wpS_pure (sp_brk sg (hm.pushB e3).f)) fun _ => wpS_pure (sp_go sg (hm.pushB e3).f)
  case p1 =>
    clear hm sg
    rintro ⟨i, j, out, p, q⟩ st' sg hm
    refine b_rule ?_
    refine b_loop (SG st) (Pm a b) (fun _ => M4 a b (x + 1)) (M4 a b (x + 1)) ?s2 (fun _ hm => hm) sg hm (fun r _ st' sg hr => wpS_pure (sp_ret sg hr)) fun _ _ sg hm => b_mark sg fun _ sg => wpS_pure (sp_go sg hm)
    clear hm sg
    rintro y ⟨i, j, out, g, p, q⟩ st' _ _ sg hm
    replace hm : Mh a b (x + 1) out i j := hm
    dsimp (zeta := false) (zetaHave := false) only
    extract_lets s1 i1 s2 j1 s3 o1 s4 g1 s5 p1 q1 jn jp
    have x1 : out = o1 := rfl
    have x2 : i = i1 := rfl
    have x3 : j = j1 := rfl
    have x4 : j1 - 1 = jn := rfl
    clear_value o1 i1 j1 g1 p1 q1 jn
    subst x1 x2 x3 x4
    have hjp : ∀ u g2 st2, SG st st2 → wpS (model prog w) A E s (jp u g2) (Sp (SG st) (Pm a b) (M4 a b (x + 1)) (M4 a b (x + 1))) st2 := by
      intro u g2 st2 sg
      refine b_mark sg fun st3 sg => ?_
      refine b_elem hm.bj (wpS_bind (wp_gallop hO (kd sg) (hb.at hm.bj) (fun t ht => ha.low hm.ia ht) (pred_lt hm.i1 (Nat.le_refl _)) fun k hk1 => ?_))
      dsimp (zeta := false) (zetaHave := false) only
      extract_lets k0 ac jp2 o3 i3
      have hjp2 : ∀ u i' out', Mh a b (x + 1) out' i' j → wpS (model prog w) A E s (jp2 u i' out') (Sp (SG st) (Pm a b) (M4 a b (x + 1)) (M4 a b (x + 1))) st3 := by
        intro u i' out' hm
        refine b_elem hm.bj ?_
        have hg := hm.gB
        have hmB := hm.pushB
        extract_lets o2
        replace hg : Lft a b o2 i' (j - 1) := hg
        replace hmB : ¬ (j - 1 == 1) = true → Mh a b (x + 2) o2 i' (j - 1) := hmB
        clear_value o2
        refine wpS_ite (fun _ => wpS_pure (sp_ret sg (hlast hg))) fun e6 => ?_
        replace hm := (hmB e6).dn
        clear hmB e6 hg
        refine b_elem hm.ai (wpS_bind (wp_gallop hO (kd sg) (ha.at hm.ai) (fun t ht => hb.low hm.jb ht) (pred_lt hm.j1 (Nat.le_refl _)) fun k2 hk2 => ?_))
        dsimp (zeta := false) (zetaHave := false) only
        extract_lets kk bc jp3 o4 j4
        have hjp3 : ∀ u j' out', Mh a b (x + 1) out' i' j' → wpS (model prog w) A E s (jp3 u j' out') (Sp (SG st) (Pm a b) (M4 a b (x + 1)) (M4 a b (x + 1))) st3 := by
          intro u j' out' hm
          refine b_elem hm.ai ?_
          refine wpS_ite (fun _ => wpS_pure (sp_ret sg (hdone hm.gA))) fun e8 => ?_
          replace hm := (hm.pushA e8).dn
          exact wpS_ite (fun _ => wpS_pure (sp_brk sg hm)) fun _ => wpS_pure (sp_go sg hm)
        clear_value jp3
        refine wpS_ite (fun hk3 => ?_) fun hk3 => hjp3 _ _ _ hm
        refine wpS_ite (fun _ => wpS_pure (sp_ret sg (hlast (hm.lft.addB hk2)))) fun e7 => ?_
        exact wpS_ite (fun _ => wpS_pure (sp_ret sg (hdone (hm.lft.addB hk2)))) fun e9 => hjp3 _ _ _ (hm.addB hk2 e7 e9)
      clear_value jp2
      refine wpS_ite (fun hk0 => ?_) fun hk0 => hjp2 _ _ _ hm
      exact wpS_ite (fun _ => wpS_pure (sp_ret sg (hdone (hm.lft.addA hk1)))) fun e5 => hjp2 _ _ _ (hm.addA hk1 e5)
    clear_value jp
    exact wpS_ite (fun _ => hjp _ _ _ sg) fun _ => hjp _ _ _ sg
noncomputable def Runs : List (Nat × Nat × Nat) → Nat → Nat → Prop
  | [], a, e => a = e
  | x :: r, a, e => x.1 = a ∧ 0 < x.2.1 ∧ Runs r (a + x.2.1) e
theorem Runs.app : ∀ {l r : List (Nat × Nat × Nat)} {a e : Nat}, Runs (l ++ r) a e ↔ ∃ m, Runs l a m ∧ Runs r m e
  | [], r, a, e => ⟨fun h => ⟨a, rfl, h⟩, fun ⟨m, h1, h2⟩ => by cases h1; exact h2⟩
  | x :: l, r, a, e => ⟨fun ⟨h1, h2, h3⟩ => by obtain ⟨m, h4, h5⟩ := Runs.app.mp h3; exact ⟨m, ⟨h1, h2, h4⟩, h5⟩, fun ⟨m, ⟨h1, h2, h4⟩, h5⟩ => ⟨h1, h2, Runs.app.mpr ⟨m, h4, h5⟩⟩⟩
theorem Runs.le : ∀ {l : List (Nat × Nat × Nat)} {a e : Nat}, Runs l a e → a ≤ e
  | [], a, e, h => Nat.le_of_eq h
  | x :: l, a, e, ⟨h1, h2, h3⟩ => by have := Runs.le h3; lia
theorem write_all : ∀ (m : List Keyed) (o c : Nat) (xs : Array Keyed), o + c + m.length ≤ xs.size → ((m.zipIdx c).foldl (fun a x => a.setIfInBounds (o + x.2) x.1) xs).toList = xs.toList.take (o + c) ++ m ++ xs.toList.drop (o + c + m.length)
  | [], o, c, xs, h => by simp
  | p :: m, o, c, xs, h => by
    rw [List.length_cons] at h
    have hz : (xs.setIfInBounds (o + c) p).size = xs.size := Array.size_setIfInBounds
    rw [List.zipIdx_cons, List.foldl_cons, write_all m o (c + 1) _ (by rw [hz]; lia), Array.toList_setIfInBounds]
    have hl : o + c < xs.toList.length := by rw [Array.length_toList]; lia
    have e1 : (xs.toList.set (o + c) p).take (o + (c + 1)) = xs.toList.take (o + c) ++ [p] := by
      rw [show o + (c + 1) = (o + c) + 1 by lia, List.take_add_one, List.take_set_of_le (by lia), List.getElem?_set_self hl]; rfl
    have e2 : (xs.toList.set (o + c) p).drop (o + (c + 1) + m.length) = xs.toList.drop (o + c + (p :: m).length) := by
      rw [List.length_cons, show o + (c + 1) + m.length = o + c + (m.length + 1) by lia, List.drop_set_of_lt (by lia)]
    rw [e1, e2]
    simp
theorem mid_perm {xs : Array Keyed} {m : Array Keyed} {p q r : Nat} (h1 : p ≤ q) (h2 : q ≤ r) (h3 : r ≤ xs.size) (hm : m.toList.Perm ((xs.extract p q).toList ++ (xs.extract q r).toList)) :
    (m.toList.zipIdx.foldl (fun a x => a.setIfInBounds (p + x.2) x.1) xs).Perm xs := by
  have hr : p + (r - p) = r := Nat.add_sub_cancel' (Nat.le_trans h1 h2)
  have hxy : (xs.extract p q).toList ++ (xs.extract q r).toList = (xs.toList.drop p).take (r - p) := by
    rw [Array.toList_extract, Array.toList_extract, List.extract_eq_take_drop, List.extract_eq_take_drop]
    have e : xs.toList.drop q = (xs.toList.drop p).drop (q - p) := by rw [List.drop_drop, Nat.add_sub_cancel' h1]
    rw [e, ← Nat.sub_add_sub_cancel h2 h1, Nat.add_comm (r - q), List.take_add]
  rw [hxy] at hm
  have hml : m.toList.length = r - p := hm.length_eq.trans (List.length_take_of_le (by rw [List.length_drop]; exact Nat.sub_le_sub_right h3 p))
  refine Array.perm_iff_toList_perm.mpr ?_
  rw [write_all m.toList p 0 xs (by rw [hml, Nat.add_zero, hr]; exact h3), Nat.add_zero, hml]
  have e2 : xs.toList = xs.toList.take p ++ (xs.toList.drop p).take (r - p) ++ xs.toList.drop (p + (r - p)) := by
    rw [← List.drop_drop, List.append_assoc, List.take_append_drop, List.take_append_drop]
  refine List.Perm.trans ((List.Perm.append_left _ hm).append_right _) ?_
  exact List.Perm.of_eq e2.symm
theorem erase_pair {p : Array (Nat × Nat × Nat)} {i : Nat} {x y z : Nat × Nat × Nat} (h1 : p[i]? = some x) (h2 : p[i + 1]? = some y) : ∃ l r, p.toList = l ++ x :: y :: r ∧ ((p.setIfInBounds i z).eraseIdxIfInBounds (i + 1)).toList = l ++ z :: r ∧ l.length = i := by
  obtain ⟨hi1, e1⟩ := Array.getElem?_eq_some_iff.mp h1
  obtain ⟨hi2, e2⟩ := Array.getElem?_eq_some_iff.mp h2
  have hl1 : i < p.toList.length := by simpa using hi1
  have hl2 : i + 1 < p.toList.length := by simpa using hi2
  have hlen : (p.toList.take i).length = i := by rw [List.length_take]; lia
  have e : p.toList = p.toList.take i ++ x :: y :: p.toList.drop (i + 1 + 1) := by
    have d1 : p.toList.drop i = x :: p.toList.drop (i + 1) := by rw [List.drop_eq_getElem_cons hl1, Array.getElem_toList, e1]
    have d2 : p.toList.drop (i + 1) = y :: p.toList.drop (i + 1 + 1) := by rw [List.drop_eq_getElem_cons hl2, Array.getElem_toList, e2]
    rw [← d2, ← d1, List.take_append_drop]
  refine ⟨_, _, e, ?_, hlen⟩
  have hz : i + 1 < (p.setIfInBounds i z).size := by rw [Array.size_setIfInBounds]; exact hi2
  unfold Array.eraseIdxIfInBounds
  rw [dif_pos hz, Array.toList_eraseIdx, Array.toList_setIfInBounds]
  generalize p.toList.take i = l at e hlen
  generalize p.toList.drop (i + 1 + 1) = r at e
  rw [e, List.set_append_right _ _ (by lia), hlen, Nat.sub_self, List.set_cons_zero, List.eraseIdx_append_of_length_le (by lia), hlen, show i + 1 - i = 1 by lia]
  rfl
theorem wp_set {st x : SortSt} {Q : PUnit → SortSt → Prop} (h : Q ⟨⟩ x) : wpS (model prog w) A E s (set x : StateT SortSt Sem PUnit) Q st := by
  unfold wpS; rw [StateT.run_set]; exact wpAny_pure ⟨rfl, h⟩
theorem Mrg.ext {xs : Array Keyed} (h : Mrg κ xs) {p q : Nat} : Mrg κ (xs.extract p q) := fun x hx => by
  rw [Array.toList_extract, List.extract_eq_take_drop] at hx
  exact h x (List.mem_of_mem_drop (List.mem_of_mem_take hx))
theorem wp_mergeAt (hO : κ.OneLt) (h0 : KeysOf κ a₀) {i lo : Nat} {st : SortSt} {Q : Bool → SortSt → Prop} (hB : SI a₀ pd st) (hs : Runs pd.toList 0 lo) (hlo : lo ≤ a₀.size) (hi : i + 1 < pd.size) (h : ∀ st' p', SI a₀ p' st' → Runs p'.toList 0 lo → Q true st') : wpS (model prog w) A E s (mergeAt' i) Q st := by
  refine wpS_bind (wpS_get ?_)
  rcases hx : pd[i]'(Nat.lt_of_succ_lt hi) with ⟨sa, na, pw⟩
  rcases hy : pd[i + 1] with ⟨sb, nb, pw'⟩
  have e1 : pd[i]? = some (sa, na, pw) := by rw [Array.getElem?_eq_getElem (Nat.lt_of_succ_lt hi), hx]
  have e2 : pd[i + 1]? = some (sb, nb, pw') := by rw [Array.getElem?_eq_getElem hi, hy]
  obtain ⟨l, r, hl, hp', _⟩ := erase_pair (z := (sa, na + nb, pw)) e1 e2
  rw [hl] at hs
  obtain ⟨m, r1, q1, q2, q3, q4, q5⟩ := Runs.app.mp hs
  have hend := q5.le
  replace q1 : sa = m := q1
  replace q2 : 0 < na := q2
  replace q3 : sb = m + na := q3
  replace q4 : 0 < nb := q4
  replace hend : m + na + nb ≤ lo := hend
  subst q1 q3
  have hR : Runs ((pd.setIfInBounds i (sa, na + nb, pw)).eraseIdxIfInBounds (i + 1)).toList 0 lo := by
    rw [hp']
    exact Runs.app.mpr ⟨sa, r1, rfl, Nat.add_pos_left q2 nb, (by rw [Nat.add_assoc] at q5; exact q5 : Runs r (sa + (na + nb)) lo)⟩
  have hE : sa + na + nb ≤ (arrOf st).size := by rw [hB.size]; exact Nat.le_trans hend hlo
  have hA : sa + na ≤ (arrOf st).size := Nat.le_trans (Nat.le_add_right _ _) hE
  have km : Mrg κ (arrOf st) := fun p hp => h0 p ((Array.perm_iff_toList_perm.mp hB.perm).mem_iff.mp hp)
  have hpe : (sortPriv% PySem.Builtin.SortState.pending) st = pd := hB.pend
  clear hs hl hp' hx hy hend q5 r1
  simp only [hpe, e1, e2]
  clear e1 e2 hpe
  generalize (pd.setIfInBounds i (sa, na + nb, pw)).eraseIdxIfInBounds (i + 1) = p' at hR
  refine wpS_bind (wp_set (x := SortSt.mk' (kindOf st) (arrOf st) p' (gallopOf st) (failedOf st)) ?_)
  generalize hs2 : SortSt.mk' (kindOf st) (arrOf st) p' (gallopOf st) (failedOf st) = st2
  have hB2 : SI a₀ p' st2 := by rw [← hs2]; exact ⟨hB.perm, hB.kind, hB.failed, rfl⟩
  have ha2 : arrOf st2 = arrOf st := by rw [← hs2]
  clear hs2
  have hb : sa + na < (arrOf st).size := Nat.lt_of_lt_of_le (Nat.lt_add_of_pos_right q4) hE
  refine b_elem hb (wpS_bind (wp_gallop hO hB2.kind (km.at hb) (fun t ht => km.some (Nat.lt_of_lt_of_le (Nat.add_lt_add_left ht sa) hA)) q2 fun k hk1 => ?_))
  dsimp (zeta := false) (zetaHave := false) only
  refine wpS_ite (fun _ => wpS_pure (h st2 p' hB2 hR)) fun e3 => ?_
  have e3 : k < na := Nat.lt_of_le_of_ne hk1 fun e => e3 (by rw [e, Nat.sub_self]; rfl)
  have hs3 : sa + k + (na - k) - 1 < (arrOf st).size := by lia
  refine b_elem hs3 (wpS_bind (wp_gallop hO hB2.kind (km.at hs3) (fun t ht => km.some (Nat.lt_of_lt_of_le (Nat.add_lt_add_left ht _) hE)) (pred_lt q4 (Nat.le_refl _)) fun k2 hk2 => ?_))
  dsimp (zeta := false) (zetaHave := false) only
  refine wpS_ite (fun _ => wpS_pure (h st2 p' hB2 hR)) fun e4 => ?_
  have hsk : sa + k < sa + na := Nat.add_lt_add_left e3 sa
  have hk3 : sa + na + k2 ≤ (arrOf st).size := Nat.le_trans (Nat.add_le_add_left hk2 _) hE
  have fin : ∀ (xs : Array Keyed) (st3 : SortSt), SG st2 st3 → xs.toList.Perm (((arrOf st).extract (sa + k) (sa + na)).toList ++ ((arrOf st).extract (sa + na) (sa + na + k2)).toList) →
      Q ((failedOf st3).isNone) (setArr st3 (xs.toList.zipIdx.foldl (fun a x => a.setIfInBounds (sa + k + x.2) x.1) (arrOf st3))) := by
    intro xs st3 sg hp
    rw [sg.failed, hB2.failed]
    refine h _ p' ⟨?_, sg.kind.trans hB2.kind, sg.failed.trans hB2.failed, sg.pend.trans hB2.pend⟩ hR
    show (xs.toList.zipIdx.foldl (fun a x => a.setIfInBounds (sa + k + x.2) x.1) (arrOf st3)).Perm a₀
    rw [sg.arr, ha2]
    exact (mid_perm (Nat.le_of_lt hsk) (Nat.le_add_right _ _) hk3 hp).trans hB.perm
  have sz : ∀ {p q}, p < q → q ≤ (arrOf st).size → 0 < ((arrOf st).extract p q).size := fun h1 h2 => by rw [Array.size_extract, Nat.min_eq_left h2]; exact Nat.sub_pos_of_lt h1
  have sz1 := sz hsk hA
  have sz2 := sz (Nat.lt_add_of_pos_right (Nat.pos_of_ne_zero (ne_of e4))) hk3
  refine wpS_ite (fun _ => ?_) fun _ => ?_
  · exact wpS_bind (wp_mergeLo hO hB2.kind km.ext km.ext sz1 sz2 fun xs st3 sg hp => wpS_bind (wpS_modify (wpS_bind (wpS_get (wpS_pure (fin xs st3 sg hp))))))
  · exact wpS_bind (wp_mergeHi hO hB2.kind km.ext km.ext sz1 sz2 fun xs st3 sg hp => wpS_bind (wpS_modify (wpS_bind (wpS_get (wpS_pure (fin xs st3 sg hp))))))
theorem runs_same : ∀ {l l' : List (Nat × Nat × Nat)} {a e : Nat}, l'.map (fun x => (x.1, x.2.1)) = l.map (fun x => (x.1, x.2.1)) → Runs l a e → Runs l' a e
  | [], [], _, _, _, h => h
  | [], _ :: _, _, _, q, _ => nomatch q
  | _ :: _, [], _, _, q, _ => nomatch q
  | x :: l, y :: l', a, e, q, ⟨h1, h2, h3⟩ => by
    rw [List.map_cons, List.map_cons] at q
    obtain ⟨q1, q2⟩ := List.cons.inj q
    obtain ⟨e1, e2⟩ := Prod.mk.inj q1
    exact ⟨e1.trans h1, e2 ▸ h2, e2 ▸ runs_same q2 h3⟩
theorem mod_same (p : Array (Nat × Nat × Nat)) (i : Nat) {f : Nat × Nat × Nat → Nat × Nat × Nat} (hf : ∀ x, ((f x).1, (f x).2.1) = (x.1, x.2.1)) : (p.modify i f).toList.map (fun x => (x.1, x.2.1)) = p.toList.map (fun x => (x.1, x.2.1)) := by
  rw [Array.toList_modify]
  apply List.ext_getElem?
  intro j
  rw [List.getElem?_map, List.getElem?_map, List.getElem?_modify]
  cases p.toList[j]? with
  | none => split <;> rfl
  | some x =>
    split
    · exact congrArg some (hf x)
    · rfl
noncomputable def Wt (a₀ : Array Keyed) (lo : Nat) (st : SortSt) : Prop := ∃ p, SI a₀ p st ∧ Runs p.toList 0 lo
inductive Ol (a₀ : Array Keyed) : Option Unit × Nat → SortSt → Prop
  | mk {lo st} : lo ≤ a₀.size → Wt a₀ lo st → Ol a₀ (none, lo) st
noncomputable def Op (a₀ : Array Keyed) (r : ForInStep (Option Unit × Nat)) (st : SortSt) : Prop := match r with | .done c => Ol a₀ c st | .yield c => Ol a₀ c st
theorem Wt.merge (hO : κ.OneLt) (h0 : KeysOf κ a₀) {lo i : Nat} {st : SortSt} {α : Type} {f : Bool → StateT SortSt Sem α} {Q : α → SortSt → Prop} (hW : Wt a₀ lo st) (hlo : lo ≤ a₀.size) (hi : i + 1 < (pendingOf st).size) (h : ∀ st', Wt a₀ lo st' → wpS (model prog w) A E s (f true) Q st') : wpS (model prog w) A E s (mergeAt' i >>= f) Q st := by
  obtain ⟨p, hB, hR⟩ := hW
  obtain rfl := hB.pend
  exact wpS_bind (wp_mergeAt hO h0 hB hR hlo hi fun st' p' hB2 hR2 => h st' ⟨p', hB2, hR2⟩)
theorem wp_sortRuns (hO : κ.OneLt) (h0 : KeysOf κ a₀) {st : SortSt} {Q : Unit → SortSt → Prop} (hB : SI a₀ #[] st) (h : ∀ st', (arrOf st').Perm a₀ → failedOf st' = none → Q () st') : wpS (model prog w) A E s sortRuns' Q st := by
  rw [sortRuns'_eq]
  refine wpS_bind (wpS_get ?_)
  extract_lets size minrun lo0
  have hz : a₀.size = size := hB.size.symm
  clear_value size minrun
  subst hz
  refine wpS_bind (wpS_mono (wpS_forRange (Q := Ol a₀) (fun _ => Ol a₀) ?step (fun _ _ x => x) (.mk (Nat.zero_le _) ⟨#[], hB, rfl⟩)) ?post)
  case post =>
    rintro _ st' ⟨hlo, hW⟩
    rename_i lo
    refine b_loop (Wt a₀ lo) (fun _ => False) (fun _ _ => True) (fun _ => True) ?s2 (fun _ h => h) hW trivial (fun _ _ _ _ hF => hF.elim) fun _ st' ⟨_, hB, _⟩ _ => wpS_pure (h _ hB.perm hB.failed)
    rintro x _ st' _ _ hW -
    refine wpS_bind (wpS_get ?_)
    refine wpS_ite (fun _ => wpS_pure (sp_brk hW trivial)) fun hp => ?_
    have any : ∀ (c : Prop) [Decidable c], (if c then (pendingOf st').size - 2 - 1 else (pendingOf st').size - 2) + 1 < (pendingOf st').size := fun c _ => by split <;> lia
    exact hW.merge hO h0 hlo (any _) fun st2 hW2 => wpS_pure (sp_go hW2 trivial)
  case step =>
    rintro x _ st' _ hx ⟨hlo, hW⟩
    rename_i lo
    refine wpS_mono (Q := Op a₀) ?_ fun r _ h => by cases r <;> exact h
    refine wpS_ite (fun _ => wpS_pure (.mk hlo hW : Ol a₀ (none, lo) _)) fun hlt => ?_
    obtain ⟨p, hB', hR⟩ := hW
    have hlo2 : lo + (a₀.size - lo) = a₀.size := Nat.add_sub_cancel' hlo
    have h1 : 1 ≤ a₀.size - lo := Nat.sub_pos_of_lt (Nat.lt_of_not_le hlt)
    refine wpS_bind (wp_countRun hO h0 hB' (Nat.le_of_eq hlo2) h1 fun n st2 hB2 hn1 hn2 => ?_)
    dsimp (zeta := false) (zetaHave := false) only
    extract_lets n2 jp
    have hjp : ∀ u m st', 1 ≤ m → m ≤ a₀.size - lo → Wt a₀ lo st' → wpS (model prog w) A E s (jp u m) (Op a₀) st' := by
      intro u m st' m1 m2 hW
      refine wpS_bind (wpS_get ?_)
      extract_lets l2 jp2
      have hjp2 : ∀ st', Wt a₀ lo st' → wpS (model prog w) A E s (jp2 ()) (Op a₀) st' := by
        rintro st' ⟨p, hB, hR⟩
        obtain rfl := hB.pend
        refine wpS_bind (wpS_modify (wpS_pure ?_))
        refine (Ol.mk ?_ ⟨(pendingOf st').push (lo, m, 0), ⟨hB.perm, hB.kind, hB.failed, rfl⟩, ?_⟩ : Ol a₀ (none, lo + m) (setPending st' ((pendingOf st').push (lo, m, 0))))
        · rw [← hlo2]; exact Nat.add_le_add_left m2 lo
        · show Runs ((pendingOf st').push (lo, m, 0)).toList 0 (lo + m)
          rw [Array.toList_push]
          exact Runs.app.mpr ⟨lo, hR, rfl, m1, rfl⟩
      clear_value jp2
      cases (pendingOf st').back? with
      | none => exact hjp2 _ hW
      | some y =>
        obtain ⟨s1, n1, pw⟩ := y
        refine b_loop (Wt a₀ lo) (fun _ => False) (fun _ _ => True) (fun _ => True) ?s3 (fun _ h => h) hW trivial (fun _ _ _ _ hF => hF.elim) ?p3
        case s3 =>
          rintro x _ st' _ _ hW -
          refine wpS_bind (wpS_get ?_)
          extract_lets p
          generalize hq : (if p.size > 1 then p[p.size - 2]? else none) = q
          cases q with
          | none => exact wpS_pure (sp_brk hW trivial)
          | some y =>
            have hp : p.size > 1 := Decidable.byContradiction fun hc => by rw [if_neg hc] at hq; cases hq
            refine wpS_ite (fun _ => wpS_pure (sp_brk hW trivial)) fun _ => ?_
            exact hW.merge hO h0 hlo (by show p.size - 2 + 1 < p.size; lia) fun st2 hW2 => wpS_pure (sp_go hW2 trivial)
        case p3 =>
          rintro _ st' ⟨p, hB, hR⟩ -
          obtain rfl := hB.pend
          exact wpS_bind (wpS_modify (hjp2 _ ⟨_, ⟨hB.perm, hB.kind, hB.failed, rfl⟩, runs_same (mod_same _ _ fun x => rfl) hR⟩))
    clear_value jp
    refine wpS_ite (fun hmr => ?_) fun _ => hjp _ _ _ hn1 hn2 ⟨p, hB2, hR⟩
    refine b_rule ?_
    have m1 : 1 ≤ min (a₀.size - lo) minrun := Nat.le_min.mpr ⟨h1, Nat.lt_of_le_of_lt (Nat.zero_le _) hmr⟩
    have m2 : min (a₀.size - lo) minrun ≤ a₀.size - lo := Nat.min_le_left _ _
    exact wpS_bind (wp_binarySort hO h0 hB2 (by rw [← hlo2]; exact Nat.add_le_add_left m2 lo) fun st3 hB3 => hjp _ _ _ m1 m2 ⟨p, hB3, hR⟩)
end
end Mine
end
section
namespace Mine
open PySem PySem.Calls PyProof.Rows
section
variable {prog : Program} {w : World} {A : Around} {E : Value → Shared → Prop} {s : Shared}
structure Left (a : Addr) (h h' : Heap) (xs : Array Value) : Prop where
  keep : ∀ b o, b ≠ a → h.get? b = some o → h'.get? b = some o
  obj : ∃ n, h'.get? a = some (seqObj "list" xs n)
theorem upd_keep {h : Heap} {a : Addr} {f : Obj → Obj} : ∀ b o, b ≠ a → h.get? b = some o → (h.update a f).get? b = some o := fun b o hb e => (Heap.get?_update_other h f (Ne.symm hb)).trans e
theorem sort_plain {κ : PyProof.Rows.KeyKind} (hO : κ.OneLt) {a : Addr} {vs : List Value} {n : Nat} {P : Fin → Shared → Prop} (ho : s.heap.get? a = some (seqObj "list" vs.toArray n))
    (h0 : KeysOf κ (pairsOf vs)) (hkk : 2 ≤ vs.length → keyKind' vs.toArray = pure oneType') (hlt : vs.length ≤ sizeLine)
    (h : ∀ (xs : Array Keyed) h', xs.Perm (pairsOf vs) → Left a s.heap h' (xs.map (·.2)) → P (.done (.ret .none)) { s with heap := h' }) :
    wpAny (model prog w) A (Builtin.«list.sort» ⟨[.ref a], []⟩) P E s := by
  rw [list_sort_plain]
  have ha : a < s.heap.objs.size := Heap.lt_size ho
  have hvs : vs.toArray.size ≤ sizeLine := hlt
  refine wpAny_bind (listItems_at ho rfl ?_)
  refine wpAny_bind (listUpdate_at ho rfl ?_ hvs (Nat.zero_le _))
  have k1 := upd_keep (h := s.heap) (a := a) (f := Obj.mapSeq fun _ => #[])
  obtain ⟨e1, ho1⟩ : ∃ e1, (s.heap.update a (Obj.mapSeq fun _ => #[])).get? a = some (seqObj "list" #[] e1) := ⟨_, get?_update_seq ho (fun _ => #[])⟩
  generalize s.heap.update a (Obj.mapSeq fun _ => #[]) = h1 at k1 ho1
  refine wpAny_bind (seqEpoch_at ho1 rfl ?_)
  refine wpAny_bind (wpAny_newTuple ?_ (by simpa using hvs))
  refine wpAny_bind (wpAny_newList ?_ (Nat.zero_le _))
  refine wpAny_holding ?_
  have k2 : ∀ b o, h1.get? b = some o → ((h1.push (seqObj "tuple" vs.toArray 0)).push (seqObj "list" #[] 0)).get? b = some o := fun b o e => Heap.get?_push_of_some _ (Heap.get?_push_of_some _ e)
  show wpAny (model prog w) A _ P E { s with heap := (h1.push (seqObj "tuple" vs.toArray 0)).push (seqObj "list" #[] 0) }
  generalize (h1.push (seqObj "tuple" vs.toArray 0)).push (seqObj "list" #[] 0) = h2 at k2
  have ho6 := k2 _ _ ho1
  dsimp only
  have fin : ∀ (xs : Array Keyed), xs.Perm (pairsOf vs) → P (.done (.ret .none)) { s with heap := h2.update a (Obj.mapSeq fun _ => xs.map (·.2)) } := fun xs hp => by
    refine h xs _ hp ⟨fun b o hb e => upd_keep b o hb (k2 b o (k1 b o hb e)), ?_⟩
    exact ⟨_, get?_update_seq ho6 (fun _ => xs.map (·.2))⟩
  by_cases h2' : vs.toArray.size < 2
  · rw [if_pos h2', if_pos h2']
    refine wpAny_bind (wpAny_pure ?_)
    rw [StateT.run_pure]
    refine wpAny_bind (wpAny_pure ?_)
    dsimp only
    refine wpAny_bind (seqEpoch_at ho6 rfl ?_)
    refine wpAny_bind (listUpdate_at ho6 rfl ?_ (Nat.zero_le _) (by rw [Array.size_map]; show (pairsOf vs).size ≤ _; rw [pairsOf_size]; exact Nat.le_succ_of_le hlt))
    simp only [bne_self_eq_false, Bool.false_eq_true, if_false]
    exact wpAny_pure (fin (pairsOf vs) (Array.Perm.refl _))
  · rw [if_neg h2', if_neg h2']
    have hkk' : keyKind' vs.toArray = pure oneType' := hkk (Nat.not_lt.mp h2')
    rw [hkk']
    refine wpAny_bind (wpAny_pure ?_)
    refine wpAny_bind (wpAny_mono (wp_sortRuns (a₀ := pairsOf vs) (st := SortSt.mk' oneType' (vs.toArray.zip vs.toArray) #[] 7 none) hO h0 ⟨Array.Perm.refl _, rfl, rfl, rfl⟩ (Q := fun _ st' => (arrOf st').Perm (pairsOf vs) ∧ failedOf st' = none) fun st' a b => ⟨a, b⟩) ?_ fun _ _ e => e)
    rintro ⟨⟨⟩, st'⟩ s' ⟨rfl, hp, hf⟩
    dsimp only
    refine wpAny_bind (seqEpoch_at ho6 rfl ?_)
    refine wpAny_bind (listUpdate_at ho6 rfl ?_ (Nat.zero_le _) (by refine Nat.le_trans (Nat.le_of_eq ((Array.size_map ..).trans (hp.size_eq.trans (pairsOf_size _)))) ?_; exact Nat.le_succ_of_le hlt))
    rw [hf]
    simp only [bne_self_eq_false, Bool.false_eq_true, if_false]
    exact wpAny_pure (fin (arrOf st') hp)
end
noncomputable def keyT : Value → Txt
  | .str x _ => x.cps.toList
  | _ => []
noncomputable def SortQ (ts : List Txt) (H : AHeap) (Q : VPost) : Prop := ∀ ys : List Txt, ys.Perm ts → Q (.ref H.length) (H ++ [.list (ys.map .str)])
inductive SortA (H : AHeap) (Q : VPost) : List V → Prop
  | list {n : Nat} {ts : List Txt} : H[n]? = some (.list (ts.map .str)) → SortQ ts H Q → SortA H Q [.ref n]
  | dict {n ep : Nat} {es : List (Txt × V)} : H[n]? = some (.dict es ep) → SortQ (es.map (·.1)) H Q → SortA H Q [.ref n]
noncomputable def spSorted : Spec := fun vs H Q _ => SortA H Q vs
section
variable {C : Cx} {K : Nat}
theorem txts_key {ρ : List Addr} : ∀ {ts : List Txt} {us : List Value}, All2 (VR C ρ) (ts.map .str) us → us.map keyT = ts ∧ ∀ u ∈ us, VR C ρ (.str (keyT u)) u
  | [], _, .nil => ⟨rfl, fun _ h => nomatch h⟩
  | t :: ts, _, .cons ⟨ok, tk, e⟩ r => by
    cases e
    obtain ⟨h1, h2⟩ := txts_key r
    exact ⟨by rw [List.map_cons, h1]; rfl, List.forall_mem_cons.mpr ⟨⟨ok, tk, rfl⟩, h2⟩⟩
theorem vr_keys {ρ : List Addr} : ∀ (us : List Value), (∀ u ∈ us, VR C ρ (.str (keyT u)) u) → All2 (VR C ρ) ((us.map keyT).map .str) us
  | [], _ => .nil
  | u :: r, h => .cons (h u (.head _)) (vr_keys r fun x hx => h x (.tail _ hx))
theorem sorted_core {ρ : List Addr} {H : AHeap} {s : Shared} {A : Around} {E : Value → Shared → Prop} {Q : VPost} {arg : Value} {ts : List Txt} (S : Sim C ρ H s) (hl : ts.length ≤ lid) (hq : SortQ ts H Q)
    (hcol : ∀ R : List Value → Shared → Prop, (∀ us h' tk, us.map keyT = ts → (∀ u ∈ us, VR C ρ (.str (keyT u)) u) → (∀ b o, s.heap.get? b = some o → h'.get? b = some o) → R us { s with heap := h', toks := tk }) → wpAny C.M A.in1 (collect arg) R E s) : wpAny C.M A (call (.builtin "sorted") [arg]) (PV C ρ s Q) E s := by
  refine Calls.call_function_entry kind_sorted plain_sorted entry_sorted (args_sorted1 _) ?_
  unfold Builtin.«sorted»
  refine wpAny_bind (m := checkCount "sorted" 1 1 _) (wpAny_pure ?_)
  refine wpAny_bind (hcol _ fun us h' tk hk1 hk2 hk => ?_)
  have hst := strsAre_map us fun u hu => by obtain ⟨_, t, e⟩ := hk2 u hu; exact ⟨_, t, e⟩
  have hnl : us.length = ts.length := by have := congrArg List.length hk1; rw [List.length_map] at this; exact this
  have hn : us.length ≤ sizeLine := by rw [hnl]; exact lid_le hl
  refine wpAny_bind (wpAny_newList ?_ hn)
  have hDn : s.heap.get? h'.objs.size = none := by
    cases e : s.heap.get? h'.objs.size with
    | none => rfl
    | some o => exact absurd (Heap.lt_size (hk _ _ e)) (Nat.lt_irrefl _)
  have hsm : h'.objs.size ≠ sysModules := (S.grow (h' := h') (tk := tk) hk).1.size_ne
  have hD : (h'.push (seqObj "list" us.toArray 0)).get? h'.objs.size = some (seqObj "list" us.toArray 0) := Heap.get?_push_size _ rfl
  have hk' : ∀ b o, s.heap.get? b = some o → (h'.push (seqObj "list" us.toArray 0)).get? b = some o := fun b o e => Heap.get?_push_of_some _ (hk b o e)
  show wpAny C.M A.in1 _ _ E { s with heap := h'.push (seqObj "list" us.toArray 0), toks := tk }
  generalize h'.push (seqObj "list" us.toArray 0) = h2 at hD hk'
  generalize h'.objs.size = D at hD hDn hsm
  refine wpAny_bind (wpAny_holding (wpAny_call_entry slot_list_sort ⟨_, hD, rfl⟩ entry_list_sort ?_ (args_list_sort _)))
  refine sort_plain strKind_oneLt hD hst.keysOf (fun h2 => ?_) hn fun ks h'' hp hleft => ?_
  · match us, hst, h2 with
    | [], _, h2 => simp at h2
    | [_], _, h2 => simp at h2
    | v₁ :: v₂ :: r, hst, _ => exact keyKind_strs hst
  · refine ⟨_, rfl, wpAny_pure ⟨_, rfl, ?_⟩⟩
    have hpl : ks.toList.Perm (us.zip us) := by rw [← pairsOf_toList]; exact Array.perm_iff_toList_perm.mp hp
    have hmem : ∀ p ∈ ks.toList, p.1 = p.2 ∧ p.1 ∈ us := fun p hp' => mem_zip_self (hpl.mem_iff.mp hp')
    have hout : (ks.map (·.2)).toList = ks.toList.map (·.1) := by
      rw [Array.toList_map]; exact List.map_congr_left fun p hp' => (hmem p hp').1.symm
    have hperm : ((ks.toList.map (·.1)).map keyT).Perm ts := by
      have h1 := (hpl.map (·.1)).map keyT
      rwa [List.map_fst_zip (Nat.le_refl _), hk1] at h1
    have hvr : All2 (VR C ρ) (((ks.toList.map (·.1)).map keyT).map .str) (ks.map (·.2)).toList := by
      rw [hout]
      exact vr_keys _ fun u hu => by
        obtain ⟨p, hp', rfl⟩ := List.mem_map.mp hu
        exact hk2 _ (hmem p hp').2
    obtain ⟨m, hob⟩ := hleft.obj
    obtain ⟨S1, st1, v1⟩ := S.alloc (h' := h'') (tk := tk) (a := D) (o := .list (((ks.toList.map (·.1)).map keyT).map .str)) (fun b x e => hleft.keep b x (fun q => by rw [q, hDn] at e; cases e) (hk' b x e)) hDn hsm
      ⟨_, m, hob, hvr, by rw [List.length_map, hperm.length_eq]; exact hl⟩
    exact ⟨_, _, _, st1, S1, v1, hq _ hperm⟩
theorem all2_getR {α β : Type} {R : α → β → Prop} {as : List α} {bs : List β} {i : Nat} {b : β} (h : All2 R as bs) (e : bs[i]? = some b) : ∃ a, as[i]? = some a ∧ R a b := by
  have hi : i < as.length := by rw [h.length]; exact (List.getElem?_eq_some_iff.mp e).1
  obtain ⟨b', e', r⟩ := h.get i _ (List.getElem?_eq_getElem hi)
  cases e.symm.trans e'
  exact ⟨_, List.getElem?_eq_getElem hi, r⟩
theorem ok_sorted (hc : C.calm) : Call1 C K spSorted (.builtin "sorted") := by
  intro vs H Q X h ρ s us A E S hus hA hE
  cases h with
  | list e1 h =>
    obtain ⟨u, rfl, hu⟩ := all2_one hus
    obtain ⟨a, rfl, ea, us, k, ho, hs, hl⟩ := S.lookup e1 hu
    obtain ⟨hk1, hk2⟩ := txts_key hs
    refine sorted_core S (by rw [List.length_map] at hl; exact hl) h fun R hR => collect_list (vs := us.toList) ⟨_, ho, rfl, k, rfl⟩ (hR _ _ s.toks hk1 hk2 fun b o e => ?_) (by rw [← hs.length]; exact lid_le hl)
    exact upd_keep b o (Nat.ne_of_lt (Heap.lt_size e)) (Heap.get?_push_of_some _ e)
  | @dict n ep es e1 h =>
    obtain ⟨u, rfl, hu⟩ := all2_one hus
    obtain ⟨a, rfl, ea, hor⟩ := S.lookup e1 hu
    obtain ⟨kvs, hd, hdk⟩ := dict_at hor
    obtain ⟨ds, _, _, _, hl⟩ := hor
    have hkl := hdk.length
    have key : ∀ acc : Array Value, ItemsOf (fun i v => ∃ k x, kvs[i]? = some (k, x) ∧ (PySem.strKind C.prog C.w).is k v = true) acc kvs.length → acc.toList.map keyT = es.map (·.1) ∧ ∀ u ∈ acc.toList, VR C ρ (.str (keyT u)) u := by
      rintro acc ⟨hz, hit⟩
      have each : ∀ (i : Nat) (v : Value), acc[i]? = some v → ∃ e t, es[i]? = some e ∧ okT e.1 = true ∧ v = .str ⟨e.1.toArray⟩ t := fun i v hv => by
        obtain ⟨k, x, hk, his⟩ := hit i v hv
        obtain ⟨e, he, ek, ok, _⟩ := all2_getR hdk hk
        cases ek
        obtain ⟨t, ht⟩ := Value.isStrOf_shape (show Value.isStrOf (⟨e.1.toArray⟩ : Str) v = true from his)
        exact ⟨e, t, he, ok, ht⟩
      refine ⟨List.ext_getElem? fun i => ?_, fun u hu => ?_⟩
      · rw [List.getElem?_map, List.getElem?_map, Array.getElem?_toList]
        cases hv : acc[i]? with
        | none =>
          have h1 := Array.getElem?_eq_none_iff.mp hv
          rw [hz, ← hkl] at h1
          rw [List.getElem?_eq_none h1]; rfl
        | some v =>
          obtain ⟨e, t, he, _, rfl⟩ := each i v hv
          rw [he]; rfl
      · obtain ⟨i, hi⟩ := List.getElem?_of_mem hu
        rw [Array.getElem?_toList] at hi
        obtain ⟨e, t, he, ok, rfl⟩ := each i u hi
        exact ⟨ok, t, rfl⟩
    refine sorted_core S (by rw [List.length_map]; exact hl) h fun R hR => collect_dict (hA.hc hc) (S.not_sm ea) hd (by rw [← hkl]; exact lid_le hl) fun s' acc hk hg hdr hos hacc => ?_
    obtain ⟨q1, q2⟩ := key acc hacc
    have e : s' = { s with heap := s'.heap, toks := s'.toks } := by
      cases s'; cases hg; cases hdr; cases hos; rfl
    rw [e]
    exact hR _ _ _ q1 q2 hk
end
end Mine
end
section
namespace Mine
open PySem PySem.Calls PyProof.Rows
section
variable {prog : Program} {w : World} {A : Around} {E : Value → Shared → Prop} {s : Shared}
theorem no_keys : typeLookup (.type "list") (Str.ofString "keys") = pure none := by rw [typeLookup_type, builtinLookup_eq_fast]; kernel_rfl
theorem keys_none {a : Addr} {xs : Array Value} {k : Nat} {Q : Option Value → Shared → Prop} (hx : s.heap.get? a = some ⟨.type "list", none, .seq xs k, #[]⟩) (hA : A.handled = none)
    (h : ∀ h' tk, (∀ b o, s.heap.get? b = some o → h'.get? b = some o) → Q none { s with heap := h', toks := tk }) : wpAny (model prog w) A (getAttr? (.ref a) (Str.ofString "keys")) Q E s := by
  obtain ⟨hp, g, d, tk, os⟩ := s
  have hT : ∀ tk', (⟨hp, g, d, tk', os⟩ : Shared).TypeIs (.ref a) "list" := fun _ => ⟨_, hx, rfl⟩
  have f1 := sub_AttributeError
  have f3 := F.slot_list_getattribute.lookup
  have f4 := F.slot_list_getattribute.bind (.ref a)
  have f5 := am_list_getattr_none
  unfold getAttr? getAttrBy? getAttrBy
  repeat (any_goals (first | assumption | exact hT _ | ((with_reducible show wpAny _ _ (call (Value.builtin "list.__getattribute__") _ _) _ _ _); refine call_meets F.slot_list_getattribute (hT _) am_entry_list_getattribute (F.args_list_getattribute_2 _ _) (meets_getattribute_miss_list a xs k #[] (Str.ofString "keys") _ no_keys (by decide +kernel) (by decide +kernel)) ⟨hx, hA, fun h' tk' e hx' => ?_⟩) | wp_step))
  obtain ⟨t', u', he⟩ := hx'.there
  show wpAny _ _ (getattributeRaised _ _ _ _ _ _ _) _ _ _
  unfold getattributeRaised
  repeat (any_goals (first | assumption | wp_step))
  exact h _ _ hx'.of.keeps
theorem upl_entry : entryFor table "dict.update.loop" = some Builtin.«dict.update.loop» := entryFor_of_tree (by kernel_rfl)
theorem upl_plain : plainId "dict.update.loop" = true := by decide +kernel
noncomputable def PT (h : Heap) (I D : Addr) (u : Value) (kv : Str × Value) : Prop := ∃ r tk m, u = .ref r ∧ h.get? r = some ⟨.type "tuple", none, .seq #[.str kv.1 tk, kv.2] m, #[]⟩ ∧ r ≠ I ∧ r ≠ D
theorem pair_items {r : Addr} {x y : Value} {m : Nat} {Q : List Value → Shared → Prop} (ho : s.heap.get? r = some ⟨.type "tuple", none, .seq #[x, y] m, #[]⟩) (h : Q [x, y] s) : wpAny (model prog w) A (Builtin.Dict.pairItems (.ref r)) Q E s := by
  have hT : s.TypeIs (.ref r) "tuple" := ⟨_, ho, rfl⟩
  unfold Builtin.Dict.pairItems
  refine wpAny_bind (wpAny_typeOf hT ?_)
  rw [if_pos (by decide)]
  refine wpAny_bind ?_
  unfold seqItems?
  refine wpAny_bind (wpAny_load ho (wpAny_pure (wpAny_pure ?_)))
  exact h
theorem stored_new {kvs : List (Str × Value)} {k : Str} {v : Value} (h : k ∉ kvs.map (·.1)) : PySem.stored kvs k v = kvs ++ [(k, v)] := by
  unfold PySem.stored
  rw [if_neg]
  intro q
  obtain ⟨x, hx, e⟩ := List.any_eq_true.mp q
  exact h (List.mem_map.mpr ⟨x, hx, of_decide_eq_true e⟩)
theorem upd_loop {knd : PySem.KeyKind prog w Str} (hk : ∀ x t, knd.is x (.str x t) = true) (hh : A.handled = none) {I L D : Addr} {us : Array Value} {n0 : Nat} {kvs : List (Str × Value)} {h0 : Heap} (hLI : L ≠ I) (hLD : L ≠ D) (hID : I ≠ D) (hL : h0.get? L = some ⟨.type "list", none, .seq us n0, #[]⟩)
    (hus : All2 (PT h0 I D) us.toList kvs) (hnd : (kvs.map (·.1)).Nodup) (hsz : kvs.length ≤ sizeLine) {R : Result → Shared → Prop} (fin : ∀ h' tk, h'.DictOf knd D kvs → (∀ b o, b ≠ I → b ≠ D → h0.get? b = some o → h'.get? b = some o) → R (.ok (.ret .none)) { s with heap := h', toks := tk }) :
    ∀ (rest dn : List (Str × Value)) (h : Heap) (tk : Nat) (j : Int) (t : Tok), kvs = dn ++ rest → h.IsListIter I L dn.length → h.DictOf knd D dn → (∀ b o, b ≠ I → b ≠ D → h0.get? b = some o → h.get? b = some o) →
    codeAny (model prog w) A (.builtin "dict.update.loop" ⟨[.ref D, .ref I, .int j t, .none], []⟩) R { s with heap := h, toks := tk } := by
  intro rest
  induction rest with
  | nil =>
    intro dn h tk j t e hit hd hkp
    rw [List.append_nil] at e
    subst e
    refine codeAny_builtin upl_entry ?_
    rw [Around.under_plainId upl_plain _]
    show wpAny _ A.in1 (pyNext (.ref I) >>= _) _ _ _
    refine wpAny_bind (wpAny_pyNext_list_end hh hit ⟨_, hkp L _ hLI hLD hL, rfl, n0, rfl⟩ (by rw [← Array.getElem?_toList, ← hus.length, List.getElem?_eq_none (Nat.le_refl _)]) fun h' he => ?_)
    refine wpAny_bind (wpAny_pure (wpAny_pure (fin h' tk ?_ fun b o hb hb' e => he b o hb (hkp b o hb hb' e))))
    exact hd.extBut he (Ne.symm hID)
  | cons kv rest ih =>
    intro dn h tk j t e hit hd hkp
    have hi : kvs[dn.length]? = some kv := by rw [e, List.getElem?_append_right (Nat.le_refl _), Nat.sub_self]; rfl
    obtain ⟨u, hu, r, tk', m, rfl, ho, hrI, hrD⟩ := all2_getR hus hi
    refine codeAny_builtin upl_entry ?_
    rw [Around.under_plainId upl_plain _]
    show wpAny _ A.in1 (pyNext (.ref I) >>= _) _ _ _
    refine wpAny_bind (wpAny_pyNext_list_item hit ⟨_, hkp L _ hLI hLD hL, rfl, n0, rfl⟩ (by rw [← Array.getElem?_toList]; exact hu) fun h' hit' hsb => ?_)
    have ho' := hsb.extBut r _ hrI (hkp r _ hrI hrD ho)
    have hd' := hd.extBut hsb.extBut (Ne.symm hID)
    have hkp' : ∀ b o, b ≠ I → b ≠ D → h0.get? b = some o → h'.get? b = some o := fun b o hb hb' e => hsb.extBut b o hb (hkp b o hb hb' e)
    refine wpAny_bind (wpAny_holding (wpAny_bind (wpAny_tryCatch (pair_items ho' ?_))))
    refine wpAny_holding ?_
    have hnk : kv.1 ∉ dn.map (·.1) := by
      rw [e, List.map_append, List.map_cons] at hnd
      exact fun q => (List.nodup_append.mp hnd).2.2 _ q _ (.head _) rfl
    refine wpAny_dictSet_pairs (hk kv.1 tk') hd' (fun h2 hd2 hsb2 => ?_) (Nat.le_trans (by rw [e, List.length_append]; exact Nat.le_add_right _ _) hsz)
    have es : PySem.stored dn kv.1 kv.2 = dn ++ [kv] := stored_new hnk
    rw [es] at hd2
    refine wpAny_pure ⟨plainId_quiet upl_plain _, ih (dn ++ [kv]) h2 _ _ _ (by rw [e, List.append_assoc]; rfl) ?_ hd2 fun b o hb hb' e => hsb2.extBut b o hb' (hkp' b o hb hb' e)⟩
    rw [List.length_append, List.length_singleton]
    exact hit'.at fun o q => hsb2.extBut I o hID q
theorem dict_pairs {knd : PySem.KeyKind prog w Str} (hk : ∀ x t, knd.is x (.str x t) = true) (hh : A.handled = none) {L : Addr} {us : Array Value} {n0 : Nat} {kvs : List (Str × Value)} (hL : s.heap.get? L = some ⟨.type "list", none, .seq us n0, #[]⟩)
    (hus : All2 (fun u (kv : Str × Value) => ∃ r tk m, u = .ref r ∧ s.heap.get? r = some ⟨.type "tuple", none, .seq #[.str kv.1 tk, kv.2] m, #[]⟩) us.toList kvs) (hnd : (kvs.map (·.1)).Nodup) (hsz : kvs.length ≤ sizeLine) {Q : Value → Shared → Prop}
    (fin : ∀ h' tk, h'.DictOf knd s.heap.objs.size kvs → (∀ b o, s.heap.get? b = some o → h'.get? b = some o) → Q (.ref s.heap.objs.size) { s with heap := h', toks := tk }) : wpAny (model prog w) A (call (.type "dict") [.ref L]) Q E s := by
  refine callType_codes (Q₁ := fun obj s₁ => obj = .ref s.heap.objs.size ∧ s₁ = { s with heap := s.heap.push { cls := .type "dict", data := .dict #[] } }) F.kt_called_dict (F.kt_typeCall_dict_1 _) F.entry_dict_init (kt_code_dict_new _ ⟨rfl, rfl⟩) ?_
  rintro obj s₁ ⟨rfl, rfl⟩
  have hnew : (s.heap.push { cls := .type "dict", data := .dict #[] }).DictOf knd s.heap.objs.size [] := Heap.DictOf.new s.heap
  have k1 : ∀ b o, s.heap.get? b = some o → (s.heap.push { cls := .type "dict", data := .dict #[] }).get? b = some o := fun b o e => Heap.get?_push_of_some _ e
  generalize s.heap.push { cls := .type "dict", data := .dict #[] } = h1 at hnew k1
  refine ⟨hnew.typeIs (s := { s with heap := h1 }), F.args_dict_init_2 _ _, ?_⟩
  unfold Builtin.«dict.__init__»
  refine wpAny_bind ?_
  unfold Builtin.Dict.selfAndRest
  refine wpAny_bind (wpAny_notOrdered_dict (hnew.typeIs (s := { s with heap := h1 })) ?_)
  show wpAny _ _ (pure (s.heap.objs.size, [Value.ref L])) _ _ _
  refine wpAny_pure ?_
  show wpAny _ _ (Builtin.Dict.updateFrom "dict.__init__" s.heap.objs.size (.ref L) [] .none) _ _ _
  unfold Builtin.Dict.updateFrom
  have hL1 := k1 _ _ hL
  refine wpAny_bind (wpAny_typeOf (s := { s with heap := h1 }) (T := "list") ⟨_, hL1, rfl⟩ ?_)
  rw [if_pos (by decide)]
  refine wpAny_bind (keys_none (s := { s with heap := h1 }) hL1 hh fun h2 tk k2 => ?_)
  rw [if_pos (show (none : Option Value).isNone = true from rfl)]
  refine wpAny_bind (wpAny_rule (wpAny_bind (wpAny_pyIter_list (s := { s with heap := h2, toks := tk }) ⟨_, k2 _ _ hL1, rfl, n0, rfl⟩ ?_)))
  have hD2 := hnew.keep k2
  have lt2 : ∀ b o, s.heap.get? b = some o → b < h2.objs.size := fun b o e => Heap.lt_size (k2 b o (k1 b o e))
  have ltD : s.heap.objs.size < h2.objs.size := by obtain ⟨o, es, ep, ho, _⟩ := hD2; exact Heap.lt_size ho
  refine wpAny_pure ⟨plainId_quiet upl_plain _, upd_loop (A := A.in1) (s := s) (h0 := h2.push { cls := .type "list_iterator", data := .fields #[.ref L, .int 0 0] }) hk (show A.in1.handled = none from hh) (I := h2.objs.size) (L := L) (D := s.heap.objs.size) (Nat.ne_of_lt (lt2 _ _ hL)) (Nat.ne_of_lt (Heap.lt_size hL)) (Nat.ne_of_gt ltD) (Heap.get?_push_of_some _ (k2 _ _ hL1)) (hus.mono fun u kv hp => ?_) hnd hsz (fun h' tk' hd' hkp => ⟨rfl, fin h' tk' hd' fun b o e => hkp b o (Nat.ne_of_lt (lt2 b o e)) (Nat.ne_of_lt (Heap.lt_size e)) (Heap.get?_push_of_some _ (k2 b o (k1 b o e)))⟩) kvs [] _ tk 0 0 rfl ⟨_, Heap.get?_push_size _ rfl, rfl, rfl⟩ (hD2.push _) fun b o _ _ e => e⟩
  obtain ⟨r, tk, m, e, ho⟩ := hp
  exact ⟨r, tk, m, e, Heap.get?_push_of_some _ (k2 _ _ (k1 _ _ ho)), Nat.ne_of_lt (lt2 _ _ ho), Nat.ne_of_lt (Heap.lt_size ho)⟩
end
inductive DictA (H : AHeap) (Q : VPost) : List V → Prop
  | pairs {n : Nat} {rs : List Nat} {es : List (Txt × V)} : H[n]? = some (.list (rs.map .ref)) → All2 (fun r (e : Txt × V) => H[r]? = some (.tuple [.str e.1, e.2])) rs es → (es.map (·.1)).Nodup → (∀ ep, Q (.ref H.length) (H ++ [.dict es ep])) → DictA H Q [.ref n]
noncomputable def spDict : Spec := fun vs H Q _ => DictA H Q vs
noncomputable def spGet : Spec := fun vs H Q _ => ∃ (n ep : Nat) (es : List (Txt × V)) (k : Txt), (vs = [.ref n, .str k] ∨ vs = [.ref n, .str k, .none]) ∧ H[n]? = some (.dict es ep) ∧ Q (((es.find? fun e => e.1 == k).map (·.2)).getD .none) H
section
variable {C : Cx} {K : Nat}
theorem pairs_are {ρ : List Addr} {H : AHeap} {s : Shared} (S : Sim C ρ H s) : ∀ {rs : List Nat} {es : List (Txt × V)} {us : List Value}, All2 (VR C ρ) (rs.map .ref) us → All2 (fun r (e : Txt × V) => H[r]? = some (.tuple [.str e.1, e.2])) rs es →
    ∃ kvs : List (Str × Value), All2 (DK C ρ) es kvs ∧ All2 (fun u (kv : Str × Value) => ∃ r tk m, u = .ref r ∧ s.heap.get? r = some ⟨.type "tuple", none, .seq #[.str kv.1 tk, kv.2] m, #[]⟩) us kvs
  | [], _, _, .nil, .nil => ⟨[], .nil, .nil⟩
  | r :: rs, e :: es, u :: us, .cons hu hr, .cons he hes => by
    obtain ⟨kvs, h1, h2⟩ := pairs_are S hr hes
    obtain ⟨a, rfl, ea, vs, m, ho, hs, _⟩ := S.lookup he hu
    obtain ⟨x, y, hxy, ⟨ok, tk, rfl⟩, hy⟩ := all2_two hs
    have hv : vs = #[.str ⟨e.1.toArray⟩ tk, y] := by rw [← Array.toArray_toList (xs := vs), hxy]
    rw [hv] at ho
    exact ⟨(⟨e.1.toArray⟩, y) :: kvs, .cons ⟨rfl, ok, hy⟩ h1, .cons ⟨a, tk, m, rfl, ho⟩ h2⟩
theorem dk_nodup {ρ : List Addr} {es : List (Txt × V)} {kvs : List (Str × Value)} (h : All2 (DK C ρ) es kvs) (hn : (es.map (·.1)).Nodup) : (kvs.map (·.1)).Nodup := by
  rw [dk_keys h]
  exact List.pairwise_map.mpr (List.Pairwise.imp (fun h e => h (str_inj e)) hn)
theorem ok_dict (hc : C.calm) : Call1 C K spDict (.type "dict") := by
  intro vs H Q X h ρ s us A E S hus hA hE
  cases h with
  | @pairs n rs es e1 ht hn h =>
    obtain ⟨u, rfl, hu⟩ := all2_one hus
    obtain ⟨L, rfl, ea, us, k, ho, hs, hl⟩ := S.lookup e1 hu
    obtain ⟨kvs, hdk, hpt⟩ := pairs_are S hs ht
    have hel : es.length ≤ lid := by rw [← ht.length, ← List.length_map (f := V.ref)]; exact hl
    refine dict_pairs (knd := PySem.strKind C.prog C.w) (fun x t => strKind_is _ _ x t) (hA.hc hc) ho hpt (dk_nodup hdk hn) (by rw [← hdk.length]; exact lid_le hel) fun h' tk hd hkp => ?_
    obtain ⟨ep, hor⟩ := dict_is hd hdk hel
    obtain ⟨S1, st1, v1⟩ := S.alloc (h' := h') (tk := tk) (a := s.heap.objs.size) (o := .dict es ep) hkp (get_size _) S.size_ne hor
    exact ⟨_, _, _, st1, S1, v1, h ep⟩
theorem ok_get : Call1 C K spGet (.builtin "dict.get") := by
  intro vs H Q X h ρ s us A E S hus hA hE
  obtain ⟨n, ep, es, k, hv, e1, hq⟩ := h
  have fin : ∀ {a : Addr} {ds : Array DictEntry} {t : Nat}, All2 (ER C ρ) es ds.toList → PV C ρ s Q ((findBy Value.isStrOf ds ⟨k.toArray⟩).getD .none) { s with toks := t } := fun {a ds t} hs => by
    unfold findBy
    rw [← Array.find?_toList]
    rcases dict_find (k := k) hs with ⟨z1, z2⟩ | ⟨e', d', z1, z2, z3⟩
    · rw [z1] at hq; rw [z2]; exact here (v := .none) S rfl hq
    · rw [z1] at hq; rw [z2]; exact here S z3 hq
  rcases hv with rfl | rfl
  · obtain ⟨u, w, rfl, hu, ⟨ok, tk, rfl⟩⟩ := all2_two hus
    obtain ⟨a, rfl, ea, ds, ho, hs, _⟩ := S.lookup e1 hu
    exact call_meetsIn F.slot_dict_get ⟨_, ho, rfl⟩ F.entry_dict_get (F.args_dict_get_2 _ _) (meets_dict_get (PySem.strKind C.prog C.w) (k := ⟨k.toArray⟩) a (strKind_is _ _ _ tk) (S.not_sm ea)) ⟨_, dict_map (C := C) (ρ := ρ) ho hs, fin (a := a) hs⟩
  · obtain ⟨u, us, rfl, hu, hus⟩ : ∃ u us', us = u :: us' ∧ VR C ρ (.ref n) u ∧ All2 (VR C ρ) [.str k, .none] us' := by cases hus with | cons h r => exact ⟨_, _, rfl, h, r⟩
    obtain ⟨w, z, rfl, ⟨ok, tk, rfl⟩, hz⟩ := all2_two hus
    cases hz
    obtain ⟨a, rfl, ea, ds, ho, hs, _⟩ := S.lookup e1 hu
    exact call_meetsIn F.slot_dict_get ⟨_, ho, rfl⟩ F.entry_dict_get (F.args_dict_get_3 _ _ _) (meets_dict_get_default (PySem.strKind C.prog C.w) (k := ⟨k.toArray⟩) a (strKind_is _ _ _ tk) (S.not_sm ea) .none) ⟨_, dict_map (C := C) (ρ := ρ) ho hs, fin (a := a) hs⟩
theorem get_get : ∀ fs v H ρ s u pl A (Q : Value × List Value → Shared → Prop) E, kindA v H = some .dict → Sim (C.at fs) ρ H s → VR C ρ v u → (∀ t, Q (.builtin "dict.get", [u]) { s with toks := t }) → wpAny C.M A (getMethod u (nm 1913575) pl) Q E s := by
  intro fs v H ρ s u pl A Q E hk S hv h
  obtain ⟨n, es, ep, rfl, e1⟩ := kind_dict hk
  obtain ⟨a, rfl, ea, ds, ho, _⟩ := S.lookup e1 hv
  have e : nm 1913575 = Str.ofString "get" := by decide +kernel
  rw [e]
  exact getMethod_builtin (T := "dict") ⟨_, ho, rfl⟩ F.plainAttrs_dict F.slot_dict_get F.type_dict_get (fun b hb => by cases hb; exact ⟨_, ho, rfl⟩) (h s.toks)
end
end Mine
end
section
namespace Mine
open PySem PySem.Calls PyProof.Rows
noncomputable def tabE (T : Tab) : List (Nat × Spec) → Tab
  | [] => T
  | (n, sp) :: r => (tabE T r).add (nm n) sp
noncomputable def getE : List (Nat × Spec) → Nat → Option Spec
  | [], _ => none
  | (n, sp) :: r, m => bif Nat.beq m n then some sp else getE r m
theorem Has.ent {T : Tab} {m : Nat} {sp : Spec} : ∀ {l : List (Nat × Spec)}, getE l m = some sp → Has (tabE T l) (nm m) sp
  | [], h => nomatch h
  | (n, sp') :: r, h => by
    unfold getE at h
    cases e : Nat.beq m n with
    | true =>
      rw [e] at h
      cases Nat.eq_of_beq_eq_true e
      cases h
      exact ⟨if_pos rfl, if_pos rfl⟩
    | false =>
      rw [e] at h
      have ne : ¬ nm m = nm n := fun q => Nat.ne_of_beq_eq_false e (nm_inj.mp q)
      have ih : Has (tabE T r) (nm m) sp := Has.ent h
      exact ⟨(if_neg ne).trans ih.gv, (if_neg ne).trans ih.fn⟩
noncomputable def tabV (T : Tab) : List (Nat × V) → Tab
  | [] => T
  | (n, v) :: r => (tabV T r).val (nm n) v
noncomputable def getV : List (Nat × V) → Nat → Option V
  | [], _ => none
  | (n, v) :: r, m => bif Nat.beq m n then some v else getV r m
noncomputable def tabM (T : Tab) : List (MK × Nat × Spec) → Tab
  | [] => T
  | (k, n, sp) :: r => (tabM T r).meth k (nm n) sp
noncomputable def getM : List (MK × Nat × Spec) → MK → Nat → Option Spec
  | [], _, _ => none
  | (k, n, sp) :: r, kd, m => bif decide (kd = k) && Nat.beq m n then some sp else getM r kd m
theorem gvV {T : Tab} {m : Nat} {v : V} : ∀ {l : List (Nat × V)}, getV l m = some v → (tabV T l).gv (nm m) = some v
  | [], h => nomatch h
  | (n, w) :: r, h => by
    unfold getV at h
    cases e : Nat.beq m n with
    | true => rw [e] at h; cases Nat.eq_of_beq_eq_true e; cases h; exact if_pos rfl
    | false => rw [e] at h; exact (if_neg fun q => Nat.ne_of_beq_eq_false e (nm_inj.mp q)).trans (gvV h)
theorem gvM {T : Tab} : ∀ (l : List (MK × Nat × Spec)), (tabM T l).gv = T.gv
  | [] => rfl
  | (_, _, _) :: r => gvM r
theorem gvE {T : Tab} {m : Nat} {v : V} (k : T.gv (nm m) = some v) : ∀ {l : List (Nat × Spec)}, getE l m = none → (tabE T l).gv (nm m) = some v
  | [], _ => k
  | (n, sp') :: r, h => by
    unfold getE at h
    cases e : Nat.beq m n with
    | true => rw [e] at h; cases h
    | false =>
      rw [e] at h
      exact (if_neg fun q => Nat.ne_of_beq_eq_false e (nm_inj.mp q)).trans (gvE k h)
theorem gvT {T : Tab} {m : Nat} {v : V} {vl : List (Nat × V)} {ml : List (MK × Nat × Spec)} {l : List (Nat × Spec)} (h : getE l m = none) (k : getV vl m = some v) : (tabE (tabM (tabV T vl) ml) l).gv (nm m) = some v :=
  gvE (by rw [gvM]; exact gvV k) h
theorem metM {T : Tab} {kd : MK} {m : Nat} {sp : Spec} : ∀ {l : List (MK × Nat × Spec)}, getM l kd m = some sp → HasM (tabM T l) kd (nm m) sp
  | [], h => nomatch h
  | (k, n, sp') :: r, h => by
    unfold getM at h
    cases e : (decide (kd = k) && Nat.beq m n) with
    | true =>
      rw [e] at h
      obtain ⟨e1, e2⟩ := Bool.and_eq_true_iff.mp e
      cases of_decide_eq_true e1
      cases Nat.eq_of_beq_eq_true e2
      cases h
      exact ⟨if_pos ⟨rfl, rfl⟩, if_pos ⟨rfl, rfl⟩⟩
    | false =>
      rw [e] at h
      have ne : ¬ (kd = k ∧ nm m = nm n) := fun q => by
        rw [decide_eq_true q.1, nm_inj.mp q.2, Nat.beq_refl] at e; cases e
      have ih := metM (T := T) h
      exact ⟨(if_neg ne).trans ih.has, (if_neg ne).trans ih.mt⟩
theorem metE {T : Tab} {kd : MK} {m : Str} {sp : Spec} (k : HasM T kd m sp) : ∀ (l : List (Nat × Spec)), HasM (tabE T l) kd m sp
  | [] => k
  | (_, _) :: r => ⟨(metE k r).has, (metE k r).mt⟩
theorem HasM.met {T : Tab} {kd : MK} {m : Nat} {sp : Spec} {ml : List (MK × Nat × Spec)} {l : List (Nat × Spec)} (h : getM ml kd m = some sp) : HasM (tabE (tabM T ml) l) kd (nm m) sp := metE (metM h) l
section
variable {C : Cx} {T : Tab} {K : Nat}
noncomputable def ConstAt (C : Cx) (f : Str) (v : V) : Prop := ∃ u, C.G f = some u ∧ ∀ ρ, VR C ρ v u
theorem ConstAt.glob {n : Nat} {u : Value} (h : C.G (nm n) = some u) : ConstAt C (nm n) (.glob (nm n)) := ⟨u, h, fun _ => h⟩
theorem base_ok {cls : Str → Bool} {cat : Str → Str → Bool} {hev : Str → Nat → PE → Sg → AHeap → VPost → Prop} (hb : ∀ p ∈ biL, C.G p.1 = some p.2)
    (h9 : ∀ c, cls c = true → C.calm ∧ ExcCls C c) (h10 : ∀ k c, cat k c = true → Caught C k c)
    (h11 : ∀ k a pe σ H Q, hev k a pe σ H Q → ∀ fs env e ρ s A, trE 60 env.kindOf e = some pe → FR (C.at fs) env σ ρ s.heap → Sim (C.at fs) ρ H s → A.handled = some (.ref a) → A.depth + K < recursionLimit → A.units + 5 * K + 200 < cLine →
      A.frames = some fs → XIs C ρ k a s.heap → wpAny C.M A (eval e env) (PV (C.at fs) ρ s Q) (fun _ _ => False) s) : TabOk C (T0 cls cat hev) K := by
  have g : ∀ i (h : i < biL.length), C.G (biL[i]).1 = some (biL[i]).2 := fun i h => hb _ (List.getElem_mem h)
  have s3 : Str.ofString "range" = (nm 27329802482) := by decide +kernel
  have s4 : Str.ofString "reversed" = (nm 56743180225065714) := by decide +kernel
  have s5 : Str.ofString "enumerate" = (nm 7343549747291846501) := by decide +kernel
  exact .base (by rw [s3]; exact g 7 (by decide)) (by rw [s4]; exact g 8 (by decide)) (by rw [s5]; exact g 9 (by decide)) h9 h10 h11
theorem TabOk.entV {vl : List (Nat × V)} (h : TabOk C (tabV T vl) K) {n : Nat} {v : V} (k : ConstAt C (nm n) v) : TabOk C (tabV T ((n, v) :: vl)) K := by obtain ⟨_, h1, h2⟩ := k; exact h.val h1 h2
theorem TabOk.entM {ml : List (MK × Nat × Spec)} (h : TabOk C (tabM T ml) K) {k : MK} {n : Nat} {sp : Spec} {id : String} (hok : CallOk C K sp (.builtin id))
    (hg : ∀ fs v H ρ s u pl A (Q : Value × List Value → Shared → Prop) E, kindA v H = some k → Sim (C.at fs) ρ H s → VR C ρ v u → (∀ t, Q (.builtin id, [u]) { s with toks := t }) → wpAny C.M A (getMethod u (nm n) pl) Q E s) : TabOk C (tabM T ((k, n, sp) :: ml)) K := h.meth hok hg
theorem TabOk.entB {l : List (Nat × Spec)} (h : TabOk C (tabE T l) K) {n : Nat} {sp : Spec} {u : Value} (hu : C.G (nm n) = some u) (hc : Callee C u) (hok : CallOk C K sp u) : TabOk C (tabE T ((n, sp) :: l)) K := h.addB hu hc hok
theorem TabOk.ent {l : List (Nat × Spec)} (h : TabOk C (tabE T l) K) {n : Nat} {xs : List Str} {ps : PS} {sp : Spec} (hd : DefAt C (nm n) xs ps) (hc : Ct (tabE T l) xs ps sp) : TabOk C (tabE T ((n, sp) :: l)) (K + 1) := h.addF hd hc
end
end Mine
end
section
namespace Mine
open PySem
noncomputable def Tru (v : V) (q : Bool → Prop) : Prop := match truthyA v with | some b => q b | Option.none => False
noncomputable def SQ (T : Tab) (r : PS) (Q : SPost) (X : XPost) : SPost := fun fl σ H => match fl with | .next => semS T r σ H Q X | f => Q f σ H
noncomputable def RQ (Q : VPost) : SPost := fun fl _ H' => match fl with
  | .ret v => Q v H'
  | .next => Q .none H'
  | .brk => False
noncomputable def LQ (W : Sg → AHeap → Prop) (Q : SPost) : SPost := fun fl σ2 H2 => match fl with
  | .next => W σ2 H2
  | .brk => Q .next σ2 H2
  | .ret v => Q (.ret v) σ2 H2
noncomputable def Rng1 (v : V) (H : AHeap) (q : List Item → (AHeap → Prop) → AHeap → Prop) : Prop := match v with
  | .int j => 0 ≤ j ∧ j ≤ lid ∧ q ((intsFrom 0 j.toNat).map fun i => .one (.int i)) (fun _ => True) H
  | _ => False
noncomputable def Rng2 (u v : V) (H : AHeap) (q : List Item → (AHeap → Prop) → AHeap → Prop) : Prop := match u, v with
  | .int i, .int j => 0 ≤ i ∧ i ≤ lid ∧ 0 ≤ j ∧ j ≤ lid ∧ q ((intsFrom i (j - i).toNat).map fun i => .one (.int i)) (fun _ => True) H
  | _, _ => False
noncomputable def Neg (v : V) (q : V → Prop) : Prop := match v with | .int i => q (.int (-i)) | _ => False
noncomputable def Mth (T : Tab) (σ : Sg) (args : PE) (m : Str) (Q : VPost) (X : XPost) : VPost := fun ov H1 => match kindA ov H1 with
  | some kd => T.has kd m = true ∧ (sem T args).el σ H1 (fun vs H2 => T.mt kd m (ov :: vs) H2 Q X) X
  | Option.none => False
section
variable {T : Tab} {σ : Sg} {H : AHeap} {Q : VPost} {X : XPost} {q : Bool → AHeap → Prop} {P : SPost} {W : Sg → AHeap → Prop}
theorem hit {x : Str} {v : V} : (σ.set x v) x = some v := if_pos rfl
theorem miss {a b : Nat} {v w : V} (k : σ (nm b) = some w) (h : Nat.beq b a = false) : (σ.set (nm a) v) (nm b) = some w := by
  rw [set_nm, if_neg (Nat.ne_of_beq_eq_false h)]; exact k
theorem e_name {x : Str} {v : V} (h : σ x = some v) (k : Q v H) : (sem T (.name x)).ev σ H Q X := by
  show (match σ x with | some v => Q v H | Option.none => False); rw [h]; exact k
theorem e_glob {x : Str} {v : V} (h : T.gv x = some v) (k : Q v H) : (sem T (.glob x)).ev σ H Q X := by
  show (match T.gv x with | some v => Q v H | Option.none => False); rw [h]; exact k
theorem e_none (k : Q .none H) : (sem T .none).ev σ H Q X := k
theorem e_bool {b : Bool} (k : Q (.bool b) H) : (sem T (.bool b)).ev σ H Q X := k
theorem e_int {i : Int} (k : Q (.int i) H) : (sem T (.int i)).ev σ H Q X := k
theorem e_str {x : Str} (k : Q (.str x.cps.toList) H) : (sem T (.str x)).ev σ H Q X := k
theorem e_bin {op : Operator} {l r : PE} (k : (sem T l).ev σ H (fun a H1 => (sem T r).ev σ H1 (fun b H2 => binA op a b H2 Q) X) X) : (sem T (.bin op l r)).ev σ H Q X := k
theorem e_cmp {op : CmpOp} {l r : PE} (k : (sem T l).ev σ H (fun a H1 => (sem T r).ev σ H1 (fun b H2 => cmpA op a b H2 fun c => Q (.bool c) H2) X) X) : (sem T (.cmp1 op l r)).ev σ H Q X := k
theorem t_cmp {op : CmpOp} {l r : PE} (k : (sem T l).ev σ H (fun a H1 => (sem T r).ev σ H1 (fun b H2 => cmpA op a b H2 fun c => q c H2) X) X) : (sem T (.cmp1 op l r)).tt σ H q X := k
theorem t_cmp2 {o1 o2 : CmpOp} {a b c : PE} (k : (sem T a).ev σ H (fun x H1 => (sem T b).ev σ H1 (fun y H2 => cmpA o1 x y H2 fun c1 =>
      if c1 then (sem T c).ev σ H2 (fun z H3 => cmpA o2 y z H3 fun c2 => q c2 H3) X else q false H2) X) X) : (sem T (.cmp2 o1 o2 a b c)).tt σ H q X := k
theorem t_and {l r : PE} (k : (sem T l).tt σ H (fun b H1 => if b then (sem T r).tt σ H1 q X else q false H1) X) : (sem T (.and l r)).tt σ H q X := k
theorem t_or {l r : PE} (k : (sem T l).tt σ H (fun b H1 => if b then q true H1 else (sem T r).tt σ H1 q X) X) : (sem T (.or l r)).tt σ H q X := k
theorem t_not {e : PE} (k : (sem T e).tt σ H (fun b H1 => q (!b) H1) X) : (sem T (.not e)).tt σ H q X := k
theorem e_and {l r : PE} (k : (sem T l).ev σ H (fun v H1 => Tru v fun b => if b then (sem T r).ev σ H1 Q X else Q v H1) X) : (sem T (.and l r)).ev σ H Q X := k
theorem e_or {l r : PE} (k : (sem T l).ev σ H (fun v H1 => Tru v fun b => if b then Q v H1 else (sem T r).ev σ H1 Q X) X) : (sem T (.or l r)).ev σ H Q X := k
theorem e_not {e : PE} (k : (sem T e).ev σ H (fun v H1 => Tru v fun b => Q (.bool !b) H1) X) : (sem T (.not e)).ev σ H Q X := k
theorem e_neg {e : PE} (k : (sem T e).ev σ H (fun v H1 => Neg v fun w => Q w H1) X) : (sem T (.neg e)).ev σ H Q X := k
theorem t_name {x : Str} {v : V} (h : σ x = some v) (k : Tru v fun b => q b H) : (sem T (.name x)).tt σ H q X := by
  show (match σ x with | some v => _ | Option.none => False); rw [h]; exact k
theorem t_sub {o i : PE} (k : (sem T o).ev σ H (fun ov H1 => (sem T i).ev σ H1 (fun iv H2 => subA ov iv H2 fun v => Tru v fun b => q b H2) X) X) : (sem T (.sub o i)).tt σ H q X := k
theorem tru_bool {b : Bool} {r : Bool → Prop} (k : r b) : Tru (.bool b) r := k
theorem e_call {g : Str} {args : PE} {sp : Spec} (h : Has T g sp) (k : (sem T args).el σ H (fun vs H1 => sp vs H1 Q X) X) : (sem T (.call (.glob g) args)).ev σ H Q X := by
  show (match T.gv g with | some v => _ | Option.none => False); rw [h.gv]; show (sem T args).el σ H (fun vs H1 => T.fn g vs H1 Q X) X; rw [h.fn]; exact k
theorem t_call {g : Str} {args : PE} {sp : Spec} (h : Has T g sp) (k : (sem T args).el σ H (fun vs H1 => sp vs H1 (fun v H2 => Tru v fun b => q b H2) X) X) : (sem T (.call (.glob g) args)).tt σ H q X :=
  e_call (Q := fun v H2 => Tru v fun b => q b H2) h k
theorem e_methN {x : Str} {args : PE} {m : Str} {v : V} {kd : MK} {sp : Spec} (hx : σ x = some v) (hk : kindA v H = some kd) (h : HasM T kd m sp) (k : (sem T args).el σ H (fun vs H2 => sp (v :: vs) H2 Q X) X) : (sem T (.meth (.name x) m args)).ev σ H Q X := by
  refine e_name (T := T) (X := X) (Q := fun ov H1 => match kindA ov H1 with
      | some kd => T.has kd m = true ∧ (sem T args).el σ H1 (fun vs H2 => T.mt kd m (ov :: vs) H2 Q X) X
      | Option.none => False) hx ?_
  rw [hk]; exact ⟨h.has, by rw [h.mt]; exact k⟩
theorem e_meth {o args : PE} {m : Str} (k : (sem T o).ev σ H (Mth T σ args m Q X) X) : (sem T (.meth o m args)).ev σ H Q X := k
theorem mth {args : PE} {m : Str} {ov : V} {kd : MK} {sp : Spec} (h1 : kindA ov H = some kd) (h2 : HasM T kd m sp) (h3 : (sem T args).el σ H (fun vs H2 => sp (ov :: vs) H2 Q X) X) : Mth T σ args m Q X ov H := by
  unfold Mth; rw [h1]; exact ⟨h2.has, by rw [h2.mt]; exact h3⟩
theorem e_methS {x : Str} {args : PE} {m : Str} {sp : Spec} (h : HasM T .str m sp) (k : (sem T args).el σ H (fun vs H2 => sp (.str x.cps.toList :: vs) H2 Q X) X) : (sem T (.meth (.str x) m args)).ev σ H Q X :=
  ⟨h.has, by rw [h.mt]; exact k⟩
theorem l0 {q : List V → AHeap → Prop} (k : q [] H) : (sem T .nil).el σ H q X := k
theorem l1 {a : PE} {q : List V → AHeap → Prop} (k : (sem T a).ev σ H (fun v H1 => q [v] H1) X) : (sem T (.cons a .nil)).el σ H q X := k
theorem l2 {a b : PE} {q : List V → AHeap → Prop} (k : (sem T a).ev σ H (fun v H1 => (sem T b).ev σ H1 (fun w H2 => q [v, w] H2) X) X) : (sem T (.cons a (.cons b .nil))).el σ H q X := k
theorem lc {a t : PE} {q : List V → AHeap → Prop} (k : (sem T a).ev σ H (fun v H1 => (sem T t).el σ H1 (fun vs H2 => q (v :: vs) H2) X) X) : (sem T (.cons a t)).el σ H q X := k
theorem e_sub {o i : PE} (k : (sem T o).ev σ H (fun ov H1 => (sem T i).ev σ H1 (fun iv H2 => subA ov iv H2 fun v => Q v H2) X) X) : (sem T (.sub o i)).ev σ H Q X := k
theorem e_slice {o lo hi : PE} (k : (sem T o).ev σ H (fun ov H1 => (sem T lo).ev σ H1 (fun l H2 => (sem T hi).ev σ H2 (fun h H3 => sliceA ov l h H3 Q) X) X) X) : (sem T (.slice o lo hi)).ev σ H Q X := k
theorem e_list {es : PE} (k : (sem T es).el σ H (fun vs H1 => vs.length ≤ lid ∧ Q (.ref H1.length) (H1 ++ [.list vs])) X) : (sem T (.list es)).ev σ H Q X := k
theorem e_tuple {es : PE} (k : (sem T es).el σ H (fun vs H1 => vs.length ≤ lid ∧ Q (.ref H1.length) (H1 ++ [.tuple vs])) X) : (sem T (.tuple es)).ev σ H Q X := k
theorem e_comp0 {elt it : PE} {t : Tgt} (k : (sem T it).it σ H (fun items K H1 =>
      items.length ≤ lid ∧ compGo K (fun x H' => bindA t x H' σ) (fun _ H' q => q true H') (fun σ' H' q => (sem T elt).ev σ' H' q fun _ _ => False) (fun acc H' => Q (.ref H'.length) (H' ++ [.list acc])) items [] H1) X) : (sem T (.comp0 elt t it)).ev σ H Q X := k
theorem e_comp1 {elt it cond : PE} {t : Tgt} (k : (sem T it).it σ H (fun items K H1 =>
      items.length ≤ lid ∧ compGo K (fun x H' => bindA t x H' σ) (fun σ' H' q => (sem T cond).tt σ' H' q fun _ _ => False) (fun σ' H' q => (sem T elt).ev σ' H' q fun _ _ => False) (fun acc H' => Q (.ref H'.length) (H' ++ [.list acc])) items [] H1) X) : (sem T (.comp1 elt t it cond)).ev σ H Q X := k
theorem i_val {e : PE} {q : List Item → (AHeap → Prop) → AHeap → Prop} (k : (sem T e).ev σ H (fun v H1 => itemsA T.calm v H1 fun items K => q items K H1) X) : (sem T (.itVal e)).it σ H q X := k
theorem i_enum {e : PE} {q : List Item → (AHeap → Prop) → AHeap → Prop} (h : T.calm) (k : (sem T e).ev σ H (fun v H1 => ∃ n xs, v = .ref n ∧ H1[n]? = some (.list xs) ∧ q (xs.zipIdx.map fun p => .many [.int p.2, p.1]) (fun H' => H'[n]? = some (.list xs)) H1) X) : (sem T (.itEnum e)).it σ H q X := ⟨h, k⟩
theorem i_rng1 {e : PE} {q : List Item → (AHeap → Prop) → AHeap → Prop} (k : (sem T e).ev σ H (fun v H1 => Rng1 v H1 q) X) : (sem T (.itRange1 e)).it σ H q X := k
theorem i_rng2 {a b : PE} {q : List Item → (AHeap → Prop) → AHeap → Prop} (k : (sem T a).ev σ H (fun u H1 => (sem T b).ev σ H1 (fun v H2 => Rng2 u v H2 q) X) X) : (sem T (.itRange2 a b)).it σ H q X := k
theorem rng1 {j : Int} {q : List Item → (AHeap → Prop) → AHeap → Prop} (h0 : 0 ≤ j) (h1 : j ≤ lid) (k : q ((intsFrom 0 j.toNat).map fun i => .one (.int i)) (fun _ => True) H) : Rng1 (.int j) H q := ⟨h0, h1, k⟩
theorem b_add {a b : Int} (k : Q (.int (a + b)) H) : binA .Add (.int a) (.int b) H Q := .add k
theorem b_sub {a b : Int} (k : Q (.int (a - b)) H) : binA .Sub (.int a) (.int b) H Q := .sub k
theorem b_mul {a b : Int} (h : a.natAbs < 2 ^ 63 ∨ b.natAbs < 2 ^ 63) (k : Q (.int (a * b)) H) : binA .Mult (.int a) (.int b) H Q := .mul h k
theorem b_div {a b : Int} (h : (decide (0 < b) && decide (b < 1073741824)) = true) (k : Q (.int (a / b)) H) : binA .FloorDiv (.int a) (.int b) H Q :=
  have h := Bool.and_eq_true_iff.mp h
  .div (of_decide_eq_true h.1) (of_decide_eq_true h.2) k
theorem b_mod {a b : Int} (h : 0 < b) (k : ∀ m, 0 ≤ m → m < b → Q (.int m) H) : binA .Mod (.int a) (.int b) H Q := .mod h (k _ (Int.emod_nonneg a (Int.ne_of_gt h)) (Int.emod_lt_of_pos a h))
theorem b_cat {t u : Txt} (h : t.length + u.length ≤ lid) (k : Q (.str (t ++ u)) H) : binA .Add (.str t) (.str u) H Q := .cat h k
theorem b_lcat {m n : Nat} {xs ys : List V} (h1 : H[m]? = some (.list xs)) (h2 : H[n]? = some (.list ys)) (h : xs.length + ys.length ≤ lid) (k : Q (.ref H.length) (H ++ [.list (xs ++ ys)])) : binA .Add (.ref m) (.ref n) H Q := .lcat h1 h2 h k
theorem c_lt {a b : Int} {r : Bool → Prop} (k : r (decide (a < b))) : cmpA .Lt (.int a) (.int b) H r := .lt k
theorem c_le {a b : Int} {r : Bool → Prop} (k : r (decide (a ≤ b))) : cmpA .LtE (.int a) (.int b) H r := .le k
theorem c_gt {a b : Int} {r : Bool → Prop} (k : r (decide (b < a))) : cmpA .Gt (.int a) (.int b) H r := .gt k
theorem c_eqi {a b : Int} {r : Bool → Prop} (k : r (decide (a = b))) : cmpA .Eq (.int a) (.int b) H r := .eq rfl rfl (by rw [int_beq]; exact k)
theorem c_nei {a b : Int} {r : Bool → Prop} (k : r (!decide (a = b))) : cmpA .NotEq (.int a) (.int b) H r := .ne rfl rfl (by rw [int_beq]; exact k)
theorem c_eqs {a b : Txt} {r : Bool → Prop} (k : r (decide (a = b))) : cmpA .Eq (.str a) (.str b) H r := .eq rfl rfl (by rw [str_beq]; exact k)
theorem c_nes {a b : Txt} {r : Bool → Prop} (k : r (!decide (a = b))) : cmpA .NotEq (.str a) (.str b) H r := .ne rfl rfl (by rw [str_beq]; exact k)
theorem c_is {a : V} {r : Bool → Prop} (k : r (decide (a = .none))) : cmpA .Is a .none H r := .is k
theorem c_isnot {a : V} {r : Bool → Prop} (k : r (!decide (a = .none))) : cmpA .IsNot a .none H r := .isn k
theorem b_at {n : Nat} {xs : List V} {k : Int} {p : V → Prop} (h : H[n]? = some (.list xs)) (h0 : 0 ≤ k) (h1 : k < xs.length) (hp : p (xs[k.toNat]'((Int.toNat_lt h0).mpr h1))) : subA (.ref n) (.int k) H p := .list h (.pos h0 h1) (List.getElem?_eq_getElem _) hp
theorem b_last {n : Nat} {xs : List V} {p : V → Prop} (h : H[n]? = some (.list xs)) (h1 : 0 < xs.length) (hp : p (xs[xs.length - 1]'(Nat.sub_lt h1 Nat.one_pos))) : subA (.ref n) (.int (-1)) H p := by
  have e : (-1 + (xs.length : Int)).toNat = xs.length - 1 := by rw [Int.add_comm]; exact Int.toNat_sub xs.length 1
  exact .list (j := xs.length - 1) h (e ▸ Pl.neg (by decide) (Int.neg_le_neg (Int.ofNat_le.mpr h1))) (List.getElem?_eq_getElem _) hp
theorem b_sign {t : Txt} {k : Int} {p : V → Prop} (h0 : 0 ≤ k) (h1 : k < t.length) (hp : ∀ c ∈ t, p (.str [c])) : subA (.str t) (.int k) H p :=
  have hk : k.toNat < t.length := (Int.toNat_lt h0).mpr h1
  .str (.pos h0 h1) (by rw [List.drop_eq_getElem_cons hk]; exact hp _ (List.getElem_mem _))
theorem b_to {t : Txt} {j : Int} (h0 : 0 ≤ j) (k : Q (.str (t.take j.toNat)) H) : sliceA (.str t) .none (.int j) H Q := .str .none .int (by rw [cut_zero, take_clip _ h0]; exact k)
theorem b_from {t : Txt} {j : Int} (h0 : 0 ≤ j) (k : Q (.str (t.drop j.toNat)) H) : sliceA (.str t) (.int j) .none H Q := .str .int .none (by rw [cut_all, drop_clip _ h0]; exact k)
theorem b_lto {n : Nat} {xs : List V} {j : Int} (h : H[n]? = some (.list xs)) (h0 : 0 ≤ j) (k : Q (.ref H.length) (H ++ [.list (xs.take j.toNat)])) : sliceA (.ref n) .none (.int j) H Q := .list h .none .int (by rw [cut_zero, take_clip _ h0]; exact k)
theorem b_lfrom {n : Nat} {xs : List V} {j : Int} (h : H[n]? = some (.list xs)) (h0 : 0 ≤ j) (k : Q (.ref H.length) (H ++ [.list (xs.drop j.toNat)])) : sliceA (.ref n) (.int j) .none H Q := .list h .int .none (by rw [cut_all, drop_clip _ h0]; exact k)
theorem s_len {t : Txt} (k : Q (.int t.length) H) : spLen [.str t] H Q X := .str k
theorem s_lenl {n : Nat} {xs : List V} (h : H[n]? = some (.list xs)) (k : Q (.int xs.length) H) : spLen [.ref n] H Q X := .list h k
theorem s_append {n : Nat} {v : V} {xs : List V} (h0 : n ≠ 0) (h : H[n]? = some (.list xs)) (hl : xs.length < lid) (k : Q .none (H.set n (.list (xs ++ [v])))) : spAppend [.ref n, v] H Q X := ⟨n, v, xs, rfl, h0, h, hl, k⟩
theorem s_join {n : Nat} {ts : List Txt} (h : H[n]? = some (.list (ts.map .str))) (hl : (ts.map List.length).sum + ts.length ≤ lid) (k : Q (.str ts.flatten) H) : spJoin [.str [], .ref n] H Q X := ⟨n, ts, rfl, h, hl, k⟩
theorem i_list {c : Prop} {n : Nat} {xs : List V} {p : List Item → (AHeap → Prop) → Prop} (h : H[n]? = some (.list xs)) (k : p (xs.map .one) (fun H' => H'[n]? = some (.list xs))) : itemsA c (.ref n) H p := .list h k
theorem i_str {c : Prop} {t : Txt} {p : List Item → (AHeap → Prop) → Prop} (k : p (t.map fun c => .one (.str [c])) (fun _ => True)) : itemsA c (.str t) H p := .str k
theorem if_dec {p : Prop} [Decidable p] {A B : Prop} (h1 : p → A) (h0 : ¬ p → B) : if decide p = true then A else B := by
  by_cases h : p
  · rw [if_pos (by simpa using h)]; exact h1 h
  · rw [if_neg (by simpa using h)]; exact h0 h
theorem if_ndec {p : Prop} [Decidable p] {A B : Prop} (h1 : ¬ p → A) (h0 : p → B) : if (!decide p) = true then A else B := by
  by_cases h : p
  · rw [if_neg (by simpa using h)]; exact h0 h
  · rw [if_pos (by simpa using h)]; exact h1 h
theorem if_tt {A B : Prop} (k : A) : if true = true then A else B := k
theorem if_ff {A B : Prop} (k : B) : if false = true then A else B := k
theorem s_asg {x : Str} {e : PE} {b : PS} (k : (sem T e).ev σ H (fun v H1 => semS T b (σ.set x v) H1 P X) X) : semS T (.seq (.assign (.name x) e) b) σ H P X := k
theorem r_ret {e : PE} {b : PS} (k : (sem T e).ev σ H (fun v H1 => P (.ret v) σ H1) X) : semS T (.seq (.ret e) b) σ H P X := k
theorem r_raise {c : Str} {e : PE} {b : PS} (h : T.cls c = true) (k : (sem T e).ev σ H (fun _ H1 => X c H1) X) : semS T (.seq (.raise c e) b) σ H P X := ⟨h, k⟩
theorem s_exp {e : PE} {b : PS} (k : (sem T e).ev σ H (fun _ H1 => semS T b σ H1 P X) X) : semS T (.seq (.expr e) b) σ H P X := k
theorem s_ite {c : PE} {a b r : PS} (k : (sem T c).tt σ H (fun t H1 => if t then semS T a σ H1 (SQ T r P X) X else semS T b σ H1 (SQ T r P X) X) X) : semS T (.seq (.ite c a b) r) σ H P X := k
theorem r_for {t : Tgt} {it : PE} {b r : PS} (k : (sem T it).it σ H (fun items K H1 => forGo K (fun x H' σ' => bindA t x H' σ') (fun σ' H' q => semS T b σ' H' q fun _ _ => False) (SQ T r P X) items σ H1) X) : semS T (.seq (.for_ t it b) r) σ H P X := k
theorem s_set {o i e : PE} {b : PS} (k : (sem T e).ev σ H (fun v H1 => (sem T o).ev σ H1 (fun ov H2 => (sem T i).ev σ H2 (fun iv H3 => setItemA ov iv v H3 fun H4 => semS T b σ H4 P X) X) X) X) : semS T (.seq (.setItem o i e) b) σ H P X := k
theorem r_un4 {x a b c d : Str} {n : Nat} {u v w z : V} {r : PS} (hx : σ x = some (.ref n)) (hn : H[n]? = some (.tuple [u, v, w, z])) (k : semS T r ((((σ.set a u).set b v).set c w).set d z) H P X) : semS T (.seq (.assign (.tup [a, b, c, d]) (.name x)) r) σ H P X := by
  refine e_name (T := T) (X := X) (Q := fun v H1 => match bindA (.tup [a, b, c, d]) (.one v) H1 σ with | some σ' => semS T r σ' H1 P X | Option.none => False) hx ?_
  rw [bind_tup hn rfl]; exact k
theorem b_att {n k : Nat} {xs : List V} {v : V} {p : V → Prop} (h : H[n]? = some (.tuple xs)) (hv : xs[k]? = some v) (hp : p v) : subA (.ref n) (.int k) H p :=
  .tuple h (.pos (Int.natCast_nonneg k) (Int.ofNat_lt.mpr (List.getElem?_eq_some_iff.mp hv).1)) hv hp
theorem c_ind {n ep : Nat} {es : List (Txt × V)} {t : Txt} {r : Bool → Prop} (h : H[n]? = some (.dict es ep)) (k : r (es.any fun e => e.1 == t)) : cmpA .In (.str t) (.ref n) H r := .inD h k
theorem c_nind {n ep : Nat} {es : List (Txt × V)} {t : Txt} {r : Bool → Prop} (h : H[n]? = some (.dict es ep)) (k : r (!(es.any fun e => e.1 == t))) : cmpA .NotIn (.str t) (.ref n) H r := .ninD h k
theorem b_dget {n ep : Nat} {es : List (Txt × V)} {t : Txt} {e : Txt × V} {p : V → Prop} (h : H[n]? = some (.dict es ep)) (hf : es.find? (fun e => e.1 == t) = some e) (hp : p e.2) : subA (.ref n) (.str t) H p := .dict h hf hp
theorem b_dset {n ep : Nat} {es : List (Txt × V)} {t : Txt} {v : V} {p : AHeap → Prop} (hn : n ≠ 0) (h : H[n]? = some (.dict es ep)) (hl : es.length < lid) (hp : ∀ ep', p (H.set n (.dict (stA es t v) ep'))) : setItemA (.ref n) (.str t) v H p := .dict hn h hl hp
theorem e_dict0 (k : Q (.ref H.length) (H ++ [.dict [] 0])) : (sem T .dict0).ev σ H Q X := k
theorem r_while {c : PE} {b r : PS} (k : ∃ n, whileGo (fun σ' H' q => (sem T c).tt σ' H' q fun _ _ => False) (fun σ' H' q => semS T b σ' H' q fun _ _ => False) (SQ T r P X) n σ H) : semS T (.seq (.while_ c b) r) σ H P X := k
theorem s_skip (k : P .next σ H) : semS T .skip σ H P X := k
theorem sq_next {r : PS} (k : semS T r σ H P X) : SQ T r P X .next σ H := k
theorem sq_ret {r : PS} {v : V} (k : P (.ret v) σ H) : SQ T r P X (.ret v) σ H := k
theorem rq_ret {v : V} (k : Q v H) : RQ Q (.ret v) σ H := k
theorem lq_next (k : W σ H) : LQ W P .next σ H := k
theorem lq_ret {v : V} (k : P (.ret v) σ H) : LQ W P (.ret v) σ H := k
end
theorem ct1 {T : Tab} {x : Str} {ps : PS} {sp : Spec} (k : ∀ vs H Q X, sp vs H Q X → ∃ a, vs = [a] ∧ semS T ps (Sg.set (fun _ => none) x a) H (RQ Q) X) : Ct T [x] ps sp := fun vs H Q X h => by
  obtain ⟨a, rfl, k⟩ := k vs H Q X h; exact ⟨rfl, k⟩
theorem ct2 {T : Tab} {x y : Str} {ps : PS} {sp : Spec} (k : ∀ vs H Q X, sp vs H Q X → ∃ a b, vs = [a, b] ∧ semS T ps (Sg.set (Sg.set (fun _ => none) x a) y b) H (RQ Q) X) : Ct T [x, y] ps sp := fun vs H Q X h => by
  obtain ⟨a, b, rfl, k⟩ := k vs H Q X h; exact ⟨rfl, k⟩
theorem ct3 {T : Tab} {x y z : Str} {ps : PS} {sp : Spec} (k : ∀ vs H Q X, sp vs H Q X → ∃ a b c, vs = [a, b, c] ∧ semS T ps (Sg.set (Sg.set (Sg.set (fun _ => none) x a) y b) z c) H (RQ Q) X) : Ct T [x, y, z] ps sp := fun vs H Q X h => by
  obtain ⟨a, b, c, rfl, k⟩ := k vs H Q X h; exact ⟨rfl, k⟩
theorem for_inv {T : Tab} {X : XPost} {K : AHeap → Prop} {t : Tgt} {b r : PS} {P : SPost} (I : List Item → Sg → AHeap → Prop)
    (step : ∀ x xs σ H, I (x :: xs) σ H → K H ∧ ∃ σ', bindA t x H σ = some σ' ∧ ∀ W : Sg → AHeap → Prop, (∀ σ2 H2, I xs σ2 H2 → W σ2 H2) → semS T b σ' H (LQ W (SQ T r P X)) fun _ _ => False)
    (fin : ∀ σ H, I [] σ H → K H ∧ semS T r σ H P X) {items : List Item} {σ : Sg} {H : AHeap} (h : I items σ H) : forGo K (fun x H' σ' => bindA t x H' σ') (fun σ' H' q => semS T b σ' H' q fun _ _ => False) (SQ T r P X) items σ H :=
  for_ind I step fin items σ H h
theorem for_invN {T : Tab} {X : XPost} {K : AHeap → Prop} {t : Tgt} {b r : PS} {P : SPost} (I : List Item → Sg → AHeap → Prop)
    (step : ∀ x xs σ H, I (x :: xs) σ H → K H ∧ ∃ σ', bindA t x H σ = some σ' ∧ ∀ (W : Sg → AHeap → Prop) (P' : SPost), (∀ σ2 H2, I xs σ2 H2 → W σ2 H2) → semS T b σ' H (LQ W P') fun _ _ => False)
    (fin : ∀ σ H, I [] σ H → K H ∧ semS T r σ H P X) {items : List Item} {σ : Sg} {H : AHeap} (h : I items σ H) : forGo K (fun x H' σ' => bindA t x H' σ') (fun σ' H' q => semS T b σ' H' q fun _ _ => False) (SQ T r P X) items σ H :=
  for_inv I (fun x xs σ H h => by obtain ⟨a, σ', e, k⟩ := step x xs σ H h; exact ⟨a, σ', e, fun W hW => k W _ hW⟩) fin h
end Mine
end
section
namespace Mine
open PySem PySem.Calls PyProof.Rows
noncomputable def bmV : List Value := [.type "ValueError", .type "Exception", .type "BaseException", .type "object"]
noncomputable def exQuiet : List Str := ["__init__", "__getattribute__", "__getattr__", "__class__"]
inductive TailX (h : Heap) : List Value → Prop
  | base : TailX h bmV
  | own {A : Addr} {c0 : Value} {dd : Option Addr} {cd : ClassData} {sl : Array (Option Value)} {mA : Str → Option Value} {tl : List Value} :
      h.get? A = some { cls := c0, dict := dd, data := .cls cd, slots := sl } → h.Ns cd.ns mA → (∀ n ∈ exQuiet, mA n = none) → TailX h tl → TailX h (.ref A :: tl)
inductive OneX (h : Heap) (C : Addr) (bm : List Value) : Prop
  | mk (N : Addr) (nm q : Str) (bs : List Value) (hdct : Bool) (sn : List Str) (sub : List Value) (ab : Bool) (col : Option Bool) (dd : Option Addr) (k0 k1 k2 k3 k5 : Option Value) (newId : String) (mN : Str → Option Value) :
      h.get? C = some (excClassObj nm q C N bs bm hdct sn sub ab col dd k0 k1 k2 k3 k5 newId) → h.Ns N mN → (∀ n ∈ exQuiet, mN n = none) → OneX h C bm
noncomputable def ClsX (h : Heap) (C : Addr) (bm : List Value) : Prop := OneX h C bm ∧ TailX h bm
theorem TailX.keeps {h h' : Heap} {tl : List Value} (T : TailX h tl) (hk : ∀ b o, h.get? b = some o → h'.get? b = some o) : TailX h' tl := by
  induction T with
  | base => exact .base
  | own hA hN hq _ ih => exact .own (hk _ _ hA) (hN.keeps hk) hq ih
theorem ClsX.keeps {h h' : Heap} {C : Addr} {bm : List Value} (T : ClsX h C bm) (hk : ∀ b o, h.get? b = some o → h'.get? b = some o) : ClsX h' C bm := by
  obtain ⟨⟨N, nm, q, bs, hdct, sn, sub, ab, col, dd, k0, k1, k2, k3, k5, newId, mN, h1, h2, h3⟩, h4⟩ := T
  exact ⟨.mk _ _ _ _ _ _ _ _ _ _ _ _ _ _ _ _ _ (hk _ _ h1) (h2.keeps hk) h3, h4.keeps hk⟩
theorem TailX.has {h : Heap} {tl : List Value} (T : TailX h tl) {X : String} (hb : bmV.contains (.type X) = true) : tl.contains (.type X) = true := by
  induction T with
  | base => exact hb
  | own _ _ _ _ ih => rw [List.contains_cons, ih, Bool.or_true]
theorem lkV_class : typeLookup (.type "ValueError") "__class__" = pure (some (.builtin "object.__class__")) := by rw [typeLookup_type, builtinLookup_eq_fast]; kernel_rfl
section
variable {M : Model} {A : Around} {E : Value → Shared → Prop} {h : Heap} {g : Array GenState} {d : Drawn} {t : Nat} {os : OsState}
theorem along_tail {tl : List Value} {n : Str} {y : Option Value} {Q : Option Value → Shared → Prop} (hn : n ∈ exQuiet) (T : TailX h tl) (hrest : lookupAlong bmV n = pure y) (hq : Q y ⟨h, g, d, t, os⟩) :
    wpAny M A (lookupAlong tl n) Q E ⟨h, g, d, t, os⟩ := by
  induction T with
  | base => rw [hrest]; exact wpAny_pure hq
  | own hA hN hni _ ih =>
    rw [lookupAlong_cons]
    refine wpAny_bind (wpAny_classOwn_cls hA hN ?_)
    rw [hni n hn]
    exact ih
variable {nm q : Str} {C N : Addr} {bs bm : List Value} {hdct : Bool} {sn : List Str} {sub : List Value} {ab : Bool} {col : Option Bool} {dd : Option Addr} {k0 k1 k2 k3 k5 : Option Value} {newId : String} {mN : Str → Option Value}
theorem lookup_own {n : Str} {y : Option Value} {Q : Option Value → Shared → Prop} (hn : n ∈ exQuiet)
    (hC : h.get? C = some (excClassObj nm q C N bs bm hdct sn sub ab col dd k0 k1 k2 k3 k5 newId)) (hN : h.Ns N mN) (hmN : ∀ n ∈ exQuiet, mN n = none) (T : TailX h bm)
    (hB : typeLookup (.type "ValueError") n = pure y) (hq : Q y ⟨h, g, d, t, os⟩) : wpAny M A (typeLookup (.ref C) n) Q E ⟨h, g, d, t, os⟩ := by
  have hrest : lookupAlong bmV n = pure y := by rw [typeLookup_eq, F.attrBase_ValueError.mro] at hB; exact hB
  rw [typeLookup_eq]
  refine wpAny_bind (wpAny_mroOf_exc hC ?_)
  rw [lookupAlong_cons]
  refine wpAny_bind (wpAny_classOwn_exc hC hN ?_)
  rw [hmN n hn]
  exact along_tail hn T hrest hq
end
section
variable {prog : Program} {w : World} {A : Around} {E : Value → Shared → Prop} {h : Heap} {g : Array GenState} {d : Drawn} {t : Nat} {os : OsState} {a : Addr} {o : Obj} {nm q : Str} {C N : Addr} {bs bm : List Value} {hdct : Bool} {sn : List Str} {sub : List Value} {ab : Bool} {col : Option Bool} {dd : Option Addr} {k0 k1 k2 k3 k5 : Option Value} {newId : String} {mN : Str → Option Value}
theorem cls_get {R : Result → Shared → Prop} (hC : h.get? C = some (excClassObj nm q C N bs bm hdct sn sub ab col dd k0 k1 k2 k3 k5 newId)) (T : TailX h bm)
    (hx : h.get? a = some o) (hc : o.cls = .ref C) (hq : R (.ok (.ret (.ref C))) ⟨h, g, d, t, os⟩) :
    codeAny (model prog w) A (.call (.builtin "getset_descriptor.__get__") ⟨[.builtin "object.__class__", .ref a, .ref C], []⟩) R ⟨h, g, d, t, os⟩ := by
  have hT5 : (⟨h, g, d, t, os⟩ : Shared).TypeIs (.builtin "object.__class__") "getset_descriptor" := F.typeOf_object_class
  have hcB : (Value.ref C :: bm).contains (.type (".".intercalate ("object.__class__".cutAt '.').dropLast)) = true := by
    rw [F.owner_object_class, List.contains_cons, T.has rfl]; rfl
  refine codeAny_call_builtin F.slot_gs_get.plain F.entry_gs_get (F.slot_gs_get.check _ _ _ _ _ _ _ _ hT5 (F.args_gs_get _ _ _) ?_)
  repeat (any_goals (first | assumption | (with_reducible refine wpAny_loadPart_at hx ?_; rw [hc]) | (with_reducible refine wpAny_isSubtype_exc hC ?_; rw [hcB]) | wp_step))
  refine ⟨Code.quiet_builtin _ (by decide +kernel), codeAny_builtin F.entry_object_class ?_⟩
  repeat (any_goals (first | assumption | (with_reducible refine wpAny_loadPart_at hx ?_; rw [hc]) | wp_step))
theorem check_ga {nameV : Value} {Q : Unit → Shared → Prop} (hC : h.get? C = some (excClassObj nm q C N bs bm hdct sn sub ab col dd k0 k1 k2 k3 k5 newId)) (T : TailX h bm)
    (hx : h.get? a = some o) (hc : o.cls = .ref C) (hq : Q () ⟨h, g, d, t, os⟩) : wpAny (model prog w) A (checkBuiltinCall "BaseException.__getattribute__" ⟨[.ref a, nameV], []⟩) Q E ⟨h, g, d, t, os⟩ := by
  have hk : builtinKind "BaseException.__getattribute__" = some .slot := by decide +kernel
  have hsplit : splitId "BaseException.__getattribute__" = some ("BaseException", "__getattribute__") := by decide +kernel
  have hcB : (Value.ref C :: bm).contains (.type "BaseException") = true := by rw [List.contains_cons, T.has rfl]; rfl
  have ha := F.args_bexc_ga (.ref a) nameV
  simp only [checkBuiltinCall, hk, hsplit]
  refine wpAny_bind ?_
  · unfold isInstance
    repeat (first | (with_reducible refine wpAny_loadPart_at hx ?_; rw [hc]) | (with_reducible refine wpAny_isSubtype_exc hC ?_; rw [hcB]) | wp_step)
    exact hq
theorem cls_entry {tk : Tok} {Q : Fin → Shared → Prop} (hC : h.get? C = some (excClassObj nm q C N bs bm hdct sn sub ab col dd k0 k1 k2 k3 k5 newId)) (hN : h.Ns N mN)
    (hmN : ∀ n ∈ exQuiet, mN n = none) (T : TailX h bm) (hx : h.get? a = some o) (hc : o.cls = .ref C) (hq : Q (.done (.ret (.ref C))) ⟨h, g, d, t, os⟩) :
    wpAny (model prog w) A (Builtin.«object.__getattribute__» ⟨[.ref a, .str "__class__" tk], []⟩) Q E ⟨h, g, d, t, os⟩ := by
  have hT5 : (⟨h, g, d, t, os⟩ : Shared).TypeIs (.builtin "object.__class__") "getset_descriptor" := F.typeOf_object_class
  have f5 := F.typeOf_object_class
  have f6 := F.slot_gs_get.lookup
  have f7 := F.slot_gs_set.lookup
  have hmA : ("__class__" : Str) ∈ exQuiet := .tail _ (.tail _ (.tail _ (.head _)))
  repeat (any_goals (first | assumption | (with_reducible refine wpAny_loadPart_at hx ?_; rw [hc]) | with_reducible refine lookup_own hmA hC hN hmN T lkV_class ?_ | wp_step))
  refine cls_get hC T hx hc ?_
  repeat (any_goals (first | assumption | wp_step))
theorem cls_by {tk : Tok} {fill expr : Bool} {Q : Value → Shared → Prop} (hC : h.get? C = some (excClassObj nm q C N bs bm hdct sn sub ab col dd k0 k1 k2 k3 k5 newId)) (hN : h.Ns N mN)
    (hmN : ∀ n ∈ exQuiet, mN n = none) (T : TailX h bm) (hx : h.get? a = some o) (hc : o.cls = .ref C) (hq : Q (.ref C) ⟨h, g, d, t, os⟩) :
    wpAny (model prog w) A (getAttrBy (.ref a) (.str "__class__" tk) fill expr) Q E ⟨h, g, d, t, os⟩ := by
  have FB := F.attrBase_ValueError
  have f3 := FB.ga.bind (.ref a)
  have hx0 : (expr && onTheHeap (Value.builtin "BaseException.__getattribute__")) = false := by cases expr <;> rfl
  have hx2 : (Value.builtin "BaseException.__getattribute__" == Value.builtin "object.__getattribute__") = false := by decide +kernel
  have hx1 : (onTheHeap (Value.ref C) && Value.builtin "BaseException.__getattribute__" == Value.builtin "object.__getattribute__") = false := by rw [hx2]; rfl
  have hm1 : ("__getattribute__" : Str) ∈ exQuiet := .tail _ (.head _)
  have hm2 : ("__getattr__" : Str) ∈ exQuiet := .tail _ (.tail _ (.head _))
  repeat (any_goals (first | assumption | (with_reducible refine wpAny_loadPart_at hx ?_; rw [hc]) | with_reducible refine lookup_own hm1 hC hN hmN T FB.ga.lookup ?_ | with_reducible refine lookup_own hm2 hC hN hmN T FB.noGetattr ?_ | wp_step))
  refine codeAny_call_builtin FB.ga.plain F.entry_bexc_ga (check_ga hC T hx hc (cls_entry hC hN hmN T hx hc ?_))
  repeat (any_goals (first | assumption | wp_step))
theorem cls_attr {Q : Option Value → Shared → Prop} (hC : h.get? C = some (excClassObj nm q C N bs bm hdct sn sub ab col dd k0 k1 k2 k3 k5 newId)) (hN : h.Ns N mN)
    (hmN : ∀ n ∈ exQuiet, mN n = none) (T : TailX h bm) (hx : h.get? a = some o) (hc : o.cls = .ref C) (hq : Q (some (.ref C)) ⟨h, g, d, t + 1, os⟩) :
    wpAny (model prog w) A (getAttr? (.ref a) "__class__") Q E ⟨h, g, d, t, os⟩ := by
  unfold getAttr? getAttrBy?
  repeat (any_goals (first | assumption | with_reducible apply cls_by hC hN hmN T hx hc | wp_step))
theorem nested_own {D : Addr} {bd : List Value} {dep : Int} {tk : Tok} {Q : Fin → Shared → Prop} (hC : ClsX h C bm) (hD : ClsX h D bd) (hx : h.get? a = some o) (hc : o.cls = .ref C)
    (hq : ∀ t', Q (.done (.ret (.bool ((Value.ref C :: bm).contains (.ref D))))) ⟨h, g, d, t', os⟩) :
    wpAny (model prog w) A (Builtin.«isinstance.nested» ⟨[.ref a, .ref D, .int dep tk], []⟩) Q E ⟨h, g, d, t, os⟩ := by
  obtain ⟨⟨N, nm, q, bs, hdct, sn, sub, ab, col, dd, k0, k1, k2, k3, k5, newId, mN, hC, hN, hmN⟩, T⟩ := hC
  obtain ⟨⟨N', nm', q', bs', hdct', sn', sub', ab', col', dd', k0', k1', k2', k3', k5', newId', mN', hD, hN', hmN'⟩, T'⟩ := hD
  by_cases e : C = D
  · subst e
    have hq' : Q (.done (.ret (.bool true))) ⟨h, g, d, t, os⟩ := by
      have := hq t
      rwa [List.contains_cons, show (Value.ref C == Value.ref C) = true from beq_self_eq_true _, Bool.true_or] at this
    have hb : (Value.ref C == Value.ref C) = true := beq_self_eq_true _
    repeat (any_goals (first | assumption | (with_reducible refine wpAny_loadPart_at hx ?_; rw [hc]) | wp_step))
  · have hb : (Value.ref C == Value.ref D) = false := beq_eq_false_iff_ne.mpr fun z => e (Value.ref.inj z)
    cases v : (Value.ref C :: bm).contains (.ref D) with
    | true =>
      rw [v] at hq
      have hq' := hq t
      repeat (any_goals (first | assumption | (with_reducible refine wpAny_loadPart_at hx ?_; rw [hc]) | with_reducible refine wpAny_loadPart_at hD ?_ | (with_reducible refine wpAny_isSubtype_exc hC ?_; rw [v]) | wp_step))
    | false =>
      rw [v] at hq
      have hq' := hq (t + 1)
      repeat (any_goals (first | assumption | (with_reducible refine wpAny_loadPart_at hx ?_; rw [hc]) | with_reducible refine wpAny_loadPart_at hD ?_ | with_reducible refine wpAny_loadPart_at hC ?_ | (with_reducible refine wpAny_isSubtype_exc hC ?_; rw [v]) | with_reducible apply cls_attr hC hN hmN T hx hc | wp_step))
theorem nested_val {dep : Int} {tk : Tok} {Q : Fin → Shared → Prop} (hC : ClsX h C bm) (hx : h.get? a = some o) (hc : o.cls = .ref C)
    (hq : Q (.done (.ret (.bool true))) ⟨h, g, d, t, os⟩) : wpAny (model prog w) A (Builtin.«isinstance.nested» ⟨[.ref a, .type "ValueError", .int dep tk], []⟩) Q E ⟨h, g, d, t, os⟩ := by
  obtain ⟨⟨N, nm, q, bs, hdct, sn, sub, ab, col, dd, k0, k1, k2, k3, k5, newId, mN, hC, hN, hmN⟩, T⟩ := hC
  have v : (Value.ref C :: bm).contains (.type "ValueError") = true := by rw [List.contains_cons, T.has rfl, Bool.or_true]
  have hb : (Value.ref C == Value.type "ValueError") = false := rfl
  have hty : typeOf (.type "ValueError") = pure (.type "type") := by kernel_rfl
  repeat (any_goals (first | assumption | (with_reducible refine wpAny_loadPart_at hx ?_; rw [hc]) | (with_reducible refine wpAny_isSubtype_exc hC ?_; rw [v]) | wp_step))
end
section
variable {prog : Program} {w : World} {A : Around} {E : Value → Shared → Prop} {s : Shared} {a C D : Addr} {o : Obj} {bm bd : List Value}
theorem isi_own {Q : Value → Shared → Prop} (hC : ClsX s.heap C bm) (hD : ClsX s.heap D bd) (hx : s.heap.get? a = some o) (hc : o.cls = .ref C) (hq : ∀ t', Q (.bool ((Value.ref C :: bm).contains (.ref D))) { s with toks := t' }) :
    wpAny (model prog w) A (call (.builtin "isinstance") [.ref a, .ref D]) Q E s :=
  call_isinstance (S := fun _ R s => (ClsX s.heap C bm ∧ ClsX s.heap D bd ∧ s.heap.get? a = some o) ∧ ∀ t', R (.ok (.ret (.bool ((Value.ref C :: bm).contains (.ref D))))) { s with toks := t' })
    (fun _ _ _ _ s hs => by obtain ⟨hp, g, d, t, os⟩ := s; exact isinstance_outer (nested_own hs.1.1 hs.1.2.1 hs.1.2.2 hc hs.2) (by intro q; cases q)) ⟨⟨hC, hD, hx⟩, hq⟩
theorem isi_val {Q : Value → Shared → Prop} (hC : ClsX s.heap C bm) (hx : s.heap.get? a = some o) (hc : o.cls = .ref C) (hq : Q (.bool true) s) :
    wpAny (model prog w) A (call (.builtin "isinstance") [.ref a, .type "ValueError"]) Q E s :=
  call_isinstance (S := fun _ R s => (ClsX s.heap C bm ∧ s.heap.get? a = some o) ∧ R (.ok (.ret (.bool true))) s)
    (fun _ _ _ _ s hs => by obtain ⟨hp, g, d, t, os⟩ := s; exact isinstance_outer (nested_val hs.1.1 hs.1.2 hc hs.2) (by intro q; cases q)) ⟨⟨hC, hx⟩, hq⟩
theorem matches_own {M : Model} {Q : Bool → Shared → Prop} (hC : ClsX s.heap C bm) (hD : ClsX s.heap D bd) (hx : s.heap.get? a = some o) (hc : o.cls = .ref C) (hin : (Value.ref C :: bm).contains (.ref D) = true) (hq : Q true s) :
    wpAny M A (excMatches (.ref a) (.ref D)) Q E s := by
  obtain ⟨h, g, d, t, os⟩ := s
  obtain ⟨⟨N, nm, q, bs, hdct, sn, sub, ab, col, dd, k0, k1, k2, k3, k5, newId, mN, hC, hN, hmN⟩, T⟩ := hC
  obtain ⟨⟨N', nm', q', bs', hdct', sn', sub', ab', col', dd', k0', k1', k2', k3', k5', newId', mN', hD, hN', hmN'⟩, T'⟩ := hD
  have hcB : (Value.ref D :: bd).contains (.type "BaseException") = true := by rw [List.contains_cons, T'.has rfl, Bool.or_true]
  have f := tc_notTuple
  unfold excMatches
  repeat (first | (with_reducible refine wpAny_loadPart_at hx ?_; rw [hc]) | with_reducible refine wpAny_loadPart_at hD ?_ | (with_reducible refine wpAny_isSubtype_exc hD ?_; rw [hcB]) | (with_reducible refine wpAny_isSubtype_exc hC ?_; rw [hin]) | wp_step)
  exact hq
end
end Mine
end
section
namespace Mine
open PySem PySem.Calls PyProof.Rows
noncomputable def only (h : Heap) (p : Addr → Bool) : Heap := ⟨h.objs.mapIdx fun i o => if p i then o else { o with data := .freed }, h.life⟩
theorem only_get (h : Heap) (p : Addr → Bool) (b : Addr) : (only h p).get? b = if p b then h.get? b else none := by
  unfold only Heap.get?
  rw [Array.getElem?_mapIdx]
  cases h.objs[b]? with
  | none => simp
  | some o =>
    dsimp only [Option.map]
    cases p b with
    | true => rfl
    | false => rfl
section
variable {C : Cx}
noncomputable def handOnly (C : Cx) (a b : Addr) : Bool := (C.base.get? b).isSome || Nat.beq b a
theorem hand_old {s : Shared} (S : ∀ b o, C.base.get? b = some o → s.heap.get? b = some o) (a : Addr) : ∀ b o, C.base.get? b = some o → (only s.heap (handOnly C a)).get? b = some o := fun b o e => by
  rw [only_get, if_pos (by unfold handOnly; rw [e]; rfl)]; exact S b o e
theorem hand_back {s : Shared} (a : Addr) : ∀ b o, (only s.heap (handOnly C a)).get? b = some o → s.heap.get? b = some o ∧ (b = a ∨ ∃ o', C.base.get? b = some o') := fun b o e => by
  rw [only_get] at e
  split at e
  · rename_i h
    refine ⟨e, ?_⟩
    rcases Bool.or_eq_true_iff.mp h with h | h
    · exact .inr (Option.isSome_iff_exists.mp h)
    · exact .inl (Nat.eq_of_beq_eq_true h)
  · cases e
theorem hand_at {s : Shared} {a : Addr} {o : Obj} (ho : s.heap.get? a = some o) : (only s.heap (handOnly C a)).get? a = some o := by rw [only_get, if_pos (by unfold handOnly; rw [Nat.beq_refl, Bool.or_true])]; exact ho
noncomputable def Cx.hand (C : Cx) (s : Shared) (S : ∀ b o, C.base.get? b = some o → s.heap.get? b = some o) (a : Addr) : Cx := { C with
  base := only s.heap (handOnly C a)
  hg := C.hg.keeps (hand_old S a)
  hb := C.hb.keeps (hand_old S a)
  lim := C.lim.keeps (hand_old S a)
  calm := False }
theorem hev_ok {K : Nat} {Th : Str → Nat → Tab} {P : Str → Prop}
    (hK : ∀ k a s (S : ∀ b o, C.base.get? b = some o → s.heap.get? b = some o), P k → (∃ kk o, C.G k = some (.ref kk) ∧ s.heap.get? a = some o ∧ o.cls = .ref kk) → TabOk (C.hand s S a) (Th k a) K) :
    ∀ k a pe σ H Q, P k ∧ (sem (Th k a) pe).ev σ H Q (fun _ _ => False) → ∀ fs env e ρ s A, trE 60 env.kindOf e = some pe → FR (C.at fs) env σ ρ s.heap → Sim (C.at fs) ρ H s → A.handled = some (.ref a) → A.depth + K < recursionLimit → A.units + 5 * K + 200 < cLine →
      A.frames = some fs → XIs C ρ k a s.heap → wpAny C.M A (eval e env) (PV (C.at fs) ρ s Q) (fun _ _ => False) s := by
  intro k a pe σ H Q h fs env e ρ s A htr F S hA h1 h2 h3 hX
  obtain ⟨hPk, h⟩ := h
  obtain ⟨kk, o, vs, hG, ha1, ha2, ho, hcl, hd, hv2⟩ := hX
  have T' : TabOk ((C.hand s S.stays a).at fs) (Th k a) K := (hK k a s S.stays hPk ⟨kk, o, hG, ho, hcl⟩).at fs
  have out : ∀ b, C.base.get? b = none → (∀ ob, s.heap.get? b = some ob → ∀ ws, ob.data ≠ .fields ws) → (only s.heap (handOnly C a)).get? b = none := fun b hb hn => by
    cases q : (only s.heap (handOnly C a)).get? b with
    | none => rfl
    | some ob =>
      obtain ⟨z1, z2⟩ := hand_back a b ob q
      rcases z2 with rfl | ⟨o', z2⟩
      · rw [ho] at z1; cases z1; exact absurd hd (hn _ ho _)
      · rw [hb] at z2; cases z2
  have out2 : ∀ b, C.base.get? b = none → b ≠ a → (only s.heap (handOnly C a)).get? b = none := fun b hb hn => by
    cases q : (only s.heap (handOnly C a)).get? b with
    | none => rfl
    | some ob =>
      obtain ⟨z1, z2⟩ := hand_back a b ob q
      rcases z2 with rfl | ⟨o', z2⟩
      · exact absurd rfl hn
      · rw [hb] at z2; cases z2
  have S' : Sim ((C.hand s S.stays a).at fs) ρ H s := ⟨S.len, S.nodup, S.obj, fun b ob q => (hand_back a b ob q).1, fun i b e hi => out2 b (S.fresh i b e hi) fun q => ha1 (q ▸ List.mem_of_getElem? e), S.sm, S.gens, S.os, fun en he => by
    obtain ⟨x1, L, ob, x2, x3, x4, x5, es, ep, x6⟩ := S.frs en he
    exact ⟨x1, L, ob, x2, out L x3 fun ob' q ws => (by rw [x5] at q; cases q; rw [x6]; exact fun z => nomatch z), x4, x5, es, ep, x6⟩⟩
  have hbL : (only s.heap (handOnly C a)).get? env.locals = none := by
    obtain ⟨m, ⟨ob, es, ep, x5, x6, _⟩, _⟩ := F.ns
    exact out _ F.bL fun ob' q ws => by rw [x5] at q; cases q; rw [x6]; exact fun z => (nomatch z)
  have hbC : ∀ x c, env.cells.lookup x = some c → (only s.heap (handOnly C a)).get? c = none := fun x c hc => by
    obtain ⟨ov, ⟨ob, x5, x6⟩, _⟩ := F.cells x c hc
    exact out _ (F.bC x c hc) fun ob' q ws => by rw [x5] at q; cases q; rw [x6]; exact fun z => (nomatch z)
  have F' : FR ((C.hand s S.stays a).at fs) env σ ρ s.heap := ⟨F.dot, F.kind, F.glob, F.bl, F.ns, F.cells, F.has, F.nL, F.nC, F.apart, hbL, hbC⟩
  have ha' : (only s.heap (handOnly C a)).get? a = some o := hand_at ho
  have A' : AOk ((C.hand s S.stays a).at fs) K A := ⟨.inr ⟨a, hA, o, vs, kk, ha', hcl, hd, hv2⟩, fun z => z.elim, h1, h2, h3⟩
  refine wpAny_mono ((tr_ok T' 60 _ e pe htr env rfl).1 F' S' A' h fun e s' p => p.no) (fun u s' p => ?_) fun _ _ x => x
  obtain ⟨ρ', H', v, st, S2, hv, hq⟩ := p
  refine ⟨ρ', H', v, st, ⟨S2.len, S2.nodup, S2.obj, fun b ob q => S2.stays b ob (hand_old S.stays a b ob q), fun i b e hi => ?_, S2.sm, S2.gens, S2.os, fun en he => ?_⟩, hv, hq⟩
  · show C.base.get? b = none
    cases q : C.base.get? b with
    | none => rfl
    | some ob => have z := S2.fresh i b e hi; rw [show ((C.hand s S.stays a).at fs).base.get? b = some ob from hand_old S.stays a b ob q] at z; cases z
  · obtain ⟨x1, L, ob, x2, x3, x4⟩ := S2.frs en he
    refine ⟨x1, L, ob, x2, ?_, x4⟩
    show C.base.get? L = none
    cases q : C.base.get? L with
    | none => rfl
    | some ob' => rw [show ((C.hand s S.stays a).at fs).base.get? L = some ob' from hand_old S.stays a L ob' q] at x3; cases x3
theorem DefAt.hand {f : Str} {xs : List Str} {ps : PS} (d : DefAt C f xs ps) {s : Shared} (S : ∀ b o, C.base.get? b = some o → s.heap.get? b = some o) (a : Addr) : DefAt (C.hand s S a) f xs ps := by
  obtain ⟨fa, o, name, params, body, sc, pm, cd, doc, h1, h2, h3, h4, h5, h6, h7⟩ := d
  exact ⟨fa, o, name, params, body, sc, pm, cd, doc, h1, hand_old S a _ _ h2, h3, h4.keeps (hand_old S a), h5, h6, h7⟩
noncomputable def exL : List Nat := [447668609953986, 228276934, 443751641723074, 27321334740, 57362821026756558, 64623894148134862, 4014120237006, 487352530710722, 7484321937891833806]
structure ExAt (C : Cx) (ad : Nat → Addr) : Prop where
  g : ∀ n ∈ exL, C.G (nm n) = some (.ref (ad n))
  c : ∀ n ∈ exL, ClsX C.base (ad n) (.ref (ad 8277558478201501635) :: bmV)
  gc : C.G (nm 8277558478201501635) = some (.ref (ad 8277558478201501635))
  cc : ClsX C.base (ad 8277558478201501635) bmV
  inj : ∀ n ∈ exL, ∀ m ∈ exL, ad n = ad m → n = m
  nc : ∀ n ∈ exL, ad n ≠ ad 8277558478201501635
theorem ExAt.hand {ad : Nat → Addr} (x : ExAt C ad) {s : Shared} (S : ∀ b o, C.base.get? b = some o → s.heap.get? b = some o) (a : Addr) : ExAt (C.hand s S a) ad :=
  ⟨x.g, fun n hn => (x.c n hn).keeps (hand_old S a), x.gc, x.cc.keeps (hand_old S a), x.inj, x.nc⟩
theorem ExAt.at {ad : Nat → Addr} (x : ExAt C ad) (fs : List Env) : ExAt (C.at fs) ad := ⟨x.g, x.c, x.gc, x.cc, x.inj, x.nc⟩
theorem ExAt.caught {ad : Nat → Addr} (x : ExAt C ad) {n : Nat} (hn : n ∈ exL) : Caught C (nm n) (nm 8277558478201501635) := by
  refine ⟨_, x.gc, fun kk s a o A Q E hG hk ho hc hq => ?_⟩
  rw [x.g n hn] at hG; cases hG
  exact matches_own ((x.c n hn).keeps hk) (x.cc.keeps hk) ho hc (by simp) hq
inductive IsiE (k : Nat) (a : Nat) (H : AHeap) (Q : VPost) : List V → Prop
  | own {n : Nat} {b : Bool} : n ∈ exL → Nat.beq k n = b → Q (.bool b) H → IsiE k a H Q [.exc a, .glob (nm n)]
  | val : Q (.bool true) H → IsiE k a H Q [.exc a, .glob (nm 1059527485209827815638)]
noncomputable def spIsiE (k a : Nat) : Spec := fun vs H Q _ => IsiE k a H Q vs
theorem ok_isiE {K : Nat} {ad : Nat → Addr} (x : ExAt C ad) (hv : C.G (nm 1059527485209827815638) = some (.type "ValueError")) {k : Nat} (hk : k ∈ exL) {a : Nat} {o : Obj} (ho : C.base.get? a = some o) (hc : o.cls = .ref (ad k)) : Call1 C K (spIsiE k a) (.builtin "isinstance") := by
  intro vs H Q X h ρ s us A E S hus hA hE
  cases h with
  | @own n b hn hb hq =>
    subst hb
    obtain ⟨u, w, rfl, hu, hw⟩ := all2_two hus
    cases hu
    have hw : C.G (nm n) = some w := hw
    rw [x.g n hn] at hw; cases hw
    refine isi_own ((x.c k hk).keeps S.stays) ((x.c n hn).keeps S.stays) (S.stays _ _ ho) hc fun t' => ?_
    have e : (Value.ref (ad k) :: Value.ref (ad 8277558478201501635) :: bmV).contains (.ref (ad n)) = Nat.beq k n := by
      rw [List.contains_cons, List.contains_cons, show bmV.contains (.ref (ad n)) = false from rfl, show (Value.ref (ad n) == Value.ref (ad 8277558478201501635)) = false from beq_eq_false_iff_ne.mpr fun q => x.nc n hn (Value.ref.inj q), Bool.or_false, Bool.or_false]
      cases q : Nat.beq k n with
      | true => rw [Nat.eq_of_beq_eq_true q]; exact beq_self_eq_true _
      | false => exact beq_eq_false_iff_ne.mpr fun z => Nat.ne_of_beq_eq_false q (x.inj k hk n hn (Value.ref.inj z).symm)
    rw [e]
    exact ⟨ρ, H, _, StepG.toks t', S.toks t', vb _, hq⟩
  | val hq =>
    obtain ⟨u, w, rfl, hu, hw⟩ := all2_two hus
    cases hu
    have hw : C.G (nm 1059527485209827815638) = some w := hw
    rw [hv] at hw; cases hw
    exact isi_val ((x.c k hk).keeps S.stays) (S.stays _ _ ho) hc (here0 S (vb _) hq)
end
end Mine
end
section
namespace Mine
open PySem PySem.Calls PyProof.Rows PySem.W
noncomputable def gOf (mg mb : Str → Option Value) : Str → Option Value := fun x => match mg x with
  | some .none => none
  | some v => some v
  | none => (match mb x with
    | some .none => none
    | r => r)
theorem gOf_none {mg mb : Str → Option Value} (x : Str) : gOf mg mb x ≠ some .none := by
  unfold gOf
  cases mg x with
  | none =>
    dsimp only
    cases mb x with
    | none => exact fun h => nomatch h
    | some v => cases v <;> exact fun h => nomatch h
  | some v => cases v <;> exact fun h => nomatch h
theorem gOf_is {mg mb : Str → Option Value} (x : Str) (v : Value) (h : gOf mg mb x = some v) : mg x = some v ∨ (mg x = none ∧ mb x = some v) := by
  unfold gOf at h
  cases e : mg x with
  | none =>
    rw [e] at h
    dsimp only at h
    right
    refine ⟨rfl, ?_⟩
    cases e2 : mb x with
    | none => rw [e2] at h; cases h
    | some u => rw [e2] at h; cases u <;> first | exact h | cases h
  | some u =>
    rw [e] at h
    left
    cases u <;> first | exact h | cases h
noncomputable def cxOf (prog : Program) (w : World) (s : Shared) {p : Program} {loose : List Str} {mean : ExcName → Option Value} {mg mb : Str → Option Value} (T : Top p loose mean mg mb s.heap) : Cx where
  prog := prog
  w := w
  base := s.heap
  os := s.os
  G := gOf mg mb
  mg := mg
  mb := mb
  hg := T.g
  hb := T.b
  lim := T.nolimit
  hN := gOf_none
  hG := gOf_is
  frs := []
  calm := True
noncomputable def chk (ds : List DefRec) (f : Str) : Option (List Str × PS) := match ds.find? (fun d => d.name == f) with
  | some d => if goodDef d.params d.scope then (trS 60 (fun x => d.scope.names.lookup x) d.body).map fun ps => (d.params.args.map (·.arg), ps) else none
  | none => none
section
variable {prog : Program} {w : World} {s : Shared} {p : Program} {loose : List Str} {mean : ExcName → Option Value} {mg mb : Str → Option Value} (T : Top p loose mean mg mb s.heap)
theorem defAt_of {f : Str} {xs : List Str} {ps : PS} (h : chk (recsOf p) f = some (xs, ps)) : DefAt (cxOf prog w s T) f xs ps ∧ ∃ a, mg f = some (.ref a) := by
  unfold chk at h
  split at h
  · rename_i d hd
    split at h
    · rename_i hg
      cases ht : trS 60 (fun x => d.scope.names.lookup x) d.body with
      | none => rw [ht] at h; cases h
      | some ps' =>
        rw [ht] at h
        cases h
        have hn : d.name = f := beq_iff_eq.mp (List.find?_some (p := fun e : DefRec => e.name == f) hd)
        obtain ⟨a, o, pm, code, doc, h1, h2, h3, h4⟩ := T.fn d (List.mem_of_find?_eq_some hd)
        rw [hn] at h1
        refine ⟨⟨a, o, d.name, d.params, d.body, d.scope, pm, code, doc, ?_, h2, h3, h4, hg, ht, rfl⟩, a, h1⟩
        show gOf mg mb f = some (.ref a)
        unfold gOf
        rw [h1]
    · cases h
  · cases h
theorem boot_bi : ∀ p ∈ biL, bootBuiltins p.1 = some p.2 := by
  intro p hp
  simp only [biL, List.mem_cons, List.not_mem_nil, or_false] at hp
  rcases hp with rfl | rfl | rfl | rfl | rfl | rfl | rfl | rfl | rfl | rfl | rfl | rfl | rfl | rfl | rfl | rfl | rfl <;> kernel_rfl
noncomputable def freeOf (p : Program) (loose : List Str) (x : Str) : Bool := !startupNames.contains x && !loose.contains x && !((recsOf p).map (·.name)).contains x && !((litsOf p).map (·.1)).contains x && !((clssOf p loose).map (·.name)).contains x && x != Str.ofString "__name__"
theorem bi_of (h : (biL.all fun q => freeOf p loose q.1) = true) : ∀ q ∈ biL, (cxOf prog w s T).G q.1 = some q.2 := by
  intro q hq
  have hf := List.all_eq_true.mp h q hq
  unfold freeOf at hf
  simp only [Bool.and_eq_true, Bool.not_eq_true', List.contains_eq_mem, decide_eq_false_iff_not, bne_iff_ne] at hf
  obtain ⟨⟨⟨⟨⟨h1, h2⟩, h3⟩, h4⟩, h5⟩, h6⟩ := hf
  have hm := T.free q.1 h1 h2 h3 h4 h5
  have hb := (T.builtins q.1 h6).trans (boot_bi q hq)
  show gOf mg mb q.1 = some q.2
  unfold gOf
  rw [hm, hb]
  simp only [biL, List.mem_cons, List.not_mem_nil, or_false] at hq
  rcases hq with rfl | rfl | rfl | rfl | rfl | rfl | rfl | rfl | rfl | rfl | rfl | rfl | rfl | rfl | rfl | rfl | rfl <;> rfl
theorem ints_vr {C : Cx} {ρ : List Addr} : ∀ {vs : List Value} {ns : List Int}, IntsAre vs ns → All2 (VR C ρ) (ns.map .int) vs
  | _, _, .nil => .nil
  | _, _, .cons i t h => .cons ⟨t, rfl⟩ (ints_vr h)
theorem start_sim {l : Addr} {vs : List Value} {ns : List Int} {P : Params} (hw : Well P s.heap (.ref l) (ofPy (.list (ns.map .int)))) (hL : s.heap.IsList l vs.toArray) (hI : IntsAre vs ns) (hlen : ns.length ≤ 63) (hl : l ≠ sysModules) (hg : s.gens = #[]) :
    Sim (cxOf prog w s T) [l] [.list (ns.map .int)] s := by
  refine ⟨rfl, by simp, fun i a o e q => ?_, fun b o e => e, fun i a e hi => ?_, by simpa using Ne.symm hl, hg, rfl, fun _ h => nomatch h⟩
  · cases i with
    | zero =>
      simp at e q
      subst e q
      cases hw with
      | list ho _ =>
        obtain ⟨o', ho', _, n, hd⟩ := hL
        rw [ho] at ho'
        cases ho'
        simp only at hd
        injection hd with e1 e2
        refine ⟨_, _, ho, ?_, by simpa [lid] using Nat.le_trans hlen (by decide)⟩
        rw [e1]
        exact ints_vr hI
    | succ i => cases e
  · cases i with
    | zero => exact absurd rfl hi
    | succ i => cases e
theorem end_good {prog : Program} {c : ClaimW} {cl : Str → Option Addr} {mean' : ExcName → Option Value} {args : List WData} {ρ : List Addr} {u : Value} {s' : Shared} (hr : ∀ cls, c.raises args cls = false) (hp : c.post args (.bool true) args = true)
    (h : PV (cxOf prog w s T) ρ s (fun v _ => v = .bool true) u s') : GoodW c cl mean' args s (.ok (.ret u)) s' := by
  obtain ⟨ρ', H', v, st, S, hv, rfl⟩ := h
  have hv : u = .bool true := hv
  subst hv
  exact ⟨.inl ⟨_, .bool true, [], rfl, hr, .bool true, hp, fun _ => ⟨by simp, fun a ha => by cases ha⟩⟩, fun b o e => S.stays b o e, S.os, S.gens⟩
theorem law_done {prog : Program} {Tb : Tab} {K : Nat} {f : Str} {xs : List Str} {ps : PS} {fa l : Addr} {vs : List Value} {ns : List Int} {P : Params} {c : ClaimW} {cl : Str → Option Addr} {mean' : ExcName → Option Value} {args : List WData}
    (hT : TabOk (cxOf prog w s T) Tb K) (hK : K ≤ 200) (hd : chk (recsOf p) f = some (xs, ps)) (hct : Ct Tb xs ps spLaw) (hmg : mg f = some (.ref fa))
    (hw : Well P s.heap (.ref l) (ofPy (.list (ns.map .int)))) (hL : s.heap.IsList l vs.toArray) (hI : IntsAre vs ns) (hlen : ns.length ≤ 63) (hl : l ≠ sysModules) (hg : s.gens = #[])
    (hr : ∀ cls, c.raises args cls = false) (hp : c.post args (.bool true) args = true) : codeAny (model prog w) callerA (.call (.ref fa) ⟨[.ref l], []⟩) (GoodWG c cl mean' args s) s := by
  have S := start_sim (prog := prog) (w := w) T hw hL hI hlen hl hg
  obtain ⟨⟨a, o, name, params, body, sc, pm, cd, doc, h1, h2, h3, h4, h5, h6, rfl⟩, a', ha'⟩ := defAt_of (prog := prog) (w := w) T hd
  rw [hmg] at ha'
  cases ha'
  have e : fa = a := by
    have h1 : gOf mg mb f = some (.ref a) := h1
    unfold gOf at h1
    rw [hmg] at h1
    cases h1; rfl
  subst e
  have hA : AOk (cxOf prog w s T) (K + 1) callerA := ⟨.inl rfl, fun _ => rfl, by show 301 + (K + 1) < 1000; lia, by show 4 + 5 * (K + 1) + 200 < 9900; lia, rfl⟩
  refine codeAny_mono (fn_code (C := cxOf prog w s T) (E := fun _ _ => False) hT h2 h3 h4 h5 h6 (vs := [.ref 0]) (Q := fun v _ => v = .bool true) (X := fun _ _ => False) (hct _ _ _ _ ⟨rfl, ⟨ns, rfl⟩, fun _ => rfl⟩) S (.cons ⟨l, rfl, rfl⟩ .nil) hA fun _ _ p => p.no) ?_
  intro r s' h
  match r, h with
  | .ok (.ret v), h => exact GoodW.toG (end_good T hr hp h)
end
end Mine
end
section
namespace Mine
open PySem PySem.Calls PyProof.Rows PySem.W
noncomputable def exOk1 (h : Heap) (x : Str) (ch : List Str) : Bool := match h.clsAt mainGlobals x with
  | some (_, _, cd) => h.ownExcOk x ch bmV "ValueError.__new__" && exQuiet.all fun n => (h.nsMap cd.ns n).isNone
  | none => false
noncomputable def adr (h : Heap) (n : Nat) : Addr := match h.nsMap mainGlobals (nm n) with
  | some (.ref a) => a
  | _ => 0
noncomputable def exOk (h : Heap) : Bool := h.isNs mainGlobals && exOk1 h (nm 8277558478201501635) [] && (exL.all fun n => exOk1 h (nm n) [(nm 8277558478201501635)]) && decide ((exL.map (adr h)).Nodup) && exL.all fun n => !Nat.beq (adr h n) (adr h 8277558478201501635)
noncomputable def ExS (h : Heap) : Prop := ∃ (mg : Str → Option Value) (ad : Nat → Addr), h.Ns mainGlobals mg ∧ (∀ n ∈ exL, mg (nm n) = some (.ref (ad n)) ∧ ClsX h (ad n) (.ref (ad 8277558478201501635) :: bmV)) ∧ mg (nm 8277558478201501635) = some (.ref (ad 8277558478201501635)) ∧ ClsX h (ad 8277558478201501635) bmV ∧
  (∀ n ∈ exL, ∀ m ∈ exL, ad n = ad m → n = m) ∧ ∀ n ∈ exL, ad n ≠ ad 8277558478201501635
theorem ex1_of {h : Heap} {x : Str} {ch : List Str} (e : exOk1 h x ch = true) : ∃ C, h.nsMap mainGlobals x = some (.ref C) ∧ OneX h C ((ch.map fun n => (h.nsMap mainGlobals n).getD .none) ++ bmV) := by
  unfold exOk1 at e
  cases hf : h.clsAt mainGlobals x with
  | none => rw [hf] at e; cases e
  | some z =>
    rw [hf] at e
    obtain ⟨e1, e2⟩ := Bool.and_eq_true_iff.mp e
    obtain ⟨hn', ho', hd'⟩ := Heap.clsAt_spec hf
    obtain ⟨C, N, nm, q, bs, hdct, sn, sub, ab, col, dd, k0, k1, k2, k3, k5, hb, hC, hN, _⟩ := Heap.ownExc_of_ok e1
    refine ⟨C, hb, .mk _ _ _ _ _ _ _ _ _ _ _ _ _ _ _ _ _ hC hN fun n hn => ?_⟩
    have eC := hb.symm.trans hn'
    injection eC with eC
    injection eC with eC
    rw [← eC, hC] at ho'
    rw [← Option.some.inj ho'] at hd'
    injection hd' with hd'
    rw [← hd'] at e2
    exact Option.isNone_iff_eq_none.mp (List.all_eq_true.mp e2 n hn)
theorem adr_is {h : Heap} {n : Nat} {a : Addr} (e : h.nsMap mainGlobals (nm n) = some (.ref a)) : adr h n = a := by unfold adr; rw [e]
theorem ex_of {h : Heap} (e : exOk h = true) : ExS h := by
  unfold exOk at e
  obtain ⟨e, e5⟩ := Bool.and_eq_true_iff.mp e
  obtain ⟨e, e4⟩ := Bool.and_eq_true_iff.mp e
  obtain ⟨e, e3⟩ := Bool.and_eq_true_iff.mp e
  obtain ⟨e1, e2⟩ := Bool.and_eq_true_iff.mp e
  obtain ⟨C, hb, hC⟩ := ex1_of e2
  have eC := adr_is hb
  have cC : ClsX h C bmV := ⟨hC, .base⟩
  refine ⟨h.nsMap mainGlobals, adr h, .of_isNs e1, fun n hn => ?_, by rw [eC]; exact hb, by rw [eC]; exact cC, fun n hn m hm q => ?_, fun n hn q => ?_⟩
  · obtain ⟨C2, hb2, hC2⟩ := ex1_of (List.all_eq_true.mp e3 n hn)
    rw [adr_is hb2, eC]
    have em : ([(nm 8277558478201501635)].map fun n => (h.nsMap mainGlobals n).getD .none) ++ bmV = .ref C :: bmV := by
      rw [List.map_cons, hb]; rfl
    rw [em] at hC2
    obtain ⟨_, _, _, _, _, _, _, _, _, _, _, _, _, _, _, _, _, hC1, hN1, hq1⟩ := hC
    exact ⟨hb2, hC2, .own hC1 hN1 hq1 .base⟩
  · have hnd := of_decide_eq_true e4
    have go : ∀ (l : List Nat), (l.map (adr h)).Nodup → n ∈ l → m ∈ l → n = m := by
      intro l
      induction l with
      | nil => intro _ h; cases h
      | cons x r ih =>
        intro hd h1 h2
        rw [List.map_cons, List.nodup_cons] at hd
        cases h1 with
        | head =>
          cases h2 with
          | head => rfl
          | tail _ h2 => exact absurd (q ▸ List.mem_map_of_mem h2) hd.1
        | tail _ h1 =>
          cases h2 with
          | head => exact absurd (q ▸ List.mem_map_of_mem h1) hd.1
          | tail _ h2 => exact ih hd.2 h1 h2
    exact go exL hnd hn hm
  · have := List.all_eq_true.mp e5 n hn
    rw [q, Nat.beq_refl] at this; cases this
theorem ExS.keeps {h h' : Heap} (x : ExS h) (k : ∀ b o, h.get? b = some o → h'.get? b = some o) : ExS h' := by
  obtain ⟨mg, ad, h1, h2, h3, h4, h5, h6⟩ := x
  exact ⟨mg, ad, h1.keeps k, fun n hn => ⟨(h2 n hn).1, (h2 n hn).2.keeps k⟩, h3, h4.keeps k, h5, h6⟩
noncomputable def exHook : Hook := ⟨Bool, fun s => exOk s.heap, fun _ => true, fun _ h => ExS h, fun _ _ e => ex_of e, fun _ _ _ x k => x.keeps k⟩
theorem ns_one {h : Heap} {a : Addr} {m m' : Str → Option Value} (x : h.Ns a m) (y : h.Ns a m') : m = m' := by
  obtain ⟨o, es, ep, h1, h2, _, h3⟩ := x
  obtain ⟨o', es', ep', k1, k2, _, k3⟩ := y
  rw [h1] at k1; cases k1
  rw [h2] at k2; cases k2
  funext n
  rw [← h3 n, ← k3 n]
section
variable {prog : Program} {w : World} {s : Shared} {p : Program} {loose : List Str} {mean : ExcName → Option Value} {mg mb : Str → Option Value} (T : Top p loose mean mg mb s.heap)
theorem g_ref {x : Str} {a : Addr} (h : mg x = some (.ref a)) : (cxOf prog w s T).G x = some (.ref a) := by show gOf mg mb x = _; unfold gOf; rw [h]
theorem exAt_of (x : ExS s.heap) : ∃ ad, ExAt (cxOf prog w s T) ad := by
  obtain ⟨mg', ad, h1, h2, h3, h4, h5, h6⟩ := x
  obtain rfl := ns_one T.g h1
  exact ⟨ad, fun n hn => g_ref T (h2 n hn).1, fun n hn => (h2 n hn).2, g_ref T h3, h4, h5, h6⟩
theorem excCls_of {x : Str} (h : specOf p x = some ("ValueError.__new__", bmV)) : ExcCls (cxOf prog w s T) x := by
  obtain ⟨kk, O, _⟩ := T.ownAt h
  exact ⟨kk, "ValueError", _, _, bmV, g_ref T O.bound, F.excBase_ValueError, O.own⟩
end
end Mine
end
section
namespace Mine
open PySem
local macro_rules | `(tactic| walk_at "nm") => `(tactic| (repeat (first | with_reducible exact hit | with_reducible assumption | (with_reducible apply miss; case h => with_unfolding_all rfl))))
local macro_rules | `(tactic| walk_at "ev") => `(tactic| (repeat (first | ((with_reducible first | apply e_name | apply t_name); case h => walk_at "nm") | (with_reducible first | apply e_int | apply e_str | apply e_none | apply e_bool | apply e_bin | apply l1 | apply l2 | apply l0 | apply lc | apply e_sub | apply e_slice | apply e_list | apply e_tuple | apply e_dict0 | apply e_cmp | apply e_and | apply e_not | apply e_or | apply e_neg | apply t_cmp | apply t_cmp2 | apply t_and | apply t_or | apply t_not | apply t_sub | apply tru_bool | apply e_comp0 | apply e_comp1 | apply i_val | apply i_rng1 | apply i_rng2 | apply b_add | apply b_sub | apply c_lt | apply c_le | apply c_gt | apply c_eqi | apply c_nei | apply c_eqs | apply c_nes | apply c_is | apply c_isnot | apply s_len | apply if_tt | apply if_ff | apply r_ret | apply s_asg | apply s_exp | apply s_ite | apply s_set | apply s_skip | apply sq_next | apply sq_ret | apply lq_next | apply lq_ret | apply rq_ret | apply i_str) | ((with_reducible first | apply e_call | apply t_call | apply e_glob | apply e_methS | apply i_enum); case h => with_reducible assumption) | (with_reducible apply b_div; case h => with_unfolding_all rfl))))
noncomputable def x_is_sign : List Str := [(nm 27881272436)]
noncomputable def b_is_sign : PS := (.seq (.ret (.and (.call (.glob (nm 938756632654307293673)) (.cons (.name (nm 27881272436)) (.cons (.glob (nm 1882739)) .nil))) (.and (.cmp1 .Eq (.call (.glob (nm 1815276)) (.cons (.name (nm 27881272436)) .nil)) (.int 1)) (.cmp1 .In (.name (nm 27881272436)) (.glob (nm 367874058560204)))))) .skip)
noncomputable def x_is_word : List Str := [(nm 27881272436)]
noncomputable def b_is_word_1 : PS := (.seq (.ret (.call (.glob (nm 1783393)) (.cons (.comp0 (.call (.glob (nm 487352597740009)) (.cons (.name (nm 232387827)) .nil)) (.name (nm 232387827)) (.itVal (.name (nm 27881272436)))) .nil))) .skip)
noncomputable def b_is_word : PS := (.seq (.ite (.or (.not (.call (.glob (nm 938756632654307293673)) (.cons (.name (nm 27881272436)) (.cons (.glob (nm 1882739)) .nil)))) (.not (.cmp2 .LtE .LtE (.int 1) (.call (.glob (nm 1815276)) (.cons (.name (nm 27881272436)) .nil)) (.glob (nm 771200664775530178509))))) (.seq (.ret (.bool false)) .skip) .skip) b_is_word_1)
noncomputable def x_checked : List Str := [(nm 31081674743)]
noncomputable def b_checked_4 : PS := (.seq (.ret (.call (.glob (nm 3463330969587)) (.cons (.name (nm 27076163558)) .nil))) .skip)
noncomputable def b_checked_l1_2 : PS := (.seq (.expr (.meth (.name (nm 27076163558)) (nm 3465715398753) (.cons (.name (nm 211597303)) .nil))) .skip)
noncomputable def b_checked_l1_1 : PS := (.seq (.ite (.cmp1 .In (.name (nm 211597303)) (.name (nm 27076163558))) (.seq (.raise (nm 27321334740) (.str ⟨#[97, 32, 119, 111, 114, 100, 32, 116, 119, 105, 99, 101]⟩)) .skip) .skip) b_checked_l1_2)
noncomputable def b_checked_l1 : PS := (.seq (.ite (.not (.call (.glob (nm 443751708752361)) (.cons (.name (nm 211597303)) .nil))) (.seq (.raise (nm 443751641723074) (.str ⟨#[110, 111, 32, 119, 111, 114, 100]⟩)) .skip) .skip) b_checked_l1_1)
noncomputable def b_checked_3 : PS := (.seq (.for_ (.name (nm 211597303)) (.itVal (.name (nm 31081674743))) b_checked_l1) b_checked_4)
noncomputable def b_checked_2 : PS := (.seq (.assign (.name (nm 27076163558)) (.list .nil)) b_checked_3)
noncomputable def b_checked_1 : PS := (.seq (.ite (.cmp1 .Gt (.call (.glob (nm 1815276)) (.cons (.name (nm 31081674743)) .nil)) (.glob (nm 770486307810356553677))) (.seq (.raise (nm 228276934) (.str ⟨#[109, 111, 114, 101, 32, 116, 104, 97, 110, 32, 116, 119, 101, 108, 118, 101, 32, 119, 111, 114, 100, 115]⟩)) .skip) .skip) b_checked_2)
noncomputable def b_checked : PS := (.seq (.ite (.not (.call (.glob (nm 938756632654307293673)) (.cons (.name (nm 31081674743)) (.cons (.glob (nm 245167340)) .nil)))) (.seq (.raise (nm 447668609953986) (.str ⟨#[97, 32, 99, 111, 100, 101, 32, 105, 115, 32, 97, 32, 108, 105, 115, 116, 32, 111, 102, 32, 119, 111, 114, 100, 115]⟩)) .skip) .skip) b_checked_1)
noncomputable def x_law_at : List Str := [(nm 137989276334399845594719), (nm 3702244537951)]
noncomputable def b_law_at : PS := (.seq (.ite (.cmp1 .Lt (.name (nm 3702244537951)) (.call (.glob (nm 1815276)) (.cons (.name (nm 137989276334399845594719)) .nil))) (.seq (.ret (.sub (.name (nm 137989276334399845594719)) (.name (nm 3702244537951)))) .skip) .skip) (.seq (.ret (.int 0)) .skip))
noncomputable def x_law_mixed : List Str := [(nm 7843466381129971295), (nm 3702244537951)]
noncomputable def b_law_mixed_1 : PS := (.seq (.ret (.bin .Mod (.bin .Mult (.name (nm 135526128861644626359903)) (.name (nm 135526128861644626359903))) (.int 2147483629))) .skip)
noncomputable def b_law_mixed : PS := (.seq (.assign (.name (nm 135526128861644626359903)) (.bin .Mod (.bin .Mult (.bin .Add (.bin .Add (.name (nm 7843466381129971295)) (.bin .Mult (.int 7919) (.name (nm 3702244537951)))) (.int 3)) (.int 48271)) (.int 2147483647))) b_law_mixed_1)
noncomputable def x_law_signs : List Str := [(nm 7843466381129971295)]
noncomputable def b_law_signs_2 : PS := (.seq (.ret (.meth (.str ⟨#[]⟩) (nm 232421354) (.cons (.comp0 (.sub (.name (nm 7339670703038821983)) (.bin .Mod (.bin .Add (.bin .FloorDiv (.name (nm 7843466381129971295)) (.int 6)) (.bin .Mult (.bin .Add (.int 1) (.bin .Mod (.bin .FloorDiv (.name (nm 7843466381129971295)) (.int 156)) (.int 25))) (.name (nm 3702244537951)))) (.int 26))) (.name (nm 3702244537951)) (.itRange1 (.name (nm 8781323754941216351)))) .nil))) .skip)
noncomputable def b_law_signs_1 : PS := (.seq (.assign (.name (nm 8781323754941216351)) (.sub (.list (.cons (.int 2) (.cons (.int 1) (.cons (.int 2) (.cons (.int 3) (.cons (.int 2) (.cons (.int 5) .nil))))))) (.bin .Mod (.name (nm 7843466381129971295)) (.int 6)))) b_law_signs_2)
noncomputable def b_law_signs : PS := (.seq (.assign (.name (nm 7339670703038821983)) (.str ⟨#[97, 98, 99, 100, 101, 102, 103, 104, 105, 106, 107, 108, 109, 110, 111, 112, 113, 114, 115, 116, 117, 118, 119, 120, 121, 122]⟩)) b_law_signs_1)
noncomputable def x_law_word : List Str := [(nm 7843466381129971295), (nm 32292397438104887858748106241631)]
noncomputable def b_law_word_1 : PS := (.seq (.ret (.meth (.str ⟨#[]⟩) (nm 232421354) (.cons (.comp0 (.sub (.name (nm 32292397438104887858748106241631)) (.bin .Mod (.bin .FloorDiv (.call (.glob (nm 929683040243566540383)) (.cons (.name (nm 7843466381129971295)) (.cons (.name (nm 3667884799583)) .nil))) (.int 64)) (.call (.glob (nm 1815276)) (.cons (.name (nm 32292397438104887858748106241631)) .nil)))) (.name (nm 3667884799583)) (.itRange1 (.name (nm 7346962664154232415)))) .nil))) .skip)
noncomputable def b_law_word : PS := (.seq (.assign (.name (nm 7346962664154232415)) (.sub (.list (.cons (.int 1) (.cons (.int 2) (.cons (.int 3) (.cons (.int 2) (.cons (.int 4) (.cons (.bin .Add (.int 1) (.bin .Mod (.bin .FloorDiv (.name (nm 7843466381129971295)) (.int 8)) (.int 10))) (.cons (.int 3) (.cons (.int 2) .nil))))))))) (.bin .Mod (.name (nm 7843466381129971295)) (.int 8)))) b_law_word_1)
noncomputable def x_law_any_word : List Str := [(nm 7843466381129971295)]
noncomputable def b_law_any_word_3 : PS := (.seq (.ret (.name (nm 252284354984115859945804035679))) .skip)
noncomputable def b_law_any_word_l1_1 : PS := (.seq (.assign (.name (nm 252284354984187917196244579935)) (.bin .FloorDiv (.name (nm 252284354984187917196244579935)) (.int 26))) .skip)
noncomputable def b_law_any_word_l1 : PS := (.seq (.assign (.name (nm 252284354984115859945804035679)) (.bin .Add (.name (nm 252284354984115859945804035679)) (.sub (.str ⟨#[97, 98, 99, 100, 101, 102, 103, 104, 105, 106, 107, 108, 109, 110, 111, 112, 113, 114, 115, 116, 117, 118, 119, 120, 121, 122]⟩) (.bin .Mod (.name (nm 252284354984187917196244579935)) (.int 26))))) b_law_any_word_l1_1)
noncomputable def b_law_any_word_2 : PS := (.seq (.for_ (.name (nm 3667884799583)) (.itRange1 (.bin .Add (.int 1) (.bin .Mod (.name (nm 7843466381129971295)) (.int 10)))) b_law_any_word_l1) b_law_any_word_3)
noncomputable def b_law_any_word_1 : PS := (.seq (.assign (.name (nm 252284354984187917196244579935)) (.bin .FloorDiv (.name (nm 7843466381129971295)) (.int 10))) b_law_any_word_2)
noncomputable def b_law_any_word : PS := (.seq (.assign (.name (nm 252284354984115859945804035679)) (.str ⟨#[]⟩)) b_law_any_word_1)
noncomputable def x_law_more : List Str := [(nm 32292397438104173501782932616799), (nm 7843466381129971295), (nm 32292397438104887858748106241631)]
noncomputable def b_law_more_4 : PS := (.seq (.ret (.slice (.sub (.bin .Add (.name (nm 7339670703038821983)) (.list (.cons (.slice (.name (nm 57345570095265375)) (.name (nm 15398215025955758113584735)) .none) (.cons (.slice (.name (nm 57345570095265375)) .none (.bin .Add (.name (nm 15398215025955758113584735)) (.int 1))) (.cons (.bin .Add (.slice (.name (nm 57345570095265375)) (.name (nm 15398215025955758113584735)) .none) (.name (nm 1058801290007509759583))) .nil))))) (.bin .Mod (.name (nm 7843466381129971295)) (.int 8))) .none (.int 10))) .skip)
noncomputable def b_law_more_3 : PS := (.seq (.assign (.name (nm 7339670703038821983)) (.list (.cons (.bin .Add (.name (nm 57345570095265375)) (.name (nm 1058801290007509759583))) (.cons (.bin .Add (.name (nm 57345570095265375)) (.name (nm 1058801290007509759583))) (.cons (.bin .Add (.name (nm 1058801290007509759583)) (.name (nm 57345570095265375))) (.cons (.bin .Add (.name (nm 57345570095265375)) (.call (.glob (nm 7270427996206954079)) (.cons (.bin .FloorDiv (.name (nm 7843466381129971295)) (.int 8)) (.cons (.name (nm 32292397438104887858748106241631)) .nil)))) (.cons (.bin .Add (.call (.glob (nm 7270427996206954079)) (.cons (.bin .FloorDiv (.name (nm 7843466381129971295)) (.int 8)) (.cons (.name (nm 32292397438104887858748106241631)) .nil))) (.name (nm 57345570095265375))) .nil))))))) b_law_more_4)
noncomputable def b_law_more_2 : PS := (.seq (.assign (.name (nm 15398215025955758113584735)) (.bin .Mod (.bin .FloorDiv (.name (nm 7843466381129971295)) (.int 1352)) (.call (.glob (nm 1815276)) (.cons (.name (nm 57345570095265375)) .nil)))) b_law_more_3)
noncomputable def b_law_more_1 : PS := (.seq (.assign (.name (nm 1058801290007509759583)) (.sub (.name (nm 32292397438104173501782932616799)) (.bin .Mod (.bin .FloorDiv (.name (nm 7843466381129971295)) (.int 104)) (.call (.glob (nm 1815276)) (.cons (.name (nm 32292397438104173501782932616799)) .nil))))) b_law_more_2)
noncomputable def b_law_more : PS := (.seq (.assign (.name (nm 57345570095265375)) (.sub (.name (nm 32292397438104173501782932616799)) (.bin .Mod (.bin .FloorDiv (.name (nm 7843466381129971295)) (.int 8)) (.call (.glob (nm 1815276)) (.cons (.name (nm 32292397438104173501782932616799)) .nil))))) b_law_more_1)
noncomputable def x_law_chain : List Str := [(nm 137989276334399845594719), (nm 1078262421209535247967), (nm 32292397438104887858748106241631)]
noncomputable def b_law_chain_5 : PS := (.seq (.ret (.bin .Add (.slice (.name (nm 32292397438104173501782932616799)) (.name (nm 7991030221786084959)) .none) (.slice (.name (nm 32292397438104173501782932616799)) .none (.name (nm 7991030221786084959))))) .skip)
noncomputable def b_law_chain_4 : PS := (.seq (.assign (.name (nm 7991030221786084959)) (.bin .Mod (.call (.glob (nm 513532042442335)) (.cons (.name (nm 137989276334399845594719)) (.cons (.bin .Add (.name (nm 1078262421209535247967)) (.int 2)) .nil))) (.call (.glob (nm 1815276)) (.cons (.name (nm 32292397438104173501782932616799)) .nil)))) b_law_chain_5)
noncomputable def b_law_chain_3 : PS := (.seq (.ite (.cmp1 .Eq (.bin .Mod (.bin .FloorDiv (.call (.glob (nm 513532042442335)) (.cons (.name (nm 137989276334399845594719)) (.cons (.name (nm 1078262421209535247967)) .nil))) (.int 280)) (.int 2)) (.int 1)) (.seq (.expr (.meth (.name (nm 32292397438104173501782932616799)) (nm 3465715398753) (.cons (.sub (.name (nm 1068460336826721793631)) (.neg (.int 1))) .nil))) .skip) .skip) b_law_chain_4)
noncomputable def b_law_chain_2 : PS := (.seq (.assign (.name (nm 32292397438104173501782932616799)) (.bin .Add (.list (.cons (.sub (.name (nm 1068460336826721793631)) (.int 0)) .nil)) (.comp0 (.bin .Add (.sub (.name (nm 1068460336826721793631)) (.bin .Sub (.name (nm 3702244537951)) (.int 1))) (.sub (.name (nm 1068460336826721793631)) (.name (nm 3702244537951)))) (.name (nm 3702244537951)) (.itRange2 (.int 1) (.call (.glob (nm 1815276)) (.cons (.name (nm 1068460336826721793631)) .nil)))))) b_law_chain_3)
noncomputable def b_law_chain_l1 : PS := (.seq (.expr (.meth (.name (nm 1068460336826721793631)) (nm 3465715398753) (.cons (.slice (.call (.glob (nm 7270427996206954079)) (.cons (.call (.glob (nm 929683040243566540383)) (.cons (.call (.glob (nm 513532042442335)) (.cons (.name (nm 137989276334399845594719)) (.cons (.bin .Add (.bin .Add (.name (nm 1078262421209535247967)) (.int 2)) (.bin .Mod (.name (nm 3702244537951)) (.int 6))) .nil))) (.cons (.name (nm 3702244537951)) .nil))) (.cons (.name (nm 32292397438104887858748106241631)) .nil))) .none (.int 5)) .nil))) .skip)
noncomputable def b_law_chain_1 : PS := (.seq (.for_ (.name (nm 3702244537951)) (.itRange1 (.bin .Add (.int 2) (.bin .Mod (.bin .FloorDiv (.call (.glob (nm 513532042442335)) (.cons (.name (nm 137989276334399845594719)) (.cons (.name (nm 1078262421209535247967)) .nil))) (.int 40)) (.int 7)))) b_law_chain_l1) b_law_chain_2)
noncomputable def b_law_chain : PS := (.seq (.assign (.name (nm 1068460336826721793631)) (.list .nil)) b_law_chain_1)
noncomputable def x_law_words : List Str := [(nm 137989276334399845594719), (nm 1078262421209535247967)]
noncomputable def b_law_words_5 : PS := (.seq (.ret (.name (nm 32292397438104173501782932616799))) .skip)
noncomputable def b_law_words_l1_3 : PS := (.seq (.ite (.cmp1 .NotIn (.name (nm 252284354984115859945804035679)) (.name (nm 32292397438104173501782932616799))) (.seq (.expr (.meth (.name (nm 32292397438104173501782932616799)) (nm 3465715398753) (.cons (.name (nm 252284354984115859945804035679)) .nil))) .skip) .skip) .skip)
noncomputable def b_law_words_l1_2 : PS := (.seq (.ite (.cmp1 .Eq (.bin .Mod (.bin .FloorDiv (.name (nm 7843466381129971295)) (.int 10)) (.int 4)) (.int 1)) (.seq (.assign (.name (nm 252284354984115859945804035679)) (.call (.glob (nm 1951640654478162685372954207)) (.cons (.bin .Add (.name (nm 57345570095265375)) (.name (nm 3702244537951))) .nil))) .skip) (.seq (.ite (.and (.cmp1 .NotEq (.name (nm 32292397438104173501782932616799)) (.list .nil)) (.cmp1 .Eq (.bin .Mod (.bin .FloorDiv (.call (.glob (nm 929683040243566540383)) (.cons (.name (nm 57345570095265375)) (.cons (.name (nm 3702244537951)) .nil))) (.int 1000)) (.int 2)) (.int 1))) (.seq (.assign (.name (nm 252284354984115859945804035679)) (.call (.glob (nm 7342485246647498335)) (.cons (.name (nm 32292397438104173501782932616799)) (.cons (.call (.glob (nm 929683040243566540383)) (.cons (.name (nm 57345570095265375)) (.cons (.bin .Add (.name (nm 3702244537951)) (.int 20)) .nil))) (.cons (.name (nm 32292397438104887858748106241631)) .nil))))) .skip) .skip) .skip)) b_law_words_l1_3)
noncomputable def b_law_words_l1_1 : PS := (.seq (.assign (.name (nm 252284354984115859945804035679)) (.call (.glob (nm 7270427996206954079)) (.cons (.call (.glob (nm 929683040243566540383)) (.cons (.name (nm 57345570095265375)) (.cons (.name (nm 3702244537951)) .nil))) (.cons (.name (nm 32292397438104887858748106241631)) .nil)))) b_law_words_l1_2)
noncomputable def b_law_words_l1 : PS := (.seq (.assign (.name (nm 57345570095265375)) (.call (.glob (nm 513532042442335)) (.cons (.name (nm 137989276334399845594719)) (.cons (.bin .Add (.bin .Add (.name (nm 1078262421209535247967)) (.int 2)) (.bin .Mod (.name (nm 3702244537951)) (.int 6))) .nil)))) b_law_words_l1_1)
noncomputable def b_law_words_4 : PS := (.seq (.for_ (.name (nm 3702244537951)) (.itRange1 (.sub (.list (.cons (.int 2) (.cons (.int 3) (.cons (.int 4) (.cons (.int 5) (.cons (.int 3) (.cons (.int 2) (.cons (.int 6) (.cons (.int 1) (.cons (.int 0) (.cons (.int 12) .nil))))))))))) (.bin .Mod (.name (nm 7843466381129971295)) (.int 10)))) b_law_words_l1) b_law_words_5)
noncomputable def b_law_words_l2 : PS := (.seq (.ite (.cmp1 .NotIn (.name (nm 252284354984115859945804035679)) (.name (nm 32292397438104173501782932616799))) (.seq (.expr (.meth (.name (nm 32292397438104173501782932616799)) (nm 3465715398753) (.cons (.name (nm 252284354984115859945804035679)) .nil))) .skip) .skip) .skip)
noncomputable def b_law_words_3 : PS := (.seq (.ite (.cmp1 .Eq (.bin .Mod (.bin .FloorDiv (.name (nm 7843466381129971295)) (.int 10)) (.int 4)) (.int 2)) (.seq (.for_ (.name (nm 252284354984115859945804035679)) (.itVal (.call (.glob (nm 1022192038397693425247)) (.cons (.name (nm 137989276334399845594719)) (.cons (.name (nm 1078262421209535247967)) (.cons (.name (nm 32292397438104887858748106241631)) .nil))))) b_law_words_l2) (.seq (.ret (.name (nm 32292397438104173501782932616799))) .skip)) .skip) b_law_words_4)
noncomputable def b_law_words_2 : PS := (.seq (.assign (.name (nm 32292397438104173501782932616799)) (.list .nil)) b_law_words_3)
noncomputable def b_law_words_1 : PS := (.seq (.assign (.name (nm 32292397438104887858748106241631)) (.call (.glob (nm 1068672569199679796831)) (.cons (.call (.glob (nm 513532042442335)) (.cons (.name (nm 137989276334399845594719)) (.cons (.bin .Add (.name (nm 1078262421209535247967)) (.int 1)) .nil))) .nil))) b_law_words_2)
noncomputable def b_law_words : PS := (.seq (.assign (.name (nm 7843466381129971295)) (.call (.glob (nm 513532042442335)) (.cons (.name (nm 137989276334399845594719)) (.cons (.name (nm 1078262421209535247967)) .nil)))) b_law_words_1)
structure Wd (n : Nat) (t : Txt) : Prop where
  pos : 1 ≤ t.length
  le : t.length ≤ n
  abc : ∀ c ∈ t, 97 ≤ c ∧ c ≤ 122
theorem Wd.up {n m : Nat} {t : Txt} (h : Wd n t) (k : n ≤ m) : Wd m t := ⟨h.pos, Nat.le_trans h.le k, h.abc⟩
noncomputable def Ws (H : AHeap) (n : Nat) (ws : List Txt) : Prop := H[n]? = some (.list (ws.map .str))
noncomputable def Scr (H : AHeap) : Prop := ∃ is : List Int, H[0]? = some (.list (is.map .int))
theorem Scr.keep {H H' : AHeap} (h : Scr H) (k : Keep H H') : Scr H' := by obtain ⟨is, e⟩ := h; exact ⟨is, k.get e⟩
structure Cd (ws : List Txt) : Prop where
  le : ws.length ≤ 12
  wd : ∀ w ∈ ws, Wd 10 w
  nd : ws.Nodup
noncomputable def spAt : Spec := fun vs H Q _ => ∃ k : Int, vs = [.ref 0, .int k] ∧ 0 ≤ k ∧ Scr H ∧ ∀ i, Q (.int i) H
noncomputable def spMixed : Spec := fun vs H Q _ => ∃ c k : Int, vs = [.int c, .int k] ∧ ∀ m : Int, 0 ≤ m → m < 2147483629 → Q (.int m) H
noncomputable def spWhole : Spec := fun vs H Q _ => ∃ i : Int, vs = [.int i] ∧ Q (.bool true) H
noncomputable def spSigns : Spec := fun vs H Q _ => ∃ c : Int, vs = [.int c] ∧ ∀ t H', Wd 5 t → Keep H H' → Q (.str t) H'
noncomputable def spWord : Spec := fun vs H Q _ => ∃ (c : Int) (s : Txt), vs = [.int c, .str s] ∧ Wd 5 s ∧ ∀ t H', Wd 10 t → Keep H H' → Q (.str t) H'
noncomputable def spAnyW : Spec := fun vs H Q _ => ∃ c : Int, vs = [.int c] ∧ ∀ t, Wd 10 t → Q (.str t) H
theorem Scr.pos {H : AHeap} (h : Scr H) : H.length ≠ 0 := by obtain ⟨is, e⟩ := h; exact Nat.ne_of_gt (Nat.lt_of_le_of_lt (Nat.zero_le _) (lt_of_get e))
theorem pos_cast {n : Nat} (h : 1 ≤ n) : (0 : Int) < (n : Int) := Int.ofNat_lt.mpr h
theorem toNat_pos1 {j : Int} (h : 1 ≤ j) : 1 ≤ j.toNat := by lia
theorem small63 {i : Int} (h0 : 0 ≤ i) (h1 : i < 9223372036854775808) : i.natAbs < 2 ^ 63 := by lia
theorem wd_of {t : Txt} {j : Int} {m : Nat} (e : t.length = j.toNat) (h0 : 1 ≤ j) (h1 : j ≤ m) (ha : ∀ c ∈ t, 97 ≤ c ∧ c ≤ 122) : Wd m t := ⟨e ▸ toNat_pos1 h0, e ▸ Int.toNat_le.mpr h1, ha⟩
theorem ints_le {j : Int} (h : j ≤ lid) : ((intsFrom 0 j.toNat).map fun i => Item.one (.int i)).length ≤ lid := by rw [List.length_map, intsFrom_len]; exact Int.toNat_le.mpr h
theorem cat_le {a b m n : Nat} (h : a ≤ m) (k : b ≤ n) (e : Nat.ble (m + n) lid = true) : a + b ≤ lid := Nat.le_trans (Nat.add_le_add h k) (Nat.le_of_ble_eq_true e)
section
variable {T : Tab}
theorem ct_law_at (h1 : Has T (nm 1815276) spLen) : Ct T x_law_at b_law_at spAt := by
  refine ct2 fun vs H Q X h => ?_
  obtain ⟨k, rfl, h0, ⟨is, hs⟩, h⟩ := h
  refine ⟨_, _, rfl, ?_⟩
  refine s_ite ?_
  walk_at "ev"
  refine s_lenl hs ?_
  walk_at "ev"
  refine if_dec (fun hk => ?_) fun _ => ?_
  · walk_at "ev"
    refine st_any hs h0 hk fun v hv => ?_
    obtain ⟨i, _, rfl⟩ := List.mem_map.mp hv
    exact h i
  · walk_at "ev"
    exact h 0
theorem ct_law_mixed : Ct T x_law_mixed b_law_mixed spMixed := by
  refine ct2 fun vs H Q X h => ?_
  obtain ⟨c, k, rfl, h⟩ := h
  refine ⟨_, _, rfl, ?_⟩
  refine s_asg ?_
  walk_at "ev"
  refine b_mul (.inl (by decide)) ?_
  walk_at "ev"
  refine b_mul (.inr (by decide)) ?_
  walk_at "ev"
  refine b_mod (by decide) fun m m0 m1 => ?_
  refine r_ret ?_
  walk_at "ev"
  refine b_mul (.inl (small63 m0 (Int.lt_trans m1 (by decide)))) ?_
  walk_at "ev"
  exact b_mod (by decide) fun r r0 r1 => h r r0 r1
noncomputable def inR (lo hi : Int) : V → Bool
  | .int j => decide (lo ≤ j) && decide (j ≤ hi)
  | _ => false
theorem any_int {H : AHeap} {n : Nat} {xs : List V} {k : Int} {p : V → Prop} (lo hi : Int) (h : H[n]? = some (.list xs)) (h0 : 0 ≤ k) (h1 : k < xs.length) (ha : xs.all (inR lo hi) = true) (hp : ∀ j, lo ≤ j → j ≤ hi → p (.int j)) : subA (.ref n) (.int k) H p :=
  st_any h h0 h1 fun v hv => by
    have := List.all_eq_true.mp ha v hv
    cases v <;> first | cases this | skip
    simp only [inR, Bool.and_eq_true, decide_eq_true_eq] at this
    exact hp _ this.1 this.2
theorem comp_rngA {H : AHeap} {σ : Sg} {X : XPost} {y : Str} {elt : PE} {Q : List V → AHeap → Prop} {a : Int} {j : Nat} (P : V → Prop)
    (he : ∀ i : Int, a ≤ i → i < a + j → ∀ H', Keep H H' → ∀ q : VPost, (∀ v H'', P v → Keep H' H'' → q v H'') → (sem T elt).ev (σ.set y (.int i)) H' q X)
    (hQ : ∀ vs H', vs.length = j → (∀ v ∈ vs, P v) → Keep H H' → Q vs H') :
    compGo (fun _ => True) (fun x H' => bindA (.name y) x H' σ) (fun _ H' q => q true H') (fun σ' H' q => (sem T elt).ev σ' H' q X) Q ((intsFrom a j).map fun i => .one (.int i)) [] H := by
  refine comp_map (P := fun _ v => P v) _ _ _ (fun _ _ => trivial) (fun x hx H' k => ?_) fun vs H' ha k => ?_
  · obtain ⟨i, hi, rfl⟩ := List.mem_map.mp hx
    have := intsFrom_mem hi
    exact ⟨_, rfl, fun q hq => he i this.1 this.2 H' k q hq⟩
  · have hl := ha.length
    rw [List.length_map, intsFrom_len] at hl
    exact hQ vs H' hl.symm (fun v hv => by obtain ⟨_, _, h⟩ := ha.right v hv; exact h) k
theorem comp_rng {H : AHeap} {σ : Sg} {X : XPost} {y : Str} {elt : PE} {Q : List V → AHeap → Prop} {j : Nat} (P : V → Prop)
    (he : ∀ i : Int, 0 ≤ i → i < j → ∀ H', Keep H H' → ∀ q : VPost, (∀ v H'', P v → Keep H' H'' → q v H'') → (sem T elt).ev (σ.set y (.int i)) H' q X)
    (hQ : ∀ vs H', vs.length = j → (∀ v ∈ vs, P v) → Keep H H' → Q vs H') :
    compGo (fun _ => True) (fun x H' => bindA (.name y) x H' σ) (fun _ H' q => q true H') (fun σ' H' q => (sem T elt).ev σ' H' q X) Q ((intsFrom 0 j).map fun i => .one (.int i)) [] H :=
  comp_rngA P (fun i i0 i1 => he i i0 (by lia)) hQ
noncomputable def LetV (v : V) : Prop := ∃ c, v = .str [c] ∧ 97 ≤ c ∧ c ≤ 122
theorem txts_let : ∀ (vs : List V), (∀ v ∈ vs, LetV v) → ∃ t : Txt, vs = (t.map fun c => [c]).map .str ∧ t.length = vs.length ∧ ∀ c ∈ t, 97 ≤ c ∧ c ≤ 122
  | [], _ => ⟨[], rfl, rfl, fun _ h => nomatch h⟩
  | v :: r, h => by
    obtain ⟨c, rfl, hc⟩ := h v (.head _)
    obtain ⟨t, e, l, a⟩ := txts_let r fun w hw => h w (.tail _ hw)
    exact ⟨c :: t, by rw [e]; rfl, congrArg (· + 1) l, List.forall_mem_cons.mpr ⟨hc, a⟩⟩
theorem flat_one : ∀ t : Txt, (t.map fun c => [c]).flatten = t
  | [] => rfl
  | c :: r => congrArg (c :: ·) (flat_one r)
theorem sum_one : ∀ t : Txt, ((t.map fun c => [c]).map List.length).sum = t.length
  | [] => rfl
  | c :: r => by simp only [List.map_cons, List.sum_cons, sum_one r, List.length_cons, List.length_nil]; lia
theorem j_let {H : AHeap} {Q : VPost} {X : XPost} {n : Nat} {vs : List V} (h : H[n]? = some (.list vs)) (hl : vs.length ≤ 1000) (hv : ∀ v ∈ vs, LetV v) (k : ∀ t : Txt, t.length = vs.length → (∀ c ∈ t, 97 ≤ c ∧ c ≤ 122) → Q (.str t) H) : spJoin [.str [], .ref n] H Q X := by
  obtain ⟨t, e, l, a⟩ := txts_let vs hv
  rw [e] at h
  refine s_join h (by rw [sum_one, List.length_map, l]; unfold lid; lia) ?_
  rw [flat_one]
  exact k t l a
theorem abc26 : ∀ c ∈ (Str.mk #[97, 98, 99, 100, 101, 102, 103, 104, 105, 106, 107, 108, 109, 110, 111, 112, 113, 114, 115, 116, 117, 118, 119, 120, 121, 122]).cps.toList, 97 ≤ c ∧ c ≤ 122 := by decide
theorem ct_law_signs (h1 : HasM T .str (nm 232421354) spJoin) : Ct T x_law_signs b_law_signs spSigns := by
  refine ct1 fun vs H Q X h => ?_
  obtain ⟨c, rfl, h⟩ := h
  refine ⟨_, rfl, ?_⟩
  refine s_asg ?_
  walk_at "ev"
  refine s_asg ?_
  walk_at "ev"
  refine ⟨by decide, ?_⟩
  walk_at "ev"
  refine b_mod (by decide) fun m m0 m1 => any_int 1 5 get_new m0 m1 rfl fun j j0 j1 => ?_
  refine r_ret ?_
  walk_at "ev"
  have hj : j ≤ lid := Int.le_trans j1 (by decide)
  refine rng1 (Int.le_trans (by decide) j0) hj ⟨ints_le hj, ?_⟩
  refine comp_rng LetV (fun i i0 i1 H' k' q hq => ?_) fun vs H' hl hv k' => ?_
  · walk_at "ev"
    refine b_mod (by decide) fun a a0 a1 => ?_
    walk_at "ev"
    refine b_mul (.inl (small63 (Int.add_nonneg (by decide) a0) (Int.lt_trans (Int.add_lt_add_left a1 1) (by decide)))) ?_
    walk_at "ev"
    refine b_mod (by decide) fun b b0 b1 => ?_
    exact b_sign b0 b1 fun c hc => hq _ _ ⟨c, rfl, abc26 c hc⟩ (Keep.refl _)
  · refine j_let get_new (by rw [hl]; exact Int.toNat_le.mpr (Int.le_trans j1 (by decide))) hv fun t ht ha => ?_
    exact h t _ (wd_of (ht.trans hl) j0 j1 ha) ((Keep.new _ _).trans (k'.trans (Keep.new _ _)))
theorem ct_law_word (h1 : HasM T .str (nm 232421354) spJoin) (h2 : Has T (nm 929683040243566540383) spMixed) (h3 : Has T (nm 1815276) spLen) : Ct T x_law_word b_law_word spWord := by
  refine ct2 fun vs H Q X h => ?_
  obtain ⟨c, s, rfl, hs, h⟩ := h
  have hs1 := hs.pos
  have hs2 := hs.le
  refine ⟨_, _, rfl, ?_⟩
  refine s_asg ?_
  walk_at "ev"
  refine b_mod (by decide) fun a a0 a1 => ?_
  walk_at "ev"
  refine ⟨Nat.le_of_ble_eq_true rfl, ?_⟩
  walk_at "ev"
  refine b_mod (by decide) fun m m0 m1 => any_int 1 10 get_new m0 m1 (by simp [inR]; lia) fun j j0 j1 => ?_
  refine r_ret ?_
  walk_at "ev"
  have hj : j ≤ lid := Int.le_trans j1 (by decide)
  refine rng1 (Int.le_trans (by decide) j0) hj ⟨ints_le hj, ?_⟩
  refine comp_rng LetV (fun i i0 i1 H' k' q hq => ?_) fun vs H' hl hv k' => ?_
  · walk_at "ev"
    refine ⟨_, _, rfl, fun m _ _ => ?_⟩
    walk_at "ev"
    refine b_mod (pos_cast hs1) fun b b0 b1 => ?_
    exact b_sign b0 b1 fun c hc => hq _ _ ⟨c, rfl, hs.abc c hc⟩ (Keep.refl _)
  · refine j_let get_new (by rw [hl]; exact Int.toNat_le.mpr (Int.le_trans j1 (by decide))) hv fun t ht ha => ?_
    exact h t _ (wd_of (ht.trans hl) j0 j1 ha) ((Keep.new _ _).trans (k'.trans (Keep.new _ _)))
inductive AnyI (H : AHeap) (m : Int) (xs : List Item) (σ : Sg) (H' : AHeap) : Prop
  | mk : H' = H → ∀ (t : Txt) (i : Int), σ (nm 252284354984115859945804035679) = some (.str t) → σ (nm 252284354984187917196244579935) = some (.int i) → t.length + xs.length = (1 + m).toNat → (∀ c ∈ t, 97 ≤ c ∧ c ≤ 122) → (∀ x ∈ xs, ∃ v, x = .one v) → AnyI H m xs σ H'
theorem ct_law_any_word : Ct T x_law_any_word b_law_any_word spAnyW := by
  refine ct1 fun vs H Q X h => ?_
  obtain ⟨c, rfl, h⟩ := h
  refine ⟨_, rfl, ?_⟩
  refine s_asg ?_
  walk_at "ev"
  refine s_asg ?_
  walk_at "ev"
  refine r_for ?_
  walk_at "ev"
  refine b_mod (by decide) fun m m0 m1 => ?_
  walk_at "ev"
  have hm10 : 1 + m ≤ 10 := Int.add_le_add_left (Int.le_sub_one_of_lt m1) 1
  have hm11 : (1 + m).toNat ≤ 10 := Int.toNat_le.mpr hm10
  refine rng1 (Int.add_nonneg (by decide) m0) (Int.le_trans hm10 (by decide)) ?_
  refine for_invN (AnyI H m) ?_ ?_ ⟨rfl, [], _, by walk_at "nm", hit, by rw [List.length_map, intsFrom_len, List.length_nil, Nat.zero_add], (fun _ h => nomatch h), ?_⟩
  · rintro x xs σ H' ⟨rfl, t, i, e1, e2, hl, ha, hx⟩
    obtain ⟨v, rfl⟩ := hx x (.head _)
    rw [List.length_cons] at hl
    refine ⟨trivial, _, rfl, fun W _ hW => ?_⟩
    refine s_asg ?_
    walk_at "ev"
    refine b_mod (by decide) fun b b0 b1 => b_sign b0 b1 fun c hc => ?_
    refine b_cat (Nat.le_trans (Nat.le_trans (Nat.add_le_add_left (Nat.le_add_left 1 _) _) (Nat.le_of_eq hl)) (Nat.le_trans hm11 (by decide))) ?_
    refine s_asg ?_
    walk_at "ev"
    refine hW _ _ ⟨rfl, t ++ [c], _, by walk_at "nm", hit, by rw [List.length_append, List.length_singleton, Nat.add_right_comm]; exact hl, fun d hd => ?_, fun y hy => hx y (.tail _ hy)⟩
    rcases List.mem_append.mp hd with hd | hd
    · exact ha d hd
    · rw [List.mem_singleton.mp hd]; exact abc26 c hc
  · rintro σ H' ⟨rfl, t, i, e1, e2, hl, ha, hx⟩
    refine ⟨trivial, ?_⟩
    refine r_ret ?_
    walk_at "ev"
    exact h t (wd_of hl (Int.le_add_of_nonneg_right m0) hm10 ha)
  · intro x hx
    obtain ⟨i, _, rfl⟩ := List.mem_map.mp hx
    exact ⟨_, rfl⟩
theorem Wd.cat {a b : Nat} {t u : Txt} (h : Wd a t) (k : Wd b u) : Wd (a + b) (t ++ u) := by
  refine ⟨by rw [List.length_append]; exact Nat.le_trans h.pos (Nat.le_add_right _ _), by rw [List.length_append]; exact Nat.add_le_add h.le k.le, fun c hc => ?_⟩
  rcases List.mem_append.mp hc with hc | hc
  · exact h.abc c hc
  · exact k.abc c hc
theorem Wd.drop {a i : Nat} {t : Txt} (h : Wd a t) (hi : i < t.length) : Wd a (t.drop i) := by
  exact ⟨by rw [List.length_drop]; exact Nat.sub_pos_of_lt hi, by rw [List.length_drop]; exact Nat.le_trans (Nat.sub_le _ _) h.le, fun c hc => h.abc c (List.mem_of_mem_drop hc)⟩
theorem Wd.take {a i : Nat} {t : Txt} (h : Wd a t) (hi : 1 ≤ i) : Wd i (t.take i) := by
  exact ⟨by rw [List.length_take]; exact Nat.le_min.mpr ⟨hi, h.pos⟩, by rw [List.length_take]; exact Nat.min_le_left _ _, fun c hc => h.abc c (List.mem_of_mem_take hc)⟩
noncomputable def WV (n : Nat) (v : V) : Prop := ∃ t, v = .str t ∧ Wd n t
theorem all_nil {P : V → Prop} : ∀ v ∈ ([] : List V), P v := fun _ h => nomatch h
theorem all_cons {P : V → Prop} {a : V} {l : List V} (h : P a) (k : ∀ v ∈ l, P v) : ∀ v ∈ a :: l, P v := fun v hv => by
  cases hv with
  | head => exact h
  | tail _ hv => exact k v hv
theorem all_app {P : V → Prop} {a l : List V} (h : ∀ v ∈ a, P v) (k : ∀ v ∈ l, P v) : ∀ v ∈ a ++ l, P v := fun v hv => (List.mem_append.mp hv).elim (h v) (k v)
theorem all_map {P : V → Prop} {ws : List Txt} (h : ∀ w ∈ ws, P (.str w)) : ∀ v ∈ ws.map V.str, P v := fun v hv => by
  obtain ⟨w, hw, rfl⟩ := List.mem_map.mp hv; exact h w hw
theorem any_wd {H : AHeap} {n : Nat} {ws : List Txt} {k : Int} {p : V → Prop} (h : Ws H n ws) (h0 : 0 ≤ k) (h1 : k < ws.length) (hw : ∀ w ∈ ws, p (.str w)) : subA (.ref n) (.int k) H p :=
  st_any h h0 (by rw [List.length_map]; exact h1) (all_map hw)
theorem len_ws {H : AHeap} {n : Nat} {ws : List Txt} {Q : VPost} {X : XPost} (h : Ws H n ws) (k : Q (.int ws.length) H) : spLen [.ref n] H Q X := s_lenl h (by rw [List.length_map]; exact k)
theorem Ws.keep {H H' : AHeap} {n : Nat} {ws : List Txt} (h : Ws H n ws) (k : Keep H H') : Ws H' n ws := k.get h
noncomputable def spMore : Spec := fun vs H Q _ => ∃ (n : Nat) (c : Int) (s : Txt) (ws : List Txt), vs = [.ref n, .int c, .str s] ∧ Ws H n ws ∧ 1 ≤ ws.length ∧ (∀ w ∈ ws, Wd 10 w) ∧ Wd 5 s ∧ ∀ t H', Wd 10 t → Keep H H' → Q (.str t) H'
theorem ct_law_more (h1 : Has T (nm 7270427996206954079) spWord) (h2 : Has T (nm 1815276) spLen) : Ct T x_law_more b_law_more spMore := by
  refine ct3 fun vs H Q X h => ?_
  obtain ⟨n, c, s, ws, rfl, hn, hne, hw, hs, h⟩ := h
  refine ⟨_, _, _, rfl, ?_⟩
  refine s_asg ?_
  walk_at "ev"
  refine len_ws hn ?_
  refine b_mod (pos_cast hne) fun a a0 a1 => any_wd hn a0 a1 fun one h_one => ?_
  refine s_asg ?_
  walk_at "ev"
  refine len_ws hn ?_
  refine b_mod (pos_cast hne) fun b b0 b1 => any_wd hn b0 b1 fun other h_other => ?_
  replace h_one := hw _ h_one
  replace h_other := hw _ h_other
  have p1 := h_one.pos
  have p2 := h_one.le
  have q2 := h_other.le
  refine s_asg ?_
  walk_at "ev"
  refine b_mod (pos_cast p1) fun i i0 i1 => ?_
  refine s_asg ?_
  walk_at "ev"
  refine b_cat (cat_le p2 q2 rfl) ?_
  walk_at "ev"
  refine b_cat (cat_le p2 q2 rfl) ?_
  walk_at "ev"
  refine b_cat (cat_le q2 p2 rfl) ?_
  walk_at "ev"
  refine ⟨_, _, rfl, hs, fun t1 H1 w1 k1 => ?_⟩
  refine b_cat (cat_le p2 w1.le rfl) ?_
  walk_at "ev"
  refine ⟨_, _, rfl, hs, fun t2 H2 w2 k2 => ?_⟩
  walk_at "ev"
  refine b_cat (cat_le w2.le p2 rfl) ?_
  walk_at "ev"
  refine ⟨Nat.le_of_ble_eq_true rfl, ?_⟩
  refine r_ret ?_
  walk_at "ev"
  refine b_from i0 ?_
  walk_at "ev"
  refine b_to (Int.add_nonneg i0 (by decide)) ?_
  walk_at "ev"
  refine b_from i0 ?_
  walk_at "ev"
  have hd : Wd 10 (one.drop i.toNat) := h_one.drop ((Int.toNat_lt i0).mpr i1)
  refine b_cat (cat_le hd.le q2 rfl) ?_
  walk_at "ev"
  refine ⟨Nat.le_of_ble_eq_true rfl, ?_⟩
  refine b_lcat ((Keep.new _ _).get get_new) get_new (Nat.le_of_ble_eq_true rfl) ?_
  walk_at "ev"
  refine b_mod (by decide) fun m m0 m1 => ?_
  have up : ∀ {a : Nat} {t : Txt}, Wd a t → a ≤ 20 → WV 20 (.str t) := fun h k => ⟨_, rfl, h.up k⟩
  have all : ∀ v ∈ ([.str (one ++ other), .str (one ++ other), .str (other ++ one), .str (one ++ t1), .str (t2 ++ one)] ++ [.str (one.drop i.toNat), .str (one.take (i + 1).toNat), .str (one.drop i.toNat ++ other)] : List V), WV 20 v :=
    all_app (all_cons (up (h_one.cat h_other) (by decide)) <| all_cons (up (h_one.cat h_other) (by decide)) <| all_cons (up (h_other.cat h_one) (by decide)) <| all_cons (up (h_one.cat w1) (by decide)) <| all_cons (up (w2.cat h_one) (by decide)) all_nil)
      (all_cons (up hd (by decide)) <| all_cons (up (h_one.take (toNat_pos1 (Int.le_add_of_nonneg_left i0))) (Int.toNat_le.mpr (Int.le_trans (Int.add_one_le_of_lt i1) (Int.ofNat_le.mpr (Nat.le_trans p2 (by decide)))))) <| all_cons (up (hd.cat h_other) (by decide)) all_nil)
  refine st_any get_new m0 m1 fun v hv => ?_
  obtain ⟨t, rfl, ht⟩ := all v hv
  walk_at "ev"
  refine b_to (by decide) ?_
  exact h _ _ (ht.take (by decide)) (k1.trans (k2.trans ((Keep.new _ _).trans ((Keep.new _ _).trans (Keep.new _ _)))))
noncomputable def pd (w : Txt) : PyData := .str ⟨w.toArray⟩
theorem rdL_str {H : AHeap} {n : Nat} : ∀ ws : List Txt, rdL (rd H n) (ws.map .str) = some (ws.map pd)
  | [] => rfl
  | w :: r => by rw [List.map_cons, List.map_cons, rdL, rdL_str r]; cases n <;> rfl
theorem rd_ws {H : AHeap} {n : Nat} {ws : List Txt} (h : Ws H n ws) : rd H 6 (.ref n) = some (.list (ws.map pd)) := by rw [rd_list h, rdL_str]; rfl
theorem eqv_ws : ∀ ws us : List Txt, PyData.eqv (.list (ws.map pd)) (.list (us.map pd)) = decide (ws = us) := by
  have go : ∀ ws us : List Txt, PyData.eqvAll (ws.map pd) (us.map pd) = decide (ws = us) := by
    intro ws
    induction ws with
    | nil => intro us; cases us <;> rfl
    | cons a r ih =>
      intro us
      cases us with
      | nil => rfl
      | cons b t =>
        show (PyData.eqv (pd a) (pd b) && PyData.eqvAll (r.map pd) (t.map pd)) = _
        rw [ih, show PyData.eqv (pd a) (pd b) = decide (a = b) from str_beq a b, Bool.eq_iff_iff]
        simp
  exact go
theorem c_eqw {H : AHeap} {n m : Nat} {ws us : List Txt} {r : Bool → Prop} (h1 : Ws H n ws) (h2 : Ws H m us) (k : r (decide (ws = us))) : cmpA .Eq (.ref n) (.ref m) H r :=
  .eq (rd_ws h1) (rd_ws h2) (by rw [eqv_ws]; exact k)
theorem c_new {H : AHeap} {n m : Nat} {ws us : List Txt} {r : Bool → Prop} (h1 : Ws H n ws) (h2 : Ws H m us) (k : r (!decide (ws = us))) : cmpA .NotEq (.ref n) (.ref m) H r :=
  .ne (rd_ws h1) (rd_ws h2) (by rw [eqv_ws]; exact k)
theorem any_str (w : Txt) : ∀ ws : List Txt, ((ws.map pd).any fun x => PyData.eqv x (pd w)) = decide (w ∈ ws)
  | [] => rfl
  | a :: r => by
    rw [List.map_cons, List.any_cons, any_str w r, show PyData.eqv (pd a) (pd w) = decide (a = w) from str_beq a w, Bool.eq_iff_iff]
    simp only [Bool.or_eq_true, decide_eq_true_eq, List.mem_cons]
    exact or_congr eq_comm Iff.rfl
theorem c_inw {H : AHeap} {n : Nat} {ws : List Txt} {w : Txt} {r : Bool → Prop} (h : Ws H n ws) (k : r (decide (w ∈ ws))) : cmpA .In (.str w) (.ref n) H r :=
  .inL (d := pd w) (rd_ws h) rfl (by rw [any_str]; exact k)
theorem c_ninw {H : AHeap} {n : Nat} {ws : List Txt} {w : Txt} {r : Bool → Prop} (h : Ws H n ws) (k : r (!decide (w ∈ ws))) : cmpA .NotIn (.str w) (.ref n) H r :=
  .ninL (d := pd w) (rd_ws h) rfl (by rw [any_str]; exact k)
theorem kind_l {H : AHeap} {n : Nat} {xs : List V} (h : H[n]? = some (.list xs)) : kindA (.ref n) H = some .list := by unfold kindA; dsimp only; rw [h]
theorem Ws.push {H : AHeap} {n : Nat} {ws : List Txt} (h : Ws H n ws) (w : Txt) : Ws (H.set n (.list (ws.map .str ++ [.str w]))) n (ws ++ [w]) := by
  unfold Ws
  rw [List.getElem?_set_self (lt_of_get h), List.map_append]; rfl
theorem s_push {n : Nat} {w : Txt} {ws : List Txt} {H : AHeap} {Q : VPost} {X : XPost} (h0 : n ≠ 0) (h1 : Ws H n ws) (h2 : ws.length < lid) (k : Q .none (H.set n (.list (ws.map .str ++ [.str w])))) : spAppend [.ref n, .str w] H Q X :=
  s_append h0 h1 (by rw [List.length_map]; exact h2) k
theorem all_ws {n : Nat} : ∀ xs : List V, (∀ v ∈ xs, WV n v) → ∃ ws : List Txt, xs = ws.map .str ∧ ∀ w ∈ ws, Wd n w
  | [], _ => ⟨[], rfl, fun _ h => nomatch h⟩
  | v :: r, h => by
    obtain ⟨t, rfl, ht⟩ := h v (.head _)
    obtain ⟨ws, rfl, hw⟩ := all_ws r fun w hw => h w (.tail _ hw)
    refine ⟨t :: ws, rfl, fun w hw' => ?_⟩
    cases hw' with
    | head => exact ht
    | tail _ hw' => exact hw w hw'
theorem neg_int {i : Int} {q : V → Prop} (k : q (.int (-i))) : Neg (.int i) q := k
theorem any_last {H : AHeap} {n : Nat} {ws : List Txt} {p : V → Prop} (h : Ws H n ws) (h1 : 1 ≤ ws.length) (hw : ∀ w ∈ ws, p (.str w)) : subA (.ref n) (.int (-1)) H p :=
  b_last h (by rw [List.length_map]; exact h1) (all_map hw _ (List.getElem_mem _))
theorem rng2 {H : AHeap} {i j : Int} {q : List Item → (AHeap → Prop) → AHeap → Prop} (h0 : 0 ≤ i) (h1 : i ≤ lid) (h2 : 0 ≤ j) (h3 : j ≤ lid) (k : q ((intsFrom i (j - i).toNat).map fun i => .one (.int i)) (fun _ => True) H) : Rng2 (.int i) (.int j) H q := ⟨h0, h1, h2, h3, k⟩
noncomputable def spChain : Spec := fun vs H Q _ => ∃ (k : Int) (s : Txt), vs = [.ref 0, .int k, .str s] ∧ 0 ≤ k ∧ Scr H ∧ Wd 5 s ∧
  ∀ ws p H', ws.length ≤ 9 → (∀ w ∈ ws, Wd 10 w) → H.length ≤ p → Ws H' p ws → Keep H H' → Q (.ref p) H'
inductive ChnI (H : AHeap) (k j : Int) (s : Txt) (xs : List Item) (σ : Sg) (H' : AHeap) : Prop
  | mk : Keep H H' → ∀ rs, Ws H' H.length rs → rs.length + xs.length = (2 + j).toNat → (∀ r ∈ rs, Wd 5 r) → σ (nm 1068460336826721793631) = some (.ref H.length) → σ (nm 137989276334399845594719) = some (.ref 0) → σ (nm 1078262421209535247967) = some (.int k) → σ (nm 32292397438104887858748106241631) = some (.str s) → (∀ x ∈ xs, ∃ i : Int, x = .one (.int i) ∧ 0 ≤ i) → ChnI H k j s xs σ H'
theorem ct_law_chain (h1 : Has T (nm 513532042442335) spAt) (h2 : Has T (nm 929683040243566540383) spMixed) (h3 : Has T (nm 1815276) spLen) (h4 : HasM T .list (nm 3465715398753) spAppend) (h5 : Has T (nm 7270427996206954079) spWord) : Ct T x_law_chain b_law_chain spChain := by
  refine ct3 fun vs H Q X h => ?_
  obtain ⟨k, s, rfl, k0, hs, hw, h⟩ := h
  have hl0 : H.length ≠ 0 := hs.pos
  refine ⟨_, _, _, rfl, ?_⟩
  refine s_asg ?_
  walk_at "ev"
  refine ⟨Nat.zero_le _, ?_⟩
  have kH : Keep H (H ++ [.list []]) := Keep.new _ _
  have fin : ∀ σ H' ws p, σ (nm 137989276334399845594719) = some (.ref 0) → σ (nm 1078262421209535247967) = some (.int k) → σ (nm 32292397438104173501782932616799) = some (.ref p) → Keep H H' → Ws H' p ws → 1 ≤ ws.length → ws.length ≤ 9 → (∀ w ∈ ws, Wd 10 w) → semS T b_law_chain_4 σ H' (RQ Q) X := by
    intro σ H' ws p e1 e2 e3 kp hp l1 l2 hw
    refine s_asg ?_
    walk_at "ev"
    refine ⟨_, rfl, Int.add_nonneg k0 (by decide), hs.keep kp, fun i => ?_⟩
    walk_at "ev"
    refine len_ws hp ?_
    refine b_mod (pos_cast l1) fun j j0 j1 => ?_
    refine r_ret ?_
    walk_at "ev"
    refine b_lfrom hp j0 ?_
    walk_at "ev"
    refine b_lto ((Keep.new _ _).get hp) j0 ?_
    rw [← List.map_drop, ← List.map_take]
    refine b_lcat ((Keep.new _ _).get get_new) get_new ?_ ?_
    · rw [List.length_map, List.length_map, List.length_drop, List.length_take]; exact Nat.le_trans (Nat.add_le_add (Nat.le_trans (Nat.sub_le _ _) l2) (Nat.le_trans (Nat.min_le_right _ _) l2)) (by decide)
    rw [← List.map_append]
    refine h (ws.drop j.toNat ++ ws.take j.toNat) _ _ ?_ (fun w hw' => ?_) ?_ get_new (kp.trans ((Keep.new _ _).trans ((Keep.new _ _).trans (Keep.new _ _))))
    · rw [List.length_append, Nat.add_comm, ← List.length_append, List.take_append_drop]; exact l2
    · rcases List.mem_append.mp hw' with q | q
      · exact hw w (List.mem_of_mem_drop q)
      · exact hw w (List.mem_of_mem_take q)
    · exact (kp.trans ((Keep.new _ _).trans (Keep.new _ _))).le
  refine r_for ?_
  walk_at "ev"
  refine ⟨_, rfl, k0, hs.keep kH, fun i => ?_⟩
  walk_at "ev"
  refine b_mod (by decide) fun j j0 j1 => ?_
  walk_at "ev"
  have hj8 : 2 + j ≤ 8 := Int.add_le_add_left (Int.le_sub_one_of_lt j1) 2
  have hj9 : (2 + j).toNat ≤ 8 := Int.toNat_le.mpr hj8
  have hj2 : 2 ≤ (2 + j).toNat := (Int.le_toNat (Int.add_nonneg (by decide) j0)).mpr (Int.le_add_of_nonneg_right j0)
  refine rng1 (Int.add_nonneg (by decide) j0) (Int.le_trans hj8 (by decide)) ?_
  refine for_invN (ChnI H k j s) ?_ ?_ ⟨kH, [], get_new, by rw [List.length_map, intsFrom_len, List.length_nil, Nat.zero_add], (fun _ h => nomatch h), by walk_at "nm", by walk_at "nm", by walk_at "nm", by walk_at "nm", ?_⟩
  · rintro x xs σ H' ⟨kp, rs, hr, hl, hm, e1, e2, e3, e4, hx⟩
    obtain ⟨i, rfl, i0⟩ := hx x (.head _)
    rw [List.length_cons] at hl
    refine ⟨trivial, _, rfl, fun W _ hW => ?_⟩
    refine s_exp (e_methN (by walk_at "nm") (kind_l hr) h4 (l1 ?_))
    walk_at "ev"
    refine b_mod (by decide) fun a a0 a1 => ?_
    walk_at "ev"
    refine ⟨_, rfl, Int.add_nonneg (Int.add_nonneg k0 (by decide)) a0, hs.keep kp, fun b => ?_⟩
    walk_at "ev"
    refine ⟨_, _, rfl, fun c _ _ => ?_⟩
    walk_at "ev"
    refine ⟨_, _, rfl, hw, fun t H2 ht k2 => ?_⟩
    walk_at "ev"
    refine b_to (by decide) ?_
    have hr2 : Ws H2 H.length rs := hr.keep k2
    refine s_push hl0 hr2 (Nat.lt_of_lt_of_le (Nat.lt_of_lt_of_le (Nat.lt_of_lt_of_le (Nat.lt_add_of_pos_right (Nat.succ_pos _)) (Nat.le_of_eq hl)) hj9) (by decide)) ?_
    walk_at "ev"
    refine hW _ _ ⟨(kp.trans k2).set (Nat.le_refl _), _, hr2.push _, by rw [List.length_append, List.length_singleton, Nat.add_right_comm]; exact hl, (fun r hr' => ?_), by walk_at "nm", by walk_at "nm", by walk_at "nm", by walk_at "nm", fun y hy => hx y (.tail _ hy)⟩
    rcases List.mem_append.mp hr' with hr' | hr'
    · exact hm r hr'
    · rw [List.mem_singleton.mp hr']; exact ht.take (by decide)
  · rintro σ H' ⟨kp, rs, hr, hl, hm, e1, e2, e3, e4, hx⟩
    refine ⟨trivial, ?_⟩
    rw [List.length_nil, Nat.add_zero] at hl
    have r8 : rs.length ≤ 8 := hl ▸ hj9
    have r2 : 2 ≤ rs.length := hl ▸ hj2
    have r1 : (1 : Int) ≤ rs.length := Int.ofNat_le.mpr (Nat.le_of_succ_le r2)
    have rI : ((rs.length : Nat) : Int) ≤ lid := Int.ofNat_le.mpr (Nat.le_trans r8 (by decide))
    have rJ : ((rs.length : Int) - 1).toNat ≤ 8 := Int.toNat_le.mpr (Int.le_trans (Int.sub_le_self _ (by decide)) (Int.ofNat_le.mpr r8))
    refine s_asg ?_
    walk_at "ev"
    refine any_wd hr (by decide) (pos_cast (Nat.le_of_succ_le r2)) fun l0 hl0' => ?_
    refine ⟨Nat.le_of_ble_eq_true rfl, ?_⟩
    walk_at "ev"
    have hr2 : Ws (H' ++ [AObj.list [V.str l0]]) H.length rs := hr.keep (Keep.new _ _)
    refine len_ws hr2 ?_
    refine rng2 (by decide) (by decide) (Int.natCast_nonneg _) rI ⟨by rw [List.length_map, intsFrom_len]; exact Nat.le_trans rJ (by decide), ?_⟩
    refine comp_rngA (WV 10) (fun i i0 i1 H2 k2 q hq => ?_) fun vs H2 hvl hv k2 => ?_
    · have hi : i < rs.length := by rw [Int.toNat_of_nonneg (Int.sub_nonneg_of_le r1), Int.add_comm, Int.sub_add_cancel] at i1; exact i1
      walk_at "ev"
      refine any_wd (hr2.keep k2) (Int.sub_nonneg_of_le i0) (Int.lt_of_le_of_lt (Int.sub_le_self _ (by decide)) hi) fun u hu => ?_
      walk_at "ev"
      refine any_wd (hr2.keep k2) (Int.le_trans (by decide) i0) hi fun w hw' => ?_
      have q1 := hm u hu
      have q2 := hm w hw'
      refine b_cat (cat_le q1.le q2.le rfl) ?_
      exact hq _ _ ⟨_, rfl, q1.cat q2⟩ (Keep.refl _)
    · refine b_lcat ((k2.trans (Keep.new _ _)).get get_new) get_new ?_ ?_
      · rw [List.length_singleton, hvl]; exact Nat.le_trans (Nat.add_le_add_left rJ 1) (by decide)
      obtain ⟨ws, hws, hwd⟩ := all_ws ([V.str l0] ++ vs) (all_app (all_cons ⟨_, rfl, (hm l0 hl0').up (by decide)⟩ all_nil) hv)
      have hwl : ws.length = (1 : Nat) + vs.length := by
        have := congrArg List.length hws
        rw [List.length_append, List.length_map, List.length_singleton] at this; exact this.symm
      have hw9 : ws.length ≤ 9 := hwl.symm ▸ hvl.symm ▸ Nat.add_le_add_left rJ 1
      have hw8 : ws.length ≤ 8 := by
        rw [hwl, hvl, Nat.add_comm]
        exact Int.ofNat_le.mp (by rw [Int.natCast_add, Int.toNat_of_nonneg (Int.sub_nonneg_of_le r1)]; exact (Int.sub_add_cancel _ _).symm ▸ Int.ofNat_le.mpr r8)
      have hw1 : 1 ≤ ws.length := hwl.symm ▸ Nat.le_add_right _ _
      rw [hws]
      have kp2 : Keep H' _ := (Keep.new _ _).trans (k2.trans ((Keep.new _ [AObj.list vs]).trans (Keep.new _ [AObj.list (ws.map V.str)])))
      have hp : Ws _ _ ws := get_new (H := H2 ++ [AObj.list vs]) (o := .list (ws.map .str))
      have hpl : H.length ≤ (H2 ++ [AObj.list vs]).length := (kp.trans ((Keep.new _ _).trans (k2.trans (Keep.new _ _)))).le
      refine s_ite ?_
      walk_at "ev"
      refine ⟨_, rfl, k0, hs.keep (kp.trans kp2), fun i => ?_⟩
      walk_at "ev"
      refine b_mod (by decide) fun a a0 a1 => ?_
      walk_at "ev"
      refine if_dec (fun _ => ?_) fun _ => ?_
      · refine s_exp (e_methN (by walk_at "nm") (kind_l hp) h4 (l1 ?_))
        walk_at "ev"
        refine neg_int ?_
        refine any_last (hr.keep kp2) (Nat.le_of_succ_le r2) fun w hw' => ?_
        refine s_push (Nat.ne_of_gt (Nat.lt_of_lt_of_le (Nat.pos_of_ne_zero hl0) hpl)) hp (Nat.lt_of_le_of_lt hw9 (by decide)) ?_
        walk_at "ev"
        refine fin _ _ _ _ (by walk_at "nm") (by walk_at "nm") (by walk_at "nm") ((kp.trans kp2).set hpl) (hp.push w) ?_ ?_ ?_
        · rw [List.length_append, List.length_singleton]; exact Nat.le_add_left _ _
        · rw [List.length_append, List.length_singleton]; exact Nat.succ_le_succ hw8
        · intro u hu
          rcases List.mem_append.mp hu with hu | hu
          · exact hwd u hu
          · rw [List.mem_singleton.mp hu]; exact (hm w hw').up (by decide)
      · walk_at "ev"
        exact fin _ _ ws _ (by walk_at "nm") (by walk_at "nm") (by walk_at "nm") (kp.trans kp2) hp hw1 hw9 hwd
  · intro x hx
    obtain ⟨i, hi, rfl⟩ := List.mem_map.mp hx
    exact ⟨_, rfl, (intsFrom_mem hi).1⟩
end
noncomputable def spWords : Spec := fun vs H Q _ => ∃ k : Int, vs = [.ref 0, .int k] ∧ 0 ≤ k ∧ Scr H ∧ ∀ ws p H', Cd ws → H.length ≤ p → Ws H' p ws → Keep H H' → Q (.ref p) H'
section
variable {T : Tab}
theorem add_word {σ : Sg} {H H0 : AHeap} {P : SPost} {X : XPost} {w : Txt} {q : Nat} {us : List Txt} (h4 : HasM T .list (nm 3465715398753) spAppend) (e1 : σ (nm 252284354984115859945804035679) = some (.str w)) (e2 : σ (nm 32292397438104173501782932616799) = some (.ref q)) (hq : q ≠ 0)
    (hu : Ws H q us) (hl : us.length ≤ 1000) (hn : us.Nodup) (ha : ∀ u ∈ us, Wd 10 u) (hw : Wd 10 w) (kp : Keep H0 H) (hq0 : H0.length ≤ q)
    (k : ∀ H' us', (∀ i, i ≠ q → H'[i]? = H[i]?) → Keep H0 H' → Ws H' q us' → us'.length ≤ us.length + 1 → us'.Nodup → (∀ u ∈ us', Wd 10 u) → P .next σ H') : semS T b_law_words_l2 σ H P X := by
  refine s_ite ?_
  walk_at "ev"
  refine c_ninw hu ?_
  refine if_ndec (fun hnw => ?_) fun _ => ?_
  · refine s_exp (e_methN (by walk_at "nm") (kind_l hu) h4 (l1 ?_))
    walk_at "ev"
    refine s_push hq hu (Nat.lt_of_le_of_lt hl (by decide)) ?_
    walk_at "ev"
    refine k _ _ (fun i hi => List.getElem?_set_ne (Ne.symm hi)) (kp.set hq0) (hu.push w) (by rw [List.length_append]; exact Nat.le_refl _) ?_ ?_
    · rw [List.nodup_append]
      refine ⟨hn, by simp, fun a ha' b hb => ?_⟩
      rw [List.mem_singleton.mp hb]
      exact fun e => hnw (e ▸ ha')
    · intro u hu'
      rcases List.mem_append.mp hu' with hu' | hu'
      · exact ha u hu'
      · rw [List.mem_singleton.mp hu']; exact hw
  · walk_at "ev"
    exact k _ us (fun _ _ => rfl) kp hu (Nat.le_succ _) hn ha
inductive WdsI2 (H H1 : AHeap) (k cell : Int) (s : Txt) (xs : List Item) (σ : Sg) (H' : AHeap) : Prop
  | mk : Keep H H' → ∀ us, Ws H' H1.length us → us.length + xs.length ≤ 12 → us.Nodup → (∀ u ∈ us, Wd 10 u) → σ (nm 32292397438104173501782932616799) = some (.ref H1.length) → σ (nm 137989276334399845594719) = some (.ref 0) → σ (nm 1078262421209535247967) = some (.int k) → σ (nm 7843466381129971295) = some (.int cell) → σ (nm 32292397438104887858748106241631) = some (.str s) → (∀ x ∈ xs, ∃ i : Int, x = .one (.int i) ∧ 0 ≤ i) → WdsI2 H H1 k cell s xs σ H'
inductive WdsI1 (H H1 : AHeap) (p : Nat) (ws : List Txt) (xs : List Item) (σ : Sg) (H' : AHeap) : Prop
  | mk : Keep H H' → Ws H' p ws → ∀ us, Ws H' H1.length us → us.length + xs.length ≤ 12 → us.Nodup → (∀ u ∈ us, Wd 10 u) → σ (nm 32292397438104173501782932616799) = some (.ref H1.length) → (∀ x ∈ xs, ∃ w, x = .one (.str w) ∧ Wd 10 w) → WdsI1 H H1 p ws xs σ H'
theorem ct_law_words (h1 : Has T (nm 513532042442335) spAt) (h2 : Has T (nm 929683040243566540383) spMixed) (h3 : Has T (nm 1068672569199679796831) spSigns) (h4 : HasM T .list (nm 3465715398753) spAppend) (h5 : Has T (nm 7270427996206954079) spWord) (h6 : Has T (nm 1951640654478162685372954207) spAnyW) (h7 : Has T (nm 7342485246647498335) spMore) (h8 : Has T (nm 1022192038397693425247) spChain) : Ct T x_law_words b_law_words spWords := by
  refine ct2 fun vs H Q X h => ?_
  obtain ⟨k, rfl, k0, hs, h⟩ := h
  have hl0 : H.length ≠ 0 := hs.pos
  refine ⟨_, _, rfl, ?_⟩
  refine s_asg ?_
  walk_at "ev"
  refine ⟨_, rfl, k0, hs, fun cell => ?_⟩
  refine s_asg ?_
  walk_at "ev"
  refine ⟨_, rfl, Int.add_nonneg k0 (by decide), hs, fun c1 => ?_⟩
  walk_at "ev"
  refine ⟨_, rfl, fun s H1 hsg k1 => ?_⟩
  refine s_asg ?_
  walk_at "ev"
  refine ⟨Nat.zero_le _, ?_⟩
  have kH : Keep H (H1 ++ [.list []]) := k1.trans (Keep.new _ _)
  have hq := k1.le
  have hH1 : H1.length ≠ 0 := Nat.ne_of_gt (Nat.lt_of_lt_of_le (Nat.pos_of_ne_zero hl0) hq)
  have fin : ∀ σ H' ws, σ (nm 32292397438104173501782932616799) = some (.ref H1.length) → Keep H H' → Ws H' H1.length ws → ws.length ≤ 12 → ws.Nodup → (∀ w ∈ ws, Wd 10 w) → ∀ (r : PS) (P : SPost), (∀ v, Q v H' → P (.ret v) σ H') → semS T (.seq (.ret (.name (nm 32292397438104173501782932616799))) r) σ H' P X := by
    intro σ H' ws e kp hp hl hn hw r P hP
    walk_at "ev"
    exact hP _ (h ws _ H' ⟨hl, hw, hn⟩ hq hp kp)
  refine s_ite ?_
  walk_at "ev"
  refine b_mod (by decide) fun a a0 a1 => ?_
  walk_at "ev"
  refine if_dec (fun _ => ?_) fun _ => ?_
  · refine r_for ?_
    walk_at "ev"
    refine ⟨_, _, rfl, k0, hs.keep kH, hsg, fun ws p H2 hwl hw hp hpw k2 => ?_⟩
    refine i_list hpw ?_
    have hne : p ≠ H1.length := by rw [List.length_append, List.length_singleton] at hp; exact Nat.ne_of_gt hp
    refine for_invN (WdsI1 H H1 p ws) ?_ ?_ ⟨kH.trans k2, hpw, [], k2.get get_new, by rw [List.length_map, List.length_map, List.length_nil, Nat.zero_add]; exact Nat.le_trans hwl (by decide), List.nodup_nil, (fun _ h => nomatch h), by walk_at "nm", ?_⟩
    · rintro x xs σ H' ⟨kp, hpw', us, hu, hl, hn, ha, e1, hx⟩
      obtain ⟨w, rfl, hw'⟩ := hx x (.head _)
      rw [List.length_cons] at hl
      refine ⟨hpw', _, rfl, fun W _ hW => ?_⟩
      refine add_word h4 hit (by walk_at "nm") hH1 hu (Nat.le_trans (Nat.le_trans (Nat.le_add_right _ _) hl) (by decide)) hn ha hw' kp hq fun H3 us' ho k3 hu' hl' hn' ha' => ?_
      exact hW _ _ ⟨k3, (ho p hne).trans hpw', us', hu', Nat.le_trans (Nat.add_le_add_right hl' _) (by rw [Nat.add_right_comm]; exact hl), hn', ha', by walk_at "nm", fun y hy => hx y (.tail _ hy)⟩
    · rintro σ H' ⟨kp, hpw', us, hu, hl, hn, ha, e1, hx⟩
      exact ⟨hpw', fin σ H' us e1 kp hu hl hn ha _ _ fun _ h => h⟩
    · intro x hx
      obtain ⟨v, hv, rfl⟩ := List.mem_map.mp hx
      obtain ⟨w, hw', rfl⟩ := List.mem_map.mp hv
      exact ⟨w, rfl, hw w hw'⟩
  · walk_at "ev"
    refine r_for ?_
    walk_at "ev"
    refine ⟨Nat.le_of_ble_eq_true rfl, ?_⟩
    walk_at "ev"
    have kH2 : ∀ l, Keep H (H1 ++ [.list []] ++ [.list l]) := fun l => kH.trans (Keep.new _ _)
    refine b_mod (by decide) fun m m0 m1 => any_int 0 12 get_new m0 m1 rfl fun j j0 j1 => ?_
    refine rng1 j0 (Int.le_trans j1 (by decide)) ?_
    refine for_invN (WdsI2 H H1 k cell s) ?_ ?_ ⟨kH2 _, [], (Keep.new _ _).get get_new, by rw [List.length_map, intsFrom_len, List.length_nil, Nat.zero_add]; exact Int.toNat_le.mpr j1, List.nodup_nil, (fun _ h => nomatch h), by walk_at "nm", by walk_at "nm", by walk_at "nm", by walk_at "nm", by walk_at "nm", ?_⟩
    · rintro x xs σ H' ⟨kp, us, hu, hl, hn, ha, e1, e2, e3, e4, e5, hx⟩
      obtain ⟨i, rfl, i0⟩ := hx x (.head _)
      rw [List.length_cons] at hl
      refine ⟨trivial, _, rfl, fun W _ hW => ?_⟩
      have step : ∀ σ' H2 w, σ' (nm 252284354984115859945804035679) = some (.str w) → σ' (nm 32292397438104173501782932616799) = some (.ref H1.length) → σ' (nm 137989276334399845594719) = some (.ref 0) → σ' (nm 1078262421209535247967) = some (.int k) → σ' (nm 7843466381129971295) = some (.int cell) → σ' (nm 32292397438104887858748106241631) = some (.str s) → Wd 10 w → Keep H' H2 →
          semS T b_law_words_l1_3 σ' H2 (LQ W (SQ T b_law_words_5 (RQ Q) X)) (fun _ _ => False) := by
        intro σ' H2 w f0 f1 f2 f3 f4 f5 hw' k2
        refine add_word h4 f0 f1 hH1 (hu.keep k2) (Nat.le_trans (Nat.le_trans (Nat.le_add_right _ _) hl) (by decide)) hn ha hw' (kp.trans k2) hq fun H3 us' ho k3 hu' hl' hn' ha' => ?_
        exact hW _ _ ⟨k3, us', hu', Nat.le_trans (Nat.add_le_add_right hl' _) (by rw [Nat.add_right_comm]; exact hl), hn', ha', f1, f2, f3, f4, f5, fun y hy => hx y (.tail _ hy)⟩
      refine s_asg ?_
      walk_at "ev"
      refine b_mod (by decide) fun b b0 b1 => ?_
      walk_at "ev"
      refine ⟨_, rfl, Int.add_nonneg (Int.add_nonneg k0 (by decide)) b0, hs.keep kp, fun one => ?_⟩
      refine s_asg ?_
      walk_at "ev"
      refine ⟨_, _, rfl, fun c _ _ => ?_⟩
      walk_at "ev"
      refine ⟨_, _, rfl, hsg, fun t H2 ht k2 => ?_⟩
      refine s_ite ?_
      walk_at "ev"
      refine b_mod (by decide) fun d d0 d1 => ?_
      walk_at "ev"
      refine if_dec (fun _ => ?_) fun _ => ?_
      · walk_at "ev"
        refine ⟨_, rfl, fun t2 ht2 => ?_⟩
        walk_at "ev"
        exact step _ _ t2 (by walk_at "nm") (by walk_at "nm") (by walk_at "nm") (by walk_at "nm") (by walk_at "nm") (by walk_at "nm") ht2 k2
      · walk_at "ev"
        refine ⟨Nat.zero_le _, ?_⟩
        refine c_new (us := []) (hu.keep (k2.trans (Keep.new _ _))) get_new ?_
        have k3 : Keep H' (H2 ++ [.list []]) := k2.trans (Keep.new _ _)
        have no : ∀ {σ'' : Sg}, σ'' = σ'' → True := fun _ => trivial
        refine if_ndec (fun hne => ?_) fun _ => ?_
        · walk_at "ev"
          refine ⟨_, _, rfl, fun e _ _ => ?_⟩
          walk_at "ev"
          refine b_mod (by decide) fun f f0 f1 => ?_
          walk_at "ev"
          refine if_dec (fun _ => ?_) fun _ => ?_
          · walk_at "ev"
            refine ⟨_, _, rfl, fun g _ _ => ?_⟩
            walk_at "ev"
            refine ⟨_, _, _, us, rfl, hu.keep k3, ?_, ha, hsg, fun t2 H4 ht2 k4 => ?_⟩
            · cases us with
              | nil => exact (hne rfl).elim
              | cons _ _ => simp
            walk_at "ev"
            exact step _ _ t2 (by walk_at "nm") (by walk_at "nm") (by walk_at "nm") (by walk_at "nm") (by walk_at "nm") (by walk_at "nm") ht2 (k3.trans k4)
          · walk_at "ev"
            exact step _ _ t (by walk_at "nm") (by walk_at "nm") (by walk_at "nm") (by walk_at "nm") (by walk_at "nm") (by walk_at "nm") ht k3
        · walk_at "ev"
          exact step _ _ t (by walk_at "nm") (by walk_at "nm") (by walk_at "nm") (by walk_at "nm") (by walk_at "nm") (by walk_at "nm") ht k3
    · rintro σ H' ⟨kp, us, hu, hl, hn, ha, e1, e2, e3, e4, e5, hx⟩
      exact ⟨trivial, fin σ H' us e1 kp hu hl hn ha _ _ fun _ h => h⟩
    · intro x hx
      obtain ⟨i, hi, rfl⟩ := List.mem_map.mp hx
      exact ⟨_, rfl, (intsFrom_mem hi).1⟩
theorem if_t {b : Bool} {A B : Prop} (h : b = true) (k : A) : if b = true then A else B := by rw [if_pos h]; exact k
theorem if_f {b : Bool} {A B : Prop} (h : b = false) (k : B) : if b = true then A else B := by rw [if_neg (by rw [h]; decide)]; exact k
theorem c_ins {H : AHeap} {c : Nat} {u : Txt} {r : Bool → Prop} (k : r (decide (c ∈ u))) : cmpA .In (.str [c]) (.str u) H r := .inS k
noncomputable def az : Str := ⟨#[97, 98, 99, 100, 101, 102, 103, 104, 105, 106, 107, 108, 109, 110, 111, 112, 113, 114, 115, 116, 117, 118, 119, 120, 121, 122]⟩
theorem mem26 {c : Nat} (h : 97 ≤ c ∧ c ≤ 122) : c ∈ az.cps.toList := by
  have : ∀ c ∈ List.range 123, 97 ≤ c → c ∈ az.cps.toList := by decide
  exact this c (List.mem_range.mpr (by lia)) h.1
theorem bools_true : ∀ vs : List V, (∀ v ∈ vs, v = .bool true) → vs = (List.replicate vs.length true).map .bool
  | [], _ => rfl
  | v :: r, h => by
    rw [h v (.head _), List.length_cons, List.replicate_succ, List.map_cons, ← bools_true r fun w hw => h w (.tail _ hw)]
theorem all_true : ∀ n : Nat, (List.replicate n true).all id = true
  | 0 => rfl
  | n + 1 => all_true n
theorem s_all {H : AHeap} {Q : VPost} {X : XPost} {n : Nat} {vs : List V} (h : H[n]? = some (.list vs)) (hv : ∀ v ∈ vs, v = .bool true) (k : Q (.bool true) H) : spAll [.ref n] H Q X :=
  ⟨n, List.replicate vs.length true, rfl, by rw [← bools_true vs hv]; exact h, by rw [all_true]; exact k⟩
theorem s_sorted {H : AHeap} {Q : VPost} {X : XPost} {n : Nat} {ws : List Txt} (h : Ws H n ws) (k : ∀ ys : List Txt, ys.Perm ws → Q (.ref H.length) (H ++ [.list (ys.map .str)])) : spSorted [.ref n] H Q X := .list h k
noncomputable def spSign : Spec := fun vs H Q _ => ∃ c : Nat, vs = [.str [c]] ∧ (97 ≤ c ∧ c ≤ 122) ∧ Q (.bool true) H
noncomputable def spIsWord : Spec := fun vs H Q _ => ∃ w : Txt, vs = [.str w] ∧ Wd 10 w ∧ ∀ H', Keep H H' → Q (.bool true) H'
noncomputable def spChecked : Spec := fun vs H Q _ => ∃ (n : Nat) (ws : List Txt), vs = [.ref n] ∧ n < H.length ∧ Ws H n ws ∧ Cd ws ∧ 1 ≤ H.length ∧ ∀ ys p H', ys.Perm ws → H.length ≤ p → Ws H' p ys → Keep H H' → Q (.ref p) H'
theorem ct_is_sign (h1 : Has T (nm 938756632654307293673) spIsi) (h2 : Has T (nm 1815276) spLen) (g1 : T.gv (nm 1882739) = some (.glob (nm 1882739))) (g2 : T.gv (nm 367874058560204) = some (.str az.cps.toList)) : Ct T x_is_sign b_is_sign spSign := by
  refine ct1 fun vs H Q X h => ?_
  obtain ⟨c, rfl, hc, h⟩ := h
  refine ⟨_, rfl, ?_⟩
  refine r_ret ?_
  walk_at "ev"
  refine IsiA.str ?_
  walk_at "ev"
  refine if_t rfl ?_
  walk_at "ev"
  refine c_ins ?_
  walk_at "ev"
  rw [decide_eq_true (mem26 hc)]
  exact h
theorem ct_is_word (h1 : Has T (nm 938756632654307293673) spIsi) (h2 : Has T (nm 1815276) spLen) (h3 : Has T (nm 1783393) spAll) (h4 : Has T (nm 487352597740009) spSign) (g1 : T.gv (nm 1882739) = some (.glob (nm 1882739))) (g2 : T.gv (nm 771200664775530178509) = some (.int 10)) : Ct T x_is_word b_is_word spIsWord := by
  refine ct1 fun vs H Q X h => ?_
  obtain ⟨w, rfl, hw, h⟩ := h
  have p1 := hw.pos
  have p2 := hw.le
  refine ⟨_, rfl, ?_⟩
  refine s_ite ?_
  walk_at "ev"
  refine IsiA.str ?_
  walk_at "ev"
  refine if_f rfl ?_
  walk_at "ev"
  refine if_t (decide_eq_true (by lia)) ?_
  walk_at "ev"
  refine if_f (by rw [decide_eq_true (by lia)]; rfl) ?_
  walk_at "ev"
  refine r_ret ?_
  walk_at "ev"
  refine ⟨by rw [List.length_map]; unfold lid; lia, ?_⟩
  refine comp_map (P := fun _ v => v = .bool true) _ _ _ (fun _ _ => trivial) (fun x hx H' k' => ?_) fun vs H' ha k' => ?_
  · obtain ⟨c, hc, rfl⟩ := List.mem_map.mp hx
    refine ⟨_, rfl, fun q hq => ?_⟩
    walk_at "ev"
    exact ⟨c, rfl, hw.abc c hc, hq _ _ rfl (Keep.refl _)⟩
  · exact s_all get_new (fun v hv => by obtain ⟨_, _, e⟩ := ha.right v hv; exact e) (h _ (k'.trans (Keep.new _ _)))
inductive ChkI (H : AHeap) (ws : List Txt) (xs : List Item) (σ : Sg) (H' : AHeap) : Prop
  | mk : Keep H H' → ∀ us rs, ws = us ++ rs → xs = rs.map (fun w => .one (.str w)) → Ws H' H.length us → σ (nm 27076163558) = some (.ref H.length) → ChkI H ws xs σ H'
theorem ct_checked (h1 : Has T (nm 938756632654307293673) spIsi) (h2 : Has T (nm 1815276) spLen) (h3 : Has T (nm 443751708752361) spIsWord) (h4 : HasM T .list (nm 3465715398753) spAppend) (h5 : Has T (nm 3463330969587) spSorted) (g1 : T.gv (nm 245167340) = some (.glob (nm 245167340))) (g2 : T.gv (nm 770486307810356553677) = some (.int 12)) : Ct T x_checked b_checked spChecked := by
  refine ct1 fun vs H Q X h => ?_
  obtain ⟨n, ws, rfl, hnl, hn, hc, hl1, h⟩ := h
  have p1 := hc.le
  refine ⟨_, rfl, ?_⟩
  refine s_ite ?_
  walk_at "ev"
  refine IsiA.list hn ?_
  walk_at "ev"
  refine if_f rfl ?_
  walk_at "ev"
  refine s_ite ?_
  walk_at "ev"
  refine len_ws hn ?_
  walk_at "ev"
  refine if_f (decide_eq_false (by lia)) ?_
  walk_at "ev"
  refine s_asg ?_
  walk_at "ev"
  refine ⟨Nat.zero_le _, ?_⟩
  refine r_for ?_
  walk_at "ev"
  have kH : Keep H (H ++ [.list []]) := Keep.new _ _
  refine i_list (hn.keep kH) ?_
  refine for_invN (ChkI H ws) ?_ ?_ ⟨kH, [], ws, rfl, List.map_map, get_new, by walk_at "nm"⟩
  · rintro x xs σ H' ⟨kp, us, rs, e, ex, hu, e1⟩
    cases rs with
    | nil => cases ex
    | cons w rs =>
      obtain ⟨rfl, rfl⟩ := List.cons.inj ex
      have hw : Wd 10 w := hc.wd w (by rw [e]; simp)
      have hnw : ¬ w ∈ us := by
        have := hc.nd
        rw [e, List.nodup_append] at this
        exact fun hm => this.2.2 w hm w (.head _) rfl
      have hul : us.length ≤ 12 := by rw [e, List.length_append] at p1; lia
      refine ⟨hn.keep kp, _, rfl, fun W _ hW => ?_⟩
      refine s_ite ?_
      walk_at "ev"
      refine ⟨w, rfl, hw, fun H2 k2 => ?_⟩
      walk_at "ev"
      refine if_f rfl ?_
      walk_at "ev"
      refine s_ite ?_
      walk_at "ev"
      refine c_inw (hu.keep k2) ?_
      refine if_f (decide_eq_false hnw) ?_
      walk_at "ev"
      refine s_exp (e_methN (by walk_at "nm") (kind_l (hu.keep k2)) h4 (l1 ?_))
      walk_at "ev"
      refine s_push (by lia) (hu.keep k2) (by unfold lid; lia) ?_
      walk_at "ev"
      exact hW _ _ ⟨(kp.trans k2).set (Nat.le_refl _), us ++ [w], rs, by rw [e, List.append_assoc]; rfl, rfl, (Ws.keep hu k2).push w, by walk_at "nm"⟩
  · rintro σ H' ⟨kp, us, rs, e, ex, hu, e1⟩
    refine ⟨hn.keep kp, ?_⟩
    cases rs with
    | cons _ _ => cases ex
    | nil =>
      rw [List.append_nil] at e
      subst e
      refine r_ret ?_
      walk_at "ev"
      refine s_sorted hu fun ys hp => ?_
      exact h ys _ _ hp kp.le get_new (kp.trans (Keep.new _ _))
theorem comp_ws {H : AHeap} {σ : Sg} {X : XPost} {y : Str} {cond : PE} {Q : List V → AHeap → Prop} {n : Nat} {ws : List Txt} (p : Txt → Bool) (hn : Ws H n ws)
    (ht : ∀ w ∈ ws, ∀ H', Keep H H' → ∀ q : Bool → AHeap → Prop, (∀ H'', Keep H' H'' → q (p w) H'') → (sem T cond).tt (σ.set y (.str w)) H' q X)
    (hQ : ∀ H', Keep H H' → Q ((ws.filter p).map .str) H') :
    compGo (fun H' => H'[n]? = some (.list (ws.map .str))) (fun x H' => bindA (.name y) x H' σ) (fun σ' H' q => (sem T cond).tt σ' H' q X) (fun σ' H' q => (sem T (.name y)).ev σ' H' q X) Q ((ws.map .str).map .one) [] H := by
  refine comp_filter (p := fun x => match x with | .one (.str w) => p w | _ => false) (P := fun x v => x = .one v) _ _ _ (fun H' k => hn.keep k) (fun x hx H' k => ?_) fun vs H' ha k => ?_
  · obtain ⟨v, hv, rfl⟩ := List.mem_map.mp hx
    obtain ⟨w, hw, rfl⟩ := List.mem_map.mp hv
    exact ⟨_, rfl, fun q hq => ht w hw H' k q hq, fun _ H1 k1 q hq => e_name hit (hq _ _ rfl (Keep.refl _))⟩
  · have e : vs = (ws.filter p).map .str := by
      have e1 : ((ws.map V.str).map Item.one).filter (fun x => match x with | .one (.str w) => p w | _ => false) = ((ws.filter p).map V.str).map Item.one := by
        rw [List.filter_map, List.filter_map]; rfl
      rw [e1] at ha
      have go : ∀ (us vs : List V), All2 (fun x v => x = Item.one v) (us.map .one) vs → vs = us := by
        intro us
        induction us with
        | nil => intro vs h; cases h; rfl
        | cons u us ih => intro vs h; cases h with
          | cons h1 h2 => cases h1; rw [ih _ h2]
      exact go _ _ ha
    rw [e]; exact hQ H' k
end
noncomputable def x_left_of : List Str := [(nm 245248756), (nm 30815173231)]
noncomputable def b_left_of : PS := (.seq (.ite (.cmp1 .NotEq (.slice (.name (nm 245248756)) .none (.call (.glob (nm 1815276)) (.cons (.name (nm 30815173231)) .nil))) (.name (nm 30815173231))) (.seq (.ret .none) .skip) .skip) (.seq (.ret (.slice (.name (nm 245248756)) (.call (.glob (nm 1815276)) (.cons (.name (nm 30815173231)) .nil)) .none)) .skip))
noncomputable def x_stepped : List Str := [(nm 245166834), (nm 211597303)]
noncomputable def b_stepped_4 : PS := (.seq (.ret .none) .skip)
noncomputable def b_stepped_3 : PS := (.seq (.ite (.cmp1 .IsNot (.name (nm 3465736516322)) .none) (.seq (.ret (.tuple (.cons (.name (nm 3465736516322)) (.cons (.bool true) .nil)))) .skip) .skip) b_stepped_4)
noncomputable def b_stepped_2 : PS := (.seq (.assign (.name (nm 3465736516322)) (.call (.glob (nm 452440421413612)) (.cons (.name (nm 211597303)) (.cons (.name (nm 245166834)) .nil)))) b_stepped_3)
noncomputable def b_stepped_1 : PS := (.seq (.ite (.cmp1 .IsNot (.name (nm 31379420275)) .none) (.seq (.ret (.tuple (.cons (.name (nm 31379420275)) (.cons (.bool false) .nil)))) .skip) .skip) b_stepped_2)
noncomputable def b_stepped : PS := (.seq (.assign (.name (nm 31379420275)) (.call (.glob (nm 452440421413612)) (.cons (.name (nm 245166834)) (.cons (.name (nm 211597303)) .nil)))) b_stepped_1)
noncomputable def x_begun : List Str := [(nm 31081674743)]
noncomputable def b_begun_2 : PS := (.seq (.ret (.name (nm 27076163558))) .skip)
noncomputable def b_begun_l2_1 : PS := (.seq (.ite (.and (.cmp1 .NotEq (.name (nm 1668975)) (.name (nm 30815173231))) (.cmp1 .IsNot (.name (nm 245166834)) .none)) (.seq (.expr (.meth (.name (nm 27076163558)) (nm 3465715398753) (.cons (.tuple (.cons (.call (.glob (nm 1815276)) (.cons (.name (nm 1668975)) .nil)) (.cons (.list (.cons (.name (nm 1668975)) .nil)) (.cons (.list (.cons (.name (nm 30815173231)) .nil)) (.cons (.name (nm 245166834)) .nil))))) .nil))) .skip) .skip) .skip)
noncomputable def b_begun_l2 : PS := (.seq (.assign (.name (nm 245166834)) (.call (.glob (nm 452440421413612)) (.cons (.name (nm 1668975)) (.cons (.name (nm 30815173231)) .nil)))) b_begun_l2_1)
noncomputable def b_begun_l1 : PS := (.seq (.for_ (.name (nm 30815173231)) (.itVal (.name (nm 31081674743))) b_begun_l2) .skip)
noncomputable def b_begun_1 : PS := (.seq (.for_ (.name (nm 1668975)) (.itVal (.name (nm 31081674743))) b_begun_l1) b_begun_2)
noncomputable def b_begun : PS := (.seq (.assign (.name (nm 27076163558)) (.list .nil)) b_begun_1)
noncomputable def x_gone_on : List Str := [(nm 27356854899), (nm 211597303)]
noncomputable def b_gone_on_4 : PS := (.seq (.ret (.tuple (.cons (.name (nm 3604769125100)) (.cons (.name (nm 1668975)) (.cons (.bin .Add (.name (nm 30815173231)) (.list (.cons (.name (nm 211597303)) .nil))) (.cons (.sub (.name (nm 236550771)) (.int 0)) .nil)))))) .skip)
noncomputable def b_gone_on_3 : PS := (.seq (.ite (.sub (.name (nm 236550771)) (.int 1)) (.seq (.ret (.tuple (.cons (.bin .Add (.name (nm 3604769125100)) (.call (.glob (nm 1815276)) (.cons (.sub (.name (nm 236550771)) (.int 0)) .nil))) (.cons (.bin .Add (.name (nm 30815173231)) (.list (.cons (.name (nm 211597303)) .nil))) (.cons (.name (nm 1668975)) (.cons (.sub (.name (nm 236550771)) (.int 0)) .nil)))))) .skip) .skip) b_gone_on_4)
noncomputable def b_gone_on_2 : PS := (.seq (.ite (.cmp1 .Is (.name (nm 236550771)) .none) (.seq (.ret .none) .skip) .skip) b_gone_on_3)
noncomputable def b_gone_on_1 : PS := (.seq (.assign (.name (nm 236550771)) (.call (.glob (nm 443305286007411)) (.cons (.name (nm 245166834)) (.cons (.name (nm 211597303)) .nil)))) b_gone_on_2)
noncomputable def b_gone_on : PS := (.seq (.assign (.tup [(nm 3604769125100), (nm 1668975), (nm 30815173231), (nm 245166834)]) (.name (nm 27356854899))) b_gone_on_1)
noncomputable def x_kept_better : List Str := [(nm 245166818), (nm 27356854899)]
noncomputable def b_kept_better_2 : PS := (.seq (.ret (.bool true)) .skip)
noncomputable def b_kept_better_1 : PS := (.seq (.setItem (.name (nm 245166818)) (.sub (.name (nm 27356854899)) (.int 3)) (.name (nm 27356854899))) b_kept_better_2)
noncomputable def b_kept_better : PS := (.seq (.ite (.and (.cmp1 .In (.sub (.name (nm 27356854899)) (.int 3)) (.name (nm 245166818))) (.cmp1 .LtE (.sub (.sub (.name (nm 245166818)) (.sub (.name (nm 27356854899)) (.int 3))) (.int 0)) (.sub (.name (nm 27356854899)) (.int 0)))) (.seq (.ret (.bool false)) .skip) .skip) b_kept_better_1)
noncomputable def x_led : List Str := [(nm 31081674743)]
noncomputable def b_led_4 : PS := (.seq (.ret (.name (nm 245166818))) .skip)
noncomputable def b_led_l3_1 : PS := (.seq (.ite (.and (.cmp1 .IsNot (.name (nm 27356854899)) .none) (.call (.glob (nm 135527429768205915927275)) (.cons (.name (nm 245166818)) (.cons (.name (nm 27356854899)) .nil)))) (.seq (.assign (.name (nm 4116153104873)) (.bool true)) .skip) .skip) .skip)
noncomputable def b_led_l3 : PS := (.seq (.assign (.name (nm 27356854899)) (.call (.glob (nm 487624762177511)) (.cons (.sub (.name (nm 245166818)) (.name (nm 245166834))) (.cons (.name (nm 211597303)) .nil)))) b_led_l3_1)
noncomputable def b_led_l2 : PS := (.seq (.for_ (.name (nm 211597303)) (.itVal (.name (nm 31081674743))) b_led_l3) .skip)
noncomputable def b_led_l1_1 : PS := (.seq (.for_ (.name (nm 245166834)) (.itVal (.call (.glob (nm 3463330969587)) (.cons (.name (nm 245166818)) .nil))) b_led_l2) .skip)
noncomputable def b_led_l1 : PS := (.seq (.assign (.name (nm 4116153104873)) (.bool false)) b_led_l1_1)
noncomputable def b_led_3 : PS := (.seq (.while_ (.name (nm 4116153104873)) b_led_l1) b_led_4)
noncomputable def b_led_2 : PS := (.seq (.assign (.name (nm 4116153104873)) (.bool true)) b_led_3)
noncomputable def b_led_l4 : PS := (.seq (.expr (.call (.glob (nm 135527429768205915927275)) (.cons (.name (nm 245166818)) (.cons (.name (nm 27356854899)) .nil)))) .skip)
noncomputable def b_led_1 : PS := (.seq (.for_ (.name (nm 27356854899)) (.itVal (.call (.glob (nm 29774967522)) (.cons (.name (nm 31081674743)) .nil))) b_led_l4) b_led_2)
noncomputable def b_led : PS := (.seq (.assign (.name (nm 245166818)) .dict0) b_led_1)
noncomputable def stp (r w : Txt) : Option (Txt × Bool) := if r.take w.length = w then some (r.drop w.length, false) else if w.take r.length = r then some (w.drop r.length, true) else none
structure Gd (ws : List Txt) (r : Txt) (l : Nat) (p q : List Txt) : Prop where
  eq : p.flatten = q.flatten ++ r
  len : l = p.flatten.length
  ne : ∃ a p' b q', p = a :: p' ∧ q = b :: q' ∧ a ≠ b
  inp : ∀ w ∈ p, w ∈ ws
  inq : ∀ w ∈ q, w ∈ ws
  last : ∃ p0 w, p = p0 ++ [w] ∧ p0.flatten.length ≤ q.flatten.length
theorem app_of_take {r w : Txt} (h : r.take w.length = w) : r = w ++ r.drop w.length := by
  conv => lhs; rw [← List.take_append_drop w.length r, h]
theorem cut_app {x y a b : Txt} (h : x ++ a = y ++ b) (hl : y.length ≤ x.length) : x.take y.length = y ∧ x.drop y.length ++ a = b := by
  have h1 : x.take y.length = y := by
    have := congrArg (List.take y.length) h
    rwa [List.take_append_of_le_length hl, List.take_left] at this
  refine ⟨h1, ?_⟩
  rw [app_of_take h1, List.append_assoc] at h
  exact List.append_cancel_left h
theorem Gd.suf {ws : List Txt} {r : Txt} {l : Nat} {p q : List Txt} (g : Gd ws r l p q) : ∃ w ∈ ws, ∃ k, k ≤ w.length ∧ r = w.drop k := by
  obtain ⟨p0, w, e, h⟩ := g.last
  have h1 := g.eq
  rw [e, List.flatten_append, List.flatten_cons, List.flatten_nil, List.append_nil] at h1
  have h2 := (cut_app h1.symm h).2
  refine ⟨w, g.inp w (by rw [e]; exact List.mem_append_right _ (.head _)), (q.flatten.drop p0.flatten.length).length, ?_, ?_⟩
  · rw [← h2, List.length_append]; exact Nat.le_add_right _ _
  · rw [← h2, List.drop_left]
theorem flat_one1 (w : Txt) : [w].flatten = w := by rw [List.flatten_cons, List.flatten_nil, List.append_nil]
theorem Gd.begin {ws : List Txt} {w u : Txt} (hw : w ∈ ws) (hu : u ∈ ws) (hne : w ≠ u) (h : w.take u.length = u) : Gd ws (w.drop u.length) w.length [w] [u] :=
  ⟨by rw [flat_one1, flat_one1]; exact app_of_take h, by rw [flat_one1], ⟨w, [], u, [], rfl, rfl, hne⟩, fun x hx => by rw [List.mem_singleton.mp hx]; exact hw, fun x hx => by rw [List.mem_singleton.mp hx]; exact hu, [], w, rfl, Nat.zero_le _⟩
theorem in_snoc {ws q : List Txt} {w : Txt} (h : ∀ u ∈ q, u ∈ ws) (hw : w ∈ ws) : ∀ u ∈ q ++ [w], u ∈ ws := fun u hu => (List.mem_append.mp hu).elim (h u) fun hu => by rw [List.mem_singleton.mp hu]; exact hw
theorem Gd.short {ws : List Txt} {r w : Txt} {l : Nat} {p q : List Txt} (g : Gd ws r l p q) (hw : w ∈ ws) (h : r.take w.length = w) : Gd ws (r.drop w.length) l p (q ++ [w]) := by
  obtain ⟨p0, z, e, hle⟩ := g.last
  refine ⟨?_, g.len, ?_, g.inp, in_snoc g.inq hw, p0, z, e, ?_⟩
  · rw [List.flatten_append, flat_one1, List.append_assoc, g.eq, ← app_of_take h]
  · obtain ⟨a, p', b, q', e1, e2, hne⟩ := g.ne
    exact ⟨a, p', b, q' ++ [w], e1, by rw [e2]; rfl, hne⟩
  · rw [List.flatten_append, List.length_append]; exact Nat.le_trans hle (Nat.le_add_right _ _)
theorem Gd.long {ws : List Txt} {r w : Txt} {l : Nat} {p q : List Txt} (g : Gd ws r l p q) (hw : w ∈ ws) (h : w.take r.length = r) : Gd ws (w.drop r.length) (l + (w.drop r.length).length) (q ++ [w]) p := by
  have e : (q ++ [w]).flatten = p.flatten ++ w.drop r.length := by
    rw [List.flatten_append, g.eq, List.append_assoc, ← app_of_take h, flat_one1]
  refine ⟨e, by rw [e, List.length_append, ← g.len], ?_, in_snoc g.inq hw, g.inp, q, w, rfl, ?_⟩
  · obtain ⟨a, p', b, q', e1, e2, hne⟩ := g.ne
    exact ⟨b, q' ++ [w], a, p', by rw [e2]; rfl, e1, hne.symm⟩
  · rw [g.eq, List.length_append]; exact Nat.le_add_right _ _
noncomputable def Le (f : Txt → Option Nat) (r : Txt) (n : Nat) : Prop := ∃ l, f r = some l ∧ l ≤ n
structure Shut (ws : List Txt) (f : Txt → Option Nat) : Prop where
  beg : ∀ w ∈ ws, ∀ u ∈ ws, w ≠ u → w.take u.length = u → Le f (w.drop u.length) w.length
  stp : ∀ r l, f r = some l → ∀ w ∈ ws, ∀ r' b, stp r w = some (r', b) → Le f r' (l + if b then r'.length else 0)
theorem Le.mono {f : Txt → Option Nat} {r : Txt} {n m : Nat} (h : Le f r n) (k : n ≤ m) : Le f r m := by obtain ⟨l, e, x⟩ := h; exact ⟨l, e, Nat.le_trans x k⟩
noncomputable def Kx (d : Nat) (H H' : AHeap) : Prop := H.length ≤ H'.length ∧ ∀ i o, i ≠ d → H[i]? = some o → H'[i]? = some o
theorem Kx.of {d : Nat} {H H' : AHeap} (k : Keep H H') : Kx d H H' := ⟨k.le, fun _ _ _ e => k.get e⟩
theorem Kx.trans {d : Nat} {H H1 H2 : AHeap} (a : Kx d H H1) (b : Kx d H1 H2) : Kx d H H2 := ⟨Nat.le_trans a.1 b.1, fun i o h e => b.2 i o h (a.2 i o h e)⟩
theorem Kx.set {d : Nat} {H H' : AHeap} (k : Kx d H H') (o : AObj) : Kx d H (H'.set d o) := ⟨by rw [List.length_set]; exact k.1, fun i x h e => by rw [List.getElem?_set_ne (Ne.symm h)]; exact k.2 i x h e⟩
theorem Kx.refl (d : Nat) (H : AHeap) : Kx d H H := ⟨Nat.le_refl _, fun _ _ _ e => e⟩
inductive StP (P : Nat → Prop) (H : AHeap) (n l : Nat) (p q : List Txt) (r : Txt) : Prop
  | mk (a b : Nat) : P n → P a → P b → H[n]? = some (.tuple [.int l, .ref a, .ref b, .str r]) → Ws H a p → Ws H b q → StP P H n l p q r
abbrev St (d : Nat) := StP (· ≠ d)
theorem StP.kp {P : Nat → Prop} {H H' : AHeap} {n l : Nat} {p q : List Txt} {r : Txt} (h : StP P H n l p q r) (k : ∀ i o, P i → H[i]? = some o → H'[i]? = some o) : StP P H' n l p q r :=
  by obtain ⟨a, b, h1, h2, h3, h4, h5, h6⟩ := h; exact ⟨a, b, h1, h2, h3, k _ _ h1 h4, k _ _ h2 h5, k _ _ h3 h6⟩
theorem St.kx {d : Nat} {H H' : AHeap} {n l : Nat} {p q : List Txt} {r : Txt} (h : St d H n l p q r) (k : Kx d H H') : St d H' n l p q r := h.kp k.2
section
variable {T : Tab}
noncomputable def spLeft : Spec := fun vs H Q _ => ∃ t u : Txt, vs = [.str t, .str u] ∧ Q (if t.take u.length = u then .str (t.drop u.length) else .none) H
theorem ct_left_of (h1 : Has T (nm 1815276) spLen) : Ct T x_left_of b_left_of spLeft := by
  refine ct2 fun vs H Q X h => ?_
  obtain ⟨t, u, rfl, h⟩ := h
  refine ⟨_, _, rfl, ?_⟩
  refine s_ite ?_
  walk_at "ev"
  refine b_to (Int.natCast_nonneg _) ?_
  walk_at "ev"
  rw [show ((u.length : Nat) : Int).toNat = u.length from rfl]
  refine if_ndec (fun e => ?_) fun e => ?_
  · walk_at "ev"
    rw [if_neg e] at h; exact h
  · walk_at "ev"
    refine b_from (Int.natCast_nonneg _) ?_
    rw [if_pos e] at h; exact h
noncomputable def StepQ (o : Option (Txt × Bool)) (H : AHeap) (Q : VPost) : Prop := match o with
  | some (r, b) => Q (.ref H.length) (H ++ [.tuple [.str r, .bool b]])
  | none => Q .none H
noncomputable def spStepped : Spec := fun vs H Q _ => ∃ r w : Txt, vs = [.str r, .str w] ∧ StepQ (stp r w) H Q
theorem ct_stepped (h1 : Has T (nm 452440421413612) spLeft) : Ct T x_stepped b_stepped spStepped := by
  refine ct2 fun vs H Q X h => ?_
  obtain ⟨r, w, rfl, h⟩ := h
  refine ⟨_, _, rfl, ?_⟩
  unfold stp at h
  refine s_asg ?_
  walk_at "ev"
  refine ⟨r, w, rfl, ?_⟩
  by_cases e : r.take w.length = w
  · rw [if_pos e] at h ⊢
    refine s_ite ?_
    walk_at "ev"
    refine if_t rfl ?_
    walk_at "ev"
    exact ⟨Nat.le_of_ble_eq_true rfl, h⟩
  · rw [if_neg e] at h ⊢
    refine s_ite ?_
    walk_at "ev"
    refine if_f rfl ?_
    walk_at "ev"
    refine s_asg ?_
    walk_at "ev"
    refine ⟨w, r, rfl, ?_⟩
    by_cases e2 : w.take r.length = r
    · rw [if_pos e2] at h ⊢
      refine s_ite ?_
      walk_at "ev"
      refine if_t rfl ?_
      walk_at "ev"
      exact ⟨Nat.le_of_ble_eq_true rfl, h⟩
    · rw [if_neg e2] at h ⊢
      refine s_ite ?_
      walk_at "ev"
      refine if_f rfl ?_
      walk_at "ev"
      refine r_ret ?_
      walk_at "ev"
      exact h
noncomputable def GoneQ (P : Nat → Prop) (o : Option (Txt × Bool)) (l : Nat) (p q : List Txt) (w : Txt) (H : AHeap) (Q : VPost) : Prop := match o with
  | none => Q .none H
  | some (r, false) => ∀ n H', Keep H H' → StP P H' n l p (q ++ [w]) r → Q (.ref n) H'
  | some (r, true) => ∀ n H', Keep H H' → StP P H' n (l + r.length) (q ++ [w]) p r → Q (.ref n) H'
noncomputable def spGone : Spec := fun vs H Q _ => ∃ (P : Nat → Prop) (n l : Nat) (p q : List Txt) (r w : Txt), vs = [.ref n, .str w] ∧ (∀ i, H.length ≤ i → P i) ∧ StP P H n l p q r ∧ p.length ≤ 1000 ∧ q.length ≤ 1000 ∧ GoneQ P (stp r w) l p q w H Q
theorem ct_gone_on (h1 : Has T (nm 443305286007411) spStepped) (h2 : Has T (nm 1815276) spLen) : Ct T x_gone_on b_gone_on spGone := by
  refine ct2 fun vs H Q X h => ?_
  obtain ⟨P, n, l, p, q, r, w, rfl, hd, ⟨a, b, hn, ha, hb, e1, e2, e3⟩, hp, hq, h⟩ := h
  refine ⟨_, _, rfl, ?_⟩
  refine r_un4 (by walk_at "nm") e1 ?_
  refine s_asg ?_
  walk_at "ev"
  refine ⟨r, w, rfl, ?_⟩
  unfold StepQ
  cases hs : stp r w with
  | none =>
    rw [hs] at h
    dsimp only
    refine s_ite ?_
    walk_at "ev"
    refine if_t rfl ?_
    walk_at "ev"
    exact h
  | some x =>
    obtain ⟨r', t⟩ := x
    rw [hs] at h
    dsimp only
    have k1 : Keep H (H ++ [.tuple [.str r', .bool t]]) := Keep.new _ _
    have g1 : (H ++ [AObj.tuple [V.str r', V.bool t]])[H.length]? = some (.tuple [.str r', .bool t]) := get_new
    generalize H ++ [AObj.tuple [V.str r', V.bool t]] = H1 at k1 g1
    have hl := k1.le
    refine s_ite ?_
    walk_at "ev"
    refine if_f rfl ?_
    walk_at "ev"
    refine s_ite ?_
    walk_at "ev"
    refine b_att (k := 1) g1 rfl ?_
    cases t with
    | true =>
      walk_at "ev"
      refine b_att (k := 0) g1 rfl ?_
      walk_at "ev"
      refine ⟨Nat.le_of_ble_eq_true rfl, ?_⟩
      refine b_lcat ((Keep.new _ _).get (k1.get e3)) get_new (by rw [List.length_map]; exact Nat.le_trans (Nat.succ_le_succ hq) (by decide)) ?_
      walk_at "ev"
      refine b_att (k := 0) ((Keep.new _ _).get ((Keep.new _ _).get g1)) rfl ?_
      refine ⟨Nat.le_of_ble_eq_true rfl, ?_⟩
      have k2 : Keep H1 (H1 ++ [AObj.list [V.str w]] ++ [AObj.list (q.map V.str ++ [V.str w])]) := (Keep.new _ _).trans (Keep.new _ _)
      refine h _ _ (k1.trans (k2.trans (Keep.new _ _))) ⟨_, a, ?_, ?_, ha, get_new, ?_, ?_⟩
      · exact hd _ (Nat.le_trans hl k2.le)
      · exact hd _ (Nat.le_trans hl (Keep.new _ _).le)
      · unfold Ws
        rw [List.map_append]; exact (Keep.new _ _).get get_new
      · exact (k1.trans (k2.trans (Keep.new _ _))).get e2
    | false =>
      walk_at "ev"
      refine r_ret ?_
      walk_at "ev"
      refine ⟨Nat.le_of_ble_eq_true rfl, ?_⟩
      refine b_lcat ((Keep.new _ _).get (k1.get e3)) get_new (by rw [List.length_map]; exact Nat.le_trans (Nat.succ_le_succ hq) (by decide)) ?_
      walk_at "ev"
      refine b_att (k := 0) ((Keep.new _ _).get ((Keep.new _ _).get g1)) rfl ?_
      refine ⟨Nat.le_of_ble_eq_true rfl, ?_⟩
      have k2 : Keep H1 (H1 ++ [AObj.list [V.str w]] ++ [AObj.list (q.map V.str ++ [V.str w])]) := (Keep.new _ _).trans (Keep.new _ _)
      refine h _ _ (k1.trans (k2.trans (Keep.new _ _))) ⟨a, _, ?_, ha, ?_, get_new, ?_, ?_⟩
      · exact hd _ (Nat.le_trans hl k2.le)
      · exact hd _ (Nat.le_trans hl (Keep.new _ _).le)
      · exact (k1.trans (k2.trans (Keep.new _ _))).get e2
      · unfold Ws
        rw [List.map_append]; exact (Keep.new _ _).get get_new
abbrev Bst := List (Txt × (Nat × List Txt × List Txt))
noncomputable def EQ (d : Nat) (H : AHeap) (b : Txt × (Nat × List Txt × List Txt)) (e : Txt × V) : Prop := e.1 = b.1 ∧ ∃ n, e.2 = .ref n ∧ St d H n b.2.1 b.2.2.1 b.2.2.2 b.1
noncomputable def DB (d : Nat) (H : AHeap) (B : Bst) : Prop := ∃ es ep, H[d]? = some (.dict es ep) ∧ All2 (EQ d H) B es
noncomputable def stB (B : Bst) (r : Txt) (x : Nat × List Txt × List Txt) : Bst := if B.any (fun b => decide (b.1 = r)) then B.map (fun b => if b.1 = r then (b.1, x) else b) else B ++ [(r, x)]
noncomputable def lenB (B : Bst) (r : Txt) : Option Nat := (B.find? fun b => b.1 == r).map (·.2.1)
theorem EQ.kx {d : Nat} {H H' : AHeap} {b : Txt × (Nat × List Txt × List Txt)} {e : Txt × V} (h : EQ d H b e) (k : Kx d H H') : EQ d H' b e := by obtain ⟨h1, n, h2, h3⟩ := h; exact ⟨h1, n, h2, h3.kx k⟩
theorem DB.keep {d : Nat} {H H' : AHeap} {B : Bst} (h : DB d H B) (k : Keep H H') : DB d H' B := by obtain ⟨es, ep, h1, h2⟩ := h; exact ⟨es, ep, k.get h1, h2.mono fun _ _ x => x.kx (.of k)⟩
theorem eq_find {d : Nat} {H : AHeap} {r : Txt} {B : Bst} {es : List (Txt × V)} (h : All2 (EQ d H) B es) : (B.find? (fun b => b.1 == r) = none ∧ es.find? (fun e => e.1 == r) = none) ∨ ∃ b e, B.find? (fun b => b.1 == r) = some b ∧ es.find? (fun e => e.1 == r) = some e ∧ EQ d H b e := by
  induction h with
  | nil => exact .inl ⟨rfl, rfl⟩
  | @cons b e B es hb _ ih =>
    rw [List.find?_cons, List.find?_cons, hb.1]
    cases b.1 == r with
    | true => exact .inr ⟨b, e, rfl, rfl, hb⟩
    | false => exact ih
theorem eq_any {d : Nat} {H : AHeap} {r : Txt} {B : Bst} {es : List (Txt × V)} (h : All2 (EQ d H) B es) : (es.any fun e => e.1 == r) = (lenB B r).isSome := by
  unfold lenB
  rw [Option.isSome_map]
  induction h with
  | nil => rfl
  | @cons b e B es hb _ ih =>
    rw [List.any_cons, List.find?_cons, hb.1]
    cases b.1 == r with
    | true => rfl
    | false => rw [Bool.false_or]; exact ih
theorem DB.set {d : Nat} {H : AHeap} {B : Bst} {es : List (Txt × V)} {r : Txt} {n : Nat} {x : Nat × List Txt × List Txt} (hd : d < H.length) (h : All2 (EQ d H) B es) (hs : St d H n x.1 x.2.1 x.2.2 r) (ep : Nat) : DB d (H.set d (.dict (stA es r (.ref n)) ep)) (stB B r x) := by
  have k : Kx d H (H.set d (.dict (stA es r (.ref n)) ep)) := (Kx.refl d H).set _
  refine ⟨_, ep, List.getElem?_set_self hd, ?_⟩
  have ha : (es.any fun e => decide (e.1 = r)) = B.any fun b => decide (b.1 = r) := by
    clear k
    induction h with
    | nil => rfl
    | cons hb _ ih => rw [List.any_cons, List.any_cons, ih, hb.1]
  generalize hH : H.set d (.dict (stA es r (.ref n)) ep) = H' at k
  clear hH
  unfold stA stB
  rw [ha]
  split
  · rename_i hh
    clear hh ha
    induction h with
    | nil => exact .nil
    | @cons b e B es hb _ ih =>
      rw [List.map_cons, List.map_cons]
      refine .cons ?_ ih
      rw [hb.1]
      by_cases q : b.1 = r
      · rw [if_pos q, if_pos q]; exact ⟨rfl, n, rfl, q ▸ hs.kx k⟩
      · rw [if_neg q, if_neg q]; exact hb.kx k
  · exact (h.mono fun _ _ z => z.kx k).append (.cons ⟨rfl, n, rfl, hs.kx k⟩ .nil)
noncomputable def worse (B : Bst) (r : Txt) (l : Nat) : Prop := ∃ m, lenB B r = some m ∧ m ≤ l
noncomputable def spKept : Spec := fun vs H Q _ => ∃ (d n l : Nat) (p q : List Txt) (r : Txt) (B : Bst), vs = [.ref d, .ref n] ∧ d ≠ 0 ∧ DB d H B ∧ B.length < lid ∧ St d H n l p q r ∧
  (worse B r l → Q (.bool false) H) ∧ (¬ worse B r l → ∀ H', Kx d H H' → H'.length = H.length → DB d H' (stB B r (l, p, q)) → Q (.bool true) H')
theorem ct_kept_better : Ct T x_kept_better b_kept_better spKept := by
  refine ct2 fun vs H Q X h => ?_
  obtain ⟨d, n, l, p, q, r, B, rfl, hd, ⟨es, ep, e1, hB⟩, hl, hs, h1, h2⟩ := h
  obtain ⟨a, b, hn, ha, hb, e2, e3, e4⟩ := id hs
  have hel : es.length = B.length := hB.length.symm
  refine ⟨_, _, rfl, ?_⟩
  have no : ¬ worse B r l → semS T b_kept_better_1 (Sg.set (Sg.set (fun _ => none) (nm 245166818) (.ref d)) (nm 27356854899) (.ref n)) H (RQ Q) X := by
    intro hw
    refine s_set ?_
    walk_at "ev"
    refine b_att (k := 3) e2 rfl ?_
    refine b_dset hd e1 (by lia) fun ep' => ?_
    refine r_ret ?_
    walk_at "ev"
    exact h2 hw _ ((Kx.refl d H).set _) (List.length_set ..) (DB.set (x := (l, p, q)) (lt_of_get e1) hB hs ep')
  refine s_ite ?_
  walk_at "ev"
  refine b_att (k := 3) e2 rfl ?_
  walk_at "ev"
  refine c_ind e1 ?_
  rw [eq_any hB]
  rcases eq_find (r := r) hB with ⟨f1, f2⟩ | ⟨x, e, f1, f2, hx, m, hm, hst⟩
  · have e0 : lenB B r = none := by unfold lenB; rw [f1]; rfl
    rw [e0]
    refine if_f rfl ?_
    walk_at "ev"
    exact no fun ⟨m, q1, _⟩ => by rw [e0] at q1; cases q1
  · have e0 : lenB B r = some x.2.1 := by unfold lenB; rw [f1]; rfl
    obtain ⟨a', b', _, _, _, e5, _, _⟩ := hst
    rw [e0]
    refine if_t rfl ?_
    walk_at "ev"
    refine b_att (k := 3) e2 rfl ?_
    refine b_dget e1 f2 ?_
    rw [hm]
    walk_at "ev"
    refine b_att (k := 0) e5 rfl ?_
    walk_at "ev"
    refine b_att (k := 0) e2 rfl ?_
    walk_at "ev"
    refine if_dec (fun hle => ?_) fun hle => ?_
    · walk_at "ev"
      exact h1 ⟨x.2.1, e0, by lia⟩
    · walk_at "ev"
      exact no fun ⟨m, q1, q2⟩ => by rw [e0] at q1; cases q1; lia
inductive SF (o : Nat) (H : AHeap) (n : Nat) (w u : Txt) : Prop
  | mk (a b : Nat) : o < n → o < a → o < b → H[n]? = some (.tuple [.int w.length, .ref a, .ref b, .str (w.drop u.length)]) → Ws H a [w] → Ws H b [u] → SF o H n w u
theorem SF.kx {o : Nat} {H H' : AHeap} {n : Nat} {w u : Txt} (h : SF o H n w u) (k : Kx o H H') : SF o H' n w u :=
  by obtain ⟨a, b, h1, h2, h3, h4, h5, h6⟩ := h; exact ⟨a, b, h1, h2, h3, k.2 _ _ (Nat.ne_of_gt h1) h4, k.2 _ _ (Nat.ne_of_gt h2) h5, k.2 _ _ (Nat.ne_of_gt h3) h6⟩
theorem SF.st {o d : Nat} {H : AHeap} {n : Nat} {w u : Txt} (h : SF o H n w u) (hd : d ≤ o) : St d H n w.length [w] [u] (w.drop u.length) :=
  by obtain ⟨a, b, h1, h2, h3, h4, h5, h6⟩ := h; exact ⟨a, b, Nat.ne_of_gt (Nat.lt_of_le_of_lt hd h1), Nat.ne_of_gt (Nat.lt_of_le_of_lt hd h2), Nat.ne_of_gt (Nat.lt_of_le_of_lt hd h3), h4, h5, h6⟩
noncomputable def Beg (ws : List Txt) (w u : Txt) : Prop := w ∈ ws ∧ u ∈ ws ∧ w ≠ u ∧ w.take u.length = u
inductive BgI (o : Nat) (ws : List Txt) (done : Txt → Txt → Prop) (m : Nat) (H : AHeap) : Prop
  | mk (ns : List Nat) : H[o]? = some (.list (ns.map .ref)) → ns.length ≤ m → (∀ n ∈ ns, ∃ w u, Beg ws w u ∧ SF o H n w u) → (∀ w u, done w u → Beg ws w u → ∃ n ∈ ns, SF o H n w u) → BgI o ws done m H
noncomputable def spBegun : Spec := fun vs H Q _ => ∃ (n : Nat) (ws : List Txt), vs = [.ref n] ∧ n < H.length ∧ Ws H n ws ∧ ws.length ≤ 12 ∧ ∀ o H', H.length ≤ o → Keep H H' → BgI o ws (fun _ _ => True) 144 H' → Q (.ref o) H'
inductive BgnI2 (H : AHeap) (n : Nat) (ws us : List Txt) (w : Txt) (xs : List Item) (σ : Sg) (H' : AHeap) : Prop
  | mk : Keep H H' → ∀ vs rs, ws = vs ++ rs → xs = rs.map (fun w => .one (.str w)) → BgI H.length ws (fun a b => a ∈ us ∨ (a = w ∧ b ∈ vs)) (us.length * 12 + vs.length) H' → σ (nm 27076163558) = some (.ref H.length) → σ (nm 31081674743) = some (.ref n) → σ (nm 1668975) = some (.str w) → BgnI2 H n ws us w xs σ H'
inductive BgnI1 (H : AHeap) (n : Nat) (ws : List Txt) (xs : List Item) (σ : Sg) (H' : AHeap) : Prop
  | mk : Keep H H' → ∀ us rs, ws = us ++ rs → xs = rs.map (fun w => .one (.str w)) → BgI H.length ws (fun w u => w ∈ us) (us.length * 12) H' → σ (nm 27076163558) = some (.ref H.length) → σ (nm 31081674743) = some (.ref n) → BgnI1 H n ws xs σ H'
theorem ct_begun (h1 : Has T (nm 452440421413612) spLeft) (h2 : Has T (nm 1815276) spLen) (h4 : HasM T .list (nm 3465715398753) spAppend) : Ct T x_begun b_begun spBegun := by
  refine ct1 fun vs H Q X h => ?_
  obtain ⟨n, ws, rfl, hn, hw, hl, h⟩ := h
  refine ⟨_, rfl, ?_⟩
  refine s_asg ?_
  walk_at "ev"
  refine ⟨Nat.zero_le _, ?_⟩
  have k0 : Keep H (H ++ [.list []]) := Keep.new _ _
  refine r_for ?_
  walk_at "ev"
  refine i_list (hw.keep k0) ?_
  refine for_invN (BgnI1 H n ws) ?_ ?_
    ⟨k0, [], ws, rfl, List.map_map, ⟨[], get_new, Nat.zero_le _, (fun _ h => nomatch h), fun _ _ h => nomatch h⟩, by walk_at "nm", by walk_at "nm"⟩
  · rintro x xs σ H' ⟨kp, us, rs, e, ex, hI, s1, s2⟩
    cases rs with
    | nil => cases ex
    | cons w rs =>
      obtain ⟨rfl, rfl⟩ := List.cons.inj ex
      refine ⟨hw.keep kp, _, rfl, fun W _ hW => ?_⟩
      refine r_for ?_
      walk_at "ev"
      refine i_list (hw.keep kp) ?_
      refine for_invN (BgnI2 H n ws us w) ?_ ?_
        ⟨kp, [], ws, rfl, List.map_map, ?_, by walk_at "nm", by walk_at "nm", by walk_at "nm"⟩
      · rintro x xs σ H' ⟨kp, vs, rs', e', ex', ⟨ns, i1, i2, i3, i4⟩, s1, s2, s3⟩
        cases rs' with
        | nil => cases ex'
        | cons u rs' =>
          obtain ⟨rfl, rfl⟩ := List.cons.inj ex'
          have hvl : us.length < 12 ∧ vs.length < 12 := by
            have a1 := hl; have a2 := hl
            rw [e, List.length_append, List.length_cons] at a1; rw [e', List.length_append, List.length_cons] at a2; lia
          have hww : ws = (vs ++ [u]) ++ rs' := by rw [e', List.append_assoc]; rfl
          refine ⟨hw.keep kp, _, rfl, fun W' _ hW' => ?_⟩
          refine s_asg ?_
          walk_at "ev"
          refine ⟨w, u, rfl, ?_⟩
          have skip : ¬ Beg ws w u → ∀ σ', σ' (nm 27076163558) = some (.ref H.length) → σ' (nm 31081674743) = some (.ref n) → σ' (nm 1668975) = some (.str w) → W' σ' H' := by
            intro hnb σ' t1 t2 t3
            refine hW' _ _ ⟨kp, vs ++ [u], rs', hww, rfl, ⟨ns, i1, by rw [List.length_append]; exact Nat.le_trans i2 (Nat.add_le_add_left (Nat.le_add_right _ _) _), i3, fun a b hd hb => ?_⟩, t1, t2, t3⟩
            rcases hd with hd | ⟨rfl, hd⟩
            · exact i4 a b (.inl hd) hb
            · rcases List.mem_append.mp hd with hd | hd
              · exact i4 a b (.inr ⟨rfl, hd⟩) hb
              · rw [List.mem_singleton.mp hd] at hb; exact (hnb hb).elim
          refine s_ite ?_
          walk_at "ev"
          refine if_ndec (fun hne => ?_) fun heq => ?_
          · by_cases hpre : w.take u.length = u
            · rw [if_pos hpre]
              walk_at "ev"
              refine if_t rfl ?_
              refine s_exp (e_methN (by walk_at "nm") (kind_l i1) h4 (l1 ?_))
              walk_at "ev"
              refine ⟨Nat.le_of_ble_eq_true rfl, ?_⟩
              walk_at "ev"
              refine ⟨Nat.le_of_ble_eq_true rfl, ?_⟩
              walk_at "ev"
              refine ⟨Nat.le_of_ble_eq_true rfl, ?_⟩
              have k2 : Keep H' (H' ++ [AObj.list [V.str w]] ++ [AObj.list [V.str u]]) := (Keep.new _ _).trans (Keep.new _ _)
              have ga : Ws (H' ++ [AObj.list [V.str w]] ++ [AObj.list [V.str u]]) H'.length [w] := (Keep.new _ _).get get_new
              have gb : Ws (H' ++ [AObj.list [V.str w]] ++ [AObj.list [V.str u]]) (H' ++ [AObj.list [V.str w]]).length [u] := get_new
              generalize hB : (H' ++ [AObj.list [V.str w]]).length = B at gb ⊢
              have hB' : H'.length < B := by rw [← hB, List.length_append, List.length_singleton]; exact Nat.lt_succ_self _
              generalize H' ++ [AObj.list [V.str w]] ++ [AObj.list [V.str u]] = H2 at k2 ga gb
              have hHl := lt_of_get i1
              have h2l := k2.le
              have k3 : Keep H2 (H2 ++ [.tuple [.int w.length, .ref H'.length, .ref B, .str (w.drop u.length)]]) := Keep.new _ _
              have hsf : SF H.length (H2 ++ [.tuple [.int w.length, .ref H'.length, .ref B, .str (w.drop u.length)]]) H2.length w u := ⟨H'.length, B, Nat.lt_of_lt_of_le hHl h2l, hHl, Nat.lt_trans hHl hB', get_new, k3.get ga, k3.get gb⟩
              have i1' := k3.get (k2.get i1)
              refine s_append (Nat.ne_of_gt (Nat.lt_of_le_of_lt (Nat.zero_le _) hn)) i1' (by rw [List.length_map]; exact Nat.lt_of_le_of_lt (Nat.le_trans i2 (Nat.add_le_add (Nat.mul_le_mul_right 12 (Nat.le_of_lt hvl.1)) (Nat.le_of_lt hvl.2))) (by decide)) ?_
              walk_at "ev"
              have kx : Kx H.length (H2 ++ [.tuple [.int w.length, .ref H'.length, .ref B, .str (w.drop u.length)]]) _ := (Kx.refl _ _).set (.list (ns.map .ref ++ [.ref H2.length]))
              have kx2 := (Kx.of (k2.trans k3)).trans kx
              refine hW' _ _ ⟨(kp.trans (k2.trans k3)).set (Nat.le_refl _), vs ++ [u], rs', hww, rfl, ⟨ns ++ [H2.length], ?_, by rw [List.length_append, List.length_append, List.length_singleton, List.length_singleton]; exact Nat.succ_le_succ i2, fun m hm => ?_, fun a b hd hb => ?_⟩, by walk_at "nm", by walk_at "nm", by walk_at "nm"⟩
              · rw [List.getElem?_set_self (lt_of_get i1'), List.map_append]; rfl
              · rcases List.mem_append.mp hm with hm | hm
                · obtain ⟨a, b, q1, q2⟩ := i3 m hm
                  exact ⟨a, b, q1, q2.kx kx2⟩
                · rw [List.mem_singleton.mp hm]
                  exact ⟨w, u, ⟨by rw [e]; simp, by rw [e']; simp, hne, hpre⟩, hsf.kx kx⟩
              · have old : (a ∈ us ∨ (a = w ∧ b ∈ vs)) → ∃ m ∈ ns ++ [H2.length], SF H.length _ m a b := fun z => by
                  obtain ⟨m, q1, q2⟩ := i4 a b z hb
                  exact ⟨m, List.mem_append_left _ q1, q2.kx kx2⟩
                rcases hd with hd | ⟨rfl, hd⟩
                · exact old (.inl hd)
                · rcases List.mem_append.mp hd with hd | hd
                  · exact old (.inr ⟨rfl, hd⟩)
                  · rw [List.mem_singleton.mp hd]
                    exact ⟨H2.length, by simp, hsf.kx kx⟩
            · rw [if_neg hpre]
              walk_at "ev"
              refine if_f rfl ?_
              walk_at "ev"
              exact skip (fun z => hpre z.2.2.2) _ (by walk_at "nm") (by walk_at "nm") (by walk_at "nm")
          · walk_at "ev"
            exact skip (fun z => z.2.2.1 heq) _ (by walk_at "nm") (by walk_at "nm") (by walk_at "nm")
      · rintro σ H' ⟨kp, vs, rs', e', ex', hI, s1, s2, s3⟩
        refine ⟨hw.keep kp, ?_⟩
        cases rs' with
        | cons _ _ => cases ex'
        | nil =>
          rw [List.append_nil] at e'
          obtain ⟨ns, i1, i2, i3, i4⟩ := hI
          walk_at "ev"
          refine hW _ _ ⟨kp, us ++ [w], rs, by rw [e, List.append_assoc]; rfl, rfl, ⟨ns, i1, ?_, i3, fun a b hd hb => ?_⟩, s1, s2⟩
          · rw [List.length_append, List.length_singleton, Nat.succ_mul]; rw [← e'] at i2; exact Nat.le_trans i2 (Nat.add_le_add_left hl _)
          · rcases List.mem_append.mp hd with hd | hd
            · exact i4 a b (.inl hd) hb
            · exact i4 a b (.inr ⟨List.mem_singleton.mp hd, e' ▸ hb.2.1⟩) hb
      · obtain ⟨ns, i1, i2, i3, i4⟩ := hI
        exact ⟨ns, i1, i2, i3, fun a b hd hb => hd.elim (fun z => i4 a b z hb) fun z => nomatch z.2⟩
  · rintro σ H' ⟨kp, us, rs, e, ex, hI, s1, s2⟩
    refine ⟨hw.keep kp, ?_⟩
    cases rs with
    | cons _ _ => cases ex
    | nil =>
      rw [List.append_nil] at e
      subst e
      obtain ⟨ns, i1, i2, i3, i4⟩ := hI
      refine r_ret ?_
      walk_at "ev"
      exact h _ _ (Nat.le_refl _) kp ⟨ns, i1, Nat.le_trans i2 (Nat.mul_le_mul_right 12 hl), i3, fun a b _ hb => i4 a b hb.1 hb⟩
end
theorem nodup_le : ∀ {l m : List Txt}, l.Nodup → (∀ x ∈ l, x ∈ m) → l.length ≤ m.length
  | [], _, _, _ => Nat.zero_le _
  | a :: l, m, hn, hs => by
    obtain ⟨h1, h2⟩ := List.nodup_cons.mp hn
    have ha := hs a (.head _)
    have := nodup_le (m := m.erase a) h2 fun x hx => (List.mem_erase_of_ne (fun e : x = a => h1 (by rw [← e]; exact hx))).mpr (hs x (.tail _ hx))
    rw [List.length_erase_of_mem ha] at this
    have hp : 0 < m.length := List.length_pos_of_mem ha
    rw [List.length_cons]; lia
noncomputable def sufs (ws : List Txt) : List Txt := ws.flatMap fun w => (List.range (w.length + 1)).map fun k => w.drop k
theorem mem_sufs {ws : List Txt} {r : Txt} (h : ∃ w ∈ ws, ∃ k, k ≤ w.length ∧ r = w.drop k) : r ∈ sufs ws := by
  obtain ⟨w, hw, k, hk, rfl⟩ := h
  exact List.mem_flatMap.mpr ⟨w, hw, List.mem_map.mpr ⟨k, List.mem_range.mpr (by lia), rfl⟩⟩
structure BI (ws : List Txt) (B : Bst) : Prop where
  gd : ∀ b ∈ B, Gd ws b.1 b.2.1 b.2.2.1 b.2.2.2
  nd : (B.map (·.1)).Nodup
  ch : ∀ b ∈ B, ∃ ch : List Txt, ch.Nodup ∧ (∀ c ∈ ch, c ∈ sufs ws) ∧ (∀ c ∈ ch, Le (lenB B) c b.2.1) ∧ b.2.2.1.length + b.2.2.2.length ≤ ch.length + 1
noncomputable def Imp (B B' : Bst) : Prop := ∀ r n, Le (lenB B) r n → Le (lenB B') r n
theorem BI.len {ws : List Txt} {B : Bst} (h : BI ws B) : B.length ≤ (sufs ws).length := by
  have := nodup_le h.nd (m := sufs ws) fun x hx => by
    obtain ⟨b, hb, rfl⟩ := List.mem_map.mp hx
    exact mem_sufs (h.gd b hb).suf
  rwa [List.length_map] at this
theorem lenB_mem {B : Bst} {r : Txt} {m : Nat} (h : lenB B r = some m) : ∃ b ∈ B, b.1 = r ∧ b.2.1 = m := by
  unfold lenB at h
  obtain ⟨b, hb, rfl⟩ := Option.map_eq_some_iff.mp h
  exact ⟨b, List.mem_of_find?_eq_some hb, by simpa using List.find?_some hb, rfl⟩
theorem lenB_of : ∀ {B : Bst}, (B.map (·.1)).Nodup → ∀ b ∈ B, B.find? (fun x => x.1 == b.1) = some b
  | [], _, _, h => nomatch h
  | a :: B, hn, b, h => by
    obtain ⟨h1, h2⟩ := List.nodup_cons.mp hn
    rw [List.find?_cons]
    cases h with
    | head => rw [beq_self_eq_true]
    | tail _ h =>
      have : (a.1 == b.1) = false := by
        simp only [beq_eq_false_iff_ne]
        exact fun e => h1 (List.mem_map.mpr ⟨b, h, e.symm⟩)
      rw [this]
      exact lenB_of h2 b h
theorem lenB_st {B : Bst} {r r' : Txt} {x : Nat × List Txt × List Txt} : lenB (stB B r x) r' = if r' = r then some x.1 else lenB B r' := by
  unfold stB lenB
  split
  · rename_i hh
    induction B with
    | nil => cases hh
    | cons a B ih =>
      rw [List.map_cons, List.find?_cons, List.find?_cons]
      by_cases q : a.1 = r
      · rw [if_pos q]
        by_cases q2 : r' = r
        · rw [if_pos q2, q2, q, beq_self_eq_true]; rfl
        · have e : (a.1 == r') = false := by rw [q]; simpa using fun z : r = r' => q2 z.symm
          rw [if_neg q2]
          simp only [e]
          by_cases hB : (B.any fun b => decide (b.1 = r)) = true
          · have := ih hB
            rwa [if_neg q2] at this
          · have e2 : B.map (fun b => if b.1 = r then (b.1, x) else b) = B := by
              refine List.map_congr_left (g := id) (fun b hb => ?_) |>.trans (List.map_id B)
              rw [if_neg fun z => hB (List.any_eq_true.mpr ⟨b, hb, decide_eq_true z⟩)]; rfl
            rw [e2]
      · rw [if_neg q]
        have hB : (B.any fun b => decide (b.1 = r)) = true := by
          rw [List.any_cons, decide_eq_false q, Bool.false_or] at hh; exact hh
        cases e : a.1 == r' with
        | true =>
          have : ¬ r' = r := fun z => q (by rw [← z]; simpa using e)
          rw [if_neg this]
        | false => exact ih hB
  · rename_i hh
    rw [List.find?_append, List.find?_cons, List.find?_nil]
    by_cases q : r' = r
    · rw [if_pos q, q, beq_self_eq_true]
      have : B.find? (fun b => b.1 == r) = none := by
        rw [List.find?_eq_none]
        intro b hb z
        exact hh (List.any_eq_true.mpr ⟨b, hb, decide_eq_true (by simpa using z)⟩)
      rw [this]; rfl
    · have e : (r == r') = false := by simpa using fun z : r = r' => q z.symm
      rw [if_neg q, e]
      simp
theorem stB_mem {B : Bst} {r : Txt} {x : Nat × List Txt × List Txt} {b : Txt × (Nat × List Txt × List Txt)} (h : b ∈ stB B r x) : (b ∈ B ∧ b.1 ≠ r) ∨ b = (r, x) := by
  unfold stB at h
  split at h
  · obtain ⟨a, ha, rfl⟩ := List.mem_map.mp h
    by_cases q : a.1 = r
    · rw [if_pos q, q]; exact .inr rfl
    · rw [if_neg q]; exact .inl ⟨ha, q⟩
  · rename_i hh
    rcases List.mem_append.mp h with h | h
    · exact .inl ⟨h, fun z => hh (List.any_eq_true.mpr ⟨b, h, decide_eq_true z⟩)⟩
    · exact .inr (List.mem_singleton.mp h)
theorem stB_keys {B : Bst} {r : Txt} {x : Nat × List Txt × List Txt} (h : (B.map (·.1)).Nodup) : ((stB B r x).map (·.1)).Nodup := by
  unfold stB
  split
  · have : (B.map (fun b => if b.1 = r then (b.1, x) else b)).map (·.1) = B.map (·.1) := by
      rw [List.map_map]
      exact List.map_congr_left fun b _ => by show (if b.1 = r then (b.1, x) else b).1 = b.1; split <;> rfl
    rw [this]; exact h
  · rename_i hh
    rw [List.map_append, List.nodup_append]
    refine ⟨h, by simp, fun a ha b hb e => ?_⟩
    obtain ⟨c, hc, rfl⟩ := List.mem_map.mp ha
    simp at hb
    exact hh (List.any_eq_true.mpr ⟨c, hc, decide_eq_true (e.trans hb)⟩)
theorem Imp.st {B : Bst} {r : Txt} {l : Nat} {p q : List Txt} (h : ¬ worse B r l) : Imp B (stB B r (l, p, q)) := by
  rintro r' n ⟨m, e, hm⟩
  by_cases z : r' = r
  · refine ⟨l, by rw [lenB_st, if_pos z], ?_⟩
    have : ¬ m ≤ l := fun y => h ⟨m, z ▸ e, y⟩
    lia
  · exact ⟨m, by rw [lenB_st, if_neg z]; exact e, hm⟩
theorem Imp.refl (B : Bst) : Imp B B := fun _ _ h => h
theorem Imp.trans {A B C : Bst} (h : Imp A B) (k : Imp B C) : Imp A C := fun r n x => k r n (h r n x)
theorem BI.st {ws : List Txt} {B : Bst} {r : Txt} {l : Nat} {p q : List Txt} (h : BI ws B) (g : Gd ws r l p q) (hw : ¬ worse B r l) (hc : ∃ ch : List Txt, ch.Nodup ∧ (∀ c ∈ ch, c ∈ sufs ws) ∧ (∀ c ∈ ch, c = r ∨ Le (lenB B) c l) ∧ p.length + q.length ≤ ch.length + 1) : BI ws (stB B r (l, p, q)) := by
  refine ⟨fun b hb => ?_, stB_keys h.nd, fun b hb => ?_⟩
  · rcases stB_mem hb with ⟨hb, _⟩ | rfl
    · exact h.gd b hb
    · exact g
  · rcases stB_mem hb with ⟨hb, _⟩ | rfl
    · obtain ⟨ch, c1, c2, c3, c4⟩ := h.ch b hb
      exact ⟨ch, c1, c2, fun c hc => Imp.st hw _ _ (c3 c hc), c4⟩
    · obtain ⟨ch, c1, c2, c3, c4⟩ := hc
      refine ⟨ch, c1, c2, fun c hc => ?_, c4⟩
      rcases c3 c hc with rfl | z
      · exact ⟨l, by rw [lenB_st, if_pos rfl], Nat.le_refl _⟩
      · exact Imp.st hw _ _ z
theorem BI.chain {ws : List Txt} {B : Bst} (h : BI ws B) {b : Txt × (Nat × List Txt × List Txt)} (hb : b ∈ B) {r : Txt} {l : Nat} (hr : r ∈ sufs ws) (hl : b.2.1 ≤ l) (hw : ¬ worse B r l) {m : Nat} (hm : m ≤ b.2.2.1.length + b.2.2.2.length + 1) : ∃ ch : List Txt, ch.Nodup ∧ (∀ c ∈ ch, c ∈ sufs ws) ∧ (∀ c ∈ ch, c = r ∨ Le (lenB B) c l) ∧ m ≤ ch.length + 1 := by
  obtain ⟨ch, c1, c2, c3, c4⟩ := h.ch b hb
  refine ⟨r :: ch, List.nodup_cons.mpr ⟨fun z => ?_, c1⟩, fun c hc => ?_, fun c hc => ?_, by rw [List.length_cons]; lia⟩
  · obtain ⟨x, e, hx⟩ := c3 r z
    exact hw ⟨x, e, by lia⟩
  · cases hc with
    | head => exact hr
    | tail _ hc => exact c2 c hc
  · cases hc with
    | head => exact .inl rfl
    | tail _ hc => exact .inr ((c3 c hc).mono hl)
theorem BI.rows {ws : List Txt} {B : Bst} (h : BI ws B) {b : Txt × (Nat × List Txt × List Txt)} (hb : b ∈ B) : b.2.2.1.length + b.2.2.2.length ≤ (sufs ws).length + 1 := by
  obtain ⟨ch, c1, c2, c3, c4⟩ := h.ch b hb
  have := nodup_le c1 c2
  lia
noncomputable def mu (S K : Nat) (B : Bst) : Nat := (S - B.length) * K + (B.map (·.2.1)).sum
theorem sum_rep {B : Bst} {r : Txt} {x : Nat × List Txt × List Txt} (hle : ∀ b ∈ B, b.1 = r → x.1 < b.2.1) : ((B.map fun b => if b.1 = r then (b.1, x) else b).map (·.2.1)).sum ≤ (B.map (·.2.1)).sum ∧ ((B.any fun b => decide (b.1 = r)) = true → ((B.map fun b => if b.1 = r then (b.1, x) else b).map (·.2.1)).sum < (B.map (·.2.1)).sum) := by
  induction B with
  | nil => exact ⟨Nat.le_refl _, fun h => nomatch h⟩
  | cons a B ih =>
    obtain ⟨h1, h2⟩ := ih fun b hb => hle b (.tail _ hb)
    simp only [List.map_cons, List.sum_cons, List.any_cons, Bool.or_eq_true, decide_eq_true_eq]
    by_cases q : a.1 = r
    · have := hle a (.head _) q
      rw [if_pos q]
      exact ⟨Nat.add_le_add (Nat.le_of_lt this) h1, fun _ => Nat.add_lt_add_of_lt_of_le this h1⟩
    · rw [if_neg q]
      exact ⟨Nat.add_le_add_left h1 _, fun z => Nat.add_lt_add_left (h2 (z.resolve_left q)) _⟩
theorem mu_st {ws : List Txt} {B : Bst} {r : Txt} {l K : Nat} {p q : List Txt} (h : BI ws B) (h' : BI ws (stB B r (l, p, q))) (hw : ¬ worse B r l) (hl : l < K) : mu (sufs ws).length K (stB B r (l, p, q)) < mu (sufs ws).length K B := by
  have h2 := h'.len
  unfold mu
  unfold stB at h2 ⊢
  split
  · rename_i hh
    have hle : ∀ b ∈ B, b.1 = r → l < b.2.1 := fun b hb e => by
      have : lenB B r = some b.2.1 := by unfold lenB; rw [← e, lenB_of h.nd b hb]; rfl
      exact Nat.lt_of_not_le fun z => hw ⟨_, this, z⟩
    have := (sum_rep (x := (l, p, q)) hle).2 hh
    rw [List.length_map]
    exact Nat.add_lt_add_left this _
  · rename_i hh
    rw [if_neg hh, List.length_append, List.length_singleton] at h2
    rw [List.length_append, List.length_singleton, List.map_append, List.sum_append]
    have e : (sufs ws).length - B.length = ((sufs ws).length - (B.length + 1)) + 1 := (Nat.succ_pred_eq_of_pos (Nat.sub_pos_of_lt h2)).symm
    rw [e, Nat.succ_mul, List.map_cons, List.map_nil, List.sum_cons, List.sum_nil, Nat.add_zero, Nat.add_assoc]
    exact Nat.add_lt_add_left (by rw [Nat.add_comm]; exact Nat.add_lt_add_right hl _) _
theorem SF.inj {o : Nat} {H : AHeap} {n : Nat} {w u w' u' : Txt} (h : SF o H n w u) (k : SF o H n w' u') : w = w' ∧ u = u' := by
  obtain ⟨a, b, _, _, _, h4, h5, h6⟩ := h
  obtain ⟨a', b', _, _, _, k4, k5, k6⟩ := k
  rw [h4] at k4
  simp only [Option.some.injEq, AObj.tuple.injEq, List.cons.injEq, V.ref.injEq] at k4
  obtain ⟨_, rfl, rfl, _⟩ := k4
  unfold Ws at h5 h6 k5 k6
  rw [h5] at k5; rw [h6] at k6
  simp at k5 k6
  exact ⟨k5, k6⟩
theorem sufs_len : ∀ ws : List Txt, (∀ w ∈ ws, w.length ≤ 10) → (sufs ws).length ≤ 11 * ws.length
  | [], _ => Nat.le_refl _
  | w :: r, h => by
    have h1 := sufs_len r fun u hu => h u (.tail _ hu)
    have h2 := h w (.head _)
    unfold sufs at *
    rw [List.flatMap_cons, List.length_append, List.length_map, List.length_range, List.length_cons, Nat.mul_succ, Nat.add_comm]; exact Nat.add_le_add h1 (Nat.succ_le_succ h2)
theorem flat_le : ∀ ws : List Txt, (∀ w ∈ ws, w.length ≤ 10) → ws.flatten.length ≤ 10 * ws.length
  | [], _ => Nat.le_refl _
  | w :: r, h => by
    have h1 := flat_le r fun u hu => h u (.tail _ hu)
    have h2 := h w (.head _)
    rw [List.flatten_cons, List.length_append, List.length_cons, Nat.mul_succ, Nat.add_comm]; exact Nat.add_le_add h1 h2
theorem eq_keys {d : Nat} {H : AHeap} {B : Bst} {es : List (Txt × V)} (h : All2 (EQ d H) B es) : es.map (·.1) = B.map (·.1) := by
  induction h with
  | nil => rfl
  | cons hb _ ih => rw [List.map_cons, List.map_cons, ih, hb.1]
theorem s_sortedD {H : AHeap} {Q : VPost} {X : XPost} {n ep : Nat} {es : List (Txt × V)} (h : H[n]? = some (.dict es ep)) (k : ∀ ys : List Txt, ys.Perm (es.map (·.1)) → Q (.ref H.length) (H ++ [.list (ys.map .str)])) : spSorted [.ref n] H Q X := .dict h k
section
variable {T : Tab}
noncomputable def Tried (B : Bst) (r w : Txt) : Prop := ∀ l, lenB B r = some l → ∀ r' b, stp r w = some (r', b) → Le (lenB B) r' (l + if b then r'.length else 0)
noncomputable def spLed : Spec := fun vs H Q _ => ∃ (n : Nat) (ws : List Txt), vs = [.ref n] ∧ n < H.length ∧ Ws H n ws ∧ ws.length ≤ 12 ∧ (∀ w ∈ ws, Wd 10 w) ∧ ∀ d H' B, H.length ≤ d → Keep H H' → DB d H' B → BI ws B → Shut ws (lenB B) → Q (.ref d) H'
inductive LedI3 (H H2 : AHeap) (n L : Nat) (ws ys us : List Txt) (B : Bst) (r : Txt) (xs : List Item) (σ : Sg) (H'' : AHeap) : Prop
  | mk : Kx H.length H2 H'' → Ws H'' L ys → ∀ vs rs B', ws = vs ++ rs → xs = rs.map (fun w => .one (.str w)) → DB H.length H'' B' → BI ws B' → Imp B B' → ((σ (nm 4116153104873) = some (.bool true) ∧ mu (sufs ws).length (10 * ((sufs ws).length + 2) + 1) B' < mu (sufs ws).length (10 * ((sufs ws).length + 2) + 1) B) ∨ (σ (nm 4116153104873) = some (.bool false) ∧ B' = B ∧ (∀ r ∈ us, ∀ w ∈ ws, Tried B r w) ∧ ∀ w ∈ vs, Tried B r w)) → σ (nm 245166818) = some (.ref H.length) → σ (nm 31081674743) = some (.ref n) → σ (nm 245166834) = some (.str r) → LedI3 H H2 n L ws ys us B r xs σ H''
inductive LedI2 (H H2 : AHeap) (n L : Nat) (ws ys : List Txt) (B : Bst) (xs : List Item) (σ : Sg) (H'' : AHeap) : Prop
  | mk : Kx H.length H2 H'' → Ws H'' L ys → ∀ us rs B', ys = us ++ rs → xs = rs.map (fun w => .one (.str w)) → DB H.length H'' B' → BI ws B' → Imp B B' → ((σ (nm 4116153104873) = some (.bool true) ∧ mu (sufs ws).length (10 * ((sufs ws).length + 2) + 1) B' < mu (sufs ws).length (10 * ((sufs ws).length + 2) + 1) B) ∨ (σ (nm 4116153104873) = some (.bool false) ∧ B' = B ∧ ∀ r ∈ us, ∀ w ∈ ws, Tried B r w)) → σ (nm 245166818) = some (.ref H.length) → σ (nm 31081674743) = some (.ref n) → LedI2 H H2 n L ws ys B xs σ H''
inductive LedI0 (H H2 : AHeap) (n o : Nat) (ws : List Txt) (ns : List Nat) (xs : List Item) (σ : Sg) (H' : AHeap) : Prop
  | mk : Kx H.length H2 H' → ∀ ms rs B, ns = ms ++ rs → xs = rs.map (fun m => .one (.ref m)) → DB H.length H' B → BI ws B → (∀ m ∈ ms, ∀ w u, SF o H2 m w u → Le (lenB B) (w.drop u.length) w.length) → σ (nm 245166818) = some (.ref H.length) → σ (nm 31081674743) = some (.ref n) → LedI0 H H2 n o ws ns xs σ H'
inductive LedI1 (H H2 : AHeap) (n : Nat) (ws : List Txt) (m : Nat) (σ : Sg) (H' : AHeap) : Prop
  | mk : Kx H.length H2 H' → ∀ B, DB H.length H' B → BI ws B → (∀ w u, Beg ws w u → Le (lenB B) (w.drop u.length) w.length) → ((σ (nm 4116153104873) = some (.bool true) ∧ mu (sufs ws).length (10 * ((sufs ws).length + 2) + 1) B + 1 ≤ m) ∨ (σ (nm 4116153104873) = some (.bool false) ∧ Shut ws (lenB B))) → σ (nm 245166818) = some (.ref H.length) → σ (nm 31081674743) = some (.ref n) → LedI1 H H2 n ws m σ H'
theorem ct_led (h1 : Has T (nm 29774967522) spBegun) (h2 : Has T (nm 135527429768205915927275) spKept) (h3 : Has T (nm 487624762177511) spGone) (h4 : Has T (nm 3463330969587) spSorted) : Ct T x_led b_led spLed := by
  refine ct1 fun vs H Q X h => ?_
  obtain ⟨n, ws, rfl, hn, hw, hl, hwd, h⟩ := h
  have hS := sufs_len ws fun w hw => (hwd w hw).le
  refine ⟨_, rfl, ?_⟩
  refine s_asg ?_
  walk_at "ev"
  have k0 : Keep H (H ++ [.dict [] 0]) := Keep.new _ _
  have g0 : (H ++ [AObj.dict [] 0])[H.length]? = some (.dict [] 0) := get_new
  have hd0 : H.length < (H ++ [AObj.dict [] 0]).length := lt_of_get g0
  generalize H ++ [AObj.dict [] 0] = H1 at k0 g0 hd0
  refine r_for ?_
  walk_at "ev"
  refine ⟨n, ws, rfl, Nat.lt_of_lt_of_le hn k0.le, hw.keep k0, hl, fun o H2 ho k2 hBg => ?_⟩
  obtain ⟨ns, i1, i2, i3, i4⟩ := hBg
  refine i_list i1 ?_
  have hH0 : H.length ≠ 0 := Nat.ne_of_gt (Nat.lt_of_le_of_lt (Nat.zero_le _) hn)
  have hS132 : (sufs ws).length ≤ 132 := Nat.le_trans hS (Nat.mul_le_mul_left 11 hl)
  have hSL : ∀ {x : Nat}, x ≤ (sufs ws).length → x < lid := fun h => Nat.lt_of_le_of_lt (Nat.le_trans h hS132) (by decide)
  have hod : o ≠ H.length := Nat.ne_of_gt (Nat.lt_of_lt_of_le hd0 ho)
  have hnd : n ≠ H.length := Nat.ne_of_lt hn
  have hd2 : H.length < H2.length := Nat.lt_of_lt_of_le hd0 k2.le
  have K2 : ∀ {H'}, Kx H.length H2 H' → Keep H H' := fun {H'} k => ⟨Nat.le_trans (Nat.le_of_lt hd2) k.1, fun i hi => by
    have e := (k0.trans k2).old i hi
    rw [List.getElem?_eq_getElem hi] at e ⊢
    exact k.2 i _ (Nat.ne_of_lt hi) e⟩
  have hw2 := (hw.keep k0).keep k2
  refine for_invN (LedI0 H H2 n o ws ns) ?_ ?_
    ⟨Kx.refl _ _, [], ns, [], rfl, List.map_map, ⟨[], 0, k2.get g0, .nil⟩, ⟨(fun _ h => nomatch h), List.nodup_nil, fun _ h => nomatch h⟩, (fun _ h => nomatch h), by walk_at "nm", by walk_at "nm"⟩
  · rintro x xs σ H' ⟨kx, ms, rs, B, e, ex, hB, hI, hD, s1, s2⟩
    cases rs with
    | nil => cases ex
    | cons m rs =>
      obtain ⟨rfl, rfl⟩ := List.cons.inj ex
      obtain ⟨w, u, hb, hsf⟩ := i3 m (by rw [e]; simp)
      refine ⟨kx.2 _ _ hod i1, _, rfl, fun W _ hW => ?_⟩
      refine s_exp ?_
      walk_at "ev"
      have hBl := hI.len
      refine ⟨H.length, m, w.length, [w], [u], w.drop u.length, B, rfl, hH0, hB, hSL hBl, (hsf.st (Nat.le_of_lt (Nat.lt_of_lt_of_le hd0 ho))).kx kx, fun hwo => ?_, fun hwo H3 k3 hl3 hB3 => ?_⟩
      · walk_at "ev"
        refine hW _ _ ⟨kx, ms ++ [m], rs, B, by rw [e, List.append_assoc]; rfl, rfl, hB, hI, (fun m' hm w' u' hs' => ?_), by walk_at "nm", by walk_at "nm"⟩
        rcases List.mem_append.mp hm with hm | hm
        · exact hD m' hm w' u' hs'
        · rw [List.mem_singleton.mp hm] at hs'
          obtain ⟨rfl, rfl⟩ := hsf.inj hs'
          exact hwo
      · walk_at "ev"
        have hg := Gd.begin hb.1 hb.2.1 hb.2.2.1 hb.2.2.2
        have hI3 := hI.st hg hwo ⟨[w.drop u.length], by simp, by simpa using mem_sufs hg.suf, by simp, by simp⟩
        refine hW _ _ ⟨kx.trans k3, ms ++ [m], rs, _, by rw [e, List.append_assoc]; rfl, rfl, hB3, hI3, (fun m' hm w' u' hs' => ?_), by walk_at "nm", by walk_at "nm"⟩
        rcases List.mem_append.mp hm with hm | hm
        · exact Imp.st hwo _ _ (hD m' hm w' u' hs')
        · rw [List.mem_singleton.mp hm] at hs'
          obtain ⟨rfl, rfl⟩ := hsf.inj hs'
          exact ⟨_, by rw [lenB_st, if_pos rfl], Nat.le_refl _⟩
  · rintro σ H' ⟨kx, ms, rs, B, e, ex, hB, hI, hD, s1, s2⟩
    refine ⟨kx.2 _ _ hod i1, ?_⟩
    cases rs with
    | cons _ _ => cases ex
    | nil =>
      rw [List.append_nil] at e
      subst e
      have hbeg : ∀ w u, Beg ws w u → Le (lenB B) (w.drop u.length) w.length := fun w u hb => by
        obtain ⟨m, hm, hs⟩ := i4 w u trivial hb
        exact hD m hm w u hs
      clear hD
      refine s_asg ?_
      walk_at "ev"
      have hK : ∀ {r : Txt} {l : Nat} {p q : List Txt}, Gd ws r l p q → p.length + q.length ≤ (sufs ws).length + 2 → l < 10 * ((sufs ws).length + 2) + 1 := fun {r l p q} g hpq => by
        have := flat_le p fun w hw => (hwd w (g.inp w hw)).le
        rw [g.len]; lia
      refine r_while ⟨_, while_ind (LedI1 H H2 n ws) ?_ (mu (sufs ws).length (10 * ((sufs ws).length + 2) + 1) B + 1) _ _ ⟨kx, B, hB, hI, hbeg, .inl ⟨by walk_at "nm", Nat.le_refl _⟩, by walk_at "nm", by walk_at "nm"⟩⟩
      clear hB hI hbeg kx s1 s2
      rintro m σ H' ⟨kx, B, hB, hI, hbeg, hor, s1, s2⟩ W hW
      rcases hor with ⟨s3, hmu⟩ | ⟨s3, hsh⟩
      case inr =>
        walk_at "ev"
        refine r_ret ?_
        walk_at "ev"
        exact h _ _ _ (Nat.le_refl _) (K2 kx) hB hI hsh
      walk_at "ev"
      refine s_asg ?_
      walk_at "ev"
      obtain ⟨es, ep, g1, g2⟩ := hB
      have hBl := hI.len
      have hel : es.length = B.length := g2.length.symm
      refine r_for ?_
      walk_at "ev"
      refine s_sortedD g1 fun ys hp => ?_
      have hys : ∀ r, r ∈ ys ↔ r ∈ B.map (·.1) := fun r => by
        rw [hp.mem_iff]
        rw [eq_keys g2]
      clear hp
      have kH : Keep H' (H' ++ [.list (ys.map .str)]) := Keep.new _ _
      have gL : Ws (H' ++ [.list (ys.map .str)]) H'.length ys := get_new
      have hLd : H'.length ≠ H.length := Nat.ne_of_gt (lt_of_get g1)
      have hB' : DB H.length (H' ++ [.list (ys.map .str)]) B := DB.keep ⟨es, ep, g1, g2⟩ kH
      clear g1 g2 hel
      have kx' : Kx H.length H2 (H' ++ [.list (ys.map .str)]) := kx.trans (.of kH)
      generalize H'.length = L at gL hLd
      generalize H' ++ [AObj.list (ys.map .str)] = H3 at kH gL hB' kx'
      refine i_list gL ?_
      refine for_invN (LedI2 H H2 n L ws ys B) ?_ ?_
        ⟨kx', gL, [], ys, B, rfl, List.map_map, hB', hI, Imp.refl B, .inr ⟨by walk_at "nm", rfl, fun _ h => nomatch h⟩, by walk_at "nm", by walk_at "nm"⟩
      · clear kx' gL hB' kH
        rintro x xs σ H'' ⟨kx, gL, us, rs, B', e, ex, hB, hI', hImp, hor, s1, s2⟩
        cases rs with
        | nil => cases ex
        | cons r rs =>
          obtain ⟨rfl, rfl⟩ := List.cons.inj ex
          have hr : ∃ l, lenB B r = some l := by
            obtain ⟨b, hb, e1⟩ := List.mem_map.mp ((hys r).mp (by rw [e]; simp))
            exact ⟨b.2.1, by unfold lenB; rw [← e1, lenB_of hI.nd b hb]; rfl⟩
          refine ⟨gL, _, rfl, fun W' _ hW' => ?_⟩
          refine r_for ?_
          walk_at "ev"
          refine i_list (kx.2 _ _ hnd hw2) ?_
          refine for_invN (LedI3 H H2 n L ws ys us B r) ?_ ?_
            ⟨kx, gL, [], ws, B', rfl, List.map_map, hB, hI', hImp, ?_, by walk_at "nm", by walk_at "nm", by walk_at "nm"⟩
          · clear hor hImp hB gL kx s1 s2 hI' B'
            rintro x xs σ H'' ⟨kx, gL, vs, rs', B', e', ex', hB, hI', hImp, hor, s1, s2, s3⟩
            cases rs' with
            | nil => cases ex'
            | cons w rs' =>
              obtain ⟨rfl, rfl⟩ := List.cons.inj ex'
              have hww : ws = (vs ++ [w]) ++ rs' := by rw [e', List.append_assoc]; rfl
              have hwm : w ∈ ws := by rw [e']; simp
              refine ⟨kx.2 _ _ hnd hw2, _, rfl, fun W2 P2 hW2 => ?_⟩
              obtain ⟨l0, hl0⟩ := hr
              obtain ⟨l, hlr, hll⟩ := hImp r l0 ⟨l0, hl0, Nat.le_refl _⟩
              obtain ⟨es, ep, g1, g2⟩ := hB
              have hdl := lt_of_get g1
              rcases eq_find (r := r) g2 with ⟨f1, f2⟩ | ⟨b, e3, f1, f2, hb1, m3, hm3, hst⟩
              · unfold lenB at hlr; rw [f1] at hlr; cases hlr
              have hbm : b ∈ B' := List.mem_of_find?_eq_some f1
              have hbr : b.1 = r := by simpa using List.find?_some f1
              have hbl : b.2.1 = l := by unfold lenB at hlr; rw [f1] at hlr; exact Option.some.inj hlr
              have hrows := hI'.rows hbm
              have hgd := hI'.gd b hbm
              have hB0 : DB H.length H'' B' := ⟨es, ep, g1, g2⟩
              have hBl' := hI'.len
              -- what follows when nothing new was found
              have same : ∀ σ' H4, Keep H'' H4 → Tried B' r w → σ' (nm 4116153104873) = σ (nm 4116153104873) → σ' (nm 245166818) = some (.ref H.length) → σ' (nm 31081674743) = some (.ref n) → σ' (nm 245166834) = some (.str r) → W2 σ' H4 := by
                intro σ' H4 k4 ht t0 t1 t2 t3
                refine hW2 _ _ ⟨kx.trans (.of k4), gL.keep k4, vs ++ [w], rs', B', hww, rfl, hB0.keep k4, hI', hImp, ?_, t1, t2, t3⟩
                rw [t0]
                rcases hor with z | ⟨z1, z2, z3, z4⟩
                · exact .inl z
                · refine .inr ⟨z1, z2, z3, fun u hu => ?_⟩
                  rcases List.mem_append.mp hu with hu | hu
                  · exact z4 u hu
                  · rw [List.mem_singleton.mp hu, ← z2]; exact ht
              have fin : ∀ n4 H4 l' p' q' r', Keep H'' H4 → St H.length H4 n4 l' p' q' r' → Gd ws r' l' p' q' → l ≤ l' → p'.length + q'.length ≤ b.2.2.1.length + b.2.2.2.length + 1 → (Le (lenB B') r' l' → Tried B' r w) → semS T b_led_l3_1 ((σ.set (nm 211597303) (.str w)).set (nm 27356854899) (.ref n4)) H4 (LQ W2 P2) (fun _ _ => False) := by
                intro n4 H4 l' p' q' r' k4 hs4 hg4 hle hpq htr
                refine s_ite ?_
                walk_at "ev"
                refine if_t rfl ?_
                walk_at "ev"
                refine ⟨H.length, n4, l', p', q', r', B', rfl, hH0, hB0.keep k4, hSL hBl', hs4, fun hwo => ?_, fun hwo H5 k5 hl5 hB5 => ?_⟩
                · walk_at "ev"
                  exact same _ _ k4 (htr hwo) (by show (Sg.set (Sg.set σ _ _) _ _) _ = _; rw [set_nm, set_nm]; rfl) (by walk_at "nm") (by walk_at "nm") (by walk_at "nm")
                · walk_at "ev"
                  have hch := hI'.chain hbm (mem_sufs hg4.suf) (hbl.symm ▸ hle) hwo hpq
                  have hI5 := hI'.st hg4 hwo hch
                  have hm5 := mu_st hI' hI5 hwo (hK hg4 (by lia))
                  refine hW2 _ _ ⟨(kx.trans (.of k4)).trans k5, k5.2 _ _ hLd (gL.keep k4), vs ++ [w], rs', _, hww, rfl, hB5, hI5, hImp.trans (Imp.st hwo), .inl ⟨by walk_at "nm", ?_⟩, by walk_at "nm", by walk_at "nm", by walk_at "nm"⟩
                  rcases hor with ⟨_, z⟩ | ⟨_, z, _⟩
                  · lia
                  · rw [← z]; exact hm5
              refine s_asg ?_
              walk_at "ev"
              refine b_dget g1 f2 ?_
              rw [hm3]
              walk_at "ev"
              rw [hbr] at hst hgd
              rw [hbl] at hst hgd
              refine ⟨(· ≠ H.length), m3, l, b.2.2.1, b.2.2.2, r, w, rfl, fun i hi => Nat.ne_of_gt (Nat.lt_of_lt_of_le hdl hi), hst, by lia, by lia, ?_⟩
              unfold GoneQ
              have try1 : ∀ r' t, stp r w = some (r', t) → Le (lenB B') r' (l + if t then r'.length else 0) → Tried B' r w := by
                intro r' t hs hle l2 hl2 r2 t2 hs2
                rw [hlr] at hl2; cases hl2
                rw [hs] at hs2; cases hs2
                exact hle
              cases hs : stp r w with
              | none =>
                dsimp only
                refine s_ite ?_
                walk_at "ev"
                refine if_f rfl ?_
                walk_at "ev"
                exact same _ _ (Keep.refl _) (fun _ _ r2 t2 hs2 => by rw [hs] at hs2; cases hs2) (by show (Sg.set (Sg.set σ _ _) _ _) _ = _; rw [set_nm, set_nm]; rfl) (by walk_at "nm") (by walk_at "nm") (by walk_at "nm")
              | some z =>
                obtain ⟨r', t⟩ := z
                have hs' := hs
                unfold stp at hs'
                cases t with
                | false =>
                  dsimp only
                  intro n4 H4 k4 hs4
                  have hpre : r.take w.length = w ∧ r' = r.drop w.length := by
                    split at hs'
                    · rename_i q; cases hs'; exact ⟨q, rfl⟩
                    · split at hs' <;> cases hs'
                  refine fin n4 H4 l _ _ r' k4 hs4 (hpre.2 ▸ hgd.short hwm hpre.1) (Nat.le_refl _) (by rw [List.length_append, List.length_singleton]; exact Nat.le_refl _) fun hle => try1 r' false hs (hle.mono (by simp))
                | true =>
                  dsimp only
                  intro n4 H4 k4 hs4
                  have hpre : w.take r.length = r ∧ r' = w.drop r.length := by
                    split at hs'
                    · cases hs'
                    · split at hs'
                      · rename_i q; cases hs'; exact ⟨q, rfl⟩
                      · cases hs'
                  refine fin n4 H4 (l + r'.length) _ _ r' k4 hs4 (by rw [hpre.2]; exact hgd.long hwm hpre.1) (Nat.le_add_right _ _) (by rw [List.length_append, List.length_singleton]; lia) fun hle => try1 r' true hs (hle.mono (by simp))
          · rintro σ H'' ⟨kx, gL, vs, rs', B', e', ex', hB, hI', hImp, hor, s1, s2, s3⟩
            refine ⟨kx.2 _ _ hnd hw2, ?_⟩
            cases rs' with
            | cons _ _ => cases ex'
            | nil =>
              rw [List.append_nil] at e'
              walk_at "ev"
              refine hW' _ _ ⟨kx, gL, us ++ [r], rs, B', by rw [e, List.append_assoc]; rfl, rfl, hB, hI', hImp, ?_, s1, s2⟩
              rcases hor with z | ⟨z1, z2, z3, z4⟩
              · exact .inl z
              · refine .inr ⟨z1, z2, fun r2 hr2 w2 hw2' => ?_⟩
                rcases List.mem_append.mp hr2 with hr2 | hr2
                · exact z3 r2 hr2 w2 hw2'
                · rw [List.mem_singleton.mp hr2]; exact z4 w2 (e' ▸ hw2')
          · rcases hor with ⟨z, y⟩ | ⟨z1, z2, z3⟩
            · exact .inl ⟨by walk_at "nm", y⟩
            · exact .inr ⟨by walk_at "nm", z2, z3, fun _ h => nomatch h⟩
      · rintro σ H'' ⟨kx, gL, us, rs, B', e, ex, hB, hI', hImp, hor, s1, s2⟩
        refine ⟨gL, ?_⟩
        cases rs with
        | cons _ _ => cases ex
        | nil =>
          rw [List.append_nil] at e
          subst e
          obtain ⟨m', rfl⟩ := Nat.exists_eq_succ_of_ne_zero (n := m) fun z => absurd hmu (by rw [z]; exact Nat.not_succ_le_zero _)
          walk_at "ev"
          refine hW m' _ _ rfl ⟨kx, B', hB, hI', (fun w u hb => hImp _ _ (hbeg w u hb)), ?_, s1, s2⟩
          rcases hor with ⟨z, y⟩ | ⟨z1, z2, z3⟩
          · exact .inl ⟨z, Nat.le_trans y (Nat.le_of_succ_le_succ hmu)⟩
          · refine .inr ⟨z1, z2 ▸ ⟨fun w hw u hu hne hp => hbeg w u ⟨hw, hu, hne, hp⟩, fun r l hl w hw r' b hs => ?_⟩⟩
            obtain ⟨x, hx, hx1, _⟩ := lenB_mem hl
            exact z3 r ((hys r).mpr (List.mem_map.mpr ⟨x, hx, hx1⟩)) w hw l hl r' b hs
end
noncomputable def x_shared : List Str := [(nm 245248756), (nm 30815173231)]
noncomputable def b_shared : PS := (.seq (.assign (.name (nm 255570157)) (.int 0)) (.seq (.while_ (.and (.cmp1 .Lt (.name (nm 255570157)) (.call (.glob (nm 1815789)) (.cons (.call (.glob (nm 1815276)) (.cons (.name (nm 245248756)) .nil)) (.cons (.call (.glob (nm 1815276)) (.cons (.name (nm 30815173231)) .nil)) .nil)))) (.cmp1 .Eq (.sub (.name (nm 245248756)) (.name (nm 255570157))) (.sub (.name (nm 30815173231)) (.name (nm 255570157))))) (.seq (.assign (.name (nm 255570157)) (.bin .Add (.name (nm 255570157)) (.int 1))) .skip)) (.seq (.ret (.name (nm 255570157))) .skip)))
noncomputable def x_height_by : List Str := [(nm 245166834), (nm 31081674743), (nm 27076163558)]
noncomputable def b_height_by : PS := (.seq (.assign (.name (nm 245166818)) (.int 0)) (.seq (.for_ (.name (nm 211597303)) (.itVal (.name (nm 31081674743))) (.seq (.assign (.name (nm 236550771)) (.call (.glob (nm 443305286007411)) (.cons (.name (nm 245166834)) (.cons (.name (nm 211597303)) .nil)))) (.seq (.ite (.cmp1 .Is (.name (nm 236550771)) .none) (.seq (.assign (.name (nm 245166818)) (.call (.glob (nm 1978605)) (.cons (.name (nm 245166818)) (.cons (.call (.glob (nm 3463326495859)) (.cons (.name (nm 245166834)) (.cons (.name (nm 211597303)) .nil))) .nil)))) .skip) (.seq (.ite (.sub (.name (nm 236550771)) (.int 1)) (.seq (.assign (.name (nm 245166818)) (.call (.glob (nm 1978605)) (.cons (.name (nm 245166818)) (.cons (.bin .Add (.call (.glob (nm 1815276)) (.cons (.name (nm 245166834)) .nil)) (.sub (.name (nm 27076163558)) (.sub (.name (nm 236550771)) (.int 0)))) .nil)))) .skip) (.seq (.assign (.name (nm 245166818)) (.call (.glob (nm 1978605)) (.cons (.name (nm 245166818)) (.cons (.bin .Add (.call (.glob (nm 1815276)) (.cons (.name (nm 211597303)) .nil)) (.sub (.name (nm 27076163558)) (.sub (.name (nm 236550771)) (.int 0)))) .nil)))) .skip)) .skip)) .skip))) (.seq (.ret (.name (nm 245166818))) .skip)))
noncomputable def x_is_settled : List Str := [(nm 245166834), (nm 31081674743), (nm 27076163558)]
noncomputable def b_is_settled : PS := (.seq (.assign (.name (nm 31106628211)) (.comp0 (.call (.glob (nm 443305286007411)) (.cons (.name (nm 245166834)) (.cons (.name (nm 211597303)) .nil))) (.name (nm 211597303)) (.itVal (.name (nm 31081674743))))) (.seq (.ret (.call (.glob (nm 1783393)) (.cons (.comp0 (.or (.cmp1 .Is (.name (nm 236550771)) .none) (.cmp1 .In (.sub (.name (nm 236550771)) (.int 0)) (.name (nm 27076163558)))) (.name (nm 236550771)) (.itVal (.name (nm 31106628211)))) .nil))) .skip))
noncomputable def x_settled : List Str := [(nm 31081674743)]
noncomputable def b_settled_4 : PS := (.seq (.ret (.name (nm 27076163558))) .skip)
noncomputable def b_settled_l2 : PS := (.seq (.ite (.and (.cmp1 .NotIn (.name (nm 245166834)) (.name (nm 27076163558))) (.call (.glob (nm 929676333464757467625)) (.cons (.name (nm 245166834)) (.cons (.name (nm 31081674743)) (.cons (.name (nm 27076163558)) .nil))))) (.seq (.setItem (.name (nm 27076163558)) (.name (nm 245166834)) (.call (.glob (nm 8774559802307801832)) (.cons (.name (nm 245166834)) (.cons (.name (nm 31081674743)) (.cons (.name (nm 27076163558)) .nil))))) (.seq (.assign (.name (nm 4116153104873)) (.bool true)) .skip)) .skip) .skip)
noncomputable def b_settled_l1_1 : PS := (.seq (.for_ (.name (nm 245166834)) (.itVal (.name (nm 31115244274))) b_settled_l2) .skip)
noncomputable def b_settled_l1 : PS := (.seq (.assign (.name (nm 4116153104873)) (.bool false)) b_settled_l1_1)
noncomputable def b_settled_3 : PS := (.seq (.while_ (.name (nm 4116153104873)) b_settled_l1) b_settled_4)
noncomputable def b_settled_2 : PS := (.seq (.assign (.name (nm 4116153104873)) (.bool true)) b_settled_3)
noncomputable def b_settled_1 : PS := (.seq (.assign (.name (nm 27076163558)) .dict0) b_settled_2)
noncomputable def b_settled : PS := (.seq (.assign (.name (nm 31115244274)) (.call (.glob (nm 3463330969587)) (.cons (.call (.glob (nm 1651436)) (.cons (.name (nm 31081674743)) .nil)) .nil))) b_settled_1)
noncomputable def x_heights : List Str := [(nm 31081674743)]
noncomputable def b_heights : PS := (.seq (.assign (.name (nm 1817583)) (.call (.glob (nm 443303916565603)) (.cons (.name (nm 31081674743)) .nil))) (.seq (.assign (.name (nm 27076163558)) (.call (.glob (nm 443304220898035)) (.cons (.name (nm 1817583)) .nil))) (.seq (.ret (.call (.glob (nm 244905188)) (.cons (.comp0 (.tuple (.cons (.name (nm 245166834)) (.cons (.meth (.name (nm 27076163558)) (nm 1913575) (.cons (.name (nm 245166834)) (.cons .none .nil))) .nil))) (.name (nm 245166834)) (.itVal (.call (.glob (nm 1651436)) (.cons (.name (nm 1817583)) .nil)))) .nil))) .skip)))
noncomputable def x_law_shared : List Str := [(nm 57345570095265375), (nm 1058801290007509759583)]
noncomputable def b_law_shared : PS := (.seq (.assign (.name (nm 8781323754941216351)) (.int 0)) (.seq (.while_ (.and (.cmp1 .Lt (.name (nm 8781323754941216351)) (.call (.glob (nm 1815789)) (.cons (.call (.glob (nm 1815276)) (.cons (.name (nm 57345570095265375)) .nil)) (.cons (.call (.glob (nm 1815276)) (.cons (.name (nm 1058801290007509759583)) .nil)) .nil)))) (.cmp1 .Eq (.sub (.name (nm 57345570095265375)) (.name (nm 8781323754941216351))) (.sub (.name (nm 1058801290007509759583)) (.name (nm 8781323754941216351))))) (.seq (.assign (.name (nm 8781323754941216351)) (.bin .Add (.name (nm 8781323754941216351)) (.int 1))) .skip)) (.seq (.ret (.name (nm 8781323754941216351))) .skip)))
section
variable {K : AHeap → Prop} {bind : Item → AHeap → Option Sg} {test : Sg → AHeap → (Bool → AHeap → Prop) → Prop} {elt : Sg → AHeap → VPost → Prop} {Q : List V → AHeap → Prop}
theorem comp_inv (I : List Item → List V → AHeap → Prop)
    (step : ∀ x xs acc H, I (x :: xs) acc H → K H ∧ ∃ σ, bind x H = some σ ∧ ∀ W : List V → AHeap → Prop, (∀ acc' H', I xs acc' H' → W acc' H') → test σ H fun b H1 => if b then elt σ H1 fun v H2 => W (acc ++ [v]) H2 else W acc H1)
    (fin : ∀ acc H, I [] acc H → K H ∧ Q acc H) : ∀ items acc H, I items acc H → compGo K bind test elt Q items acc H
  | [], acc, H, h => fin acc H h
  | x :: xs, acc, H, h => by
    obtain ⟨hK, σ, hb, hs⟩ := step x xs acc H h
    refine ⟨hK, ?_⟩
    rw [hb]
    exact hs (fun acc H => compGo K bind test elt Q xs acc H) fun acc' H' hi => comp_inv I step fin xs acc' H' hi
end
noncomputable def shr : Txt → Txt → Nat
  | a :: x, b :: y => if a = b then shr x y + 1 else 0
  | _, _ => 0
theorem shr_eq {t u : Txt} {i : Nat} (h1 : i < t.length) (h2 : i < u.length) (e : t[i] = u[i]) : shr (t.drop i) (u.drop i) = shr (t.drop (i + 1)) (u.drop (i + 1)) + 1 := by
  rw [List.drop_eq_getElem_cons h1, List.drop_eq_getElem_cons h2, shr, if_pos e]
theorem shr_ne {t u : Txt} {i : Nat} (h1 : i < t.length) (h2 : i < u.length) (e : t[i] ≠ u[i]) : shr (t.drop i) (u.drop i) = 0 := by
  rw [List.drop_eq_getElem_cons h1, List.drop_eq_getElem_cons h2, shr, if_neg e]
theorem shr_out {t u : Txt} {i : Nat} (h : ¬ (i < t.length ∧ i < u.length)) : shr (t.drop i) (u.drop i) = 0 := by
  by_cases h1 : i < t.length
  · rw [List.drop_of_length_le (l := u) (by lia)]
    cases t.drop i <;> rfl
  · rw [List.drop_of_length_le (l := t) (by lia)]; rfl
theorem one_at {t : Txt} {i : Nat} (h : i < t.length) : (t.drop i).take 1 = [t[i]] := by rw [List.drop_eq_getElem_cons h]; rfl
theorem min_lt {i a b : Int} (h : i < if b < a then b else a) : i < a ∧ i < b := by
  split at h
  · exact ⟨Int.lt_trans h ‹_›, h⟩
  · exact ⟨h, Int.lt_of_lt_of_le h (Int.not_lt.mp ‹_›)⟩
noncomputable def Mx {α : Type} (f : α → Nat) (ws : List α) : Nat := ws.foldl (fun b w => max b (f w)) 0
section
variable {α : Type} {f g : α → Nat}
theorem mx_snoc (f : α → Nat) (ws : List α) (w : α) : Mx f (ws ++ [w]) = max (Mx f ws) (f w) := by unfold Mx; rw [List.foldl_append]; rfl
theorem mx_le {m : Nat} : ∀ (ws : List α) (a : Nat), ws.foldl (fun b w => max b (f w)) a ≤ m ↔ a ≤ m ∧ ∀ w ∈ ws, f w ≤ m
  | [], a => ⟨fun h => ⟨h, fun _ h => nomatch h⟩, fun h => h.1⟩
  | w :: ws, a => by
    rw [List.foldl_cons, mx_le ws, Nat.max_le, List.forall_mem_cons, and_assoc]
theorem mx_ge {ws : List α} {w : α} (h : w ∈ ws) : f w ≤ Mx f ws := ((mx_le ws 0).mp (Nat.le_refl _)).2 w h
theorem mx_mem {ws us : List α} (h : ∀ w, w ∈ ws ↔ w ∈ us) : Mx f ws = Mx f us :=
  Nat.le_antisymm ((mx_le ws 0).mpr ⟨Nat.zero_le _, fun w hw => mx_ge ((h w).mp hw)⟩) ((mx_le us 0).mpr ⟨Nat.zero_le _, fun w hw => mx_ge ((h w).mpr hw)⟩)
theorem mx_congr {ws : List α} (h : ∀ w ∈ ws, f w = g w) : Mx f ws = Mx g ws :=
  Nat.le_antisymm ((mx_le ws 0).mpr ⟨Nat.zero_le _, fun w hw => by rw [h w hw]; exact mx_ge hw⟩) ((mx_le ws 0).mpr ⟨Nat.zero_le _, fun w hw => by rw [← h w hw]; exact mx_ge hw⟩)
theorem mx_at (ws : List α) : Mx f ws = 0 ∨ ∃ w ∈ ws, f w = Mx f ws := by
  by_cases h : ∃ w ∈ ws, f w = Mx f ws
  · exact .inr h
  · refine .inl (Nat.eq_zero_of_not_pos fun h0 => ?_)
    have : Mx f ws ≤ Mx f ws - 1 := (mx_le ws 0).mpr ⟨Nat.zero_le _, fun w hw => Nat.le_sub_one_of_lt (Nat.lt_of_le_of_ne (mx_ge hw) fun e => h ⟨w, hw, e⟩)⟩
    exact absurd (Nat.lt_of_le_of_lt this (Nat.sub_lt h0 (by decide))) (Nat.lt_irrefl _)
end
noncomputable def one (v : Txt → Option Nat) (r w : Txt) : Nat := match stp r w with
  | none => shr r w
  | some (r', b) => (if b then r.length else w.length) + (v r').getD 0
noncomputable def hgt (v : Txt → Option Nat) (ws : List Txt) (r : Txt) : Nat := Mx (one v r) ws
theorem one_congr {v v' : Txt → Option Nat} {r w : Txt} (h : ∀ r' b, stp r w = some (r', b) → v r' = v' r') : one v r w = one v' r w := by
  unfold one
  cases e : stp r w with
  | none => rfl
  | some z => obtain ⟨r', b⟩ := z; dsimp only; rw [h r' b e]
theorem hgt_congr {v v' : Txt → Option Nat} {ws : List Txt} {r : Txt} (h : ∀ w ∈ ws, ∀ r' b, stp r w = some (r', b) → v r' = v' r') : hgt v ws r = hgt v' ws r := mx_congr fun w hw => one_congr (h w hw)
abbrev Tbl := List (Txt × Nat)
noncomputable def val (F : Tbl) (r : Txt) : Option Nat := (F.find? fun e => e.1 == r).map (·.2)
noncomputable def ofT (F : Tbl) : List (Txt × V) := F.map fun e => (e.1, .int e.2)
theorem ofT_find (F : Tbl) (r : Txt) : ((ofT F).find? fun e => e.1 == r).map (·.2) = (val F r).map fun (l : Nat) => V.int l := by
  unfold ofT val
  rw [List.find?_map]
  induction F with
  | nil => rfl
  | cons b B ih =>
    rw [List.find?_cons, List.find?_cons]
    show Option.map _ (Option.map _ (match b.1 == r with | true => some b | false => _)) = _
    cases b.1 == r with
    | true => rfl
    | false => exact ih
theorem ofT_any (F : Tbl) (r : Txt) : ((ofT F).any fun e => e.1 == r) = (val F r).isSome := by
  induction F with
  | nil => rfl
  | cons b F ih =>
    show ((b.1 == r) || (ofT F).any fun e => e.1 == r) = _
    unfold val
    rw [List.find?_cons]
    cases b.1 == r with
    | true => rfl
    | false => exact ih
structure DH (H : AHeap) (d : Nat) (F : Tbl) : Prop where
  ex : ∃ ep, H[d]? = some (.dict (ofT F) ep)
theorem DH.keep {H H' : AHeap} {d : Nat} {F : Tbl} (h : DH H d F) (k : Keep H H') : DH H' d F := by obtain ⟨ep, e⟩ := h.ex; exact ⟨ep, k.get e⟩
theorem DH.get {H : AHeap} {d n : Nat} {F : Tbl} {r : Txt} {p : V → Prop} (h : DH H d F) (hr : val F r = some n) (k : p (.int n)) : subA (.ref d) (.str r) H p := by
  obtain ⟨ep, e⟩ := h.ex
  have := ofT_find F r
  rw [hr] at this
  obtain ⟨x, hx, ev⟩ := Option.map_eq_some_iff.mp this
  exact b_dget e hx (by rw [ev]; exact k)
theorem DH.in {H : AHeap} {d : Nat} {F : Tbl} {r : Txt} {q : Bool → Prop} (h : DH H d F) (k : q (val F r).isSome) : cmpA .In (.str r) (.ref d) H q := by
  obtain ⟨ep, e⟩ := h.ex
  exact c_ind e (by rw [ofT_any]; exact k)
theorem DH.nin {H : AHeap} {d : Nat} {F : Tbl} {r : Txt} {q : Bool → Prop} (h : DH H d F) (k : q (!(val F r).isSome)) : cmpA .NotIn (.str r) (.ref d) H q := by
  obtain ⟨ep, e⟩ := h.ex
  exact c_nind e (by rw [ofT_any]; exact k)
noncomputable def Sd (F : Tbl) (ws : List Txt) (r : Txt) : Prop := ∀ w ∈ ws, ∀ r' b, stp r w = some (r', b) → (val F r').isSome = true
theorem max_if (a b : Nat) : (if ((b : Nat) : Int) > ((a : Nat) : Int) then ((b : Nat) : Int) else ((a : Nat) : Int)) = ((max a b : Nat) : Int) := by split <;> lia
section
variable {T : Tab}
noncomputable def spShr : Spec := fun vs H Q _ => ∃ t u : Txt, vs = [.str t, .str u] ∧ Q (.int (shr t u)) H
inductive ShrI (H : AHeap) (t u : Txt) (m : Nat) (σ : Sg) (H' : AHeap) : Prop
  | mk : H' = H → ∀ i : Nat, i + m = t.length → shr t u = i + shr (t.drop i) (u.drop i) → σ (nm 255570157) = some (.int i) → σ (nm 245248756) = some (.str t) → σ (nm 30815173231) = some (.str u) → ShrI H t u m σ H'
theorem ct_shared (h1 : Has T (nm 1815276) spLen) (h2 : Has T (nm 1815789) spMin) : Ct T x_shared b_shared spShr := by
  refine ct2 fun vs H Q X h => ?_
  obtain ⟨t, u, rfl, h⟩ := h
  refine ⟨_, _, rfl, ?_⟩
  refine s_asg ?_
  walk_at "ev"
  refine r_while ⟨_, while_ind (ShrI H t u) ?_ t.length _ _ ⟨rfl, 0, Nat.zero_add _, (Nat.zero_add _).symm, hit, by walk_at "nm", by walk_at "nm"⟩⟩
  rintro m σ H' ⟨rfl, i, hi, hs, s1, s2, s3⟩ W hW
  walk_at "ev"
  refine ⟨_, _, rfl, ?_⟩
  walk_at "ev"
  refine if_dec (fun hlt => ?_) fun hge => ?_
  · obtain ⟨l1, l2⟩ := min_lt hlt
    have l1' : i < t.length := Int.ofNat_lt.mp l1
    have l2' : i < u.length := Int.ofNat_lt.mp l2
    walk_at "ev"
    refine .str (.pos (Int.natCast_nonneg _) l1) ?_
    walk_at "ev"
    refine .str (.pos (Int.natCast_nonneg _) l2) ?_
    walk_at "ev"
    rw [Int.toNat_natCast, one_at l1', one_at l2']
    refine if_dec (fun e => ?_) fun e => ?_
    · walk_at "ev"
      exact hW (m - 1) _ _ (by lia) ⟨rfl, i + 1, by lia, by rw [hs, shr_eq l1' l2' (List.cons.inj e).1]; lia, hit, by walk_at "nm", by walk_at "nm"⟩
    · walk_at "ev"
      rw [hs, shr_ne l1' l2' fun z => e (by rw [z]), Nat.add_zero] at h
      exact h
  · walk_at "ev"
    have : shr (t.drop i) (u.drop i) = 0 := shr_out fun z => hge (by split <;> lia)
    rw [hs, this, Nat.add_zero] at h
    exact h
inductive LShrI (H : AHeap) (t u : Txt) (m : Nat) (σ : Sg) (H' : AHeap) : Prop
  | mk : H' = H → ∀ i : Nat, i + m = t.length → shr t u = i + shr (t.drop i) (u.drop i) → σ (nm 8781323754941216351) = some (.int i) → σ (nm 57345570095265375) = some (.str t) → σ (nm 1058801290007509759583) = some (.str u) → LShrI H t u m σ H'
theorem ct_law_shared (h1 : Has T (nm 1815276) spLen) (h2 : Has T (nm 1815789) spMin) : Ct T x_law_shared b_law_shared spShr := by
  refine ct2 fun vs H Q X h => ?_
  obtain ⟨t, u, rfl, h⟩ := h
  refine ⟨_, _, rfl, ?_⟩
  refine s_asg ?_
  walk_at "ev"
  refine r_while ⟨_, while_ind (LShrI H t u) ?_ t.length _ _ ⟨rfl, 0, Nat.zero_add _, (Nat.zero_add _).symm, hit, by walk_at "nm", by walk_at "nm"⟩⟩
  rintro m σ H' ⟨rfl, i, hi, hs, s1, s2, s3⟩ W hW
  walk_at "ev"
  refine ⟨_, _, rfl, ?_⟩
  walk_at "ev"
  refine if_dec (fun hlt => ?_) fun hge => ?_
  · obtain ⟨l1, l2⟩ := min_lt hlt
    have l1' : i < t.length := Int.ofNat_lt.mp l1
    have l2' : i < u.length := Int.ofNat_lt.mp l2
    walk_at "ev"
    refine .str (.pos (Int.natCast_nonneg _) l1) ?_
    walk_at "ev"
    refine .str (.pos (Int.natCast_nonneg _) l2) ?_
    walk_at "ev"
    rw [Int.toNat_natCast, one_at l1', one_at l2']
    refine if_dec (fun e => ?_) fun e => ?_
    · walk_at "ev"
      exact hW (m - 1) _ _ (by lia) ⟨rfl, i + 1, by lia, by rw [hs, shr_eq l1' l2' (List.cons.inj e).1]; lia, hit, by walk_at "nm", by walk_at "nm"⟩
    · walk_at "ev"
      rw [hs, shr_ne l1' l2' fun z => e (by rw [z]), Nat.add_zero] at h
      exact h
  · walk_at "ev"
    have : shr (t.drop i) (u.drop i) = 0 := shr_out fun z => hge (by split <;> lia)
    rw [hs, this, Nat.add_zero] at h
    exact h
noncomputable def spHb : Spec := fun vs H Q _ => ∃ (r : Txt) (n d : Nat) (ws : List Txt) (F : Tbl), vs = [.str r, .ref n, .ref d] ∧ Ws H n ws ∧ DH H d F ∧ Sd F ws r ∧ ∀ H', Keep H H' → Q (.int (hgt (val F) ws r)) H'
inductive HbI (H : AHeap) (d : Nat) (r : Txt) (ws : List Txt) (F : Tbl) (xs : List Item) (σ : Sg) (H' : AHeap) : Prop
  | mk : Keep H H' → ∀ us rs, ws = us ++ rs → xs = rs.map (fun w => .one (.str w)) → σ (nm 245166818) = some (.int (Mx (one (val F) r) us)) → σ (nm 245166834) = some (.str r) → σ (nm 27076163558) = some (.ref d) → HbI H d r ws F xs σ H'
theorem ct_height_by (h1 : Has T (nm 443305286007411) spStepped) (h2 : Has T (nm 1815276) spLen) (h3 : Has T (nm 1978605) spMax) (h4 : Has T (nm 3463326495859) spShr) : Ct T x_height_by b_height_by spHb := by
  refine ct3 fun vs H Q X h => ?_
  obtain ⟨r, n, d, ws, F, rfl, hn, hd, hs, h⟩ := h
  refine ⟨_, _, _, rfl, ?_⟩
  refine s_asg ?_
  walk_at "ev"
  refine r_for ?_
  walk_at "ev"
  refine i_list hn ?_
  refine for_invN (HbI H d r ws F) ?_ ?_ ⟨Keep.refl _, [], ws, rfl, List.map_map, hit, by walk_at "nm", by walk_at "nm"⟩
  · rintro x xs σ H' ⟨kp, us, rs, e, ex, s0, s1, s2⟩
    cases rs with
    | nil => cases ex
    | cons w rs =>
    obtain ⟨rfl, rfl⟩ := List.cons.inj ex
    have hw : w ∈ ws := by rw [e]; simp
    refine ⟨kp.get hn, _, rfl, fun W _ hW => ?_⟩
    have next : ∀ σ' H2, Keep H' H2 → σ' (nm 245166818) = some (.int (max (Mx (one (val F) r) us) (one (val F) r w) : Nat)) → σ' (nm 245166834) = some (.str r) → σ' (nm 27076163558) = some (.ref d) → W σ' H2 := fun σ' H2 k2 e1 e2 e3 => hW _ _ ⟨kp.trans k2, us ++ [w], rs, by rw [e, List.append_assoc]; rfl, rfl, by rw [mx_snoc]; exact e1, e2, e3⟩
    refine s_asg ?_
    walk_at "ev"
    refine ⟨r, w, rfl, ?_⟩
    unfold StepQ
    cases hst : stp r w with
    | none =>
      have e1 : one (val F) r w = shr r w := by unfold one; rw [hst]
      rw [e1] at next
      dsimp only
      refine s_ite ?_
      walk_at "ev"
      refine if_t rfl ?_
      walk_at "ev"
      refine ⟨r, w, rfl, ?_⟩
      refine ⟨_, _, rfl, ?_⟩
      rw [max_if]
      walk_at "ev"
      exact next _ _ (Keep.refl _) hit (by walk_at "nm") (by walk_at "nm")
    | some z =>
      obtain ⟨r', t⟩ := z
      obtain ⟨m, hm⟩ := Option.isSome_iff_exists.mp (hs w hw r' t hst)
      have e1 : one (val F) r w = (if t then r.length else w.length) + m := by unfold one; rw [hst]; dsimp only; rw [hm]; rfl
      rw [e1] at next
      dsimp only
      have k1 : Keep H' (H' ++ [.tuple [.str r', .bool t]]) := Keep.new _ _
      have g1 : (H' ++ [AObj.tuple [V.str r', V.bool t]])[H'.length]? = some (.tuple [.str r', .bool t]) := get_new
      generalize H' ++ [AObj.tuple [V.str r', V.bool t]] = H1 at k1 g1
      have hf := hd.keep (kp.trans k1)
      refine s_ite ?_
      walk_at "ev"
      refine if_f rfl ?_
      walk_at "ev"
      refine b_att (k := 1) g1 rfl ?_
      cases t with
      | true =>
        walk_at "ev"
        refine b_att (k := 0) g1 rfl ?_
        refine hf.get hm ?_
        walk_at "ev"
        refine ⟨_, _, rfl, ?_⟩
        rw [← Int.natCast_add, max_if]
        walk_at "ev"
        exact next _ _ k1 hit (by walk_at "nm") (by walk_at "nm")
      | false =>
        walk_at "ev"
        refine b_att (k := 0) g1 rfl ?_
        refine hf.get hm ?_
        walk_at "ev"
        refine ⟨_, _, rfl, ?_⟩
        rw [← Int.natCast_add, max_if]
        walk_at "ev"
        exact next _ _ k1 hit (by walk_at "nm") (by walk_at "nm")
  · rintro σ H' ⟨kp, us, rs, e, ex, s0, _, _⟩
    refine ⟨kp.get hn, ?_⟩
    cases rs with
    | cons _ _ => cases ex
    | nil =>
    rw [List.append_nil] at e
    subst e
    walk_at "ev"
    exact h _ kp
noncomputable def SR (H : AHeap) (o : Option (Txt × Bool)) (v : V) : Prop := match o with
  | none => v = .none
  | some (r, b) => ∃ a, v = .ref a ∧ H[a]? = some (.tuple [.str r, .bool b])
theorem SR.keep {H H' : AHeap} (k : Keep H H') : ∀ {o : Option (Txt × Bool)} {v : V}, SR H o v → SR H' o v
  | none, _, h => h
  | some (_, _), _, ⟨a, e, g⟩ => ⟨a, e, k.get g⟩
noncomputable def ok1 (F : Tbl) (o : Option (Txt × Bool)) : Bool := match o with
  | none => true
  | some (r, _) => (val F r).isSome
theorem ok1_all {F : Tbl} {ws : List Txt} {r : Txt} : ((ws.map fun w => ok1 F (stp r w)).all id = true) ↔ Sd F ws r := by
  rw [List.all_eq_true]
  constructor
  · intro h w hw r' b e
    have := h _ (List.mem_map.mpr ⟨w, hw, rfl⟩)
    rw [e] at this
    exact this
  · intro h x hx
    obtain ⟨w, hw, rfl⟩ := List.mem_map.mp hx
    cases e : stp r w with
    | none => rfl
    | some z => exact h w hw z.1 z.2 e
noncomputable def spIss : Spec := fun vs H Q _ => ∃ (r : Txt) (n d : Nat) (ws : List Txt) (F : Tbl), vs = [.str r, .ref n, .ref d] ∧ Ws H n ws ∧ ws.length ≤ 12 ∧ DH H d F ∧ ∀ b H', Keep H H' → (b = true ↔ Sd F ws r) → Q (.bool b) H'
inductive IssI2 (H1 : AHeap) (r : Txt) (ws : List Txt) (F : Tbl) (xs : List Item) (bs : List V) (H2 : AHeap) : Prop
  | mk : Keep H1 H2 → ∀ us rs ys, ws = us ++ rs → xs = ys.map .one → All2 (fun w v => SR H1 (stp r w) v) rs ys → bs = (us.map fun w => ok1 F (stp r w)).map .bool → IssI2 H1 r ws F xs bs H2
inductive IssI1 (H : AHeap) (r : Txt) (ws : List Txt) (xs : List Item) (acc : List V) (H' : AHeap) : Prop
  | mk : Keep H H' → ∀ us rs, ws = us ++ rs → xs = rs.map (fun w => .one (.str w)) → All2 (fun w v => SR H' (stp r w) v) us acc → IssI1 H r ws xs acc H'
theorem ct_is_settled (h1 : Has T (nm 443305286007411) spStepped) (h2 : Has T (nm 1783393) spAll) : Ct T x_is_settled b_is_settled spIss := by
  refine ct3 fun vs H Q X h => ?_
  obtain ⟨r, n, d, ws, F, rfl, hn, hl, hd, h⟩ := h
  have hl' : ws.length ≤ lid := Nat.le_trans hl (by decide)
  refine ⟨_, _, _, rfl, ?_⟩
  refine s_asg ?_
  walk_at "ev"
  refine i_list hn ⟨by rw [List.length_map, List.length_map]; exact hl', ?_⟩
  refine comp_inv (IssI1 H r ws) ?_ ?_ _ _ _ ⟨Keep.refl _, [], ws, rfl, List.map_map, .nil⟩
  · rintro x xs acc H' ⟨kp, us, rs, e, ex, ha⟩
    cases rs with
    | nil => cases ex
    | cons w rs =>
      obtain ⟨rfl, rfl⟩ := List.cons.inj ex
      refine ⟨kp.get hn, _, rfl, fun W hW => ?_⟩
      have next : ∀ v H2, Keep H' H2 → SR H2 (stp r w) v → W (acc ++ [v]) H2 := fun v H2 k2 hv => hW _ _ ⟨kp.trans k2, us ++ [w], rs, by rw [e, List.append_assoc]; rfl, rfl, (ha.mono fun _ _ z => z.keep k2).append (.cons hv .nil)⟩
      refine if_tt ?_
      walk_at "ev"
      refine ⟨r, w, rfl, ?_⟩
      unfold StepQ
      cases hst : stp r w with
      | none => exact next _ _ (Keep.refl _) (by rw [hst]; rfl)
      | some z => exact next _ _ (Keep.new _ _) (by rw [hst]; exact ⟨_, rfl, get_new⟩)
  · rintro acc H' ⟨kp, us, rs, e, ex, ha⟩
    refine ⟨kp.get hn, ?_⟩
    cases rs with
    | cons _ _ => cases ex
    | nil =>
    rw [List.append_nil] at e
    subst e
    have k1 : Keep H' (H' ++ [.list acc]) := Keep.new _ _
    have g1 : (H' ++ [AObj.list acc])[H'.length]? = some (.list acc) := get_new
    replace ha := ha.mono fun _ _ z => SR.keep k1 z
    have hd1 := hd.keep (kp.trans k1)
    have hal := ha.length
    replace kp := kp.trans k1
    generalize H' ++ [AObj.list acc] = H1 at g1 ha hd1 kp
    generalize H'.length = a at g1
    clear k1
    refine r_ret ?_
    walk_at "ev"
    refine i_list g1 ⟨by rw [List.length_map, ← hal]; exact hl', ?_⟩
    refine comp_inv (IssI2 H1 r ws F) ?_ ?_ _ _ _ ⟨Keep.refl _, [], ws, acc, rfl, rfl, ha, rfl⟩
    · rintro x xs bs H2 ⟨k2, us, rs, ys, e, ex, hr, eb⟩
      cases hr with
      | nil => cases ex
      | @cons w v rs ys hv hr =>
      obtain ⟨rfl, rfl⟩ := List.cons.inj ex
      refine ⟨k2.get g1, _, rfl, fun W hW => ?_⟩
      have next : W (bs ++ [.bool (ok1 F (stp r w))]) H2 := hW _ _ ⟨k2, us ++ [w], rs, ys, by rw [e, List.append_assoc]; rfl, rfl, hr, by rw [eb, List.map_append, List.map_append]; rfl⟩
      refine if_tt ?_
      cases hst : stp r w with
      | none =>
        rw [hst] at hv next
        cases hv
        walk_at "ev"
        refine if_t rfl ?_
        exact next
      | some z =>
        rw [hst] at hv next
        obtain ⟨a', rfl, g2⟩ := hv
        walk_at "ev"
        refine if_f rfl ?_
        walk_at "ev"
        refine b_att (k := 0) (k2.get g2) rfl ?_
        refine (hd1.keep k2).in ?_
        exact next
    · rintro bs H2 ⟨k2, us, rs, ys, e, ex, hr, rfl⟩
      refine ⟨k2.get g1, ?_⟩
      cases hr with
      | cons _ _ => cases ex
      | nil =>
      rw [List.append_nil] at e
      subst e
      walk_at "ev"
      refine ⟨_, _, rfl, get_new, ?_⟩
      exact h _ _ (kp.trans (k2.trans (Keep.new _ _))) ok1_all
end
noncomputable def StN (ws : List Txt) : Nat → Txt → Prop
  | 0, _ => False
  | n + 1, r => ∀ w ∈ ws, ∀ r' b, stp r w = some (r', b) → StN ws n r'
theorem StN.up {ws : List Txt} : ∀ {n m : Nat} {r : Txt}, StN ws n r → n ≤ m → StN ws m r
  | 0, _, _, h, _ => h.elim
  | _ + 1, 0, _, _, k => nomatch k
  | _ + 1, _ + 1, _, h, k => fun w hw r' b e => (h w hw r' b e).up (Nat.le_of_succ_le_succ k)
theorem StN.mem {ws us : List Txt} (h : ∀ w ∈ us, w ∈ ws) : ∀ {n : Nat} {r : Txt}, StN ws n r → StN us n r
  | 0, _, k => k
  | _ + 1, _, k => fun w hw r' b e => (k w (h w hw) r' b e).mem h
abbrev Stl (ws : List Txt) : Txt → Prop := StN ws 132
inductive Rch (ws : List Txt) : Txt → Prop
  | beg {w u : Txt} : Beg ws w u → Rch ws (w.drop u.length)
  | stp {r w r' : Txt} {b : Bool} : Rch ws r → w ∈ ws → stp r w = some (r', b) → Rch ws r'
theorem Beg.mem {ws us : List Txt} {w u : Txt} (h : ∀ w ∈ ws, w ∈ us) (b : Beg ws w u) : Beg us w u := ⟨h _ b.1, h _ b.2.1, b.2.2⟩
theorem Rch.mem {ws us : List Txt} (h : ∀ w ∈ ws, w ∈ us) {r : Txt} (k : Rch ws r) : Rch us r := by
  induction k with
  | beg b => exact .beg (b.mem h)
  | stp _ hw e ih => exact .stp ih (h _ hw) e
theorem Rch.le {ws : List Txt} {f : Txt → Option Nat} (S : Shut ws f) {r : Txt} (h : Rch ws r) : ∃ l, f r = some l := by
  induction h with
  | beg b => obtain ⟨l, e, _⟩ := S.beg _ b.1 _ b.2.1 b.2.2.1 b.2.2.2; exact ⟨l, e⟩
  | stp _ hw e ih => obtain ⟨l, h⟩ := ih; obtain ⟨l', e', _⟩ := S.stp _ l h _ hw _ _ e; exact ⟨l', e'⟩
theorem val_mem {F : Tbl} {r : Txt} {n : Nat} (h : val F r = some n) : ∃ e ∈ F, e.1 = r ∧ e.2 = n := by
  unfold val at h
  obtain ⟨e, he, hn⟩ := Option.map_eq_some_iff.mp h
  exact ⟨e, List.mem_of_find?_eq_some he, by simpa using List.find?_some he, hn⟩
theorem val_key {F : Tbl} {e : Txt × Nat} (h : e ∈ F) : (val F e.1).isSome = true := by
  unfold val
  rw [Option.isSome_map, List.find?_isSome]
  exact ⟨e, h, beq_self_eq_true _⟩
theorem val_app {F G : Tbl} {r : Txt} (h : (val F r).isSome = true) : val (F ++ G) r = val F r := by
  unfold val at *
  rw [List.find?_append]
  cases e : F.find? (fun e => e.1 == r) with
  | none => rw [e] at h; cases h
  | some x => rfl
theorem wd_ne {n : Nat} {w : Txt} (h : Wd n w) : w ≠ [] := fun e => by have := h.pos; rw [e] at this; cases this
theorem Kx.keep {d : Nat} {H H1 H2 : AHeap} (k : Keep H H1) (x : Kx d H1 H2) (hd : H.length ≤ d) : Keep H H2 := ⟨Nat.le_trans k.le x.1, fun i hi => by
  have e := k.old i hi
  rw [List.getElem?_eq_getElem hi] at e ⊢
  exact x.2 i _ (Nat.ne_of_lt (Nat.lt_of_lt_of_le hi hd)) e⟩
theorem DH.set {H : AHeap} {d : Nat} {F : Tbl} {r : Txt} {i : Nat} {p : AHeap → Prop} (hd : d ≠ 0) (h : DH H d F) (hl : F.length < lid) (hr : (val F r).isSome = false) (k : ∀ H', Kx d H H' → DH H' d (F ++ [(r, i)]) → p H') : setItemA (.ref d) (.str r) (.int i) H p := by
  obtain ⟨ep, e⟩ := h.ex
  refine b_dset hd e (by unfold ofT; rw [List.length_map]; exact hl) fun ep' => k _ ((Kx.refl d H).set _) ⟨ep', ?_⟩
  rw [List.getElem?_set_self (lt_of_get e)]
  unfold stA
  rw [if_neg fun z => ?_]
  · unfold ofT; rw [List.map_append]; rfl
  · rw [← ofT_any] at hr
    obtain ⟨x, hx, hz⟩ := List.any_eq_true.mp z
    have := List.any_eq_false.mp hr x hx
    exact this (beq_iff_eq.mpr (of_decide_eq_true hz))
structure FG (ws ys : List Txt) (F : Tbl) : Prop where
  nd : (F.map (·.1)).Nodup
  sub : ∀ e ∈ F, e.1 ∈ ys
  stl : ∀ e ∈ F, StN ws F.length e.1
  vl : ∀ e ∈ F, Sd F ws e.1 ∧ e.2 = hgt (val F) ws e.1
theorem FG.len {ws ys : List Txt} {F : Tbl} (h : FG ws ys F) : F.length ≤ ys.length := by
  have := nodup_le h.nd (m := ys) fun x hx => by obtain ⟨e, he, rfl⟩ := List.mem_map.mp hx; exact h.sub e he
  rwa [List.length_map] at this
theorem FG.key {ws ys : List Txt} {F : Tbl} (h : FG ws ys F) {r : Txt} (hr : (val F r).isSome = true) : StN ws F.length r := by
  obtain ⟨n, hn⟩ := Option.isSome_iff_exists.mp hr
  obtain ⟨e, he, rfl, _⟩ := val_mem hn
  exact h.stl e he
theorem FG.push {ws ys : List Txt} {F : Tbl} {r : Txt} (h : FG ws ys F) (h1 : (val F r).isSome = false) (h2 : r ∈ ys) (h3 : Sd F ws r) : FG ws ys (F ++ [(r, hgt (val F) ws r)]) := by
  have up : ∀ x, Sd F ws x → Sd (F ++ [(r, hgt (val F) ws r)]) ws x := fun x hx w hw r' b e => by rw [val_app (hx w hw r' b e)]; exact hx w hw r' b e
  have eq : ∀ x, Sd F ws x → hgt (val F) ws x = hgt (val (F ++ [(r, hgt (val F) ws r)])) ws x := fun x hx => hgt_congr fun w hw r' b e => (val_app (hx w hw r' b e)).symm
  refine ⟨?_, fun x hx => ?_, fun x hx => ?_, fun x hx => ?_⟩
  · rw [List.map_append, List.nodup_append]
    refine ⟨h.nd, List.nodup_cons.mpr ⟨fun z => (nomatch z), List.nodup_nil⟩, fun a ha b hb e => ?_⟩
    obtain ⟨y, hy, rfl⟩ := List.mem_map.mp ha
    have hb : b = r := List.mem_singleton.mp hb
    have := val_key hy
    rw [e, hb, h1] at this; cases this
  · rcases List.mem_append.mp hx with hx | hx
    · exact h.sub x hx
    · rw [List.mem_singleton.mp hx]; exact h2
  · rcases List.mem_append.mp hx with hx | hx
    · exact (h.stl x hx).up (by rw [List.length_append]; exact Nat.le_add_right _ _)
    · rw [List.mem_singleton.mp hx, List.length_append]; exact fun w hw r' b e => h.key (h3 w hw r' b e)
  · rcases List.mem_append.mp hx with hx | hx
    · obtain ⟨a, b⟩ := h.vl x hx
      exact ⟨up _ a, by rw [← eq _ a]; exact b⟩
    · rw [List.mem_singleton.mp hx]
      exact ⟨up _ h3, eq _ h3⟩
structure Tb (ws : List Txt) (F : Tbl) : Prop where
  stl : ∀ r, Rch ws r → ((val F r).isSome = true ↔ Stl ws r)
  vl : ∀ r n, val F r = some n → Sd F ws r ∧ n = hgt (val F) ws r
theorem Tb.mem {ws us : List Txt} {F : Tbl} (h : ∀ w, w ∈ ws ↔ w ∈ us) (t : Tb ws F) : Tb us F :=
  ⟨fun r hr => (t.stl r (hr.mem fun w => (h w).mpr)).trans ⟨fun k => k.mem fun w => (h w).mpr, fun k => k.mem fun w => (h w).mp⟩,
    fun r n e => by obtain ⟨a, b⟩ := t.vl r n e; exact ⟨fun w hw => a w ((h w).mpr hw), b.trans (mx_mem h)⟩⟩
theorem Tb.uniq {ws : List Txt} {F G : Tbl} (t : Tb ws F) (u : Tb ws G) : ∀ (n : Nat) (r : Txt), StN ws n r → Stl ws r → Rch ws r → val F r = val G r
  | 0, _, h, _, _ => h.elim
  | n + 1, r, h, hs, hr => by
    obtain ⟨a, ea⟩ := Option.isSome_iff_exists.mp ((t.stl r hr).mpr hs)
    obtain ⟨b, eb⟩ := Option.isSome_iff_exists.mp ((u.stl r hr).mpr hs)
    obtain ⟨sa, rfl⟩ := t.vl r a ea
    obtain ⟨sb, rfl⟩ := u.vl r b eb
    rw [ea, eb, hgt_congr fun w hw r' c e => t.uniq u n r' (h w hw r' c e) ((t.stl r' (.stp hr hw e)).mp (sa w hw r' c e)) (.stp hr hw e)]
theorem Tb.same {ws : List Txt} {F G : Tbl} (t : Tb ws F) (u : Tb ws G) {r : Txt} (hr : Rch ws r) : val F r = val G r := by
  by_cases h : Stl ws r
  · exact t.uniq u 132 r h h hr
  · rw [Option.isSome_eq_false_iff.mp (Bool.eq_false_iff.mpr fun z => h ((t.stl r hr).mp z)) |> Option.isNone_iff_eq_none.mp, Option.isSome_eq_false_iff.mp (Bool.eq_false_iff.mpr fun z => h ((u.stl r hr).mp z)) |> Option.isNone_iff_eq_none.mp]
section
variable {T : Tab}
noncomputable def spSettled : Spec := fun vs H Q _ => ∃ (n : Nat) (ws : List Txt), vs = [.ref n] ∧ n < H.length ∧ Ws H n ws ∧ ws.length ≤ 12 ∧ (∀ w ∈ ws, Wd 10 w) ∧ ∀ d H' F, H.length ≤ d → Keep H H' → DH H' d F → Tb ws F → Q (.ref d) H'
inductive StlI2 (H3 : AHeap) (n d L : Nat) (ws ys : List Txt) (F : Tbl) (xs : List Item) (σ : Sg) (H' : AHeap) : Prop
  | mk : Kx d H3 H' → ∀ us rs F', ys = us ++ rs → xs = rs.map (fun w => .one (.str w)) → DH H' d F' → FG ws ys F' → ((σ (nm 4116153104873) = some (.bool true) ∧ F.length < F'.length) ∨ (σ (nm 4116153104873) = some (.bool false) ∧ F' = F ∧ ∀ r ∈ us, Sd F ws r → (val F r).isSome = true)) → σ (nm 31115244274) = some (.ref L) → σ (nm 27076163558) = some (.ref d) → σ (nm 31081674743) = some (.ref n) → StlI2 H3 n d L ws ys F xs σ H'
inductive StlI1 (H3 : AHeap) (n d L : Nat) (ws ys : List Txt) (m : Nat) (σ : Sg) (H' : AHeap) : Prop
  | mk : Kx d H3 H' → ∀ F, DH H' d F → FG ws ys F → ((σ (nm 4116153104873) = some (.bool true) ∧ ys.length + 1 ≤ F.length + m) ∨ (σ (nm 4116153104873) = some (.bool false) ∧ ∀ r ∈ ys, Sd F ws r → (val F r).isSome = true)) → σ (nm 31115244274) = some (.ref L) → σ (nm 27076163558) = some (.ref d) → σ (nm 31081674743) = some (.ref n) → StlI1 H3 n d L ws ys m σ H'
theorem ct_settled (h1 : Has T (nm 1651436) spLed) (h2 : Has T (nm 3463330969587) spSorted) (h3 : Has T (nm 929676333464757467625) spIss) (h4 : Has T (nm 8774559802307801832) spHb) : Ct T x_settled b_settled spSettled := by
  refine ct1 fun vs H Q X h => ?_
  obtain ⟨n, ws, rfl, hn, hw, hl, hwd, h⟩ := h
  have hpos : ∀ w ∈ ws, w ≠ [] := fun w hw => wd_ne (hwd w hw)
  refine ⟨_, rfl, ?_⟩
  refine s_asg ?_
  walk_at "ev"
  refine ⟨n, ws, rfl, hn, hw, hl, hwd, fun d0 H1 B hd0 k1 hB hI hS => ?_⟩
  obtain ⟨es, ep, g1, g2⟩ := hB
  have hBl := hI.len
  have hSl := sufs_len ws fun w hw => (hwd w hw).le
  refine s_sortedD g1 fun ys hp => ?_
  rw [eq_keys g2] at hp
  have hyl : ys.length ≤ 132 := by rw [hp.length_eq, List.length_map]; exact Nat.le_trans hBl (Nat.le_trans hSl (Nat.mul_le_mul_left 11 hl))
  have mk : ∀ {r l}, Le (lenB B) r l → r ∈ ys := fun {r l} h => by
    obtain ⟨m, e, _⟩ := h
    obtain ⟨b, hb, e1, _⟩ := lenB_mem e
    exact hp.mem_iff.mpr (List.mem_map.mpr ⟨b, hb, e1⟩)
  have hcl : ∀ r ∈ ys, ∀ w ∈ ws, ∀ r' b, stp r w = some (r', b) → r' ∈ ys := fun r hr w hw r' b e => by
    obtain ⟨x, hx, rfl⟩ := List.mem_map.mp (hp.mem_iff.mp hr)
    exact mk (hS.stp x.1 x.2.1 (by unfold lenB; rw [lenB_of hI.nd x hx]; rfl) w hw r' b e)
  have hR : ∀ r, Rch ws r → r ∈ ys := fun r hr => by obtain ⟨l, e⟩ := hr.le hS; exact mk ⟨l, e, Nat.le_refl _⟩
  clear hp mk hS g2 g1 hBl hI hSl
  have k2 : Keep H (H1 ++ [.list (ys.map .str)]) := k1.trans (Keep.new _ _)
  have gL : Ws (H1 ++ [.list (ys.map .str)]) H1.length ys := get_new
  have hL := k1.le
  generalize H1 ++ [AObj.list (ys.map .str)] = H2 at k2 gL
  generalize H1.length = L at gL hL
  refine s_asg ?_
  walk_at "ev"
  have hLd := lt_of_get gL
  have k3 : Keep H2 (H2 ++ [.dict [] 0]) := Keep.new _ _
  have g3 : DH (H2 ++ [.dict [] 0]) H2.length [] := ⟨0, get_new⟩
  have hd2 := k2.le
  replace gL := gL.keep k3
  replace k2 := k2.trans k3
  generalize H2 ++ [AObj.dict [] 0] = H3 at k2 gL g3
  generalize H2.length = d at g3 hLd hd2
  clear k3 k1
  have hd0 : d ≠ 0 := Nat.ne_of_gt (Nat.lt_of_le_of_lt (Nat.zero_le _) hLd)
  have hnd : n ≠ d := Nat.ne_of_lt (Nat.lt_of_lt_of_le hn hd2)
  have hw3 := hw.keep k2
  have hLn : L ≠ d := Nat.ne_of_lt hLd
  refine s_asg ?_
  walk_at "ev"
  refine r_while ⟨_, while_ind (StlI1 H3 n d L ws ys) ?_ (ys.length + 1) _ _
    ⟨Kx.refl _ _, [], g3, ⟨List.nodup_nil, (fun _ h => nomatch h), (fun _ h => nomatch h), fun _ h => nomatch h⟩, .inl ⟨by walk_at "nm", Nat.le_of_eq (Nat.zero_add _).symm⟩, by walk_at "nm", by walk_at "nm", by walk_at "nm"⟩⟩
  rintro m σ H' ⟨kx, F, hF, hG, hor, s1, s2, s3⟩ W hW
  have hFl := hG.len
  rcases hor with ⟨s4, hm⟩ | ⟨s4, hcF⟩
  case inr =>
    walk_at "ev"
    refine r_ret ?_
    walk_at "ev"
    refine h _ _ F hd2 (Kx.keep k2 kx hd2) hF ⟨fun r hr => ⟨fun z => (hG.key z).up (Nat.le_trans hFl hyl), fun hs => ?_⟩, fun r v hv => ?_⟩
    · have : ∀ n r, StN ws n r → r ∈ ys → (val F r).isSome = true := fun n => by
        induction n with
        | zero => exact fun _ h => h.elim
        | succ n ih => exact fun r h hr => hcF _ hr fun w hw r' b e => ih r' (h w hw r' b e) (hcl _ hr w hw r' b e)
      exact this _ r hs (hR r hr)
    · obtain ⟨e, he, rfl, rfl⟩ := val_mem hv
      exact hG.vl e he
  walk_at "ev"
  refine s_asg ?_
  walk_at "ev"
  refine r_for ?_
  walk_at "ev"
  refine i_list (kx.2 _ _ hLn gL) ?_
  refine for_invN (StlI2 H3 n d L ws ys F) ?_ ?_
    ⟨kx, [], ys, F, rfl, List.map_map, hF, hG, .inr ⟨by walk_at "nm", rfl, fun _ h => nomatch h⟩, by walk_at "nm", by walk_at "nm", by walk_at "nm"⟩
  · clear hF hG kx s1 s2 s3 s4 hW hm
    rintro x xs σ H' ⟨kx, us, rs, F', e, ex, hF, hG, hor, s1, s2, s3⟩
    cases rs with
    | nil => cases ex
    | cons r rs =>
    obtain ⟨rfl, rfl⟩ := List.cons.inj ex
    refine ⟨kx.2 _ _ hLn gL, _, rfl, fun W2 _ hW2 => ?_⟩
    have hrs : ys = (us ++ [r]) ++ rs := by rw [e, List.append_assoc]; rfl
    have hry : r ∈ ys := by rw [e]; exact List.mem_append_right _ (.head _)
    -- nothing new
    have same : ∀ σ' H4, Keep H' H4 → (Sd F' ws r → (val F' r).isSome = true) → σ' (nm 4116153104873) = σ (nm 4116153104873) → σ' (nm 31115244274) = some (.ref L) → σ' (nm 27076163558) = some (.ref d) → σ' (nm 31081674743) = some (.ref n) → W2 σ' H4 := by
      intro σ' H4 k4 ht t0 t1 t2 t3
      refine hW2 _ _ ⟨kx.trans (.of k4), us ++ [r], rs, F', hrs, rfl, hF.keep k4, hG, ?_, t1, t2, t3⟩
      rw [t0]
      rcases hor with z | ⟨z1, z2, z3⟩
      · exact .inl z
      · refine .inr ⟨z1, z2, fun x hx => ?_⟩
        rcases List.mem_append.mp hx with hx | hx
        · exact z3 x hx
        · rw [List.mem_singleton.mp hx, ← z2]; exact ht
    refine s_ite ?_
    walk_at "ev"
    refine hF.nin ?_
    cases hnot : (val F' r).isSome with
    | false =>
      refine if_t rfl ?_
      walk_at "ev"
      refine ⟨r, n, d, ws, F', rfl, kx.2 _ _ hnd hw3, hl, hF, fun b H4 k4 hb => ?_⟩
      walk_at "ev"
      cases b with
      | false =>
        walk_at "ev"
        exact same _ _ k4 (fun z => nomatch hb.mpr z) (by rw [set_nm]; rfl) (by walk_at "nm") (by walk_at "nm") (by walk_at "nm")
      | true =>
        have hF4 := hF.keep k4
        walk_at "ev"
        refine ⟨r, n, d, ws, F', rfl, (kx.trans (.of k4)).2 _ _ hnd hw3, hF4, hb.mp rfl, fun H5 k5 => ?_⟩
        walk_at "ev"
        have hFl' := hG.len
        refine (hF4.keep k5).set hd0 (Nat.lt_of_le_of_lt (Nat.le_trans hFl' hyl) (by decide)) hnot fun H6 k6 hF6 => ?_
        walk_at "ev"
        refine hW2 _ _ ⟨((kx.trans (.of k4)).trans (.of k5)).trans k6, us ++ [r], rs, _, hrs, rfl, hF6, hG.push hnot hry (hb.mp rfl), .inl ⟨by walk_at "nm", ?_⟩, by walk_at "nm", by walk_at "nm", by walk_at "nm"⟩
        rw [List.length_append, List.length_singleton]
        rcases hor with ⟨_, z⟩ | ⟨_, z, _⟩
        · exact Nat.lt_succ_of_lt z
        · rw [z]; exact Nat.lt_succ_self _
    | true =>
      refine if_f rfl ?_
      walk_at "ev"
      exact same _ _ (Keep.refl _) (fun _ => hnot) (by rw [set_nm]; rfl) (by walk_at "nm") (by walk_at "nm") (by walk_at "nm")
  · rintro σ H' ⟨kx, us, rs, F', e, ex, hF, hG, hor, s1, s2, s3⟩
    refine ⟨kx.2 _ _ hLn gL, ?_⟩
    cases rs with
    | cons _ _ => cases ex
    | nil =>
    rw [List.append_nil] at e
    subst e
    obtain ⟨m', rfl⟩ := Nat.exists_eq_succ_of_ne_zero (n := m) fun z => absurd (Nat.le_trans hm (by rw [z]; exact hFl)) (Nat.not_succ_le_self _)
    walk_at "ev"
    refine hW m' _ _ rfl ⟨kx, F', hF, hG, ?_, s1, s2, s3⟩
    rcases hor with ⟨z, y⟩ | ⟨z1, z2, z3⟩
    · exact .inl ⟨z, Nat.le_trans hm (Nat.le_trans (Nat.le_of_eq (Nat.succ_add_eq_add_succ _ _).symm) (Nat.add_le_add_right y _))⟩
    · exact .inr ⟨z1, z2 ▸ z3⟩
noncomputable def vO : Option Nat → V
  | none => .none
  | some n => .int n
noncomputable def hts (B : Bst) (F : Tbl) : List (Txt × V) := B.map fun b => (b.1, vO (val F b.1))
theorem kind_d {H : AHeap} {n ep : Nat} {es : List (Txt × V)} (h : H[n]? = some (.dict es ep)) : kindA (.ref n) H = some .dict := by unfold kindA; dsimp only; rw [h]
theorem hts_find {B : Bst} {F : Tbl} {r : Txt} (h : ∃ b ∈ B, b.1 = r) : (((hts B F).find? fun e => e.1 == r).map (·.2)).getD .none = vO (val F r) := by
  unfold hts
  rw [List.find?_map]
  obtain ⟨b, hb, e⟩ := h
  cases hf : B.find? ((fun e : Txt × V => e.1 == r) ∘ fun b => (b.1, vO (val F b.1))) with
  | none => exact absurd (beq_iff_eq.mpr e) (List.find?_eq_none.mp hf b hb)
  | some c =>
    have := List.find?_some hf
    rw [← beq_iff_eq.mp this]; rfl
noncomputable def spHts : Spec := fun vs H Q _ => ∃ (n : Nat) (ws : List Txt), vs = [.ref n] ∧ n < H.length ∧ Ws H n ws ∧ Cd ws ∧ ∀ d H' es ep F, Keep H H' → H'[d]? = some (.dict es ep) → Tb ws F → (∀ r, Rch ws r → ((es.find? fun e => e.1 == r).map (·.2)).getD .none = vO (val F r)) → Q (.ref d) H'
inductive HtsI (H3 : AHeap) (B : Bst) (F : Tbl) (xs : List Item) (acc : List V) (H' : AHeap) : Prop
  | mk : Keep H3 H' → ∀ bd br rs, B = bd ++ br → xs = br.map (fun b => .one (.str b.1)) → acc = rs.map .ref → All2 (fun r (e : Txt × V) => H'[r]? = some (.tuple [.str e.1, e.2])) rs (hts bd F) → HtsI H3 B F xs acc H'
theorem ct_heights (h0 : T.calm) (h1 : Has T (nm 1651436) spLed) (h2 : Has T (nm 443303916565603) spChecked) (h3 : Has T (nm 244905188) spDict) (h4 : Has T (nm 443304220898035) spSettled) (h5 : HasM T .dict (nm 1913575) spGet) : Ct T x_heights b_heights spHts := by
  refine ct1 fun vs H Q X h => ?_
  obtain ⟨n, ws, rfl, hn, hw, hc, h⟩ := h
  refine ⟨_, rfl, ?_⟩
  refine s_asg ?_
  walk_at "ev"
  refine ⟨n, ws, rfl, hn, hw, hc, Nat.lt_of_le_of_lt (Nat.zero_le _) hn, fun ys p1 H1 hp hp1 hy k1 => ?_⟩
  have hyw : ∀ w ∈ ys, Wd 10 w := fun w h => hc.wd w (hp.mem_iff.mp h)
  have hyl : ys.length ≤ 12 := by rw [hp.length_eq]; exact hc.le
  refine s_asg ?_
  walk_at "ev"
  refine ⟨p1, ys, rfl, lt_of_get hy, hy, hyl, hyw, fun t H2 F ht k2 hF hT => ?_⟩
  obtain ⟨ept, gt⟩ := hF.ex
  replace k1 := k1.trans k2
  replace hy := hy.keep k2
  walk_at "ev"
  refine ⟨p1, ys, rfl, lt_of_get hy, hy, hyl, hyw, fun d H3 B hd k3 hB hI hS => ?_⟩
  obtain ⟨es, ep, g1, g2⟩ := hB
  replace gt := k3.get gt
  replace k1 := k1.trans k3
  have hBl : B.length ≤ 132 := by
    have h1 := hI.len
    have h2 := sufs_len ys fun w h => (hyw w h).le
    lia
  have hk := eq_keys g2
  refine .dict h0 g1 ⟨by rw [List.length_map, ← List.length_map (f := fun e : Txt × V => e.1), hk, List.length_map]; unfold lid; lia, ?_⟩
  have hks : (es.map fun e => Item.one (.str e.1)) = B.map fun b => .one (.str b.1) := by
    have := congrArg (List.map fun t => Item.one (.str t)) hk
    rw [List.map_map, List.map_map] at this
    exact this
  rw [hks]
  refine comp_inv (HtsI H3 B F) ?_ ?_ _ _ _ ⟨Keep.refl _, [], B, [], rfl, rfl, rfl, .nil⟩
  · rintro x xs acc H' ⟨kp, bd, br, rs, e, ex, ea, ha⟩
    cases br with
    | nil => cases ex
    | cons b br =>
      obtain ⟨rfl, rfl⟩ := List.cons.inj ex
      refine ⟨kp.get g1, _, rfl, fun W hW => ?_⟩
      refine if_tt ?_
      walk_at "ev"
      refine e_methN (by walk_at "nm") (kind_d (kp.get gt)) h5 (l2 ?_)
      walk_at "ev"
      refine ⟨t, ept, _, b.1, .inr rfl, kp.get gt, ?_⟩
      have ev : (((ofT F).find? fun e => e.1 == b.1).map (·.2)).getD .none = vO (val F b.1) := by
        rw [ofT_find]; cases val F b.1 <;> rfl
      rw [ev]
      refine ⟨Nat.le_of_ble_eq_true rfl, ?_⟩
      refine hW _ _ ⟨kp.trans (Keep.new _ _), bd ++ [b], br, rs ++ [H'.length], by rw [e, List.append_assoc]; rfl, rfl, by rw [ea, List.map_append]; rfl, ?_⟩
      unfold hts
      rw [List.map_append]
      exact (ha.mono fun _ _ z => (Keep.new _ _).get z).append (.cons get_new .nil)
  · rintro acc H' ⟨kp, bd, br, rs, e, ex, ea, ha⟩
    refine ⟨kp.get g1, ?_⟩
    cases br with
    | cons _ _ => cases ex
    | nil =>
      rw [List.append_nil] at e
      subst e ea
      refine .pairs get_new (ha.mono fun _ _ z => (Keep.new _ _).get z) ?_ fun ep' => ?_
      · unfold hts; rw [List.map_map]; exact hI.nd
      · have hm : ∀ w, w ∈ ys ↔ w ∈ ws := fun w => hp.mem_iff
        refine h _ _ _ ep' F (k1.trans (kp.trans ((Keep.new _ _).trans (Keep.new _ _)))) get_new (hT.mem hm) fun r hr => hts_find ?_
        obtain ⟨l, e⟩ := (hr.mem fun w => (hm w).mpr).le hS
        obtain ⟨b, hb, e1, _⟩ := lenB_mem e
        exact ⟨b, hb, e1⟩
end
noncomputable def x_apart : List Str := [(nm 31081674743)]
noncomputable def b_apart : PS := (.seq (.assign (.name (nm 27076163558)) (.list .nil)) (.seq (.for_ (.tup [(nm 14945), (nm 1668975)]) (.itEnum (.name (nm 31081674743))) (.seq (.for_ (.name (nm 30815173231)) (.itVal (.slice (.name (nm 31081674743)) (.bin .Add (.name (nm 14945)) (.int 1)) .none)) (.seq (.ite (.cmp1 .Lt (.call (.glob (nm 3463326495859)) (.cons (.name (nm 1668975)) (.cons (.name (nm 30815173231)) .nil))) (.call (.glob (nm 1815789)) (.cons (.call (.glob (nm 1815276)) (.cons (.name (nm 1668975)) .nil)) (.cons (.call (.glob (nm 1815276)) (.cons (.name (nm 30815173231)) .nil)) .nil)))) (.seq (.expr (.meth (.name (nm 27076163558)) (nm 3465715398753) (.cons (.tuple (.cons (.name (nm 1668975)) (.cons (.name (nm 30815173231)) .nil))) .nil))) .skip) .skip) .skip)) .skip)) (.seq (.ret (.name (nm 27076163558))) .skip)))
noncomputable def x_wait : List Str := [(nm 31081674743)]
noncomputable def b_wait : PS := (.seq (.assign (.name (nm 1817583)) (.call (.glob (nm 443303916565603)) (.cons (.name (nm 31081674743)) .nil))) (.seq (.assign (.name (nm 27076163558)) (.call (.glob (nm 443304220898035)) (.cons (.name (nm 1817583)) .nil))) (.seq (.assign (.name (nm 245166818)) (.int 0)) (.seq (.for_ (.tup [(nm 1668975), (nm 30815173231)]) (.itVal (.call (.glob (nm 31379191905)) (.cons (.name (nm 1817583)) .nil))) (.seq (.assign (.name (nm 245166818)) (.call (.glob (nm 1978605)) (.cons (.name (nm 245166818)) (.cons (.call (.glob (nm 3463326495859)) (.cons (.name (nm 1668975)) (.cons (.name (nm 30815173231)) .nil))) .nil)))) .skip)) (.seq (.for_ (.tup [(nm 3604769125100), (nm 1668975), (nm 30815173231), (nm 245166834)]) (.itVal (.call (.glob (nm 29774967522)) (.cons (.name (nm 1817583)) .nil))) (.seq (.ite (.cmp1 .NotIn (.name (nm 245166834)) (.name (nm 27076163558))) (.seq (.ret .none) .skip) .skip) (.seq (.assign (.name (nm 245166818)) (.call (.glob (nm 1978605)) (.cons (.name (nm 245166818)) (.cons (.bin .Add (.call (.glob (nm 1815276)) (.cons (.sub (.name (nm 30815173231)) (.int 0)) .nil)) (.sub (.name (nm 27076163558)) (.name (nm 245166834)))) .nil)))) .skip))) (.seq (.ret (.name (nm 245166818))) .skip))))))
theorem any0 {H : AHeap} {n : Nat} {w : Txt} {ws : List Txt} {p : V → Prop} (h : Ws H n (w :: ws)) (hp : p (.str w)) : subA (.ref n) (.int 0) H p :=
  b_at h (Int.le_refl _) (Int.ofNat_lt.mpr (Nat.succ_pos _)) hp
theorem min_iff {i a b : Nat} : ((i : Nat) : Int) < (if ((b : Nat) : Int) < ((a : Nat) : Int) then ((b : Nat) : Int) else ((a : Nat) : Int)) ↔ i < min a b := by split <;> lia
noncomputable def apt (w u : Txt) : Bool := decide (shr w u < min w.length u.length)
noncomputable def prs : List Txt → List (Txt × Txt)
  | [] => []
  | w :: r => (r.filter (apt w)).map (fun u => (w, u)) ++ prs r
theorem prs_len : ∀ ws : List Txt, (prs ws).length ≤ ws.length * ws.length
  | [] => Nat.le_refl _
  | w :: r => by
    have h1 := prs_len r
    have h2 := List.length_filter_le (apt w) r
    rw [prs, List.length_append, List.length_map, List.length_cons, Nat.succ_mul, Nat.mul_succ]
    lia
theorem prs_mem : ∀ {ws : List Txt} {e : Txt × Txt}, e ∈ prs ws → e.1 ∈ ws ∧ e.2 ∈ ws ∧ apt e.1 e.2 = true
  | w :: r, e, h => by
    rcases List.mem_append.mp h with h | h
    · obtain ⟨u, hu, rfl⟩ := List.mem_map.mp h
      obtain ⟨h1, h2⟩ := List.mem_filter.mp hu
      exact ⟨.head _, .tail _ h1, h2⟩
    · obtain ⟨h1, h2, h3⟩ := prs_mem h
      exact ⟨.tail _ h1, .tail _ h2, h3⟩
theorem shr_comm : ∀ t u : Txt, shr t u = shr u t
  | [], [] => rfl
  | [], _ :: _ => rfl
  | _ :: _, [] => rfl
  | a :: x, b :: y => by
    rw [shr, shr, shr_comm x y]
    by_cases e : a = b
    · rw [if_pos e, if_pos e.symm]
    · rw [if_neg e, if_neg fun z => e z.symm]
theorem apt_comm (w u : Txt) : apt w u = apt u w := by unfold apt; rw [shr_comm, Nat.min_comm]
theorem prs_all : ∀ {ws : List Txt} {w u : Txt}, w ∈ ws → u ∈ ws → w ≠ u → apt w u = true → (w, u) ∈ prs ws ∨ (u, w) ∈ prs ws
  | x :: r, w, u, hw, hu, hne, ha => by
    unfold prs
    cases hw with
    | head =>
      cases hu with
      | head => exact absurd rfl hne
      | tail _ hu => exact .inl (List.mem_append_left _ (List.mem_map.mpr ⟨u, List.mem_filter.mpr ⟨hu, ha⟩, rfl⟩))
    | tail _ hw =>
      cases hu with
      | head => exact .inr (List.mem_append_left _ (List.mem_map.mpr ⟨w, List.mem_filter.mpr ⟨hw, by rw [apt_comm]; exact ha⟩, rfl⟩))
      | tail _ hu => exact (prs_all hw hu hne ha).imp (List.mem_append_right _) (List.mem_append_right _)
theorem shr_pre : ∀ (t u : Txt), t.take u.length = u → shr t u = u.length
  | [], [], _ => rfl
  | _ :: _, [], _ => rfl
  | [], b :: y, h => nomatch h
  | a :: x, b :: y, h => by
    obtain ⟨rfl, h'⟩ := List.cons.inj h
    rw [shr, if_pos rfl, shr_pre x y h']; rfl
theorem shr_min : ∀ (t u : Txt), shr t u ≤ t.length ∧ shr t u ≤ u.length ∧ (t.take (shr t u) = u.take (shr t u))
  | [], [] => ⟨Nat.le_refl _, Nat.le_refl _, rfl⟩
  | [], _ :: _ => ⟨Nat.le_refl _, Nat.zero_le _, rfl⟩
  | _ :: _, [] => ⟨Nat.zero_le _, Nat.le_refl _, rfl⟩
  | a :: x, b :: y => by
    rw [shr]
    by_cases e : a = b
    · obtain ⟨h1, h2, h3⟩ := shr_min x y
      rw [if_pos e]
      exact ⟨Nat.succ_le_succ h1, Nat.succ_le_succ h2, by rw [List.take_succ_cons, List.take_succ_cons, h3, e]⟩
    · rw [if_neg e]; exact ⟨Nat.zero_le _, Nat.zero_le _, rfl⟩
theorem apt_iff {w u : Txt} : apt w u = true ↔ ¬ w.take u.length = u ∧ ¬ u.take w.length = w := by
  unfold apt
  rw [decide_eq_true_iff]
  refine ⟨fun h => ⟨fun e => ?_, fun e => ?_⟩, fun ⟨h1, h2⟩ => ?_⟩
  · rw [shr_pre w u e] at h; exact absurd (Nat.lt_of_lt_of_le h (Nat.min_le_right _ _)) (Nat.lt_irrefl _)
  · rw [shr_comm, shr_pre u w e] at h; exact absurd (Nat.lt_of_lt_of_le h (Nat.min_le_left _ _)) (Nat.lt_irrefl _)
  · obtain ⟨a, b, c⟩ := shr_min w u
    refine Nat.lt_min.mpr ⟨Nat.lt_of_le_of_ne a fun e => h2 ?_, Nat.lt_of_le_of_ne b fun e => h1 ?_⟩
    · rw [e, List.take_length] at c; exact c.symm
    · rw [e, List.take_length] at c; exact c
theorem apt_ne {w u : Txt} (h : apt w u = true) : w ≠ u := fun e => by
  subst e; exact (apt_iff.mp h).1 List.take_length
noncomputable def cnd (F : Tbl) (w u : Txt) : Option Nat := if w = u then none else if w.take u.length = u then some (u.length + (val F (w.drop u.length)).getD 0) else if u.take w.length = w then none else some (shr w u)
theorem cnd_apt {F : Tbl} {w u : Txt} (h : apt w u = true) : cnd F w u = some (shr w u) := by
  unfold cnd; rw [if_neg (apt_ne h), if_neg (apt_iff.mp h).1, if_neg (apt_iff.mp h).2]
theorem cnd_beg {F : Tbl} {w u : Txt} (h1 : w ≠ u) (h2 : w.take u.length = u) : cnd F w u = some (u.length + (val F (w.drop u.length)).getD 0) := by
  unfold cnd; rw [if_neg h1, if_pos h2]
noncomputable def IsMx (S : Nat → Prop) (m : Nat) : Prop := (m = 0 ∨ S m) ∧ ∀ c, S c → c ≤ m
theorem IsMx.nil {S : Nat → Prop} (h : ∀ c, ¬ S c) : IsMx S 0 := ⟨.inl rfl, fun c hc => (h c hc).elim⟩
theorem IsMx.add {S S' : Nat → Prop} {m c : Nat} (h : IsMx S m) (k : ∀ x, S' x ↔ S x ∨ x = c) : IsMx S' (max m c) := by
  refine ⟨?_, fun x hx => ?_⟩
  · rcases Nat.le_total m c with hl | hl
    · rw [Nat.max_eq_right hl]; exact .inr ((k c).mpr (.inr rfl))
    · rw [Nat.max_eq_left hl]; exact h.1.imp_right fun z => (k m).mpr (.inl z)
  · rcases (k x).mp hx with z | rfl
    · exact Nat.le_trans (h.2 x z) (Nat.le_max_left _ _)
    · exact Nat.le_max_right _ _
theorem IsMx.iff {S S' : Nat → Prop} {m : Nat} (h : IsMx S m) (k : ∀ x, S' x ↔ S x) : IsMx S' m := ⟨h.1.imp_right (k m).mpr, fun c hc => h.2 c ((k c).mp hc)⟩
theorem IsMx.eq {S S' : Nat → Prop} {m n : Nat} (h : IsMx S m) (h' : IsMx S' n) (k : ∀ x, S x ↔ S' x) : m = n := by
  refine Nat.le_antisymm ?_ ?_
  · rcases h.1 with e | e
    · rw [e]; exact Nat.zero_le _
    · exact h'.2 _ ((k m).mp e)
  · rcases h'.1 with e | e
    · rw [e]; exact Nat.zero_le _
    · exact h.2 _ ((k n).mpr e)
noncomputable def Cnd (F : Tbl) (ws : List Txt) (c : Nat) : Prop := ∃ w ∈ ws, ∃ u ∈ ws, cnd F w u = some c
abbrev IsW (F : Tbl) (ws : List Txt) (m : Nat) : Prop := IsMx (Cnd F ws) m
theorem Cnd.mem {F : Tbl} {ws us : List Txt} (h : ∀ w, w ∈ ws ↔ w ∈ us) (c : Nat) : Cnd F us c ↔ Cnd F ws c :=
  ⟨fun ⟨w, hw, u, hu, e⟩ => ⟨w, (h w).mpr hw, u, (h u).mpr hu, e⟩, fun ⟨w, hw, u, hu, e⟩ => ⟨w, (h w).mp hw, u, (h u).mp hu, e⟩⟩
theorem Cnd.same {F G : Tbl} {ws : List Txt} (t : Tb ws F) (t' : Tb ws G) (c : Nat) (h : Cnd F ws c) : Cnd G ws c := by
  obtain ⟨w, hw, u, hu, e⟩ := h
  refine ⟨w, hw, u, hu, ?_⟩
  unfold cnd at e ⊢
  split at e
  · cases e
  · rename_i hne
    rw [if_neg hne]
    split at e
    · rename_i hb
      rw [if_pos hb, ← t.same t' (.beg ⟨hw, hu, hne, hb⟩)]; exact e
    · rename_i hb
      rw [if_neg hb]; exact e
theorem IsW.uniq {F G : Tbl} {ws : List Txt} {m n : Nat} (t : Tb ws F) (t' : Tb ws G) (h : IsW F ws m) (h' : IsW G ws n) : m = n := h.eq h' fun x => ⟨Cnd.same t t' x, Cnd.same t' t x⟩
noncomputable def Wts (ws : List Txt) : Prop := ∀ w u, Beg ws w u → Stl ws (w.drop u.length)
theorem Wts.mem {ws us : List Txt} (h : ∀ w, w ∈ ws ↔ w ∈ us) (k : Wts ws) : Wts us := fun w u hb => (k w u (hb.mem fun x hx => (h x).mpr hx)).mem fun x hx => (h x).mpr hx
structure PP (H : AHeap) (p : Nat) (ps : List (Txt × Txt)) : Prop where
  ex : ∃ ns : List Nat, H[p]? = some (.list (ns.map .ref)) ∧ All2 (fun n (e : Txt × Txt) => p < n ∧ H[n]? = some (.tuple [.str e.1, .str e.2])) ns ps
theorem PP.keep {H H' : AHeap} {p : Nat} {ps : List (Txt × Txt)} (h : PP H p ps) (k : Keep H H') : PP H' p ps := by
  obtain ⟨ns, h1, h2⟩ := h.ex; exact ⟨ns, k.get h1, h2.mono fun _ _ z => ⟨z.1, k.get z.2⟩⟩
theorem drop_next (us rs : List Txt) (w : Txt) : ((us ++ w :: rs).map V.str).drop (((us.length : Nat) : Int) + 1).toNat = rs.map V.str := by
  rw [show (((us.length : Nat) : Int) + 1).toNat = us.length + 1 by lia, ← List.map_drop]
  congr 1
  rw [show us ++ w :: rs = (us ++ [w]) ++ rs by rw [List.append_assoc]; rfl, show us.length + 1 = (us ++ [w]).length by rw [List.length_append]; rfl, List.drop_left]
theorem zip_next (w : Txt) (rs : List Txt) (k : Nat) : ((w :: rs).map V.str).zipIdx k = (.str w, k) :: (rs.map V.str).zipIdx (k + 1) := by rw [List.map_cons, List.zipIdx_cons]
section
variable {T : Tab}
noncomputable def spApart : Spec := fun vs H Q _ => ∃ (n : Nat) (ws : List Txt), vs = [.ref n] ∧ n < H.length ∧ Ws H n ws ∧ ws.length ≤ 12 ∧ ∀ p H', Keep H H' → PP H' p (prs ws) → Q (.ref p) H'
inductive AptI2 (H : AHeap) (n c : Nat) (ws rs : List Txt) (w : Txt) (xs' : List Item) (σ : Sg) (H'' : AHeap) : Prop
  | mk : Keep H H'' → H''[c]? = some (.list (rs.map V.str)) → ∀ (zs : List Txt) (ps : List (Txt × Txt)), xs' = zs.map (fun u => .one (.str u)) → PP H'' H.length ps → ps ++ ((zs.filter (apt w)).map (fun u => (w, u)) ++ prs rs) = prs ws → σ (nm 27076163558) = some (.ref H.length) → σ (nm 31081674743) = some (.ref n) → σ (nm 1668975) = some (.str w) → AptI2 H n c ws rs w xs' σ H''
inductive AptI1 (H : AHeap) (n : Nat) (ws : List Txt) (xs : List Item) (σ : Sg) (H' : AHeap) : Prop
  | mk : Keep H H' → ∀ us rs ps, ws = us ++ rs → xs = ((rs.map V.str).zipIdx us.length).map (fun p => .many [.int p.2, p.1]) → PP H' H.length ps → ps ++ prs rs = prs ws → σ (nm 27076163558) = some (.ref H.length) → σ (nm 31081674743) = some (.ref n) → AptI1 H n ws xs σ H'
theorem ct_apart (h0 : T.calm) (h1 : Has T (nm 3463326495859) spShr) (h2 : Has T (nm 1815789) spMin) (h3 : Has T (nm 1815276) spLen) (h4 : HasM T .list (nm 3465715398753) spAppend) : Ct T x_apart b_apart spApart := by
  refine ct1 fun vs H Q X h => ?_
  obtain ⟨n, ws, rfl, hn, hw, hl, h⟩ := h
  have hpl : (prs ws).length ≤ 144 := Nat.le_trans (prs_len ws) (Nat.mul_le_mul hl hl)
  refine ⟨_, rfl, ?_⟩
  refine s_asg ?_
  walk_at "ev"
  refine ⟨Nat.zero_le _, ?_⟩
  have k0 : Keep H (H ++ [.list []]) := Keep.new _ _
  have g0 : PP (H ++ [.list []]) H.length [] := ⟨[], get_new, .nil⟩
  have hp0 : H.length ≠ 0 := Nat.ne_of_gt (Nat.lt_of_le_of_lt (Nat.zero_le _) hn)
  generalize H ++ [AObj.list []] = H1 at k0 g0
  refine r_for ?_
  walk_at "ev"
  refine ⟨n, _, rfl, hw.keep k0, ?_⟩
  refine for_invN (AptI1 H n ws) ?_ ?_
    ⟨k0, [], ws, [], rfl, rfl, g0, rfl, by walk_at "nm", by walk_at "nm"⟩
  · rintro x xs σ H' ⟨kp, us, rs, ps, e, ex, hP, hpe, s1, s2⟩
    cases rs with
    | nil => cases ex
    | cons w rs =>
    rw [zip_next] at ex
    obtain ⟨rfl, rfl⟩ := List.cons.inj ex
    refine ⟨hw.keep kp, (σ.set (nm 14945) (.int us.length)).set (nm 1668975) (.str w), rfl, fun W _ hW => ?_⟩
    refine r_for ?_
    walk_at "ev"
    refine b_lfrom (hw.keep kp) (Int.add_nonneg (Int.natCast_nonneg _) (by decide)) ?_
    rw [show (ws.map V.str).drop (((us.length : Nat) : Int) + 1).toNat = rs.map V.str from by rw [e]; exact drop_next us rs w]
    have k2 : Keep H' (H' ++ [.list (rs.map V.str)]) := Keep.new _ _
    have g2 : (H' ++ [AObj.list (rs.map V.str)])[H'.length]? = some (.list (rs.map V.str)) := get_new
    have hpl' : H.length < H'.length := by obtain ⟨_, e, _⟩ := hP.ex; exact lt_of_get e
    replace hP := hP.keep k2
    replace kp := kp.trans k2
    generalize H' ++ [AObj.list (rs.map V.str)] = H2 at k2 g2 hP kp
    generalize H'.length = c at g2 hpl'
    refine i_list g2 ?_
    refine for_invN (AptI2 H n c ws rs w) ?_ ?_
      ⟨kp, g2, rs, ps, List.map_map, hP, hpe, by walk_at "nm", by walk_at "nm", by walk_at "nm"⟩
    · clear kp hP g2 s1 s2 hW k2 hpe
      rintro x xs' σ H'' ⟨kp, g2, zs, ps, ex, hP, hpe, s1, s2, s3⟩
      cases zs with
      | nil => cases ex
      | cons u zs =>
      obtain ⟨rfl, rfl⟩ := List.cons.inj ex
      refine ⟨g2, _, rfl, fun W2 _ hW2 => ?_⟩
      refine s_ite ?_
      walk_at "ev"
      refine ⟨w, u, rfl, ?_⟩
      walk_at "ev"
      refine ⟨_, _, rfl, ?_⟩
      walk_at "ev"
      rw [decide_eq_decide.mpr min_iff]
      cases ha : apt w u with
      | true =>
        rw [List.filter_cons_of_pos ha] at hpe
        refine if_t ha ?_
        obtain ⟨ns, e1, e2⟩ := hP.ex
        refine s_exp (e_methN (by walk_at "nm") (kind_l e1) h4 (l1 ?_))
        walk_at "ev"
        refine ⟨Nat.le_of_ble_eq_true rfl, ?_⟩
        have hll : (ns.map V.ref).length < lid := by
          have := congrArg List.length hpe
          rw [List.length_append] at this
          rw [List.length_map, e2.length]
          exact Nat.lt_of_le_of_lt (Nat.le_trans (Nat.le_trans (Nat.le_add_right _ _) (Nat.le_of_eq this)) hpl) (by decide)
        refine s_append hp0 ((Keep.new _ _).get e1) hll ?_
        walk_at "ev"
        have hlt := lt_of_get e1
        refine hW2 _ _ ⟨(kp.trans (Keep.new _ _)).set (Nat.le_refl _), ?_, zs, ps ++ [(w, u)], rfl, ⟨ns ++ [H''.length], ?_, ?_⟩, ?_, by walk_at "nm", by walk_at "nm", by walk_at "nm"⟩
        · rw [List.getElem?_set_ne (Nat.ne_of_lt hpl')]; exact (Keep.new _ _).get g2
        · rw [List.getElem?_set_self (Nat.lt_of_lt_of_le hlt (Keep.new _ _).le), List.map_append]; rfl
        · exact (e2.mono fun a b z => ⟨z.1, by rw [List.getElem?_set_ne (Nat.ne_of_lt z.1)]; exact (Keep.new _ _).get z.2⟩).append (.cons ⟨hlt, by rw [List.getElem?_set_ne (Nat.ne_of_lt hlt)]; exact get_new⟩ .nil)
        · rw [List.append_assoc]; exact hpe
      | false =>
        rw [List.filter_cons_of_neg (by rw [ha]; decide)] at hpe
        refine if_f ha ?_
        walk_at "ev"
        exact hW2 _ _ ⟨kp, g2, zs, ps, rfl, hP, hpe, by walk_at "nm", by walk_at "nm", by walk_at "nm"⟩
    · rintro σ H'' ⟨kp, g2, zs, ps, ex, hP, hpe, s1, s2, s3⟩
      refine ⟨g2, ?_⟩
      cases zs with
      | cons _ _ => cases ex
      | nil =>
      walk_at "ev"
      exact hW _ _ ⟨kp, us ++ [w], rs, ps, by rw [e, List.append_assoc]; rfl, by rw [List.length_append]; rfl, hP, hpe, by walk_at "nm", by walk_at "nm"⟩
  · rintro σ H' ⟨kp, us, rs, ps, e, ex, hP, hpe, s1, s2⟩
    refine ⟨hw.keep kp, ?_⟩
    cases rs with
    | cons w rs => rw [zip_next] at ex; cases ex
    | nil =>
    refine r_ret ?_
    walk_at "ev"
    rw [show prs [] = [] from rfl, List.append_nil] at hpe
    subst hpe
    exact h _ _ kp hP
theorem pick_all {α β : Type} {P : α → β → Prop} : ∀ (ns : List α), (∀ n ∈ ns, ∃ e, P n e) → ∃ es, All2 P ns es
  | [], _ => ⟨[], .nil⟩
  | n :: ns, h => by
    obtain ⟨e, he⟩ := h n (.head _)
    obtain ⟨es, hes⟩ := pick_all ns fun m hm => h m (.tail _ hm)
    exact ⟨e :: es, .cons he hes⟩
structure BP (o : Nat) (ws : List Txt) (H : AHeap) (ns : List Nat) (es : List (Txt × Txt)) : Prop where
  at_ : H[o]? = some (.list (ns.map .ref))
  len : ns.length ≤ 144
  all : All2 (fun n (e : Txt × Txt) => Beg ws e.1 e.2 ∧ SF o H n e.1 e.2) ns es
  mem : ∀ w u, Beg ws w u → (w, u) ∈ es
theorem BgI.pairs {o : Nat} {ws : List Txt} {H : AHeap} (h : BgI o ws (fun _ _ => True) 144 H) : ∃ ns es, BP o ws H ns es := by
  obtain ⟨ns, h1, h2, h3, h4⟩ := h
  obtain ⟨es, he⟩ := pick_all (P := fun n (e : Txt × Txt) => Beg ws e.1 e.2 ∧ SF o H n e.1 e.2) ns fun n hn => by
    obtain ⟨w, u, a, b⟩ := h3 n hn; exact ⟨(w, u), a, b⟩
  refine ⟨ns, es, h1, h2, he, fun w u hb => ?_⟩
  obtain ⟨n, hn, hs⟩ := h4 w u trivial hb
  obtain ⟨e, hm, _, hs'⟩ := he.left n hn
  obtain ⟨rfl, rfl⟩ := hs.inj hs'
  exact hm
theorem cnd_iff {F : Tbl} {ws : List Txt} {es : List (Txt × Txt)} (h1 : ∀ e ∈ es, Beg ws e.1 e.2) (h2 : ∀ w u, Beg ws w u → (w, u) ∈ es) (c : Nat) :
    Cnd F ws c ↔ (∃ e ∈ prs ws, c = shr e.1 e.2) ∨ ∃ e ∈ es, c = e.2.length + (val F (e.1.drop e.2.length)).getD 0 := by
  refine ⟨fun ⟨w, hw, u, hu, e⟩ => ?_, fun h => ?_⟩
  · by_cases hne : w = u
    · unfold cnd at e; rw [if_pos hne] at e; cases e
    by_cases hb : w.take u.length = u
    · rw [cnd_beg hne hb] at e; cases e; exact .inr ⟨_, h2 w u ⟨hw, hu, hne, hb⟩, rfl⟩
    by_cases hb' : u.take w.length = w
    · unfold cnd at e; rw [if_neg hne, if_neg hb, if_pos hb'] at e; cases e
    · have ha := apt_iff.mpr ⟨hb, hb'⟩
      rw [cnd_apt ha] at e
      cases e
      refine .inl ?_
      rcases prs_all hw hu hne ha with z | z
      · exact ⟨_, z, rfl⟩
      · exact ⟨_, z, shr_comm _ _⟩
  · rcases h with ⟨e, he, rfl⟩ | ⟨e, he, rfl⟩
    · obtain ⟨a, b, c⟩ := prs_mem he; exact ⟨_, a, _, b, cnd_apt c⟩
    · obtain ⟨a, b, c, d⟩ := h1 e he; exact ⟨_, a, _, b, cnd_beg c d⟩
noncomputable def spWait : Spec := fun vs H Q _ => ∃ (n : Nat) (ws : List Txt), vs = [.ref n] ∧ n < H.length ∧ Ws H n ws ∧ Cd ws ∧ (∀ F (m : Nat) H', Wts ws → Tb ws F → IsW F ws m → Keep H H' → Q (.int m) H') ∧ (¬ Wts ws → ∀ H', Keep H H' → Q .none H')
inductive WaitI2 (H4 : AHeap) (c d : Nat) (ys : List Txt) (es : List (Txt × Txt)) (F : Tbl) (zs : List Item) (σ : Sg) (H' : AHeap) : Prop
  | mk : H' = H4 → ∀ (ds rs : List (Txt × Txt)) (ms : List Nat), es = ds ++ rs → zs = ms.map (fun m => .one (.ref m)) → All2 (fun n (e : Txt × Txt) => Beg ys e.1 e.2 ∧ SF c H4 n e.1 e.2) ms rs → (∀ e ∈ ds, Beg ys e.1 e.2 ∧ Stl ys (e.1.drop e.2.length)) → ∀ m : Nat, IsMx (fun c => (∃ e ∈ prs ys, c = shr e.1 e.2) ∨ ∃ e ∈ ds, c = e.2.length + (val F (e.1.drop e.2.length)).getD 0) m → σ (nm 245166818) = some (.int m) → σ (nm 27076163558) = some (.ref d) → WaitI2 H4 c d ys es F zs σ H'
inductive WaitI1 (H3 : AHeap) (o d p : Nat) (ys : List Txt) (zs : List Item) (σ : Sg) (H' : AHeap) : Prop
  | mk : H' = H3 → ∀ (ds rs : List (Txt × Txt)) (ms : List Nat), prs ys = ds ++ rs → zs = ms.map (fun m => .one (.ref m)) → All2 (fun n (e : Txt × Txt) => p < n ∧ H3[n]? = some (.tuple [.str e.1, .str e.2])) ms rs → ∀ m : Nat, IsMx (fun c => ∃ e ∈ ds, c = shr e.1 e.2) m → σ (nm 245166818) = some (.int m) → σ (nm 1817583) = some (.ref o) → σ (nm 27076163558) = some (.ref d) → WaitI1 H3 o d p ys zs σ H'
theorem ct_wait (h1 : Has T (nm 443303916565603) spChecked) (h2 : Has T (nm 443304220898035) spSettled) (h3 : Has T (nm 31379191905) spApart) (h4 : Has T (nm 3463326495859) spShr) (h5 : Has T (nm 1978605) spMax) (h6 : Has T (nm 29774967522) spBegun) (h7 : Has T (nm 1815276) spLen) : Ct T x_wait b_wait spWait := by
  refine ct1 fun vs H Q X h => ?_
  obtain ⟨n, ws, rfl, hn, hw, hc, hyes, hno⟩ := h
  refine ⟨_, rfl, ?_⟩
  refine s_asg ?_
  walk_at "ev"
  refine ⟨n, ws, rfl, hn, hw, hc, Nat.lt_of_le_of_lt (Nat.zero_le _) hn, fun ys o H1 hp _ hys k1 => ?_⟩
  have hm : ∀ w, w ∈ ys ↔ w ∈ ws := fun w => hp.mem_iff
  have hyw : ∀ w ∈ ys, Wd 10 w := fun w h => hc.wd w ((hm w).mp h)
  have hyl : ys.length ≤ 12 := by rw [hp.length_eq]; exact hc.le
  clear hp
  refine s_asg ?_
  walk_at "ev"
  refine ⟨o, ys, rfl, lt_of_get hys, hys, hyl, hyw, fun d H2 F _ k2 hF hT => ?_⟩
  replace k1 := k1.trans k2
  replace hys := hys.keep k2
  refine s_asg ?_
  walk_at "ev"
  refine r_for ?_
  walk_at "ev"
  refine ⟨o, ys, rfl, lt_of_get hys, hys, hyl, fun p H3 k3 hP => ?_⟩
  replace k1 := k1.trans k3
  replace hys := hys.keep k3
  replace hF := hF.keep k3
  obtain ⟨ns, e1, e2⟩ := hP.ex
  refine i_list e1 ?_
  refine for_invN (WaitI1 H3 o d p ys) ?_ ?_ ⟨rfl, [], prs ys, ns, rfl, List.map_map, e2, 0, .nil (fun _ ⟨_, h, _⟩ => nomatch h), hit, by walk_at "nm", by walk_at "nm"⟩
  · rintro x zs σ H' ⟨rfl, ds, rs, ms, e, ex, ha, m, hmx, s0, s1, s2⟩
    cases ha with
    | nil => cases ex
    | @cons a z ms rs ga ha =>
    obtain ⟨rfl, rfl⟩ := List.cons.inj ex
    refine ⟨e1, (σ.set (nm 1668975) (.str z.1)).set (nm 30815173231) (.str z.2), bind_tup ga.2 rfl, fun W _ hW => ?_⟩
    refine s_asg ?_
    walk_at "ev"
    refine ⟨z.1, z.2, rfl, ?_⟩
    refine ⟨_, _, rfl, ?_⟩
    rw [max_if]
    walk_at "ev"
    refine hW _ _ ⟨rfl, ds ++ [z], rs, ms, by rw [e, List.append_assoc]; rfl, rfl, ha, _, hmx.add fun x => ?_, hit, by walk_at "nm", by walk_at "nm"⟩
    exact ⟨fun ⟨y, hy, ey⟩ => (List.mem_append.mp hy).elim (fun hy => .inl ⟨y, hy, ey⟩) fun hy => .inr (by rw [List.mem_singleton.mp hy] at ey; exact ey),
      fun h => h.elim (fun ⟨y, hy, ey⟩ => ⟨y, List.mem_append_left _ hy, ey⟩) fun ey => ⟨z, List.mem_append_right _ (.head _), ey⟩⟩
  · rintro σ H' ⟨rfl, ds, rs, ms, e, ex, ha, m, hmx, s0, s1, s2⟩
    refine ⟨e1, ?_⟩
    cases ha with
    | cons _ _ => cases ex
    | nil =>
    rw [List.append_nil] at e
    subst e
    refine r_for ?_
    walk_at "ev"
    refine ⟨o, ys, rfl, lt_of_get hys, hys, hyl, fun c H4 _ k4 hBg => ?_⟩
    obtain ⟨ns', es, hB⟩ := hBg.pairs
    replace hF := hF.keep k4
    replace k1 := k1.trans k4
    have i1 := hB.at_
    refine i_list i1 ?_
    refine for_inv (WaitI2 H4 c d ys es F) ?_ ?_
      ⟨rfl, [], es, ns', rfl, List.map_map, hB.all, (fun _ h => nomatch h), m, hmx.iff fun x => ⟨fun h => h.elim id (fun ⟨_, h, _⟩ => nomatch h), .inl⟩, by walk_at "nm", by walk_at "nm"⟩
    · rintro x zs σ H' ⟨rfl, ds, rs, ms, e, ex, ha, hD, m, hmx, s0, s1⟩
      cases ha with
      | nil => cases ex
      | @cons i z ms rs gz ha =>
      obtain ⟨w, u⟩ := z
      obtain ⟨rfl, rfl⟩ := List.cons.inj ex
      obtain ⟨hb, a, b, _, _, _, t1, t2, t3⟩ := gz
      refine ⟨i1, (((σ.set (nm 3604769125100) (.int w.length)).set (nm 1668975) (.ref a)).set (nm 30815173231) (.ref b)).set (nm 245166834) (.str (w.drop u.length)), bind_tup t1 rfl, fun W hW => ?_⟩
      have hR : Rch ys (w.drop u.length) := .beg hb
      refine s_ite ?_
      walk_at "ev"
      refine hF.nin ?_
      cases hin : val F (w.drop u.length) with
      | none =>
        refine if_t rfl ?_
        walk_at "ev"
        refine hno (fun hW => ?_) _ k1
        have := (hT.stl _ hR).mpr (hW.mem (fun w => (hm w).symm) w u hb)
        rw [hin] at this; cases this
      | some v =>
        refine if_f rfl ?_
        walk_at "ev"
        refine any0 t3 ?_
        walk_at "ev"
        refine hF.get hin ?_
        walk_at "ev"
        refine ⟨_, _, rfl, ?_⟩
        rw [← Int.natCast_add, max_if]
        walk_at "ev"
        refine hW _ _ ⟨rfl, ds ++ [(w, u)], rs, ms, by rw [e, List.append_assoc]; rfl, rfl, ha, (fun y hy => ?_), _, hmx.add fun x => ?_, hit, by walk_at "nm"⟩
        · rcases List.mem_append.mp hy with hy | hy
          · exact hD y hy
          · rw [List.mem_singleton.mp hy]; exact ⟨hb, (hT.stl _ hR).mp (by rw [hin]; rfl)⟩
        · refine ⟨fun h => ?_, fun h => ?_⟩
          · rcases h with h | ⟨y, hy, ey⟩
            · exact .inl (.inl h)
            · rcases List.mem_append.mp hy with hy | hy
              · exact .inl (.inr ⟨y, hy, ey⟩)
              · rw [List.mem_singleton.mp hy, hin] at ey; exact .inr ey
          · rcases h with (h | ⟨y, hy, ey⟩) | ey
            · exact .inl h
            · exact .inr ⟨y, List.mem_append_left _ hy, ey⟩
            · exact .inr ⟨(w, u), List.mem_append_right _ (.head _), by rw [hin]; exact ey⟩
    · rintro σ H' ⟨rfl, ds, rs, ms, e, ex, ha, hD, m, hmx, s0, s1⟩
      refine ⟨i1, ?_⟩
      cases ha with
      | cons _ _ => cases ex
      | nil =>
      rw [List.append_nil] at e
      subst e
      refine r_ret ?_
      walk_at "ev"
      refine hyes F m _ (Wts.mem hm fun w u hb => (hD _ (hB.mem w u hb)).2) (hT.mem hm) ?_ k1
      exact hmx.iff fun x => (Cnd.mem hm x).trans (cnd_iff (fun e he => (hD e he).1) hB.mem x)
end
noncomputable def x_shown : List Str := [(nm 245166834), (nm 31081674743), (nm 27076163558)]
noncomputable def b_shown : PS := (.seq (.for_ (.name (nm 211597303)) (.itVal (.name (nm 31081674743))) (.seq (.assign (.name (nm 236550771)) (.call (.glob (nm 443305286007411)) (.cons (.name (nm 245166834)) (.cons (.name (nm 211597303)) .nil)))) (.seq (.ite (.cmp1 .Is (.name (nm 236550771)) .none) (.seq (.ite (.cmp1 .Eq (.call (.glob (nm 3463326495859)) (.cons (.name (nm 245166834)) (.cons (.name (nm 211597303)) .nil))) (.sub (.name (nm 27076163558)) (.name (nm 245166834)))) (.seq (.ret (.tuple (.cons (.list .nil) (.cons (.list (.cons (.name (nm 211597303)) .nil)) .nil)))) .skip) .skip) .skip) (.seq (.ite (.and (.sub (.name (nm 236550771)) (.int 1)) (.cmp1 .Eq (.bin .Add (.call (.glob (nm 1815276)) (.cons (.name (nm 245166834)) .nil)) (.sub (.name (nm 27076163558)) (.sub (.name (nm 236550771)) (.int 0)))) (.sub (.name (nm 27076163558)) (.name (nm 245166834))))) (.seq (.assign (.tup [(nm 3465723654882), (nm 30815173231)]) (.call (.glob (nm 29779293299)) (.cons (.sub (.name (nm 236550771)) (.int 0)) (.cons (.name (nm 31081674743)) (.cons (.name (nm 27076163558)) .nil))))) (.seq (.ret (.tuple (.cons (.name (nm 30815173231)) (.cons (.bin .Add (.list (.cons (.name (nm 211597303)) .nil)) (.name (nm 3465723654882))) .nil)))) .skip)) (.seq (.ite (.and (.not (.sub (.name (nm 236550771)) (.int 1))) (.cmp1 .Eq (.bin .Add (.call (.glob (nm 1815276)) (.cons (.name (nm 211597303)) .nil)) (.sub (.name (nm 27076163558)) (.sub (.name (nm 236550771)) (.int 0)))) (.sub (.name (nm 27076163558)) (.name (nm 245166834))))) (.seq (.assign (.tup [(nm 3465723654882), (nm 30815173231)]) (.call (.glob (nm 29779293299)) (.cons (.sub (.name (nm 236550771)) (.int 0)) (.cons (.name (nm 31081674743)) (.cons (.name (nm 27076163558)) .nil))))) (.seq (.ret (.tuple (.cons (.name (nm 3465723654882)) (.cons (.bin .Add (.list (.cons (.name (nm 211597303)) .nil)) (.name (nm 30815173231))) .nil)))) .skip)) .skip) .skip)) .skip)) .skip))) (.seq (.ret (.tuple (.cons (.list .nil) (.cons (.list .nil) .nil)))) .skip))
noncomputable def x_late : List Str := [(nm 31081674743)]
noncomputable def b_late_9 : PS := (.seq (.ret (.tuple (.cons (.bin .Add (.name (nm 1668975)) (.name (nm 3465723654882))) (.cons (.bin .Add (.name (nm 30815173231)) (.name (nm 504875798280934))) .nil)))) .skip)
noncomputable def b_late_8 : PS := (.seq (.assign (.tup [(nm 3465723654882), (nm 504875798280934)]) (.call (.glob (nm 29779293299)) (.cons (.name (nm 245166834)) (.cons (.name (nm 1817583)) (.cons (.name (nm 27076163558)) .nil))))) b_late_9)
noncomputable def b_late_7 : PS := (.seq (.assign (.tup [(nm 3604769125100), (nm 1668975), (nm 30815173231), (nm 245166834)]) (.sub (.name (nm 213612531)) (.int 0))) b_late_8)
noncomputable def b_late_6 : PS := (.seq (.assign (.name (nm 213612531)) (.comp1 (.name (nm 27356854899)) (.name (nm 27356854899)) (.itVal (.call (.glob (nm 29774967522)) (.cons (.name (nm 1817583)) .nil))) (.cmp1 .Eq (.bin .Add (.call (.glob (nm 1815276)) (.cons (.sub (.sub (.name (nm 27356854899)) (.int 2)) (.int 0)) .nil)) (.sub (.name (nm 27076163558)) (.sub (.name (nm 27356854899)) (.int 3)))) (.name (nm 245168109))))) b_late_7)
noncomputable def b_late_l1 : PS := (.seq (.ite (.cmp1 .Eq (.call (.glob (nm 3463326495859)) (.cons (.name (nm 1668975)) (.cons (.name (nm 30815173231)) .nil))) (.name (nm 245168109))) (.seq (.ret (.tuple (.cons (.list (.cons (.name (nm 1668975)) .nil)) (.cons (.list (.cons (.name (nm 30815173231)) .nil)) .nil)))) .skip) .skip) .skip)
noncomputable def b_late_5 : PS := (.seq (.for_ (.tup [(nm 1668975), (nm 30815173231)]) (.itVal (.call (.glob (nm 31379191905)) (.cons (.name (nm 1817583)) .nil))) b_late_l1) b_late_6)
noncomputable def b_late_4 : PS := (.seq (.assign (.name (nm 27076163558)) (.call (.glob (nm 443304220898035)) (.cons (.name (nm 1817583)) .nil))) b_late_5)
noncomputable def b_late_3 : PS := (.seq (.ite (.cmp1 .Is (.name (nm 245168109)) .none) (.seq (.raise (nm 4014120237006) (.str ⟨#[97, 32, 99, 111, 100, 101, 32, 119, 105, 116, 104, 111, 117, 116, 32, 97, 32, 119, 97, 105, 116]⟩)) .skip) .skip) b_late_4)
noncomputable def b_late_2 : PS := (.seq (.assign (.name (nm 245168109)) (.call (.glob (nm 245002487)) (.cons (.name (nm 1817583)) .nil))) b_late_3)
noncomputable def b_late_1 : PS := (.seq (.ite (.cmp1 .Lt (.call (.glob (nm 1815276)) (.cons (.name (nm 1817583)) .nil)) (.int 2)) (.seq (.ret .none) .skip) .skip) b_late_2)
noncomputable def b_late : PS := (.seq (.assign (.name (nm 1817583)) (.call (.glob (nm 443303916565603)) (.cons (.name (nm 31081674743)) .nil))) b_late_1)
theorem new_ob (H : AHeap) (o : AObj) : ∃ H', H ++ [o] = H' ∧ Keep H H' ∧ H'[H.length]? = some o := ⟨_, rfl, Keep.new _ _, get_new⟩
theorem shr_app : ∀ (c x y : Txt), shr (c ++ x) (c ++ y) = c.length + shr x y
  | [], _, _ => (Nat.zero_add _).symm
  | a :: c, x, y => by
    rw [List.cons_append, List.cons_append, shr, if_pos rfl, shr_app c x y, List.length_cons]; lia
theorem shr_nil (t : Txt) : shr t [] = 0 := by unfold shr; split <;> rename_i h <;> first | cases h | rfl
section
variable {T : Tab} {σ : Sg} {H : AHeap} {P : SPost} {X : XPost}
noncomputable def UN (T : Tab) (σ : Sg) (xs : List Str) (r : PS) (P : SPost) (X : XPost) : VPost := fun v H1 => match bindA (.tup xs) (.one v) H1 σ with
  | some σ' => semS T r σ' H1 P X
  | Option.none => False
theorem r_un {xs : List Str} {e : PE} {r : PS} (k : (sem T e).ev σ H (UN T σ xs r P X) X) : semS T (.seq (.assign (.tup xs) e) r) σ H P X := by
  show (sem T e).ev σ H (fun v H1 => match bindA (.tup xs) (.one v) H1 σ with | some σ' => semS T r σ' H1 P X | Option.none => False) X
  exact k
theorem un2 {x y : Str} {r : PS} {p : Nat} {u v : V} (h : H[p]? = some (.tuple [u, v])) (k : semS T r ((σ.set x u).set y v) H P X) : UN T σ [x, y] r P X (.ref p) H := by
  unfold UN; rw [bind_tup h rfl]; exact k
theorem un4 {x y z t : Str} {r : PS} {p : Nat} {u v w s : V} (h : H[p]? = some (.tuple [u, v, w, s])) (k : semS T r ((((σ.set x u).set y v).set z w).set t s) H P X) : UN T σ [x, y, z, t] r P X (.ref p) H := by
  unfold UN; rw [bind_tup h rfl]; exact k
end
abbrev Hok (ws : List Txt) (F : Tbl) : Prop := ∀ r n, val F r = some n → Sd F ws r ∧ n = hgt (val F) ws r
structure RW (ws : List Txt) (n : Nat) (p : List Txt) : Prop where
  mem : ∀ x ∈ p, x ∈ ws
  len : p.length ≤ n
theorem RW.nil {ws : List Txt} {n : Nat} : RW ws n [] := ⟨(fun _ h => nomatch h), Nat.zero_le _⟩
theorem RW.cons {ws p : List Txt} {n : Nat} {w : Txt} (h : w ∈ ws) (k : RW ws n p) : RW ws (n + 1) (w :: p) := ⟨List.forall_mem_cons.mpr ⟨h, k.mem⟩, Nat.succ_le_succ k.len⟩
theorem RW.up {ws p : List Txt} {n : Nat} (k : RW ws n p) : RW ws (n + 1) p := ⟨k.mem, Nat.le_succ_of_le k.len⟩
section
variable {T : Tab}
noncomputable def spShown (n : Nat) : Spec := fun vs H Q _ => n ≠ 0 ∧ ∃ (r : Txt) (o d v : Nat) (ws : List Txt) (F : Tbl), vs = [.str r, .ref o, .ref d] ∧ Ws H o ws ∧ DH H d F ∧ Hok ws F ∧ StN ws n r ∧ val F r = some v ∧ n ≤ 200 ∧
  ∀ t a b p q H', Keep H H' → H'[t]? = some (.tuple [.ref a, .ref b]) → Ws H' a p → Ws H' b q → RW ws n p → RW ws n q → shr (r ++ p.flatten) q.flatten = v → Q (.ref t) H'
inductive ShnI (H : AHeap) (o d v : Nat) (r : Txt) (ws : List Txt) (F : Tbl) (xs : List Item) (σ : Sg) (H' : AHeap) : Prop
  | mk : Keep H H' → ∀ us rs, ws = us ++ rs → xs = rs.map (fun w => .one (.str w)) → (∀ w ∈ us, one (val F) r w ≠ v) → σ (nm 245166834) = some (.str r) → σ (nm 31081674743) = some (.ref o) → σ (nm 27076163558) = some (.ref d) → ShnI H o d v r ws F xs σ H'
theorem ct_shown {n : Nat} (h0 : Has T (nm 29779293299) (spShown n)) (h1 : Has T (nm 443305286007411) spStepped) (h2 : Has T (nm 3463326495859) spShr) (h3 : Has T (nm 1815276) spLen) : Ct T x_shown b_shown (spShown (n + 1)) := by
  refine ct3 fun vs H Q X h => ?_
  obtain ⟨_, r, o, d, v, ws, F, rfl, hw, hF, hV, hS, hv, hn, h⟩ := h
  refine ⟨_, _, _, rfl, ?_⟩
  refine r_for ?_
  walk_at "ev"
  refine i_list hw ?_
  obtain ⟨hSd, hvh⟩ := hV r v hv
  refine for_inv (ShnI H o d v r ws F) ?_ ?_ ⟨Keep.refl _, [], ws, rfl, List.map_map, (fun _ h => nomatch h), by walk_at "nm", by walk_at "nm", by walk_at "nm"⟩
  · rintro x xs σ H' ⟨kp, us, rs, e, ex, hne, s1, s2, s3⟩
    cases rs with
    | nil => cases ex
    | cons w rs =>
    obtain ⟨rfl, rfl⟩ := List.cons.inj ex
    have hwm : w ∈ ws := by rw [e]; exact List.mem_append_right _ (.head _)
    refine ⟨kp.get hw, _, rfl, fun W hW => ?_⟩
    have next : ∀ σ' H2, Keep H' H2 → one (val F) r w ≠ v → σ' (nm 245166834) = some (.str r) → σ' (nm 31081674743) = some (.ref o) → σ' (nm 27076163558) = some (.ref d) → W σ' H2 := fun σ' H2 k2 e0 e1 e2 e3 => hW _ _ ⟨kp.trans k2, us ++ [w], rs, by rw [e, List.append_assoc]; rfl, rfl, (fun x hx => (List.mem_append.mp hx).elim (hne x) fun hx => by rw [List.mem_singleton.mp hx]; exact e0), e1, e2, e3⟩
    refine s_asg ?_
    walk_at "ev"
    refine ⟨r, w, rfl, ?_⟩
    unfold StepQ
    cases hst : stp r w with
    | none =>
      have e1 : one (val F) r w = shr r w := by unfold one; rw [hst]
      rw [e1] at next
      dsimp only
      refine s_ite ?_
      walk_at "ev"
      refine if_t rfl ?_
      refine s_ite ?_
      walk_at "ev"
      refine ⟨r, w, rfl, ?_⟩
      walk_at "ev"
      refine (hF.keep kp).get hv ?_
      walk_at "ev"
      refine if_dec (fun he => ?_) fun he => ?_
      · refine r_ret ?_
        walk_at "ev"
        refine ⟨Nat.zero_le _, ?_⟩
        obtain ⟨H1, q1, k1, g1⟩ := new_ob H' (.list [])
        rw [q1]
        walk_at "ev"
        refine ⟨Nat.le_of_ble_eq_true rfl, ?_⟩
        obtain ⟨H2, q2, k2, g2⟩ := new_ob H1 (.list [.str w])
        rw [q2]
        refine ⟨Nat.le_of_ble_eq_true rfl, ?_⟩
        refine h _ _ _ [] [w] _ (kp.trans (k1.trans (k2.trans (Keep.new _ _)))) get_new ((Keep.new _ _).get (k2.get g1)) ((Keep.new _ _).get g2) .nil (.cons hwm .nil) ?_
        rw [List.flatten_nil, List.append_nil, flat_one1]
        exact Int.ofNat_inj.mp he
      · walk_at "ev"
        exact next _ _ (Keep.refl _) (fun z => he (Int.ofNat_inj.mpr z)) (by walk_at "nm") (by walk_at "nm") (by walk_at "nm")
    | some z =>
      obtain ⟨r', t⟩ := z
      obtain ⟨m, hm⟩ := Option.isSome_iff_exists.mp (hSd w hwm r' t hst)
      have e1 : one (val F) r w = (if t then r.length else w.length) + m := by unfold one; rw [hst]; dsimp only; rw [hm]; rfl
      rw [e1] at next
      dsimp only
      have k1 : Keep H' (H' ++ [.tuple [.str r', .bool t]]) := Keep.new _ _
      have g1 : (H' ++ [AObj.tuple [V.str r', V.bool t]])[H'.length]? = some (.tuple [.str r', .bool t]) := get_new
      generalize H' ++ [AObj.tuple [V.str r', V.bool t]] = H1 at k1 g1
      have hf := hF.keep (kp.trans k1)
      have hS' := hS w hwm r' t hst
      have call : ∀ {Q' : VPost} {X' : XPost}, (∀ t a b p q H2, Keep H1 H2 → H2[t]? = some (.tuple [.ref a, .ref b]) → Ws H2 a p → Ws H2 b q → RW ws n p → RW ws n q → shr (r' ++ p.flatten) q.flatten = m → Q' (.ref t) H2) → spShown n [.str r', .ref o, .ref d] H1 Q' X' := fun hq => ⟨fun z => by rw [z] at hS'; exact hS', r', o, d, m, ws, F, rfl, hw.keep (kp.trans k1), hf, hV, hS', hm, Nat.le_of_succ_le hn, hq⟩
      refine s_ite ?_
      walk_at "ev"
      refine if_f rfl ?_
      refine s_ite ?_
      walk_at "ev"
      refine b_att (k := 1) g1 rfl ?_
      cases t with
      | true =>
        walk_at "ev"
        refine b_att (k := 0) g1 rfl ?_
        refine hf.get hm ?_
        walk_at "ev"
        refine hf.get hv ?_
        walk_at "ev"
        rw [← Int.natCast_add]
        refine if_dec (fun he => ?_) fun he => ?_
        · refine r_un ?_
          walk_at "ev"
          refine b_att (k := 0) g1 rfl ?_
          walk_at "ev"
          refine call fun t2 a b p q H2 k2 ht ha hb hp hq hs => un2 ht ?_
          refine r_ret ?_
          walk_at "ev"
          refine ⟨Nat.le_of_ble_eq_true rfl, ?_⟩
          obtain ⟨H3, q3, k3, g3⟩ := new_ob H2 (.list [.str w])
          rw [q3]
          refine b_lcat g3 (k3.get ha) (by rw [List.length_map]; have := hp.len; unfold lid; show 1 + p.length ≤ _; lia) ?_
          obtain ⟨H4, q4, k4, g4⟩ := new_ob H3 (.list ([.str w] ++ p.map .str))
          rw [q4]
          refine ⟨Nat.le_of_ble_eq_true rfl, ?_⟩
          refine h _ _ _ q (w :: p) _ ((kp.trans k1).trans (k2.trans (k3.trans (k4.trans (Keep.new _ _))))) get_new ((Keep.new _ _).get (k4.get (k3.get hb))) ((Keep.new _ _).get g4) hq.up (.cons hwm hp) ?_
          have hwr : w.take r.length = r ∧ r' = w.drop r.length := by
            unfold stp at hst
            split at hst
            · cases hst
            · split at hst
              · cases hst; exact ⟨‹_›, rfl⟩
              · cases hst
          rw [List.flatten_cons, app_of_take hwr.1, ← hwr.2, List.append_assoc, shr_app, shr_comm, hs]
          exact Int.ofNat_inj.mp he
        · walk_at "ev"
          refine b_att (k := 1) g1 rfl ?_
          refine tru_bool ?_
          refine if_f rfl ?_
          walk_at "ev"
          exact next _ _ k1 (fun z => he (by rw [← z]; rfl)) (by walk_at "nm") (by walk_at "nm") (by walk_at "nm")
      | false =>
        walk_at "ev"
        refine b_att (k := 1) g1 rfl ?_
        refine tru_bool ?_
        refine if_t rfl ?_
        walk_at "ev"
        refine b_att (k := 0) g1 rfl ?_
        refine hf.get hm ?_
        walk_at "ev"
        refine hf.get hv ?_
        walk_at "ev"
        rw [← Int.natCast_add]
        refine if_dec (fun he => ?_) fun he => ?_
        · refine r_un ?_
          walk_at "ev"
          refine b_att (k := 0) g1 rfl ?_
          walk_at "ev"
          refine call fun t2 a b p q H2 k2 ht ha hb hp hq hs => un2 ht ?_
          refine r_ret ?_
          walk_at "ev"
          refine ⟨Nat.le_of_ble_eq_true rfl, ?_⟩
          obtain ⟨H3, q3, k3, g3⟩ := new_ob H2 (.list [.str w])
          rw [q3]
          refine b_lcat g3 (k3.get hb) (by rw [List.length_map]; have := hq.len; unfold lid; show 1 + q.length ≤ _; lia) ?_
          obtain ⟨H4, q4, k4, g4⟩ := new_ob H3 (.list ([.str w] ++ q.map .str))
          rw [q4]
          refine ⟨Nat.le_of_ble_eq_true rfl, ?_⟩
          refine h _ _ _ p (w :: q) _ ((kp.trans k1).trans (k2.trans (k3.trans (k4.trans (Keep.new _ _))))) get_new ((Keep.new _ _).get (k4.get (k3.get ha))) ((Keep.new _ _).get g4) hp.up (.cons hwm hq) ?_
          have hwr : r.take w.length = w ∧ r' = r.drop w.length := by
            unfold stp at hst
            split at hst
            · cases hst; exact ⟨‹_›, rfl⟩
            · split at hst <;> cases hst
          rw [List.flatten_cons, app_of_take hwr.1, ← hwr.2, List.append_assoc, shr_app, hs]
          exact Int.ofNat_inj.mp he
        · walk_at "ev"
          exact next _ _ k1 (fun z => he (by rw [← z]; rfl)) (by walk_at "nm") (by walk_at "nm") (by walk_at "nm")
  · rintro σ H' ⟨kp, us, rs, e, ex, hne, s1, s2, s3⟩
    refine ⟨kp.get hw, ?_⟩
    cases rs with
    | cons _ _ => cases ex
    | nil =>
    rw [List.append_nil] at e
    subst e
    have hv0 : v = 0 := by
      rcases mx_at (f := one (val F) r) ws with z | ⟨w, hw, z⟩
      · rw [hvh]; exact z
      · exact absurd (z.trans hvh.symm) (hne w hw)
    refine r_ret ?_
    walk_at "ev"
    refine ⟨Nat.zero_le _, ?_⟩
    obtain ⟨H1, q1, k1, g1⟩ := new_ob H' (.list [])
    rw [q1]
    walk_at "ev"
    refine ⟨Nat.zero_le _, ?_⟩
    obtain ⟨H2, q2, k2, g2⟩ := new_ob H1 (.list [])
    rw [q2]
    refine ⟨Nat.le_of_ble_eq_true rfl, ?_⟩
    exact h _ _ _ [] [] _ (kp.trans (k1.trans (k2.trans (Keep.new _ _)))) get_new ((Keep.new _ _).get (k2.get g1)) ((Keep.new _ _).get g2) .nil .nil (by rw [hv0, List.flatten_nil, shr_nil])
inductive Lt (H H' : AHeap) (ws : List Txt) (m t : Nat) : Prop
  | mk (a b : Nat) (w u : Txt) (p q : List Txt) : H'[t]? = some (.tuple [.ref a, .ref b]) → H.length ≤ a → Ws H' a (w :: p) → Ws H' b (u :: q) → RW ws 200 (w :: p) → RW ws 200 (u :: q) → w ≠ u → shr (w :: p).flatten (u :: q).flatten = m → Lt H H' ws m t
noncomputable def spLate : Spec := fun vs H Q X => ∃ (n : Nat) (ws : List Txt), vs = [.ref n] ∧ n < H.length ∧ Ws H n ws ∧ Cd ws ∧ (ws.length < 2 → ∀ H', Keep H H' → Q .none H') ∧
  (2 ≤ ws.length → ¬ Wts ws → ∀ H', Keep H H' → X (nm 4014120237006) H') ∧ (2 ≤ ws.length → Wts ws → ∀ F m t H', Tb ws F → IsW F ws m → Keep H H' → Lt H H' ws m t → Q (.ref t) H')
theorem some_cnd {F : Tbl} {ws : List Txt} (h2 : 2 ≤ ws.length) (hn : ws.Nodup) : ∃ c, Cnd F ws c := by
  match ws, h2, hn with
  | w :: u :: r, _, hn =>
    have hne : w ≠ u := fun e => (List.nodup_cons.mp hn).1 (by rw [e]; exact .head _)
    by_cases h1 : w.take u.length = u
    · exact ⟨_, w, .head _, u, .tail _ (.head _), cnd_beg hne h1⟩
    · by_cases h2 : u.take w.length = w
      · exact ⟨_, u, .tail _ (.head _), w, .head _, cnd_beg hne.symm h2⟩
      · exact ⟨_, w, .head _, u, .tail _ (.head _), cnd_apt (apt_iff.mpr ⟨h1, h2⟩)⟩
theorem IsMx.att {S : Nat → Prop} {m : Nat} (h : IsMx S m) (k : ∃ c, S c) : S m := by
  rcases h.1 with e | e
  · obtain ⟨c, hc⟩ := k
    have := h.2 c hc
    rw [e] at this ⊢
    rwa [Nat.le_zero.mp this] at hc
  · exact e
inductive LateI2 (H5 : AHeap) (c m : Nat) (ys : List Txt) (es : List (Txt × Txt)) (G : Tbl) (xs : List Item) (acc : List V) (H' : AHeap) : Prop
  | mk : H' = H5 → ∀ (ds rs : List (Txt × Txt)) (ms : List Nat), es = ds ++ rs → xs = ms.map (fun m => .one (.ref m)) → All2 (fun n (e : Txt × Txt) => Beg ys e.1 e.2 ∧ SF c H5 n e.1 e.2) ms rs → (∀ x ∈ acc, ∃ i w u, x = .ref i ∧ Beg ys w u ∧ SF c H5 i w u ∧ u.length + (val G (w.drop u.length)).getD 0 = m) → (acc = [] → ∀ e ∈ ds, e.2.length + (val G (e.1.drop e.2.length)).getD 0 ≠ m) → LateI2 H5 c m ys es G xs acc H'
inductive LateI1 (H4 : AHeap) (o d p m : Nat) (ys : List Txt) (zs : List Item) (σ : Sg) (H' : AHeap) : Prop
  | mk : H' = H4 → ∀ (ds rs : List (Txt × Txt)) (ms : List Nat), prs ys = ds ++ rs → zs = ms.map (fun m => .one (.ref m)) → All2 (fun n (e : Txt × Txt) => p < n ∧ H4[n]? = some (.tuple [.str e.1, .str e.2])) ms rs → (∀ e ∈ ds, shr e.1 e.2 ≠ m) → σ (nm 1817583) = some (.ref o) → σ (nm 27076163558) = some (.ref d) → σ (nm 245168109) = some (.int m) → LateI1 H4 o d p m ys zs σ H'
theorem ct_late (h0 : Has T (nm 29779293299) (spShown 132)) (h1 : Has T (nm 443303916565603) spChecked) (h2 : Has T (nm 443304220898035) spSettled) (h3 : Has T (nm 31379191905) spApart) (h4 : Has T (nm 3463326495859) spShr) (h5 : Has T (nm 245002487) spWait) (h6 : Has T (nm 29774967522) spBegun) (h7 : Has T (nm 1815276) spLen) (h8 : T.cls (nm 4014120237006) = true) : Ct T x_late b_late spLate := by
  refine ct1 fun vs H Q X h => ?_
  obtain ⟨n, ws, rfl, hn, hw, hc, hfew, hno, hyes⟩ := h
  refine ⟨_, rfl, ?_⟩
  refine s_asg ?_
  walk_at "ev"
  refine ⟨n, ws, rfl, hn, hw, hc, Nat.lt_of_le_of_lt (Nat.zero_le _) hn, fun ys o H1 hp _ hys k1 => ?_⟩
  have hm : ∀ w, w ∈ ys ↔ w ∈ ws := fun w => hp.mem_iff
  have hcy : Cd ys := ⟨by rw [hp.length_eq]; exact hc.le, fun w h => hc.wd w ((hm w).mp h), hp.nodup_iff.mpr hc.nd⟩
  have hll : ys.length = ws.length := hp.length_eq
  clear hp
  refine s_ite ?_
  walk_at "ev"
  refine s_lenl hys ?_
  walk_at "ev"
  rw [List.length_map]
  refine if_dec (fun hlt => ?_) fun hge => ?_
  · refine r_ret ?_
    walk_at "ev"
    exact hfew (by lia) _ k1
  have h2w : 2 ≤ ws.length := by lia
  replace hno := hno h2w
  replace hyes := hyes h2w
  walk_at "ev"
  refine s_asg ?_
  walk_at "ev"
  refine ⟨o, ys, rfl, lt_of_get hys, hys, hcy, fun F m H2 hW hT hmx k2 => ?_, fun hW H2 k2 => ?_⟩
  case refine_2 =>
    refine s_ite ?_
    walk_at "ev"
    refine if_t rfl ?_
    refine r_raise h8 ?_
    walk_at "ev"
    exact hno (fun z => hW (z.mem fun w => (hm w).symm)) _ (k1.trans k2)
  refine s_ite ?_
  walk_at "ev"
  refine if_f rfl ?_
  walk_at "ev"
  replace k1 := k1.trans k2
  replace hys := hys.keep k2
  refine s_asg ?_
  walk_at "ev"
  refine ⟨o, ys, rfl, lt_of_get hys, hys, hcy.le, hcy.wd, fun d H3 G _ k3 hG hTG => ?_⟩
  replace hyes := fun t H' => hyes (hW.mem hm) F m t H' (hT.mem hm) (hmx.iff (Cnd.mem hm))
  replace hmx : IsW G ys m := hmx.iff fun x => ⟨Cnd.same hTG hT x, Cnd.same hT hTG x⟩
  clear hT
  replace k1 := k1.trans k3
  replace hys := hys.keep k3
  refine r_for ?_
  walk_at "ev"
  refine ⟨o, ys, rfl, lt_of_get hys, hys, hcy.le, fun p H4 k4 hP => ?_⟩
  replace k1 := k1.trans k4
  replace hys := hys.keep k4
  replace hG := hG.keep k4
  obtain ⟨ns, e1, e2⟩ := hP.ex
  refine i_list e1 ?_
  refine for_inv (LateI1 H4 o d p m ys) ?_ ?_ ⟨rfl, [], prs ys, ns, rfl, List.map_map, e2, (fun _ h => nomatch h), by walk_at "nm", by walk_at "nm", by walk_at "nm"⟩
  · rintro x zs σ H' ⟨rfl, ds, rs, ms, e, ex, ha, hD, s1, s2, s3⟩
    cases ha with
    | nil => cases ex
    | @cons a z ms rs ga ha =>
    obtain ⟨w, u⟩ := z
    obtain ⟨rfl, rfl⟩ := List.cons.inj ex
    refine ⟨e1, (σ.set (nm 1668975) (.str w)).set (nm 30815173231) (.str u), bind_tup ga.2 rfl, fun W hW => ?_⟩
    refine s_ite ?_
    walk_at "ev"
    refine ⟨w, u, rfl, ?_⟩
    walk_at "ev"
    refine if_dec (fun he => ?_) fun he => ?_
    · obtain ⟨pw, pu, pa⟩ := prs_mem (e := (w, u)) (by rw [e]; exact List.mem_append_right _ (.head _))
      refine r_ret ?_
      walk_at "ev"
      refine ⟨Nat.le_of_ble_eq_true rfl, ?_⟩
      obtain ⟨H5, q5, k5, g5⟩ := new_ob H' (.list [.str w])
      rw [q5]
      walk_at "ev"
      refine ⟨Nat.le_of_ble_eq_true rfl, ?_⟩
      obtain ⟨H6, q6, k6, g6⟩ := new_ob H5 (.list [.str u])
      rw [q6]
      refine ⟨Nat.le_of_ble_eq_true rfl, ?_⟩
      refine hyes _ _ (k1.trans (k5.trans (k6.trans (Keep.new _ _)))) ⟨_, _, w, u, [], [], get_new, k1.le, (Keep.new _ _).get (k6.get g5), (Keep.new _ _).get g6, .cons ((hm w).mp pw) (.nil (n := 199)), .cons ((hm u).mp pu) (.nil (n := 199)), apt_ne pa, ?_⟩
      rw [flat_one1, flat_one1]
      exact Int.ofNat_inj.mp he
    · walk_at "ev"
      refine hW _ _ ⟨rfl, ds ++ [(w, u)], rs, ms, by rw [e, List.append_assoc]; rfl, rfl, ha, (fun y hy => ?_), by walk_at "nm", by walk_at "nm", by walk_at "nm"⟩
      rcases List.mem_append.mp hy with hy | hy
      · exact hD y hy
      · rw [List.mem_singleton.mp hy]; exact fun z => he (Int.ofNat_inj.mpr z)
  rintro σ H' ⟨rfl, ds, rs, ms, e, ex, ha, hD, s1, s2, s3⟩
  refine ⟨e1, ?_⟩
  cases ha with
  | cons _ _ => cases ex
  | nil =>
  rw [List.append_nil] at e
  subst e
  refine s_asg ?_
  walk_at "ev"
  refine ⟨o, ys, rfl, lt_of_get hys, hys, hcy.le, fun c H5 _ k5 hBg => ?_⟩
  obtain ⟨ns', es, hB⟩ := hBg.pairs
  replace hG := hG.keep k5
  replace k1 := k1.trans k5
  replace hys := hys.keep k5
  have i1 := hB.at_
  refine i_list i1 ⟨by rw [List.length_map, List.length_map]; exact Nat.le_trans hB.len (by decide), ?_⟩
  have hbe : ∀ e ∈ es, Beg ys e.1 e.2 := fun e he => by obtain ⟨n, _, h, _⟩ := hB.all.right e he; exact h
  refine comp_inv (LateI2 H5 c m ys es G) ?_ ?_ _ _ _ ⟨rfl, [], es, ns', rfl, List.map_map, hB.all, (fun _ h => nomatch h), fun _ _ h => nomatch h⟩
  · rintro x xs acc H' ⟨rfl, ds, rs, ms, e, ex, ha, hA, hN⟩
    cases ha with
    | nil => cases ex
    | @cons i z ms rs gz ha =>
    obtain ⟨w, u⟩ := z
    obtain ⟨rfl, rfl⟩ := List.cons.inj ex
    obtain ⟨hb, hsf⟩ := gz
    obtain ⟨a, b, _, _, _, t1, t2, t3⟩ := id hsf
    obtain ⟨v, hv⟩ := Option.isSome_iff_exists.mp ((hTG.stl _ (.beg hb)).mpr (hW w u hb))
    refine ⟨i1, _, rfl, fun W hWk => ?_⟩
    walk_at "ev"
    refine b_att (k := 2) t1 rfl ?_
    walk_at "ev"
    refine any0 t3 ?_
    walk_at "ev"
    refine b_att (k := 3) t1 rfl ?_
    walk_at "ev"
    refine hG.get hv ?_
    walk_at "ev"
    rw [← Int.natCast_add]
    have eds : es = (ds ++ [(w, u)]) ++ rs := by rw [e, List.append_assoc]; rfl
    refine if_dec (fun he => ?_) fun he => ?_
    · walk_at "ev"
      refine hWk _ _ ⟨rfl, ds ++ [(w, u)], rs, ms, eds, rfl, ha, fun y hy => ?_, fun z => absurd z (List.append_ne_nil_of_right_ne_nil _ (List.cons_ne_nil _ _))⟩
      rcases List.mem_append.mp hy with hy | hy
      · exact hA y hy
      · rw [List.mem_singleton.mp hy]; exact ⟨i, w, u, rfl, hb, hsf, by rw [hv]; exact Int.ofNat_inj.mp he⟩
    · refine hWk _ _ ⟨rfl, ds ++ [(w, u)], rs, ms, eds, rfl, ha, hA, fun z y hy => ?_⟩
      rcases List.mem_append.mp hy with hy | hy
      · exact hN z y hy
      · rw [List.mem_singleton.mp hy, hv]; exact fun z => he (Int.ofNat_inj.mpr z)
  rintro acc H' ⟨rfl, ds, rs, ms, e, ex, ha, hA, hN⟩
  refine ⟨i1, ?_⟩
  cases ha with
  | cons _ _ => cases ex
  | nil =>
  rw [List.append_nil] at e
  subst e
  cases acc with
  | nil =>
    refine absurd (hmx.att (some_cnd (by rw [hll]; exact h2w) hcy.nd)) fun hm => ?_
    rcases (cnd_iff hbe hB.mem m).mp hm with ⟨e, he, z⟩ | ⟨e, he, z⟩
    · exact hD e he z.symm
    · exact hN rfl e he z.symm
  | cons v acc =>
  obtain ⟨i, w, u, rfl, hb, ⟨a, b, _, _, _, t1, t2, t3⟩, hwu⟩ := hA v (.head _)
  obtain ⟨v, hv⟩ := Option.isSome_iff_exists.mp ((hTG.stl _ (.beg hb)).mpr (hW w u hb))
  rw [hv] at hwu
  obtain ⟨H6, q6, k6, g6⟩ := new_ob H' (.list (.ref i :: acc))
  rw [q6]
  refine r_un ?_
  walk_at "ev"
  refine b_at g6 (Int.le_refl _) (Int.ofNat_lt.mpr (Nat.succ_pos _)) ?_
  refine un4 (k6.get t1) ?_
  refine r_un ?_
  walk_at "ev"
  refine ⟨by decide, _, o, d, v, ys, G, rfl, hys.keep k6, hG.keep k6, hTG.vl, hW w u hb, hv, by decide, fun t a' b' p' q' H7 k7 ht ha hb' hp hq hs => un2 ht ?_⟩
  have k67 := k6.trans k7
  have hpl := hp.len
  have hql := hq.len
  refine r_ret ?_
  walk_at "ev"
  refine b_lcat (k67.get t2) ha (by rw [List.length_map, List.length_map]; unfold lid; show 1 + _ ≤ _; lia) ?_
  obtain ⟨H8, q8, k8, g8⟩ := new_ob H7 (.list ([w].map V.str ++ p'.map V.str))
  rw [q8]
  walk_at "ev"
  refine b_lcat (k8.get (k67.get t3)) (k8.get hb') (by rw [List.length_map, List.length_map]; unfold lid; show 1 + _ ≤ _; lia) ?_
  obtain ⟨H9, q9, k9, g9⟩ := new_ob H8 (.list ([u].map V.str ++ q'.map V.str))
  rw [q9]
  refine ⟨Nat.le_of_ble_eq_true rfl, ?_⟩
  have up : ∀ {p : List Txt}, RW ys 132 p → RW ws 199 p := fun h => ⟨fun x hx => (hm x).mp (h.mem x hx), Nat.le_trans h.len (by decide)⟩
  refine hyes _ _ (k1.trans (k67.trans (k8.trans (k9.trans (Keep.new _ _))))) ⟨_, _, w, u, p', q', get_new, (k1.trans k67).le, (Keep.new _ _).get (k9.get g8), (Keep.new _ _).get g9, .cons ((hm w).mp hb.1) (up hp), .cons ((hm u).mp hb.2.1) (up hq), hb.2.2.1, ?_⟩
  rw [List.flatten_cons, List.flatten_cons, app_of_take hb.2.2.2, List.append_assoc, shr_app, hs]
  exact hwu
end
noncomputable def x_law_whole : List Str := [(nm 930329895887808525919)]
noncomputable def b_law_whole : PS := (.seq (.ret (.and (.call (.glob (nm 938756632654307293673)) (.cons (.name (nm 930329895887808525919)) (.cons (.glob (nm 1914729)) .nil))) (.not (.call (.glob (nm 938756632654307293673)) (.cons (.name (nm 930329895887808525919)) (.cons (.glob (nm 228325346)) .nil)))))) .skip)
noncomputable def x_law_words_of : List Str := [(nm 3496086107743)]
noncomputable def b_law_words_of : PS := (.seq (.assign (.name (nm 7339670703038821983)) (.list (.cons (.tuple (.cons (.str ⟨#[99, 111, 100, 101]⟩) (.cons (.call (.glob (nm 938756632654307293673)) (.cons (.name (nm 3496086107743)) (.cons (.glob (nm 447668609953986)) .nil))) .nil))) (.cons (.tuple (.cons (.str ⟨#[102, 117, 108, 108]⟩) (.cons (.call (.glob (nm 938756632654307293673)) (.cons (.name (nm 3496086107743)) (.cons (.glob (nm 228276934)) .nil))) .nil))) (.cons (.tuple (.cons (.str ⟨#[119, 111, 114, 100]⟩) (.cons (.call (.glob (nm 938756632654307293673)) (.cons (.name (nm 3496086107743)) (.cons (.glob (nm 443751641723074)) .nil))) .nil))) .nil))))) (.seq (.assign (.name (nm 7339670703038821983)) (.bin .Add (.name (nm 7339670703038821983)) (.list (.cons (.tuple (.cons (.str ⟨#[116, 119, 105, 99, 101]⟩) (.cons (.call (.glob (nm 938756632654307293673)) (.cons (.name (nm 3496086107743)) (.cons (.glob (nm 27321334740)) .nil))) .nil))) (.cons (.tuple (.cons (.str ⟨#[116, 104, 101, 114, 101]⟩) (.cons (.call (.glob (nm 938756632654307293673)) (.cons (.name (nm 3496086107743)) (.cons (.glob (nm 57362821026756558)) .nil))) .nil))) .nil))))) (.seq (.assign (.name (nm 7339670703038821983)) (.bin .Add (.name (nm 7339670703038821983)) (.list (.cons (.tuple (.cons (.str ⟨#[110, 117, 109, 98, 101, 114]⟩) (.cons (.call (.glob (nm 938756632654307293673)) (.cons (.name (nm 3496086107743)) (.cons (.glob (nm 64623894148134862)) .nil))) .nil))) (.cons (.tuple (.cons (.str ⟨#[119, 97, 105, 116]⟩) (.cons (.call (.glob (nm 938756632654307293673)) (.cons (.name (nm 3496086107743)) (.cons (.glob (nm 4014120237006)) .nil))) .nil))) .nil))))) (.seq (.assign (.name (nm 7339670703038821983)) (.bin .Add (.name (nm 7339670703038821983)) (.list (.cons (.tuple (.cons (.str ⟨#[115, 105, 103, 110]⟩) (.cons (.call (.glob (nm 938756632654307293673)) (.cons (.name (nm 3496086107743)) (.cons (.glob (nm 487352530710722)) .nil))) .nil))) (.cons (.tuple (.cons (.str ⟨#[114, 101, 97, 100, 105, 110, 103]⟩) (.cons (.call (.glob (nm 938756632654307293673)) (.cons (.name (nm 3496086107743)) (.cons (.glob (nm 7484321937891833806)) .nil))) .nil))) .nil))))) (.seq (.ret (.comp1 (.name (nm 252284354984115859945804035679)) (.tup [(nm 252284354984115859945804035679), (nm 8352390834288096863)]) (.itVal (.name (nm 7339670703038821983))) (.and (.name (nm 8352390834288096863)) (.call (.glob (nm 938756632654307293673)) (.cons (.name (nm 3496086107743)) (.cons (.glob (nm 1059527485209827815638)) .nil)))))) .skip)))))
noncomputable def x_law_is_row : List Str := [(nm 67483170382575199), (nm 32292397438104173501782932616799)]
noncomputable def b_law_is_row : PS := (.seq (.ite (.not (.call (.glob (nm 938756632654307293673)) (.cons (.name (nm 67483170382575199)) (.cons (.glob (nm 245167340)) .nil)))) (.seq (.ret (.bool false)) .skip) .skip) (.seq (.ret (.cmp1 .Eq (.comp1 (.name (nm 252284354984115859945804035679)) (.name (nm 252284354984115859945804035679)) (.itVal (.name (nm 67483170382575199))) (.or (.not (.call (.glob (nm 938756632654307293673)) (.cons (.name (nm 252284354984115859945804035679)) (.cons (.glob (nm 1882739)) .nil)))) (.cmp1 .NotIn (.name (nm 252284354984115859945804035679)) (.name (nm 32292397438104173501782932616799))))) (.list .nil))) .skip))
noncomputable def x_law_due : List Str := [(nm 32292397438104173501782932616799)]
noncomputable def b_law_due : PS := (.seq (.assign (.name (nm 7267050193407211103)) (.call (.glob (nm 509789213455080)) (.cons (.call (.glob (nm 245167340)) (.cons (.name (nm 32292397438104173501782932616799)) .nil)) .nil))) (.seq (.assign (.name (nm 8423867748747605599)) (.int 0)) (.seq (.for_ (.name (nm 57345570095265375)) (.itVal (.name (nm 32292397438104173501782932616799))) (.seq (.for_ (.name (nm 1058801290007509759583)) (.itVal (.name (nm 32292397438104173501782932616799))) (.seq (.ite (.and (.cmp1 .NotEq (.name (nm 57345570095265375)) (.name (nm 1058801290007509759583))) (.cmp1 .Eq (.slice (.name (nm 57345570095265375)) .none (.call (.glob (nm 1815276)) (.cons (.name (nm 1058801290007509759583)) .nil))) (.name (nm 1058801290007509759583)))) (.seq (.assign (.name (nm 137915340184785486640735)) (.meth (.name (nm 7267050193407211103)) (nm 1913575) (.cons (.slice (.name (nm 57345570095265375)) (.call (.glob (nm 1815276)) (.cons (.name (nm 1058801290007509759583)) .nil)) .none) .nil))) (.seq (.ite (.cmp1 .Is (.name (nm 137915340184785486640735)) .none) (.seq (.ret .none) .skip) .skip) (.seq (.assign (.name (nm 8423867748747605599)) (.call (.glob (nm 1978605)) (.cons (.name (nm 8423867748747605599)) (.cons (.bin .Add (.call (.glob (nm 1815276)) (.cons (.name (nm 1058801290007509759583)) .nil)) (.name (nm 137915340184785486640735))) .nil)))) .skip))) (.seq (.ite (.and (.cmp1 .NotEq (.name (nm 57345570095265375)) (.name (nm 1058801290007509759583))) (.cmp1 .NotEq (.slice (.name (nm 1058801290007509759583)) .none (.call (.glob (nm 1815276)) (.cons (.name (nm 57345570095265375)) .nil))) (.name (nm 57345570095265375)))) (.seq (.assign (.name (nm 8423867748747605599)) (.call (.glob (nm 1978605)) (.cons (.name (nm 8423867748747605599)) (.cons (.call (.glob (nm 118998992280703227950687)) (.cons (.name (nm 57345570095265375)) (.cons (.name (nm 1058801290007509759583)) .nil))) .nil)))) .skip) .skip) .skip)) .skip)) .skip)) (.seq (.ret (.name (nm 8423867748747605599))) .skip))))
noncomputable def x_law_late : List Str := [(nm 32292397438104173501782932616799)]
noncomputable def b_law_late : PS := (.seq (.tryr (.tuple (.cons (.str ⟨#[116, 111, 108, 100]⟩) (.cons (.call (.glob (nm 213725420)) (.cons (.name (nm 32292397438104173501782932616799)) .nil)) .nil))) (nm 8277558478201501635) (nm 3496086107743) (.tuple (.cons (.str ⟨#[114, 101, 102, 117, 115, 101, 100]⟩) (.cons (.call (.glob (nm 1989854007520408181499524703)) (.cons (.name (nm 3496086107743)) .nil)) .nil)))) .skip)
noncomputable def x_law_late_good : List Str := [(nm 930329895887808525919), (nm 32292397438104173501782932616799), (nm 8781323754941216351)]
noncomputable def b_law_late_good : PS := (.seq (.ite (.or (.not (.call (.glob (nm 938756632654307293673)) (.cons (.name (nm 930329895887808525919)) (.cons (.glob (nm 27340323572)) .nil)))) (.cmp1 .NotEq (.call (.glob (nm 1815276)) (.cons (.name (nm 930329895887808525919)) .nil)) (.int 2))) (.seq (.ret (.bool false)) .skip) .skip) (.seq (.assign (.tup [(nm 57345570095265375), (nm 1058801290007509759583)]) (.name (nm 930329895887808525919))) (.seq (.ite (.or (.not (.call (.glob (nm 141522465716837597869663)) (.cons (.name (nm 57345570095265375)) (.cons (.name (nm 32292397438104173501782932616799)) .nil)))) (.or (.not (.call (.glob (nm 141522465716837597869663)) (.cons (.name (nm 1058801290007509759583)) (.cons (.name (nm 32292397438104173501782932616799)) .nil)))) (.or (.cmp1 .Eq (.name (nm 57345570095265375)) (.list .nil)) (.cmp1 .Eq (.name (nm 1058801290007509759583)) (.list .nil))))) (.seq (.ret (.bool false)) .skip) .skip) (.seq (.ret (.and (.cmp1 .NotEq (.sub (.name (nm 57345570095265375)) (.int 0)) (.sub (.name (nm 1058801290007509759583)) (.int 0))) (.cmp1 .Eq (.call (.glob (nm 118998992280703227950687)) (.cons (.meth (.str ⟨#[]⟩) (nm 232421354) (.cons (.name (nm 57345570095265375)) .nil)) (.cons (.meth (.str ⟨#[]⟩) (nm 232421354) (.cons (.name (nm 1058801290007509759583)) .nil)) .nil))) (.name (nm 8781323754941216351))))) .skip))))
noncomputable def x_law : List Str := [(nm 137989276334399845594719)]
noncomputable def b_law_11 : PS := (.seq (.ret (.and (.cmp1 .Eq (.sub (.name (nm 1022192033930927437407)) (.int 0)) (.str ⟨#[116, 111, 108, 100]⟩)) (.and (.call (.glob (nm 249751956442959616308013463135)) (.cons (.sub (.name (nm 1022192033930927437407)) (.int 1)) (.cons (.name (nm 32292397438104173501782932616799)) (.cons (.name (nm 1970971523313980915569948255)) .nil)))) (.and (.cmp1 .Eq (.name (nm 118997990761571808736863)) (.name (nm 32292397438104173501782932616799))) (.cmp1 .Eq (.call (.glob (nm 245002487)) (.cons (.name (nm 118997990761571808736863)) .nil)) (.name (nm 1970971523313980915569948255))))))) .skip)
noncomputable def b_law_10 : PS := (.seq (.assign (.name (nm 1022192033930927437407)) (.call (.glob (nm 7343549539543447135)) (.cons (.name (nm 118997990761571808736863)) .nil))) b_law_11)
noncomputable def b_law_9 : PS := (.seq (.expr (.meth (.sub (.name (nm 930329895887808525919)) (.int 0)) (nm 3465715398753) (.cons (.str ⟨#[]⟩) .nil))) b_law_10)
noncomputable def b_law_8 : PS := (.seq (.ite (.or (.cmp1 .NotEq (.name (nm 7265299736536053343)) (.str ⟨#[116, 111, 108, 100]⟩)) (.not (.call (.glob (nm 249751956442959616308013463135)) (.cons (.name (nm 930329895887808525919)) (.cons (.name (nm 32292397438104173501782932616799)) (.cons (.name (nm 1970971523313980915569948255)) .nil)))))) (.seq (.ret (.bool false)) .skip) .skip) b_law_9)
noncomputable def b_law_7 : PS := (.seq (.ite (.cmp1 .Is (.name (nm 1970971523313980915569948255)) .none) (.seq (.ret (.and (.cmp1 .Eq (.tuple (.cons (.name (nm 7265299736536053343)) (.cons (.name (nm 930329895887808525919)) .nil))) (.tuple (.cons (.str ⟨#[114, 101, 102, 117, 115, 101, 100]⟩) (.cons (.list (.cons (.str ⟨#[119, 97, 105, 116]⟩) .nil)) .nil)))) (.cmp1 .Eq (.name (nm 118997990761571808736863)) (.name (nm 32292397438104173501782932616799))))) .skip) .skip) b_law_8)
noncomputable def b_law_6 : PS := (.seq (.ite (.cmp1 .Lt (.call (.glob (nm 1815276)) (.cons (.name (nm 32292397438104173501782932616799)) .nil)) (.int 2)) (.seq (.ret (.and (.cmp1 .Eq (.name (nm 7265299736536053343)) (.str ⟨#[116, 111, 108, 100]⟩)) (.and (.cmp1 .Is (.name (nm 930329895887808525919)) .none) (.cmp1 .Eq (.name (nm 118997990761571808736863)) (.name (nm 32292397438104173501782932616799)))))) .skip) .skip) b_law_7)
noncomputable def b_law_5 : PS := (.seq (.assign (.tup [(nm 7265299736536053343), (nm 930329895887808525919)]) (.call (.glob (nm 7343549539543447135)) (.cons (.name (nm 118997990761571808736863)) .nil))) b_law_6)
noncomputable def b_law_4 : PS := (.seq (.ite (.or (.and (.cmp1 .Is (.name (nm 1970971523313980915569948255)) .none) (.cmp1 .IsNot (.name (nm 8781323754941216351)) .none)) (.and (.cmp1 .IsNot (.name (nm 1970971523313980915569948255)) .none) (.or (.not (.call (.glob (nm 939405744834656892511)) (.cons (.name (nm 8781323754941216351)) .nil))) (.cmp1 .NotEq (.name (nm 8781323754941216351)) (.name (nm 1970971523313980915569948255)))))) (.seq (.ret (.bool false)) .skip) .skip) b_law_5)
noncomputable def b_law_3 : PS := (.seq (.assign (.name (nm 8781323754941216351)) (.call (.glob (nm 245002487)) (.cons (.name (nm 118997990761571808736863)) .nil))) b_law_4)
noncomputable def b_law_2 : PS := (.seq (.assign (.name (nm 1970971523313980915569948255)) (.call (.glob (nm 57375978463721055)) (.cons (.name (nm 32292397438104173501782932616799)) .nil))) b_law_3)
noncomputable def b_law_1 : PS := (.seq (.assign (.name (nm 118997990761571808736863)) (.call (.glob (nm 245167340)) (.cons (.name (nm 32292397438104173501782932616799)) .nil))) b_law_2)
noncomputable def b_law : PS := (.seq (.assign (.name (nm 32292397438104173501782932616799)) (.call (.glob (nm 1067958212234506171999)) (.cons (.name (nm 137989276334399845594719)) (.cons (.int 0) .nil)))) b_law_1)
theorem s_list {H : AHeap} {Q : VPost} {X : XPost} {n : Nat} {xs : List V} (h : H[n]? = some (.list xs)) (k : Q (.ref H.length) (H ++ [.list xs])) : spList [.ref n] H Q X := ⟨n, xs, rfl, h, k⟩
theorem bind2 {H : AHeap} {σ : Sg} {n : Nat} {x y : Str} {u v : V} (h : H[n]? = some (.tuple [u, v])) : bindA (.tup [x, y]) (.one (.ref n)) H σ = some ((σ.set x u).set y v) := bind_tup h rfl
section
variable {K : AHeap → Prop} {bind : Item → AHeap → Option Sg} {test : Sg → AHeap → (Bool → AHeap → Prop) → Prop} {elt : Sg → AHeap → VPost → Prop} {Q : List V → AHeap → Prop} {x : Item} {xs : List Item} {acc : List V} {H : AHeap} {σ : Sg} {v : V}
theorem cg_no (hK : K H) (hb : bind x H = some σ) (ht : ∀ q : Bool → AHeap → Prop, q false H → test σ H q) (k : compGo K bind test elt Q xs acc H) : compGo K bind test elt Q (x :: xs) acc H := by
  refine ⟨hK, ?_⟩; rw [hb]; exact ht _ k
theorem cg_yes (hK : K H) (hb : bind x H = some σ) (ht : ∀ q : Bool → AHeap → Prop, q true H → test σ H q) (he : ∀ q : VPost, q v H → elt σ H q) (k : compGo K bind test elt Q xs (acc ++ [v]) H) : compGo K bind test elt Q (x :: xs) acc H := by
  refine ⟨hK, ?_⟩; rw [hb]; exact ht _ (he _ k)
theorem cg_end (hK : K H) (k : Q acc H) : compGo K bind test elt Q [] acc H := ⟨hK, k⟩
end
section
variable {T : Tab}
theorem r_try {σ : Sg} {H : AHeap} {P : SPost} {X : XPost} {e h : PE} {c x : Str} {b : PS} (k : (sem T e).ev σ H (fun v H1 => P (.ret v) σ H1) (fun k H1 => T.cat k c = true ∧ ∀ a, T.hev k a h (σ.set x (.exc a)) H1 fun v H2 => P (.ret v) (fun _ => none) H2)) : semS T (.seq (.tryr e c x h) b) σ H P X := k
noncomputable def waitT : Txt := [119, 97, 105, 116]
noncomputable def spWordsOf (a : Nat) : Spec := fun vs H Q _ => vs = [.exc a] ∧ ∀ p H', Ws H' p [waitT] → Keep H H' → Q (.ref p) H'
theorem ct_law_words_of {a : Nat} (h1 : Has T (nm 938756632654307293673) (spIsiE 4014120237006 a)) (g1 : T.gv (nm 447668609953986) = some (.glob (nm 447668609953986))) (g2 : T.gv (nm 228276934) = some (.glob (nm 228276934))) (g3 : T.gv (nm 443751641723074) = some (.glob (nm 443751641723074))) (g4 : T.gv (nm 27321334740) = some (.glob (nm 27321334740)))
    (g5 : T.gv (nm 57362821026756558) = some (.glob (nm 57362821026756558))) (g6 : T.gv (nm 64623894148134862) = some (.glob (nm 64623894148134862))) (g7 : T.gv (nm 4014120237006) = some (.glob (nm 4014120237006))) (g8 : T.gv (nm 487352530710722) = some (.glob (nm 487352530710722))) (g9 : T.gv (nm 7484321937891833806) = some (.glob (nm 7484321937891833806))) (g10 : T.gv (nm 1059527485209827815638) = some (.glob (nm 1059527485209827815638))) :
    Ct T x_law_words_of b_law_words_of (spWordsOf a) := by
  refine ct1 fun vs H Q X h => ?_
  obtain ⟨rfl, h⟩ := h
  refine ⟨_, rfl, ?_⟩
  refine s_asg ?_
  walk_at "ev"
  refine .own (b := false) (by decide) rfl ?_
  refine ⟨Nat.le_of_ble_eq_true rfl, ?_⟩
  obtain ⟨H1, e1, k1, t1⟩ := new_ob H (.tuple [(.str (Str.mk #[99, 111, 100, 101]).cps.toList), .bool false])
  rw [e1]
  walk_at "ev"
  refine .own (b := false) (by decide) rfl ?_
  refine ⟨Nat.le_of_ble_eq_true rfl, ?_⟩
  obtain ⟨H2, e2, k2, t2⟩ := new_ob H1 (.tuple [(.str (Str.mk #[102, 117, 108, 108]).cps.toList), .bool false])
  rw [e2]
  walk_at "ev"
  refine .own (b := false) (by decide) rfl ?_
  refine ⟨Nat.le_of_ble_eq_true rfl, ?_⟩
  obtain ⟨H3, e3, k3, t3⟩ := new_ob H2 (.tuple [(.str (Str.mk #[119, 111, 114, 100]).cps.toList), .bool false])
  rw [e3]
  walk_at "ev"
  refine ⟨Nat.le_of_ble_eq_true rfl, ?_⟩
  obtain ⟨H4, e4, k4, l4⟩ := new_ob H3 (.list [.ref H.length, .ref H1.length, .ref H2.length])
  rw [e4]
  refine s_asg ?_
  walk_at "ev"
  refine .own (b := false) (by decide) rfl ?_
  refine ⟨Nat.le_of_ble_eq_true rfl, ?_⟩
  obtain ⟨H5, e5, k5, t5⟩ := new_ob H4 (.tuple [(.str (Str.mk #[116, 119, 105, 99, 101]).cps.toList), .bool false])
  rw [e5]
  walk_at "ev"
  refine .own (b := false) (by decide) rfl ?_
  refine ⟨Nat.le_of_ble_eq_true rfl, ?_⟩
  obtain ⟨H6, e6, k6, t6⟩ := new_ob H5 (.tuple [(.str (Str.mk #[116, 104, 101, 114, 101]).cps.toList), .bool false])
  rw [e6]
  walk_at "ev"
  refine ⟨Nat.le_of_ble_eq_true rfl, ?_⟩
  obtain ⟨H7, e7, k7, l7⟩ := new_ob H6 (.list [.ref H4.length, .ref H5.length])
  rw [e7]
  refine b_lcat ((k5.trans (k6.trans k7)).get l4) l7 (Nat.le_of_ble_eq_true rfl) ?_
  obtain ⟨H8, e8, k8, l8⟩ := new_ob H7 (.list ([.ref H.length, .ref H1.length, .ref H2.length] ++ [.ref H4.length, .ref H5.length]))
  rw [e8]
  refine s_asg ?_
  walk_at "ev"
  refine .own (b := false) (by decide) rfl ?_
  refine ⟨Nat.le_of_ble_eq_true rfl, ?_⟩
  obtain ⟨H9, e9, k9, t9⟩ := new_ob H8 (.tuple [(.str (Str.mk #[110, 117, 109, 98, 101, 114]).cps.toList), .bool false])
  rw [e9]
  walk_at "ev"
  refine .own (b := true) (by decide) rfl ?_
  refine ⟨Nat.le_of_ble_eq_true rfl, ?_⟩
  obtain ⟨H10, e10, k10, t10⟩ := new_ob H9 (.tuple [(.str (Str.mk #[119, 97, 105, 116]).cps.toList), .bool true])
  rw [e10]
  walk_at "ev"
  refine ⟨Nat.le_of_ble_eq_true rfl, ?_⟩
  obtain ⟨H11, e11, k11, l11⟩ := new_ob H10 (.list [.ref H8.length, .ref H9.length])
  rw [e11]
  refine b_lcat ((k9.trans (k10.trans k11)).get l8) l11 (Nat.le_of_ble_eq_true rfl) ?_
  obtain ⟨H12, e12, k12, l12⟩ := new_ob H11 (.list (([.ref H.length, .ref H1.length, .ref H2.length] ++ [.ref H4.length, .ref H5.length]) ++ [.ref H8.length, .ref H9.length]))
  rw [e12]
  refine s_asg ?_
  walk_at "ev"
  refine .own (b := false) (by decide) rfl ?_
  refine ⟨Nat.le_of_ble_eq_true rfl, ?_⟩
  obtain ⟨H13, e13, k13, t13⟩ := new_ob H12 (.tuple [(.str (Str.mk #[115, 105, 103, 110]).cps.toList), .bool false])
  rw [e13]
  walk_at "ev"
  refine .own (b := false) (by decide) rfl ?_
  refine ⟨Nat.le_of_ble_eq_true rfl, ?_⟩
  obtain ⟨H14, e14, k14, t14⟩ := new_ob H13 (.tuple [(.str (Str.mk #[114, 101, 97, 100, 105, 110, 103]).cps.toList), .bool false])
  rw [e14]
  walk_at "ev"
  refine ⟨Nat.le_of_ble_eq_true rfl, ?_⟩
  obtain ⟨H15, e15, k15, l15⟩ := new_ob H14 (.list [.ref H12.length, .ref H13.length])
  rw [e15]
  refine b_lcat ((k13.trans (k14.trans k15)).get l12) l15 (Nat.le_of_ble_eq_true rfl) ?_
  obtain ⟨H16, e16, k16, l16⟩ := new_ob H15 (.list ((([.ref H.length, .ref H1.length, .ref H2.length] ++ [.ref H4.length, .ref H5.length]) ++ [.ref H8.length, .ref H9.length]) ++ [.ref H12.length, .ref H13.length]))
  rw [e16]
  refine r_ret ?_
  walk_at "ev"
  have m14 := k15.trans k16
  have m13 := k14.trans m14
  have m12 := k13.trans m13
  have m10 := (k11.trans k12).trans m12
  have m9 := k10.trans m10
  have m8 := k9.trans m9
  have m6 := (k7.trans k8).trans m8
  have m5 := k6.trans m6
  have m4 := k5.trans m5
  have m3 := k4.trans m4
  have m2 := k3.trans m3
  have m1 := k2.trans m2
  refine i_list l16 ⟨Nat.le_of_ble_eq_true rfl, ?_⟩
  refine cg_no l16 (bind2 (m1.get t1)) (fun q hq => by walk_at "ev"; exact hq) ?_
  refine cg_no l16 (bind2 (m2.get t2)) (fun q hq => by walk_at "ev"; exact hq) ?_
  refine cg_no l16 (bind2 (m3.get t3)) (fun q hq => by walk_at "ev"; exact hq) ?_
  refine cg_no l16 (bind2 (m5.get t5)) (fun q hq => by walk_at "ev"; exact hq) ?_
  refine cg_no l16 (bind2 (m6.get t6)) (fun q hq => by walk_at "ev"; exact hq) ?_
  refine cg_no l16 (bind2 (m9.get t9)) (fun q hq => by walk_at "ev"; exact hq) ?_
  refine cg_yes l16 (bind2 (m10.get t10)) (fun q hq => by walk_at "ev"; exact .val hq) (fun q hq => by walk_at "ev"; exact hq) ?_
  refine cg_no l16 (bind2 (m13.get t13)) (fun q hq => by walk_at "ev"; exact hq) ?_
  refine cg_no l16 (bind2 (m14.get t14)) (fun q hq => by walk_at "ev"; exact hq) ?_
  refine cg_end l16 ?_
  walk_at "ev"
  exact h _ _ get_new ((k1.trans m1).trans (Keep.new _ _))
noncomputable def spIsRow : Spec := fun vs H Q _ => ∃ (a n : Nat) (p ws : List Txt), vs = [.ref a, .ref n] ∧ Ws H a p ∧ Ws H n ws ∧ (∀ w ∈ p, w ∈ ws) ∧ p.length ≤ lid ∧ ∀ H', Keep H H' → Q (.bool true) H'
theorem ct_law_is_row (h1 : Has T (nm 938756632654307293673) spIsi) (g1 : T.gv (nm 245167340) = some (.glob (nm 245167340))) (g2 : T.gv (nm 1882739) = some (.glob (nm 1882739))) : Ct T x_law_is_row b_law_is_row spIsRow := by
  refine ct2 fun vs H Q X h => ?_
  obtain ⟨a, n, p, ws, rfl, ha, hn, hp, hl, h⟩ := h
  refine ⟨_, _, rfl, ?_⟩
  refine s_ite ?_
  walk_at "ev"
  refine IsiA.list ha ?_
  walk_at "ev"
  refine if_f rfl ?_
  walk_at "ev"
  refine i_list ha ⟨by rw [List.length_map, List.length_map]; exact hl, ?_⟩
  refine comp_ws (fun _ => false) ha (fun w hw H' k' q hq => ?_) fun H1 k1 => ?_
  · walk_at "ev"
    refine IsiA.str ?_
    walk_at "ev"
    refine if_f rfl ?_
    walk_at "ev"
    refine c_ninw (hn.keep k') ?_
    rw [decide_eq_true (hp w hw)]
    exact hq _ (Keep.refl _)
  walk_at "ev"
  refine ⟨Nat.zero_le _, ?_⟩
  refine c_eqw (ws := p.filter fun _ => false) (us := []) ((Keep.new _ _).get get_new) get_new ?_
  have e : (p.filter fun _ => false) = [] := List.filter_eq_nil_iff.mpr fun _ _ z => nomatch z
  rw [decide_eq_true e]
  walk_at "ev"
  exact h _ (k1.trans ((Keep.new _ _).trans (Keep.new _ _)))
theorem ct_law_whole (h1 : Has T (nm 938756632654307293673) spIsi) (g1 : T.gv (nm 1914729) = some (.glob (nm 1914729))) (g2 : T.gv (nm 228325346) = some (.glob (nm 228325346))) : Ct T x_law_whole b_law_whole spWhole := by
  refine ct1 fun vs H Q X h => ?_
  obtain ⟨i, rfl, h⟩ := h
  refine ⟨_, rfl, ?_⟩
  refine r_ret ?_
  walk_at "ev"
  refine IsiA.int ?_
  walk_at "ev"
  refine IsiA.bool ?_
  walk_at "ev"
  exact h
inductive DueI2 (H' : AHeap) (n d : Nat) (ws us : List Txt) (w : Txt) (F : Tbl) (xs : List Item) (σ : Sg) (H'' : AHeap) : Prop
  | mk : H'' = H' → ∀ vs rs, ws = vs ++ rs → xs = rs.map (fun w => .one (.str w)) → (∀ u ∈ vs, Beg ws w u → Stl ws (w.drop u.length)) → ∀ m : Nat, IsMx (fun c => (∃ w ∈ us, ∃ u ∈ ws, cnd F w u = some c) ∨ ∃ u ∈ vs, cnd F w u = some c) m → σ (nm 8423867748747605599) = some (.int m) → σ (nm 32292397438104173501782932616799) = some (.ref n) → σ (nm 7267050193407211103) = some (.ref d) → σ (nm 57345570095265375) = some (.str w) → DueI2 H' n d ws us w F xs σ H''
inductive DueI1 (H2 : AHeap) (n d : Nat) (ws : List Txt) (F : Tbl) (xs : List Item) (σ : Sg) (H' : AHeap) : Prop
  | mk : H' = H2 → ∀ us rs, ws = us ++ rs → xs = rs.map (fun w => .one (.str w)) → (∀ w ∈ us, ∀ u, Beg ws w u → Stl ws (w.drop u.length)) → ∀ m : Nat, IsMx (fun c => ∃ w ∈ us, ∃ u ∈ ws, cnd F w u = some c) m → σ (nm 8423867748747605599) = some (.int m) → σ (nm 32292397438104173501782932616799) = some (.ref n) → σ (nm 7267050193407211103) = some (.ref d) → DueI1 H2 n d ws F xs σ H'
theorem ct_law_due (h1 : Has T (nm 509789213455080) spHts) (h2 : Has T (nm 245167340) spList) (h3 : Has T (nm 1815276) spLen) (h4 : Has T (nm 1978605) spMax) (h5 : Has T (nm 118998992280703227950687) spShr) (m1 : HasM T .dict (nm 1913575) spGet) : Ct T x_law_due b_law_due spWait := by
  refine ct1 fun vs H Q X h => ?_
  obtain ⟨n, ws, rfl, hn, hw, hc, hyes, hno⟩ := h
  refine ⟨_, rfl, ?_⟩
  refine s_asg ?_
  walk_at "ev"
  refine s_list hw ?_
  obtain ⟨H1, q1, k1, g1⟩ := new_ob H (.list (ws.map .str))
  rw [q1]
  refine ⟨_, ws, rfl, lt_of_get g1, g1, hc, fun d H2 es ep F k2 hd hT hf => ?_⟩
  replace k1 := k1.trans k2
  replace hw := hw.keep k1
  refine s_asg ?_
  walk_at "ev"
  refine r_for ?_
  walk_at "ev"
  refine i_list hw ?_
  refine for_inv (DueI1 H2 n d ws F) ?_ ?_
    ⟨rfl, [], ws, rfl, List.map_map, (fun _ h => nomatch h), 0, .nil (fun _ ⟨_, h, _⟩ => nomatch h), hit, by walk_at "nm", by walk_at "nm"⟩
  · rintro x xs σ H' ⟨rfl, us, rs, e, ex, hD, m, hmx, s0, s1, s2⟩
    cases rs with
    | nil => cases ex
    | cons w rs =>
    obtain ⟨rfl, rfl⟩ := List.cons.inj ex
    have hwm : w ∈ ws := by rw [e]; exact List.mem_append_right _ (.head _)
    refine ⟨hw, _, rfl, fun W hW => ?_⟩
    refine r_for ?_
    walk_at "ev"
    refine i_list hw ?_
    refine for_inv (DueI2 H' n d ws us w F) ?_ ?_
      ⟨rfl, [], ws, rfl, List.map_map, (fun _ h => nomatch h), m, hmx.iff fun x => ⟨fun h => h.elim id (fun ⟨_, h, _⟩ => nomatch h), .inl⟩, by walk_at "nm", by walk_at "nm", by walk_at "nm", by walk_at "nm"⟩
    · clear hmx s0 s1 s2 hW hD ex
      rintro x xs σ H'' ⟨rfl, vs, rs', e', ex, hD, m, hmx, s0, s1, s2, s3⟩
      cases rs' with
      | nil => cases ex
      | cons u rs' =>
      obtain ⟨rfl, rfl⟩ := List.cons.inj ex
      have hum : u ∈ ws := by rw [e']; exact List.mem_append_right _ (.head _)
      have e2 : ws = (vs ++ [u]) ++ rs' := by rw [e', List.append_assoc]; rfl
      refine ⟨hw, _, rfl, fun W2 hW2 => ?_⟩
      -- nothing is told by this pair
      have same : ∀ σ', cnd F w u = none → (Beg ws w u → Stl ws (w.drop u.length)) → σ' (nm 8423867748747605599) = some (.int m) → σ' (nm 32292397438104173501782932616799) = some (.ref n) → σ' (nm 7267050193407211103) = some (.ref d) → σ' (nm 57345570095265375) = some (.str w) → W2 σ' H'' := fun σ' hz hb t0 t1 t2 t3 => by
        refine hW2 _ _ ⟨rfl, vs ++ [u], rs', e2, rfl, (fun y hy => ?_), m, hmx.iff fun x => ?_, t0, t1, t2, t3⟩
        · rcases List.mem_append.mp hy with hy | hy
          · exact hD y hy
          · rw [List.mem_singleton.mp hy]; exact hb
        · refine or_congr Iff.rfl ⟨fun ⟨y, hy, ey⟩ => ?_, fun ⟨y, hy, ey⟩ => ⟨y, List.mem_append_left _ hy, ey⟩⟩
          rcases List.mem_append.mp hy with hy | hy
          · exact ⟨y, hy, ey⟩
          · rw [List.mem_singleton.mp hy, hz] at ey; cases ey
      have more : ∀ σ' c, cnd F w u = some c → (Beg ws w u → Stl ws (w.drop u.length)) → σ' (nm 8423867748747605599) = some (.int (max m c : Nat)) → σ' (nm 32292397438104173501782932616799) = some (.ref n) → σ' (nm 7267050193407211103) = some (.ref d) → σ' (nm 57345570095265375) = some (.str w) → W2 σ' H'' := fun σ' c hz hb t0 t1 t2 t3 => by
        refine hW2 _ _ ⟨rfl, vs ++ [u], rs', e2, rfl, (fun y hy => ?_), _, hmx.add fun x => ?_, t0, t1, t2, t3⟩
        · rcases List.mem_append.mp hy with hy | hy
          · exact hD y hy
          · rw [List.mem_singleton.mp hy]; exact hb
        · refine ⟨fun h => ?_, fun h => ?_⟩
          · rcases h with h | ⟨y, hy, ey⟩
            · exact .inl (.inl h)
            · rcases List.mem_append.mp hy with hy | hy
              · exact .inl (.inr ⟨y, hy, ey⟩)
              · rw [List.mem_singleton.mp hy, hz] at ey; cases ey; exact .inr rfl
          · rcases h with (h | ⟨y, hy, ey⟩) | ey
            · exact .inl h
            · exact .inr ⟨y, List.mem_append_left _ hy, ey⟩
            · exact .inr ⟨u, List.mem_append_right _ (.head _), by rw [ey]; exact hz⟩
      refine s_ite ?_
      walk_at "ev"
      by_cases hne : w = u
      · refine if_f (by rw [decide_eq_true hne]; rfl) ?_
        walk_at "ev"
        refine if_f (by rw [decide_eq_true hne]; rfl) ?_
        walk_at "ev"
        exact same _ (by unfold cnd; rw [if_pos hne]) (fun z => absurd hne z.2.2.1) (by walk_at "nm") (by walk_at "nm") (by walk_at "nm") (by walk_at "nm")
      refine if_t (by rw [decide_eq_false hne]; rfl) ?_
      walk_at "ev"
      refine b_to (Int.natCast_nonneg _) ?_
      walk_at "ev"
      rw [Int.toNat_natCast]
      refine if_dec (fun hb => ?_) fun hb => ?_
      · have hB : Beg ws w u := ⟨hwm, hum, hne, hb⟩
        refine s_asg ?_
        refine e_methN (by walk_at "nm") (kind_d hd) m1 (l1 ?_)
        walk_at "ev"
        refine b_from (Int.natCast_nonneg _) ?_
        walk_at "ev"
        rw [Int.toNat_natCast]
        refine ⟨d, ep, es, _, .inl rfl, hd, ?_⟩
        rw [hf _ (.beg hB)]
        cases hv : val F (w.drop u.length) with
        | none =>
          refine s_ite ?_
          walk_at "ev"
          refine if_t rfl ?_
          walk_at "ev"
          refine hno (fun hW => ?_) _ k1
          have := (hT.stl _ (.beg hB)).mpr (hW w u hB)
          rw [hv] at this; cases this
        | some v =>
          refine s_ite ?_
          walk_at "ev"
          refine if_f rfl ?_
          walk_at "ev"
          refine b_add ?_
          refine ⟨_, _, rfl, ?_⟩
          rw [← Int.natCast_add, max_if]
          walk_at "ev"
          exact more _ _ (by rw [cnd_beg hne hb, hv]; rfl) (fun _ => (hT.stl _ (.beg hB)).mp (by rw [hv]; rfl)) hit (by walk_at "nm") (by walk_at "nm") (by walk_at "nm")
      · walk_at "ev"
        refine if_t (by rw [decide_eq_false hne]; rfl) ?_
        walk_at "ev"
        refine b_to (Int.natCast_nonneg _) ?_
        walk_at "ev"
        rw [Int.toNat_natCast]
        refine if_ndec (fun hb' => ?_) fun hb' => ?_
        · refine s_asg ?_
          walk_at "ev"
          refine ⟨w, u, rfl, ?_⟩
          refine ⟨_, _, rfl, ?_⟩
          rw [max_if]
          walk_at "ev"
          exact more _ _ (cnd_apt (apt_iff.mpr ⟨hb, hb'⟩)) (fun z => absurd z.2.2.2 hb) hit (by walk_at "nm") (by walk_at "nm") (by walk_at "nm")
        · walk_at "ev"
          exact same _ (by unfold cnd; rw [if_neg hne, if_neg hb, if_pos hb']) (fun z => absurd z.2.2.2 hb) (by walk_at "nm") (by walk_at "nm") (by walk_at "nm") (by walk_at "nm")
    · rintro σ H'' ⟨rfl, vs, rs', e', ex, hD', m, hmx, s0, s1, s2, s3⟩
      refine ⟨hw, ?_⟩
      cases rs' with
      | cons _ _ => cases ex
      | nil =>
      rw [List.append_nil] at e'
      subst e'
      walk_at "ev"
      refine hW _ _ ⟨rfl, us ++ [w], rs, by rw [e, List.append_assoc]; rfl, rfl, (fun y hy u hb => ?_), m, hmx.iff fun x => ?_, s0, s1, s2⟩
      · rcases List.mem_append.mp hy with hy | hy
        · exact hD y hy u hb
        · rw [List.mem_singleton.mp hy] at hb ⊢; exact hD' u hb.2.1 hb
      · refine ⟨fun ⟨y, hy, z⟩ => ?_, fun h => ?_⟩
        · rcases List.mem_append.mp hy with hy | hy
          · exact .inl ⟨y, hy, z⟩
          · rw [List.mem_singleton.mp hy] at z; exact .inr z
        · rcases h with ⟨y, hy, z⟩ | z
          · exact ⟨y, List.mem_append_left _ hy, z⟩
          · exact ⟨w, List.mem_append_right _ (.head _), z⟩
  · rintro σ H' ⟨rfl, us, rs, e, ex, hD, m, hmx, s0, s1, s2⟩
    refine ⟨hw, ?_⟩
    cases rs with
    | cons _ _ => cases ex
    | nil =>
    rw [List.append_nil] at e
    subst e
    refine r_ret ?_
    walk_at "ev"
    exact hyes F m _ (fun w u hb => hD w hb.1 u hb) hT hmx k1
theorem Lt.keep {H H' H'' : AHeap} {ws : List Txt} {m t : Nat} (h : Lt H H' ws m t) (k : Keep H' H'') : Lt H H'' ws m t := by
  obtain ⟨a, b, w, u, p, q, h1, h2, h3, h4, h5, h6, h7, h8⟩ := h
  exact ⟨a, b, w, u, p, q, k.get h1, h2, h3.keep k, h4.keep k, h5, h6, h7, h8⟩
noncomputable def toldT : Txt := [116, 111, 108, 100]
noncomputable def refT : Txt := [114, 101, 102, 117, 115, 101, 100]
noncomputable def spLLate : Spec := fun vs H Q _ => ∃ (n : Nat) (ws : List Txt), vs = [.ref n] ∧ n < H.length ∧ Ws H n ws ∧ Cd ws ∧ (ws.length < 2 → ∀ p H', Keep H H' → H'[p]? = some (.tuple [.str toldT, .none]) → Q (.ref p) H') ∧
  (2 ≤ ws.length → ¬ Wts ws → ∀ p q H', Keep H H' → H'[p]? = some (.tuple [.str refT, .ref q]) → Ws H' q [waitT] → Q (.ref p) H') ∧
  (2 ≤ ws.length → Wts ws → ∀ F m t p H', Tb ws F → IsW F ws m → Keep H H' → Lt H H' ws m t → H'[p]? = some (.tuple [.str toldT, .ref t]) → Q (.ref p) H')
theorem ct_law_late {Th : Nat → Tab} (h1 : Has T (nm 213725420) spLate) (h2 : T.cat (nm 4014120237006) (nm 8277558478201501635) = true) (h3 : ∀ a pe σ H Q, (sem (Th a) pe).ev σ H Q (fun _ _ => False) → T.hev (nm 4014120237006) a pe σ H Q)
    (t1 : ∀ a, Has (Th a) (nm 1989854007520408181499524703) (spWordsOf a)) : Ct T x_law_late b_law_late spLLate := by
  refine ct1 fun vs H Q X h => ?_
  obtain ⟨n, ws, rfl, hn, hw, hc, hf, hb, hg⟩ := h
  refine ⟨_, rfl, ?_⟩
  refine r_try ?_
  walk_at "ev"
  refine ⟨n, ws, rfl, hn, hw, hc, fun hl H1 k1 => ⟨Nat.le_of_ble_eq_true rfl, ?_⟩, fun hl hW H1 k1 => ⟨h2, fun a => h3 a _ _ _ _ ?_⟩, fun hl hW F m t H1 hT hmx k1 hL => ⟨Nat.le_of_ble_eq_true rfl, ?_⟩⟩
  · walk_at "ev"
    exact hf hl _ _ (k1.trans (Keep.new _ _)) get_new
  · have t1 := t1 a
    walk_at "ev"
    refine ⟨rfl, fun q H2 hq k2 => ⟨Nat.le_of_ble_eq_true rfl, ?_⟩⟩
    walk_at "ev"
    exact hb hl hW _ q _ (k1.trans (k2.trans (Keep.new _ _))) get_new (hq.keep (Keep.new _ _))
  · walk_at "ev"
    exact hg hl hW F m t _ _ hT hmx (k1.trans (Keep.new _ _)) (hL.keep (Keep.new _ _)) get_new
theorem sum_le_flat : ∀ ws : List Txt, (∀ w ∈ ws, w.length ≤ 10) → (ws.map List.length).sum ≤ 10 * ws.length
  | [], _ => Nat.le_refl _
  | w :: r, h => by
    rw [List.map_cons, List.sum_cons, List.length_cons, Nat.mul_succ, Nat.add_comm]
    exact Nat.add_le_add (sum_le_flat r fun u hu => h u (.tail _ hu)) (h w (.head _))
theorem j_rw {H : AHeap} {Q : VPost} {X : XPost} {n : Nat} {ts ws : List Txt} (h : Ws H n ts) (hc : Cd ws) (hr : RW ws 200 ts) (k : Q (.str ts.flatten) H) : spJoin [.str [], .ref n] H Q X :=
  s_join h (by have := sum_le_flat ts fun w hw => (hc.wd w (hr.mem w hw)).le; have := hr.len; unfold lid; lia) k
noncomputable def spGood : Spec := fun vs H Q _ => ∃ (t n m : Nat) (ws : List Txt) (H0 : AHeap), vs = [.ref t, .ref n, .int m] ∧ Lt H0 H ws m t ∧ Ws H n ws ∧ Cd ws ∧ ∀ H', Keep H H' → Q (.bool true) H'
theorem ct_law_late_good (h1 : Has T (nm 938756632654307293673) spIsi) (h2 : Has T (nm 1815276) spLen) (h3 : Has T (nm 141522465716837597869663) spIsRow) (h4 : Has T (nm 118998992280703227950687) spShr) (m1 : HasM T .str (nm 232421354) spJoin) (g1 : T.gv (nm 27340323572) = some (.glob (nm 27340323572))) : Ct T x_law_late_good b_law_late_good spGood := by
  refine ct3 fun vs H Q X h => ?_
  obtain ⟨t, n, m, ws, H0, rfl, hL, hn, hc, h⟩ := h
  obtain ⟨a, b, w, u, p, q, ht, _, ha, hb, hp, hq, hne, hs⟩ := hL
  refine ⟨_, _, _, rfl, ?_⟩
  refine s_ite ?_
  walk_at "ev"
  refine .tuple ht ?_
  walk_at "ev"
  refine if_f rfl ?_
  walk_at "ev"
  refine .tuple ht ?_
  walk_at "ev"
  refine if_f rfl ?_
  walk_at "ev"
  refine r_un ?_
  walk_at "ev"
  refine un2 ht ?_
  refine s_ite ?_
  walk_at "ev"
  refine ⟨_, _, _, ws, rfl, ha, hn, hp.mem, Nat.le_trans hp.len (by decide), fun H1 k1 => ?_⟩
  walk_at "ev"
  refine if_f rfl ?_
  walk_at "ev"
  refine ⟨_, _, _, ws, rfl, hb.keep k1, hn.keep k1, hq.mem, Nat.le_trans hq.len (by decide), fun H2 k2 => ?_⟩
  replace k1 := k1.trans k2
  walk_at "ev"
  refine if_f rfl ?_
  walk_at "ev"
  refine ⟨Nat.zero_le _, ?_⟩
  obtain ⟨H3, q3, k3, g3⟩ := new_ob H2 (.list [])
  rw [q3]
  replace k1 := k1.trans k3
  refine c_eqw (us := []) (ha.keep k1) g3 ?_
  rw [decide_eq_false (List.cons_ne_nil _ _)]
  walk_at "ev"
  refine ⟨Nat.zero_le _, ?_⟩
  obtain ⟨H4, q4, k4, g4⟩ := new_ob H3 (.list [])
  rw [q4]
  replace k1 := k1.trans k4
  refine c_eqw (us := []) (hb.keep k1) g4 ?_
  rw [decide_eq_false (List.cons_ne_nil _ _)]
  walk_at "ev"
  refine any0 (ha.keep k1) ?_
  walk_at "ev"
  refine any0 (hb.keep k1) ?_
  walk_at "ev"
  rw [decide_eq_false hne]
  refine if_t rfl ?_
  walk_at "ev"
  refine j_rw (ha.keep k1) hc hp ?_
  walk_at "ev"
  refine j_rw (hb.keep k1) hc hq ?_
  walk_at "ev"
  refine ⟨_, _, rfl, ?_⟩
  walk_at "ev"
  rw [hs, decide_eq_true rfl]
  exact h _ k1
theorem rd_pair {H : AHeap} {p q : Nat} {t : Txt} {ws : List Txt} (h : H[p]? = some (.tuple [.str t, .ref q])) (k : Ws H q ws) : rd H 6 (.ref p) = some (.tuple [pd t, .list (ws.map pd)]) := by
  have e : rd H 5 (.ref q) = some (.list (ws.map pd)) := by rw [rd_list k, rdL_str]; rfl
  rw [rd_tuple h, rdL, rdL, e]; rfl
theorem eqv_pair (t : Txt) (ws : List Txt) : PyData.eqv (.tuple [pd t, .list (ws.map pd)]) (.tuple [pd t, .list (ws.map pd)]) = true := by
  show (PyData.eqv (pd t) (pd t) && (PyData.eqv (.list (ws.map pd)) (.list (ws.map pd)) && PyData.eqvAll [] [])) = true
  rw [eqv_ws, show PyData.eqv (pd t) (pd t) = decide (t = t) from str_beq t t, decide_eq_true rfl, decide_eq_true rfl]; rfl
theorem ct_law11 (h1 : Has T (nm 1067958212234506171999) spWords) (h2 : Has T (nm 245167340) spList) (h3 : Has T (nm 57375978463721055) spWait) (h4 : Has T (nm 245002487) spWait) (h5 : Has T (nm 939405744834656892511) spWhole) (h6 : Has T (nm 7343549539543447135) spLLate) (h7 : Has T (nm 1815276) spLen) (h8 : Has T (nm 249751956442959616308013463135) spGood) (m1 : HasM T .list (nm 3465715398753) spAppend) : Ct T x_law b_law spLaw := by
  refine ct1 fun vs H Q X h => ?_
  obtain ⟨rfl, hs, h⟩ := h
  replace hs : Scr H := hs
  refine ⟨_, rfl, ?_⟩
  refine s_asg ?_
  walk_at "ev"
  refine ⟨_, rfl, by decide, hs, fun ws p1 H1 hc hp1 hw1 k1 => ?_⟩
  have hH : 1 ≤ H.length := by obtain ⟨is, e⟩ := hs; exact Nat.lt_of_le_of_lt (Nat.zero_le _) (lt_of_get e)
  refine s_asg ?_
  walk_at "ev"
  refine s_list hw1 ?_
  obtain ⟨H2, q2, k2, hh⟩ := new_ob H1 (.list (ws.map .str))
  rw [q2]
  generalize H1.length = p2 at hh
  have hw := hw1.keep k2
  have hl2 := (k1.trans k2).le
  clear hw1 k1 k2 q2
  replace hh : Ws H2 p2 ws := hh
  refine s_asg ?_
  walk_at "ev"
  have tail : ∀ (σ : Sg) (H4 : AHeap) (dv : V), Keep H2 H4 → σ (nm 1970971523313980915569948255) = some dv → σ (nm 32292397438104173501782932616799) = some (.ref p1) → σ (nm 118997990761571808736863) = some (.ref p2) → (¬ Wts ws → dv = .none) → (Wts ws → ∃ F m, Tb ws F ∧ IsW F ws m ∧ dv = .int (m : Nat)) → semS T b_law_5 σ H4 (RQ Q) X := fun σ H4 dv k4 s1 s2 s3 hN hY => by
    have hh4 := hh.keep k4
    have hw4 := hw.keep k4
    refine r_un ?_
    walk_at "ev"
    refine ⟨_, ws, rfl, lt_of_get hh4, hh4, hc, fun hlt p H5 k5 hp => un2 hp ?_, fun hge hW p q H5 k5 hp hq => un2 hp ?_, fun hge hW F m t p H5 hT hmx k5 hL hp => un2 hp ?_⟩
    · refine s_ite ?_
      walk_at "ev"
      refine s_lenl (hw4.keep k5) ?_
      walk_at "ev"
      rw [List.length_map]
      refine if_t (decide_eq_true (by lia)) ?_
      refine r_ret ?_
      walk_at "ev"
      refine if_t (decide_eq_true rfl) ?_
      walk_at "ev"
      refine if_t rfl ?_
      walk_at "ev"
      refine c_eqw (hh4.keep k5) (hw4.keep k5) ?_
      rw [decide_eq_true rfl]
      exact h _
    · refine s_ite ?_
      walk_at "ev"
      refine s_lenl (hw4.keep k5) ?_
      walk_at "ev"
      rw [List.length_map]
      refine if_f (decide_eq_false (by lia)) ?_
      walk_at "ev"
      cases hN hW
      refine s_ite ?_
      walk_at "ev"
      refine if_t rfl ?_
      refine r_ret ?_
      walk_at "ev"
      refine ⟨Nat.le_of_ble_eq_true rfl, ?_⟩
      obtain ⟨H6, q6, k6, g6⟩ := new_ob H5 (.tuple [.str refT, .ref q])
      rw [q6]
      walk_at "ev"
      refine ⟨Nat.le_of_ble_eq_true rfl, ?_⟩
      obtain ⟨H7, q7, k7, g7⟩ := new_ob H6 (.list [.str (Str.mk #[119, 97, 105, 116]).cps.toList])
      rw [q7]
      walk_at "ev"
      refine ⟨Nat.le_of_ble_eq_true rfl, ?_⟩
      obtain ⟨H8, q8, k8, g8⟩ := new_ob H7 (.tuple [.str (Str.mk #[114, 101, 102, 117, 115, 101, 100]).cps.toList, .ref H6.length])
      rw [q8]
      have k58 := k6.trans (k7.trans k8)
      refine .eq (rd_pair ((k7.trans k8).get g6) (hq.keep k58)) (rd_pair (t := refT) (ws := [waitT]) g8 (k8.get g7)) ?_
      rw [eqv_pair]
      walk_at "ev"
      refine c_eqw ((hh4.keep k5).keep k58) ((hw4.keep k5).keep k58) ?_
      rw [decide_eq_true rfl]
      exact h _
    · refine s_ite ?_
      walk_at "ev"
      refine s_lenl (hw4.keep k5) ?_
      walk_at "ev"
      rw [List.length_map]
      refine if_f (decide_eq_false (by lia)) ?_
      walk_at "ev"
      obtain ⟨G, m', hTG, hmG, rfl⟩ := hY hW
      obtain rfl := IsW.uniq hT hTG hmx hmG
      refine s_ite ?_
      walk_at "ev"
      refine if_f rfl ?_
      walk_at "ev"
      refine s_ite ?_
      walk_at "ev"
      refine if_f rfl ?_
      walk_at "ev"
      refine ⟨t, p1, m, ws, H4, rfl, hL, hw4.keep k5, hc, fun H6 k6 => ?_⟩
      walk_at "ev"
      refine if_f rfl ?_
      walk_at "ev"
      replace hL := hL.keep k6
      replace k5 := k5.trans k6
      clear hp
      obtain ⟨a, b, w, u, p, q, ht, hla, ha, _, hr, _⟩ := hL
      refine s_exp (e_meth ?_)
      walk_at "ev"
      refine b_att (k := 0) ht rfl ?_
      refine mth (kind_l ha) m1 (l1 ?_)
      walk_at "ev"
      have hla4 : H2.length ≤ a := Nat.le_trans k4.le hla
      refine s_push (by lia) ha (Nat.lt_of_le_of_lt hr.len (by decide)) ?_
      have k7 : Keep H2 (H6.set a (.list ((w :: p).map .str ++ [.str []]))) := (k4.trans k5).set hla4
      generalize H6.set a (.list ((w :: p).map .str ++ [.str []])) = H7 at k7
      refine s_asg ?_
      walk_at "ev"
      refine ⟨_, ws, rfl, lt_of_get (hh.keep k7), hh.keep k7, hc, (fun z => absurd z (by lia)), (fun _ z => absurd hW z), fun _ _ F2 m2 t2 p2 H8 hT2 hm2 k8 hL2 hp2 => ?_⟩
      obtain rfl := IsW.uniq hT hT2 hmx hm2
      replace k8 := k7.trans k8
      refine r_ret ?_
      walk_at "ev"
      refine b_att (k := 0) hp2 rfl ?_
      walk_at "ev"
      refine if_t (decide_eq_true rfl) ?_
      walk_at "ev"
      refine b_att (k := 1) hp2 rfl ?_
      walk_at "ev"
      refine ⟨t2, p1, m, ws, _, rfl, hL2, hw.keep k8, hc, fun H9 k9 => ?_⟩
      replace k8 := k8.trans k9
      walk_at "ev"
      refine c_eqw (hh.keep k8) (hw.keep k8) ?_
      rw [decide_eq_true rfl]
      walk_at "ev"
      refine ⟨_, ws, rfl, lt_of_get (hh.keep k8), hh.keep k8, hc, fun F3 m3 H10 _ hT3 hm3 k10 => ?_, fun z => absurd hW z⟩
      obtain rfl := IsW.uniq hT hT3 hmx hm3
      walk_at "ev"
      rw [decide_eq_true rfl]
      exact h _
  refine ⟨p1, ws, rfl, lt_of_get hw, hw, hc, fun F m H3 hW hT hmx k3 => ?_, fun hW H3 k3 => ?_⟩
  · refine s_asg ?_
    walk_at "ev"
    refine ⟨p2, ws, rfl, lt_of_get (hh.keep k3), hh.keep k3, hc, fun G m' H4 _ hTG hmG k4 => ?_, fun z => absurd hW z⟩
    obtain rfl := IsW.uniq hT hTG hmx hmG
    refine s_ite ?_
    walk_at "ev"
    refine if_f rfl ?_
    walk_at "ev"
    refine if_t rfl ?_
    walk_at "ev"
    refine ⟨_, rfl, ?_⟩
    walk_at "ev"
    refine if_f rfl ?_
    walk_at "ev"
    rw [decide_eq_true rfl]
    walk_at "ev"
    exact tail _ _ (.int m) (k3.trans k4) (by walk_at "nm") (by walk_at "nm") (by walk_at "nm") (fun z => absurd hW z) fun _ => ⟨F, m, hT, hmx, rfl⟩
  · refine s_asg ?_
    walk_at "ev"
    refine ⟨p2, ws, rfl, lt_of_get (hh.keep k3), hh.keep k3, hc, fun G m' H4 z => absurd z hW, fun _ H4 k4 => ?_⟩
    refine s_ite ?_
    walk_at "ev"
    refine if_t rfl ?_
    walk_at "ev"
    refine if_f rfl ?_
    walk_at "ev"
    refine if_f rfl ?_
    walk_at "ev"
    exact tail _ _ .none (k3.trans k4) (by walk_at "nm") (by walk_at "nm") (by walk_at "nm") (fun _ => rfl) fun z => absurd z hW
end
end Mine
end
section
namespace Mine
open PySem PyProof.Rows PySem.W
section
variable {prog : Program} {w : World} {s : Shared} {p : Program} {loose : List Str} {mean : ExcName → Option Value} {mg mb : Str → Option Value} (T : Top p loose mean mg mb s.heap)
theorem constI {x : Str} {i : Int} (h : valOf p x = some (.int i)) : ConstAt (cxOf prog w s T) x (.int i) := by
  obtain ⟨v, h1, h2⟩ := T.const x _ h
  have h3 := h2 s.heap
  cases h3
  exact ⟨_, by show gOf mg mb x = _; unfold gOf; rw [h1], fun ρ => ⟨_, rfl⟩⟩
theorem constS {x w' : Str} (h : valOf p x = some (.str w')) (ok : okT w'.cps.toList = true) : ConstAt (cxOf prog w s T) x (.str w'.cps.toList) := by
  obtain ⟨v, h1, h2⟩ := T.const x _ h
  have h3 := h2 s.heap
  cases h3
  exact ⟨_, by show gOf mg mb x = _; unfold gOf; rw [h1], fun ρ => ⟨ok, _, rfl⟩⟩
end
end Mine
end
section
namespace Mine
open PySem PyProof.Rows
theorem add_add (T : Tab) (f : Str) (sp sp' : Spec) : (T.add f sp).add f sp' = T.add f sp' := by
  have h1 : ∀ {α : Type 1} (a b : α) (k : Str → α), (fun g => if g = f then a else if g = f then b else k g) = fun g => if g = f then a else k g := fun a b k => funext fun g => by
    by_cases h : g = f
    · rw [if_pos h, if_pos h]
    · rw [if_neg h, if_neg h, if_neg h]
  have h2 : ∀ {α : Type} (a b : α) (k : Str → α), (fun g => if g = f then a else if g = f then b else k g) = fun g => if g = f then a else k g := fun a b k => funext fun g => by
    by_cases h : g = f
    · rw [if_pos h, if_pos h]
    · rw [if_neg h, if_neg h, if_neg h]
  unfold Tab.add
  simp only [h1, h2]
theorem TabOk.recF {C : Cx} {T : Tab} {K s : Nat} {l : List (Nat × Spec)} {xs : List Str} {ps : PS} {sp : Nat → Spec} (h : TabOk C (tabE T l) K) (hd : DefAt C (nm s) xs ps) (h0 : ∀ vs H Q X, ¬ sp 0 vs H Q X) (hs : ∀ n, Ct (tabE T ((s, sp n) :: l)) xs ps (sp (n + 1))) : ∀ n, TabOk C (tabE T ((s, sp n) :: l)) (K + 1 + n)
  | 0 => h.ent hd fun vs H Q X z => (h0 vs H Q X z).elim
  | n + 1 => by
    have t := (TabOk.recF h hd h0 hs n).ent hd (hs n)
    rw [show tabE T ((s, sp (n + 1)) :: (s, sp n) :: l) = tabE T ((s, sp (n + 1)) :: l) from add_add _ _ _ _] at t
    exact t
noncomputable def Th (a : Nat) : Tab := tabE (tabM (tabV (T0 (fun _ => false) (fun _ _ => false) (fun _ _ _ _ _ _ => False)) [(1059527485209827815638, .glob (nm 1059527485209827815638)), (7484321937891833806, .glob (nm 7484321937891833806)), (487352530710722, .glob (nm 487352530710722)), (4014120237006, .glob (nm 4014120237006)), (64623894148134862, .glob (nm 64623894148134862)), (57362821026756558, .glob (nm 57362821026756558)), (27321334740, .glob (nm 27321334740)), (443751641723074, .glob (nm 443751641723074)), (228276934, .glob (nm 228276934)), (447668609953986, .glob (nm 447668609953986))]) []) [(1989854007520408181499524703, spWordsOf a), (938756632654307293673, spIsiE 4014120237006 a)]
theorem th_ok {C : Cx} {ad : Nat → Addr} (hb : ∀ p ∈ biL, C.G p.1 = some p.2) (x : ExAt C ad) (d : DefAt C (nm 1989854007520408181499524703) x_law_words_of b_law_words_of) : ∀ k a s (S : ∀ b o, C.base.get? b = some o → s.heap.get? b = some o), k = (nm 4014120237006) →
    (∃ kk o, C.G k = some (.ref kk) ∧ s.heap.get? a = some o ∧ o.cls = .ref kk) → TabOk (C.hand s S a) (Th a) 1 := by
  rintro k a s S rfl ⟨kk, o, hG, ho, hc⟩
  have g : ∀ i (h : i < biL.length), (C.hand s S a).G (biL[i]).1 = some (biL[i]).2 := fun i h => hb _ (List.getElem_mem h)
  rw [x.g 4014120237006 (by decide)] at hG
  cases hG
  have x' := x.hand S a
  have t : TabOk (C.hand s S a) (tabV (T0 (fun _ => false) (fun _ _ => false) (fun _ _ _ _ _ _ => False)) []) 0 := base_ok hb (fun _ h => nomatch h) (fun _ _ h => nomatch h) (fun _ _ _ _ _ _ h => h.elim)
  replace t := t.entV (ConstAt.glob (n := 447668609953986) (x'.g _ (by decide)))
  replace t := t.entV (ConstAt.glob (n := 228276934) (x'.g _ (by decide)))
  replace t := t.entV (ConstAt.glob (n := 443751641723074) (x'.g _ (by decide)))
  replace t := t.entV (ConstAt.glob (n := 27321334740) (x'.g _ (by decide)))
  replace t := t.entV (ConstAt.glob (n := 57362821026756558) (x'.g _ (by decide)))
  replace t := t.entV (ConstAt.glob (n := 64623894148134862) (x'.g _ (by decide)))
  replace t := t.entV (ConstAt.glob (n := 4014120237006) (x'.g _ (by decide)))
  replace t := t.entV (ConstAt.glob (n := 487352530710722) (x'.g _ (by decide)))
  replace t := t.entV (ConstAt.glob (n := 7484321937891833806) (x'.g _ (by decide)))
  replace t := t.entV (ConstAt.glob (n := 1059527485209827815638) (g 16 (by decide)))
  replace t : TabOk (C.hand s S a) (tabM (tabV (T0 (fun _ => false) (fun _ _ => false) (fun _ _ _ _ _ _ => False)) _) []) 0 := t
  replace t : TabOk (C.hand s S a) (tabE (tabM (tabV (T0 (fun _ => false) (fun _ _ => false) (fun _ _ _ _ _ _ => False)) _) []) []) 0 := t
  replace t := t.entB (n := 938756632654307293673) (g 1 (by decide)) (.inl ⟨_, rfl⟩) (fun fs => ok_isiE (C := (C.hand s S a).at fs) (x'.at fs) (g 16 (by decide)) (k := 4014120237006) (by decide) (hand_at ho) hc)
  exact t.ent (d.hand S a) (ct_law_words_of (a := a) (.ent rfl) (gvT rfl rfl) (gvT rfl rfl) (gvT rfl rfl) (gvT rfl rfl) (gvT rfl rfl) (gvT rfl rfl) (gvT rfl rfl) (gvT rfl rfl) (gvT rfl rfl) (gvT rfl rfl))
theorem walk11 {C : Cx} {ad : Nat → Addr} (hb : ∀ p ∈ biL, C.G p.1 = some p.2) (hc : C.calm) (x : ExAt C ad) (xc : ExcCls C (nm 4014120237006)) (d0 : DefAt C (nm 1989854007520408181499524703) x_law_words_of b_law_words_of) (c1 : ConstAt C (nm 367874058560204) (.str az.cps.toList)) (c2 : ConstAt C (nm 771200664775530178509) (.int 10)) (c3 : ConstAt C (nm 770486307810356553677) (.int 12))
    (d1 : DefAt C (nm 487352597740009) x_is_sign b_is_sign) (d2 : DefAt C (nm 443751708752361) x_is_word b_is_word) (d3 : DefAt C (nm 443303916565603) x_checked b_checked) (d4 : DefAt C (nm 452440421413612) x_left_of b_left_of) (d5 : DefAt C (nm 3463326495859) x_shared b_shared) (d6 : DefAt C (nm 443305286007411) x_stepped b_stepped) (d7 : DefAt C (nm 29774967522) x_begun b_begun) (d8 : DefAt C (nm 487624762177511) x_gone_on b_gone_on) (d9 : DefAt C (nm 135527429768205915927275) x_kept_better b_kept_better) (d10 : DefAt C (nm 1651436) x_led b_led) (d11 : DefAt C (nm 8774559802307801832) x_height_by b_height_by) (d12 : DefAt C (nm 929676333464757467625) x_is_settled b_is_settled) (d13 : DefAt C (nm 443304220898035) x_settled b_settled) (d14 : DefAt C (nm 509789213455080) x_heights b_heights) (d15 : DefAt C (nm 31379191905) x_apart b_apart) (d16 : DefAt C (nm 245002487) x_wait b_wait) (d17 : DefAt C (nm 29779293299) x_shown b_shown) (d18 : DefAt C (nm 213725420) x_late b_late) (d19 : DefAt C (nm 513532042442335) x_law_at b_law_at) (d20 : DefAt C (nm 929683040243566540383) x_law_mixed b_law_mixed) (d21 : DefAt C (nm 939405744834656892511) x_law_whole b_law_whole) (d22 : DefAt C (nm 1068672569199679796831) x_law_signs b_law_signs) (d23 : DefAt C (nm 7270427996206954079) x_law_word b_law_word) (d24 : DefAt C (nm 1951640654478162685372954207) x_law_any_word b_law_any_word) (d25 : DefAt C (nm 7342485246647498335) x_law_more b_law_more) (d26 : DefAt C (nm 1022192038397693425247) x_law_chain b_law_chain) (d27 : DefAt C (nm 1067958212234506171999) x_law_words b_law_words) (d28 : DefAt C (nm 141522465716837597869663) x_law_is_row b_law_is_row) (d29 : DefAt C (nm 118998992280703227950687) x_law_shared b_law_shared) (d30 : DefAt C (nm 57375978463721055) x_law_due b_law_due) (d31 : DefAt C (nm 7343549539543447135) x_law_late b_law_late) (d32 : DefAt C (nm 249751956442959616308013463135) x_law_late_good b_law_late_good) : ∃ T, TabOk C T 165 ∧ Ct T x_law b_law spLaw := by
  have g : ∀ i (h : i < biL.length), C.G (biL[i]).1 = some (biL[i]).2 := fun i h => hb _ (List.getElem_mem h)
  have t : TabOk C (tabV (T0 (fun c => decide (c = (nm 4014120237006))) (fun k c => decide (k = (nm 4014120237006)) && decide (c = (nm 8277558478201501635))) (fun k a pe σ H Q => k = (nm 4014120237006) ∧ (sem (Th a) pe).ev σ H Q fun _ _ => False)) []) 1 :=
    base_ok hb (fun c h => ⟨hc, by rw [of_decide_eq_true h]; exact xc⟩) (fun k c h => by
      obtain ⟨h1, h2⟩ := Bool.and_eq_true_iff.mp h
      rw [of_decide_eq_true h1, of_decide_eq_true h2]
      exact x.caught (by decide)) (hev_ok (Th := fun _ a => Th a) (P := fun k => k = (nm 4014120237006)) (th_ok hb x d0))
  replace t := ((t.entV c1).entV c2).entV c3
  replace t := t.entV (ConstAt.glob (n := 1882739) (g 14 (by decide)))
  replace t := t.entV (ConstAt.glob (n := 1914729) (g 13 (by decide)))
  replace t := t.entV (ConstAt.glob (n := 228325346) (g 15 (by decide)))
  replace t := t.entV (ConstAt.glob (n := 27340323572) (g 12 (by decide)))
  replace t : TabOk C (tabM (tabV (T0 _ _ _) _) []) 1 := t
  replace t := t.entM (k := .str) (n := 232421354) (fun _ => ok_join) get_join
  replace t := t.entM (k := .list) (n := 3465715398753) (fun _ => ok_append) get_append
  replace t := t.entM (k := .dict) (n := 1913575) (fun _ => ok_get) get_get
  replace t : TabOk C (tabE (tabM (tabV (T0 _ _ _) _) _) []) 1 := t
  replace t := t.entB (n := 1815276) (g 0 (by decide)) (.inl ⟨_, rfl⟩) (fun fs => ok_len)
  replace t := t.entB (n := 938756632654307293673) (g 1 (by decide)) (.inl ⟨_, rfl⟩) (fun fs => ok_isi (C := C.at fs) (g 14 (by decide)) (g 11 (by decide)) (g 12 (by decide)) (g 10 (by decide)) (g 13 (by decide)) (g 15 (by decide)))
  replace t := t.entB (n := 1815789) (g 2 (by decide)) (.inl ⟨_, rfl⟩) (fun fs => ok_min (C := C.at fs) hc)
  replace t := t.entB (n := 1978605) (g 3 (by decide)) (.inl ⟨_, rfl⟩) (fun fs => ok_max (C := C.at fs) hc)
  replace t := t.entB (n := 1783393) (g 5 (by decide)) (.inl ⟨_, rfl⟩) (fun fs => ok_all (C := C.at fs) hc)
  replace t := t.entB (n := 3463330969587) (g 6 (by decide)) (.inl ⟨_, rfl⟩) (fun fs => ok_sorted (C := C.at fs) hc)
  replace t := t.entB (n := 245167340) (g 11 (by decide)) (.inr (.inl ⟨_, rfl⟩)) (fun fs => ok_list_call)
  replace t := t.entB (n := 244905188) (g 10 (by decide)) (.inr (.inl ⟨_, rfl⟩)) (fun fs => ok_dict (C := C.at fs) hc)
  replace t := t.ent d1 (ct_is_sign (.ent rfl) (.ent rfl) (gvT rfl rfl) (gvT rfl rfl))
  replace t := t.ent d2 (ct_is_word (.ent rfl) (.ent rfl) (.ent rfl) (.ent rfl) (gvT rfl rfl) (gvT rfl rfl))
  replace t := t.ent d3 (ct_checked (.ent rfl) (.ent rfl) (.ent rfl) (.met rfl) (.ent rfl) (Has.ent (sp := spList) rfl).gv (gvT rfl rfl))
  replace t := t.ent d4 (ct_left_of (.ent rfl))
  replace t := t.ent d5 (ct_shared (.ent rfl) (.ent rfl))
  replace t := t.ent d6 (ct_stepped (.ent rfl))
  replace t := t.ent d7 (ct_begun (.ent rfl) (.ent rfl) (.met rfl))
  replace t := t.ent d8 (ct_gone_on (.ent rfl) (.ent rfl))
  replace t := t.ent d9 (ct_kept_better)
  replace t := t.ent d10 (ct_led (.ent rfl) (.ent rfl) (.ent rfl) (.ent rfl))
  replace t := t.ent d11 (ct_height_by (.ent rfl) (.ent rfl) (.ent rfl) (.ent rfl))
  replace t := t.ent d12 (ct_is_settled (.ent rfl) (.ent rfl))
  replace t := t.ent d13 (ct_settled (.ent rfl) (.ent rfl) (.ent rfl) (.ent rfl))
  replace t := t.ent d14 (ct_heights ⟨(nm 4014120237006), by show decide ((nm 4014120237006) = (nm 4014120237006)) = true; exact decide_eq_true rfl⟩ (.ent rfl) (.ent rfl) (.ent rfl) (.ent rfl) (.met rfl))
  replace t := t.ent d15 (ct_apart ⟨(nm 4014120237006), by show decide ((nm 4014120237006) = (nm 4014120237006)) = true; exact decide_eq_true rfl⟩ (.ent rfl) (.ent rfl) (.ent rfl) (.met rfl))
  replace t := t.ent d16 (ct_wait (.ent rfl) (.ent rfl) (.ent rfl) (.ent rfl) (.ent rfl) (.ent rfl) (.ent rfl))
  replace t := t.recF (sp := spShown) d17 (fun _ _ _ _ h => h.1 rfl) (fun n => ct_shown (.ent rfl) (.ent rfl) (.ent rfl) (.ent rfl)) 132
  replace t := t.ent d18 (ct_late (.ent rfl) (.ent rfl) (.ent rfl) (.ent rfl) (.ent rfl) (.ent rfl) (.ent rfl) (.ent rfl) (by show decide ((nm 4014120237006) = (nm 4014120237006)) = true; exact decide_eq_true rfl))
  replace t := t.ent d19 (ct_law_at (.ent rfl))
  replace t := t.ent d20 (ct_law_mixed)
  replace t := t.ent d21 (ct_law_whole (.ent rfl) (gvT rfl rfl) (gvT rfl rfl))
  replace t := t.ent d22 (ct_law_signs (.met rfl))
  replace t := t.ent d23 (ct_law_word (.met rfl) (.ent rfl) (.ent rfl))
  replace t := t.ent d24 (ct_law_any_word)
  replace t := t.ent d25 (ct_law_more (.ent rfl) (.ent rfl))
  replace t := t.ent d26 (ct_law_chain (.ent rfl) (.ent rfl) (.ent rfl) (.met rfl) (.ent rfl))
  replace t := t.ent d27 (ct_law_words (.ent rfl) (.ent rfl) (.ent rfl) (.met rfl) (.ent rfl) (.ent rfl) (.ent rfl) (.ent rfl))
  replace t := t.ent d28 (ct_law_is_row (.ent rfl) (Has.ent (sp := spList) rfl).gv (gvT rfl rfl))
  replace t := t.ent d29 (ct_law_shared (.ent rfl) (.ent rfl))
  replace t := t.ent d30 (ct_law_due (.ent rfl) (.ent rfl) (.ent rfl) (.ent rfl) (.ent rfl) (.met rfl))
  replace t := t.ent d31 (ct_law_late (Th := Th) (.ent rfl) (by show (decide ((nm 4014120237006) = (nm 4014120237006)) && decide ((nm 8277558478201501635) = (nm 8277558478201501635))) = true; rw [decide_eq_true rfl, decide_eq_true rfl]; rfl) (fun _ _ _ _ _ h => ⟨rfl, h⟩) (fun _ => .ent rfl))
  replace t := t.ent d32 (ct_law_late_good (.ent rfl) (.ent rfl) (.ent rfl) (.ent rfl) (.met rfl) (gvT rfl rfl))
  exact ⟨_, t, ct_law11 (.ent rfl) (.ent rfl) (.ent rfl) (.ent rfl) (.ent rfl) (.ent rfl) (.ent rfl) (.ent rfl) (.met rfl)⟩
end Mine
end
open PySem PySem.W PyProof.Rows Mine
theorem Mine.hd0 : ∀ w, Lk PySem.Challenge.rw_uf020005_11.row.prog 6570 (lkA PySem.Challenge.rw_uf020005_11.row.prog (Hook.obs exHook)) w = some ((true, true), Hook.val exHook w) := by
  intro w
  kernel_rfl
set_option maxHeartbeats 8000000 in
theorem PySem.Challenge.cw_uf020005_11_holds : PySem.Challenge.rw_uf020005_11.Holds := by
  w_on
  refine holds_law said_well fun said => ?_
  refine holds_open (q := qv) (loose := lv) (Xt := xt) (XP := XL qv []) (Yf := Hook.obs exHook) (Ya := Hook.val exHook) (YP := Hook.says exHook) (N := 6570) (left_tree hd0 hd2 hd1) (Hook.of exHook) (Hook.keeps exHook) (fun s e => xl_of s (Bool.and_eq_true_iff.mp e).1) XL.keeps (by rfl) (by rfl) (by rfl) (fun s e => recFacts_of (Bool.and_eq_true_iff.mp e).2) (by rfl) said (by decide +kernel) ⟨rfl, rfl, rfl, rfl, rfl, by decide +kernel⟩ ?hw ?hc
  case hw => w_witness2
  intro w s₀ s₁ mg mb G Y fa o pm cd doc dV kV ho hd hcd hD hmg hg args vals as hpre hlay hrd hwl hlo
  have hlo' := hlo
  refine Ground.open G ?_
  intro T B D TE TW
  clear B D TE TW hD hcd hd ho G
  wrow_args hpre hlay hrd hwl hlo
  refine enter_call ?_
  rename_i ns _ _ _ _ _ as1 as2 l vs as3 hL ra w1 r0 hI _ hc1 _
  have hl : l ≠ sysModules := by
    have : l ∈ as1 := by cases r0 <;> simp
    exact fun q => by have := hlo' l (List.mem_append_left _ this); rw [q] at this; cases this
  have hb := bi_of (prog := Challenge.rw_uf020005_11.row.prog) (w := w) T (by decide +kernel)
  obtain ⟨ad, hx⟩ := exAt_of (prog := Challenge.rw_uf020005_11.row.prog) (w := w) T Y
  obtain ⟨Tb, hT, hct⟩ := walk11 hb trivial hx (excCls_of T (by kernel_rfl)) (defAt_of T (by kernel_rfl)).1 (constS (w' := az) T (by kernel_rfl) (by decide +kernel)) (constI T (by kernel_rfl)) (constI T (by kernel_rfl)) (defAt_of T (by kernel_rfl)).1 (defAt_of T (by kernel_rfl)).1 (defAt_of T (by kernel_rfl)).1 (defAt_of T (by kernel_rfl)).1 (defAt_of T (by kernel_rfl)).1 (defAt_of T (by kernel_rfl)).1 (defAt_of T (by kernel_rfl)).1 (defAt_of T (by kernel_rfl)).1 (defAt_of T (by kernel_rfl)).1 (defAt_of T (by kernel_rfl)).1 (defAt_of T (by kernel_rfl)).1 (defAt_of T (by kernel_rfl)).1 (defAt_of T (by kernel_rfl)).1 (defAt_of T (by kernel_rfl)).1 (defAt_of T (by kernel_rfl)).1 (defAt_of T (by kernel_rfl)).1 (defAt_of T (by kernel_rfl)).1 (defAt_of T (by kernel_rfl)).1 (defAt_of T (by kernel_rfl)).1 (defAt_of T (by kernel_rfl)).1 (defAt_of T (by kernel_rfl)).1 (defAt_of T (by kernel_rfl)).1 (defAt_of T (by kernel_rfl)).1 (defAt_of T (by kernel_rfl)).1 (defAt_of T (by kernel_rfl)).1 (defAt_of T (by kernel_rfl)).1 (defAt_of T (by kernel_rfl)).1 (defAt_of T (by kernel_rfl)).1 (defAt_of T (by kernel_rfl)).1 (defAt_of T (by kernel_rfl)).1 (defAt_of T (by kernel_rfl)).1 (defAt_of T (by kernel_rfl)).1
  exact law_done T hT (by decide) (f := nm 1962220) (by kernel_rfl) hct hmg w1 hL hI (by omega) hl hg (fun _ => rfl) (by kernel_rfl)
