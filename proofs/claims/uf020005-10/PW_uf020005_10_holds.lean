import PyProof.Rows.All
import PyProof.ListNew
import PyProof.WalksMore
import PyProof.AttrMissHeap
import KE.KDictOf
import PyProof.Conv_int_bool
import Open.Tree
import Wide.All
import Open.Line
import Wide.FinOn
import PySem.Challenge.RW_uf020005_10
set_option Elab.async false
set_option autoImplicit false
set_option linter.unusedVariables false
set_option linter.unusedSimpArgs false
set_option maxRecDepth 100000
section
namespace Mine
open PySem PySem.Calls PyProof.Rows PySem.W
noncomputable def ofL : List Obj → Nat → BT → BT
  | [], _, t => t
  | o :: r, i, t => ofL r (i + 1) (t.ins i o)
theorem ins_some (o : Obj) : ∀ (t : BT) (n : Nat), (∀ i, i < n → (t.get i).isSome = true) → ((t.ins n o).get n).isSome = true
  | .nil, n, h => by
    cases n with
    | zero => rfl
    | succ n => have := h 0 (Nat.succ_pos n); cases this
  | .node v l r, n, h => by
    rw [BT.ins_node]
    by_cases h0 : n = 0
    · rw [if_pos h0, h0]; rfl
    · rw [if_neg h0]
      by_cases h1 : n % 2 = 1
      · rw [if_pos h1, BT.get_node, if_neg h0, if_pos h1]
        refine ins_some o l (n / 2) fun i hi => ?_
        have := h (2 * i + 1) (by lia)
        rwa [BT.get_node, if_neg (by lia), if_pos (by lia), show (2 * i + 1) / 2 = i by lia] at this
      · rw [if_neg h1, BT.get_node, if_neg h0, if_neg h1]
        refine ins_some o r (n / 2 - 1) fun i hi => ?_
        have := h (2 * i + 2) (by lia)
        rwa [BT.get_node, if_neg (by lia), if_neg (by lia), show (2 * i + 2) / 2 - 1 = i by lia] at this
theorem ofL_abs (life : Life) : ∀ (r : List Obj) (n : Nat) (t : BT) (h : Heap), (∀ i, i < n → (t.get i).isSome = true) → absHeap t n life = h → absHeap (ofL r n t) (n + r.length) life = ⟨h.objs ++ r.toArray, life⟩
  | [], n, t, h, _, e => by
    subst e
    show absHeap t n life = _
    rw [show ([] : List Obj).toArray = #[] from rfl, Array.append_empty]
    rfl
  | o :: r, n, t, h, hi, e => by
    have hs := ins_some o t n hi
    have := ofL_abs life r (n + 1) (t.ins n o) (h.push o) (fun i hlt => by
      rw [BT.get_ins o t n hs]
      by_cases q : i = n
      · rw [if_pos q]; rfl
      · rw [if_neg q]; exact hi i (by lia)) (by rw [absHeap_ins hs, e])
    show absHeap (ofL r (n + 1) (t.ins n o)) (n + (r.length + 1)) life = _
    rw [show n + (r.length + 1) = n + 1 + r.length by lia, this]
    show Heap.mk (h.objs.push o ++ r.toArray) life = _
    congr 1
    apply Array.ext'
    simp
noncomputable def treeOf (s : Shared) : SharedT := ⟨ofL s.heap.objs.toList 0 .nil, s.heap.objs.size, s.heap.life, s.gens, s.drawn, s.toks, s.os⟩
theorem treeOf_abs (s : Shared) : (treeOf s).abs = s := by
  obtain ⟨⟨objs, life⟩, gens, drawn, toks, os⟩ := s
  have := ofL_abs life objs.toList 0 .nil ⟨#[], life⟩ (fun i h => absurd h (Nat.not_lt_zero i)) rfl
  rw [Nat.zero_add, Array.length_toList] at this
  show Shared.mk (absHeap (ofL objs.toList 0 .nil) objs.size life) gens drawn toks os = _
  rw [this]
  congr 2
  apply Array.ext'
  simp
noncomputable def topRunT (tb : String → Option Builtin) (p : Program) (w : World) (n₀ : Nat) (ann : Option Value) : Nat → SharedT → Thread → Option SharedT
  | 0, _, _ => none
  | n + 1, s, t => match through t with
    | true => some s
    | false => match stepOk n₀ ann t with
      | false => none
      | true => match stepT (denote tb) p w s t with
        | some (s', t') => topRunT tb p w n₀ ann n s' t'
        | none => none
theorem topRunT_of {tb : String → Option Builtin} {p : Program} {w : World} {n₀ : Nat} {ann : Option Value} : ∀ {n : Nat} {s s' : SharedT} {t : Thread}, topRunT tb p w n₀ ann n s t = some s' → topRun tb p w n₀ ann n s.abs t = some s'.abs
  | 0, _, _, _, h => by cases h
  | n + 1, s, s', t, h => by
    unfold topRunT at h
    unfold topRun
    cases ht : through t with
    | true => rw [ht] at h; cases h; rfl
    | false =>
      rw [ht] at h
      cases hk : stepOk n₀ ann t with
      | false => rw [hk] at h; cases h
      | true =>
        rw [hk] at h
        cases hs : stepT (denote tb) p w s t with
        | none => rw [hs] at h; cases h
        | some r => obtain ⟨s₂, t₂⟩ := r; rw [hs] at h; dsimp only; rw [stepT_spec hs]; exact topRunT_of h
noncomputable def Lk {β : Type} (p : Program) (N : Nat) (f : Shared → Shared → β) (w : World) : Option β :=
  (fencedOpening treeTable p w N).bind fun s₀ => (topRunT treeTable p w s₀.heap.objs.size (s₀.heap.nsMap mainGlobals "__annotations__") N (treeOf s₀) (topStub p)).map fun s => f s₀ s.abs
noncomputable def lkA {α : Type} (p : Program) (Yf : Shared → α) (s₀ s : Shared) : (Bool × Bool) × α :=
  ((s₀.heap.isNs mainGlobals && s₀.gens.size == 0, staticsOk (importedModules p.main.body) s₀.heap s.heap && namesBound p s.heap && gensDone s && laidKept s₀.heap s.heap), Yf s)
theorem left_tree {p q : Program} {loose : List Str} {Xt : Shared → Bool} {α : Type} {Yf : Shared → α} {Ya : World → α} {N : Nat} {g0 : Bool}
    (h1 : ∀ w, Lk p N (lkA p Yf) w = some ((true, true), Ya w))
    (h2 : ∀ w, Lk p N (fun _ s => (openSeen q loose (importedModules p.main.body) Xt g0 s).2) w = some (openGood q loose).2)
    (h3 : ∀ w, Lk p N (fun _ s => (openSeen q loose (importedModules p.main.body) Xt g0 s).1) w = some (openGood q loose).1) : LeftO p q loose Xt Yf Ya N g0 := fun w => by
  have k1 := h1 w
  have k2 := h2 w
  have k3 := h3 w
  unfold Lk at k1 k2 k3
  obtain ⟨s₀, e, e'⟩ := Option.bind_eq_some_iff.mp k1
  obtain ⟨s, r, e3⟩ := Option.map_eq_some_iff.mp e'
  rw [e, Option.bind_some, r, Option.map_some] at k2 k3
  injection k2 with k2
  injection k3 with k3
  unfold lkA at e3
  obtain ⟨e4, e5⟩ := Prod.mk.inj e3
  obtain ⟨e1, l1⟩ := Prod.mk.inj e4
  have r := topRunT_of r
  rw [treeOf_abs] at r
  have t : topFrom treeTable p w N s₀ = some s.abs := by
    unfold topFrom
    rw [e1]
    dsimp only
    rw [r]
    show (match staticsOk (importedModules p.main.body) s₀.heap s.abs.heap && namesBound p s.abs.heap && gensDone s.abs && laidKept s₀.heap s.abs.heap with | true => _ | false => _) = _
    rw [l1]
  unfold openEnds
  rw [e]
  show (topFrom treeTable p w N s₀).map _ = _
  rw [t]
  exact congrArg some (Prod.ext (Prod.ext k3 k2) e5)
end Mine
end
section
namespace Mine
open PySem PySem.Calls PyProof.Rows PySem.W
noncomputable def qv : Program := view PySem.Challenge.rw_uf020005_10.row.prog [7, 8, 9, 10, 11, 12, 13, 14, 16, 17, 18, 19, 20, 21, 23, 24, 25, 26, 28, 29, 30, 31, 32, 33, 34, 35, 36, 37, 38, 39, 40]
noncomputable def lv : List Str := ["CodeError", "BadCode", "Full", "BadWord", "Twice"]
noncomputable def xt : Shared → Bool := fun s => xlAt qv [] s && recOk (RowW.records (OpenRow.toRowW PySem.Challenge.rw_uf020005_10.row)) s
set_option maxHeartbeats 8000000 in
theorem said_well : PySem.Challenge.rw_uf020005_10.wellSaid = true := by
  unfold OpenLaw.wellSaid OpenRow.wellSaid OpenRow.partSaid looksOpen
  repeat' with_reducible refine look_both ?_ ?_
  all_goals decide +kernel
theorem hd2 : ∀ w, Lk PySem.Challenge.rw_uf020005_10.row.prog 4062 (fun _ s => (openSeen qv lv (importedModules PySem.Challenge.rw_uf020005_10.row.prog.main.body) xt true s).2) w = some (openGood qv lv).2 := by
  intro w
  kernel_rfl
theorem hd1 : ∀ w, Lk PySem.Challenge.rw_uf020005_10.row.prog 4062 (fun _ s => (openSeen qv lv (importedModules PySem.Challenge.rw_uf020005_10.row.prog.main.body) xt true s).1) w = some (openGood qv lv).1 := by
  intro w
  kernel_rfl
end Mine
end
section
namespace Mine
open PySem
abbrev Txt := List Nat
inductive V where
  | none
  | bool (b : Bool)
  | int (i : Int)
  | str (t : Txt)
  | ref (n : Nat)
  | glob (g : Str)
  deriving DecidableEq
set_option genSizeOf false in
inductive AObj where
  | list (xs : List V)
  | tuple (xs : List V)
  | dict (es : List (Txt × V)) (ep : Nat)
abbrev AHeap := List AObj
abbrev Sg := Str → Option V
noncomputable def Sg.set (σ : Sg) (x : Str) (v : V) : Sg := fun y => if y = x then some v else σ y
noncomputable def Sg.sets (σ : Sg) : List (Str × V) → Sg
  | [] => σ
  | (x, v) :: r => (σ.set x v).sets r
set_option genSizeOf false in
inductive Tgt where
  | name (x : Str)
  | tup (xs : List Str)
set_option genSizeOf false in
set_option genInjectivity false in
inductive PE where
  | name (x : Str)
  | glob (x : Str)
  | none
  | bool (b : Bool)
  | int (i : Int)
  | str (x : Str)
  | bin (op : Operator) (l r : PE)
  | cmp1 (op : CmpOp) (l r : PE)
  | cmp2 (o1 o2 : CmpOp) (a b c : PE)
  | and (l r : PE)
  | or (l r : PE)
  | not (e : PE)
  | neg (e : PE)
  | call (f : PE) (args : PE)
  | meth (o : PE) (m : Str) (args : PE)
  | sub (o i : PE)
  | slice (o lo hi : PE)
  | list (es : PE)
  | tuple (es : PE)
  | dict0
  | comp0 (elt : PE) (t : Tgt) (it : PE)
  | comp1 (elt : PE) (t : Tgt) (it : PE) (cond : PE)
  | nil
  | cons (h t : PE)
  | itVal (e : PE)
  | itRange1 (hi : PE)
  | itRange2 (lo hi : PE)
set_option genSizeOf false in
set_option genInjectivity false in
inductive PS where
  | skip
  | seq (a b : PS)
  | assign (t : Tgt) (e : PE)
  | setItem (o i e : PE)
  | expr (e : PE)
  | ite (c : PE) (a b : PS)
  | for_ (t : Tgt) (it : PE) (body : PS)
  | while_ (c : PE) (body : PS)
  | ret (e : PE)
  | raise
  | brk
set_option genSizeOf false in
inductive Fl where
  | next | brk | ret (v : V)
set_option genSizeOf false in
inductive Item where
  | one (v : V)
abbrev VPost := V → AHeap → Prop
abbrev XPost := Str → AHeap → Prop
abbrev Spec := List V → AHeap → VPost → XPost → Prop
inductive MK where
  | str | list | dict
  deriving DecidableEq
noncomputable def kindA (v : V) (H : AHeap) : Option MK := match v with
  | .str _ => some .str
  | .ref n => (match H[n]? with
    | some (.list _) => some .list
    | some (.dict _ _) => some .dict
    | _ => none)
  | _ => none
set_option genSizeOf false in
set_option genInjectivity false in
structure Tab where
  gv : Str → Option V
  fn : Str → Spec
  has : MK → Str → Bool
  mt : MK → Str → Spec
noncomputable def truthyA : V → Option Bool
  | .none => some false
  | .bool b => some b
  | .int i => some (i != 0)
  | .str t => some (!t.isEmpty)
  | _ => Option.none
abbrev lid : Nat := 1000000
noncomputable def okT (t : Txt) : Bool := decide (t.length ≤ lid) && t.all fun c => decide (c < 1114112)
noncomputable def rdL (f : V → Option PyData) : List V → Option (List PyData)
  | [] => some []
  | v :: r => (f v).bind fun d => (rdL f r).map fun ds => d :: ds
noncomputable def rdO (f : V → Option PyData) : AObj → Option PyData
  | .list xs => (rdL f xs).map .list
  | .tuple xs => (rdL f xs).map .tuple
  | .dict _ _ => none
noncomputable def rdV (f : Nat → Option PyData) : V → Option PyData
  | .none => some .none
  | .bool b => some (.bool b)
  | .int i => some (.int i)
  | .str t => some (.str ⟨t.toArray⟩)
  | .ref a => f a
  | .glob _ => none
noncomputable def rd (H : AHeap) : Nat → V → Option PyData
  | 0, v => rdV (fun _ => none) v
  | n + 1, v => rdV (fun a => H[a]?.bind (rdO (rd H n))) v
noncomputable def SameD (H : AHeap) (es fs : List (Txt × V)) : Prop := es.length = fs.length ∧ ∀ e ∈ es, ∃ f d, fs.find? (fun x => x.1 == e.1) = some f ∧ rd H 0 e.2 = some d ∧ rd H 0 f.2 = some d
inductive CmpA (H : AHeap) (q : Bool → Prop) : CmpOp → V → V → Prop
  | eq {a b x y} : rd H 6 a = some x → rd H 6 b = some y → q (PyData.eqv x y) → CmpA H q .Eq a b
  | ne {a b x y} : rd H 6 a = some x → rd H 6 b = some y → q (!PyData.eqv x y) → CmpA H q .NotEq a b
  | is {a} : q (decide (a = .none)) → CmpA H q .Is a .none
  | isn {a} : q (!decide (a = .none)) → CmpA H q .IsNot a .none
  | lt {i j} : q (decide (i < j)) → CmpA H q .Lt (.int i) (.int j)
  | le {i j} : q (decide (i ≤ j)) → CmpA H q .LtE (.int i) (.int j)
  | gt {i j} : q (decide (i > j)) → CmpA H q .Gt (.int i) (.int j)
  | ge {i j} : q (decide (i ≥ j)) → CmpA H q .GtE (.int i) (.int j)
  | inS {c u} : q (decide (c ∈ u)) → CmpA H q .In (.str [c]) (.str u)
  | inL {a n ds d} : rd H 6 (.ref n) = some (.list ds) → rd H 6 a = some d → q (ds.any fun x => PyData.eqv x d) → CmpA H q .In a (.ref n)
  | inD {k n es ep} : H[n]? = some (.dict es ep) → q (es.any fun e => e.1 == k) → CmpA H q .In (.str k) (.ref n)
  | ninL {a n ds d} : rd H 6 (.ref n) = some (.list ds) → rd H 6 a = some d → q (!(ds.any fun x => PyData.eqv x d)) → CmpA H q .NotIn a (.ref n)
  | ninD {k n es ep} : H[n]? = some (.dict es ep) → q (!(es.any fun e => e.1 == k)) → CmpA H q .NotIn (.str k) (.ref n)
  | eqD {n m es fs ep ep'} : H[n]? = some (.dict es ep) → H[m]? = some (.dict fs ep') → SameD H es fs → q true → CmpA H q .Eq (.ref n) (.ref m)
  | neD {n m es fs ep ep'} : H[n]? = some (.dict es ep) → H[m]? = some (.dict fs ep') → SameD H es fs → q false → CmpA H q .NotEq (.ref n) (.ref m)
abbrev cmpA (op : CmpOp) (a b : V) (H : AHeap) (q : Bool → Prop) : Prop := CmpA H q op a b
inductive BinA (H : AHeap) (Q : VPost) : Operator → V → V → Prop
  | add {i j} : Q (.int (i + j)) H → BinA H Q .Add (.int i) (.int j)
  | sub {i j} : Q (.int (i - j)) H → BinA H Q .Sub (.int i) (.int j)
  | mul {i j} : (i.natAbs < 2 ^ 63 ∨ j.natAbs < 2 ^ 63) → Q (.int (i * j)) H → BinA H Q .Mult (.int i) (.int j)
  | div {i j} : 0 < j → j < 1073741824 → Q (.int (i / j)) H → BinA H Q .FloorDiv (.int i) (.int j)
  | mod {i j} : 0 < j → Q (.int (i % j)) H → BinA H Q .Mod (.int i) (.int j)
  | cat {t u} : t.length + u.length ≤ lid → Q (.str (t ++ u)) H → BinA H Q .Add (.str t) (.str u)
  | lcat {m n xs ys} : H[m]? = some (.list xs) → H[n]? = some (.list ys) → xs.length + ys.length ≤ lid → Q (.ref H.length) (H ++ [.list (xs ++ ys)]) → BinA H Q .Add (.ref m) (.ref n)
abbrev binA (op : Operator) (a b : V) (H : AHeap) (Q : VPost) : Prop := BinA H Q op a b
inductive Pl (n : Nat) : Int → Nat → Prop
  | pos {k : Int} : 0 ≤ k → k < n → Pl n k k.toNat
  | neg {k : Int} : k < 0 → -(n : Int) ≤ k → Pl n k (k + n).toNat
inductive SubA (H : AHeap) (q : V → Prop) : V → V → Prop
  | str {t k j} : Pl t.length k j → q (.str ((t.drop j).take 1)) → SubA H q (.str t) (.int k)
  | list {n k xs j v} : H[n]? = some (.list xs) → Pl xs.length k j → xs[j]? = some v → q v → SubA H q (.ref n) (.int k)
  | tuple {n k xs j v} : H[n]? = some (.tuple xs) → Pl xs.length k j → xs[j]? = some v → q v → SubA H q (.ref n) (.int k)
  | dict {n k es ep e} : H[n]? = some (.dict es ep) → es.find? (fun e => e.1 == k) = some e → q e.2 → SubA H q (.ref n) (.str k)
abbrev subA (o i : V) (H : AHeap) (q : V → Prop) : Prop := SubA H q o i
noncomputable def cut {α : Type} (xs : List α) (lo hi : Nat) : List α := (xs.take hi).drop lo
inductive Bd (n d : Nat) : V → Nat → Prop
  | none : Bd n d .none d
  | int {i} : Bd n d (.int i) (clipAt n i)
inductive SliceA (H : AHeap) (Q : VPost) : V → V → V → Prop
  | str {t l h i j} : Bd t.length 0 l i → Bd t.length t.length h j → Q (.str (cut t i j)) H → SliceA H Q (.str t) l h
  | list {n xs l h i j} : H[n]? = some (.list xs) → Bd xs.length 0 l i → Bd xs.length xs.length h j → Q (.ref H.length) (H ++ [.list (cut xs i j)]) → SliceA H Q (.ref n) l h
abbrev sliceA (o lo hi : V) (H : AHeap) (Q : VPost) : Prop := SliceA H Q o lo hi
inductive ItemsA (H : AHeap) (q : List Item → (AHeap → Prop) → Prop) : V → Prop
  | str {t} : q (t.map fun c => .one (.str [c])) (fun _ => True) → ItemsA H q (.str t)
  | list {n xs} : H[n]? = some (.list xs) → q (xs.map .one) (fun H' => H'[n]? = some (.list xs)) → ItemsA H q (.ref n)
  | tuple {n xs} : H[n]? = some (.tuple xs) → q (xs.map .one) (fun H' => H'[n]? = some (.tuple xs)) → ItemsA H q (.ref n)
  | dict {n es ep} : H[n]? = some (.dict es ep) → q (es.map fun e => .one (.str e.1)) (fun H' => H'[n]? = some (.dict es ep)) → ItemsA H q (.ref n)
abbrev itemsA (v : V) (H : AHeap) (q : List Item → (AHeap → Prop) → Prop) : Prop := ItemsA H q v
noncomputable def bindA (t : Tgt) (x : Item) (H : AHeap) (σ : Sg) : Option Sg := match x with
  | .one v => (match t with
    | .name y => some (σ.set y v)
    | .tup ys => (match v with
      | .ref n => (match H[n]? with
        | some (.tuple vs) => if ys.length = vs.length then some (σ.sets (ys.zip vs)) else Option.none
        | _ => Option.none)
      | _ => Option.none))
noncomputable def intsFrom (a : Int) (n : Nat) : List Int := (List.range n).map fun i => a + (i : Nat)
noncomputable def compGo (K : AHeap → Prop) (bind : Item → AHeap → Option Sg) (test : Sg → AHeap → (Bool → AHeap → Prop) → Prop) (elt : Sg → AHeap → VPost → Prop) (Q : List V → AHeap → Prop) : List Item → List V → AHeap → Prop
  | [], acc, H => K H ∧ Q acc H
  | x :: xs, acc, H => K H ∧ match bind x H with
    | some σ => test σ H fun b H1 => if b then elt σ H1 fun v H2 => compGo K bind test elt Q xs (acc ++ [v]) H2 else compGo K bind test elt Q xs acc H1
    | Option.none => False
set_option genSizeOf false in
set_option genInjectivity false in
structure Me where
  ev : Sg → AHeap → VPost → XPost → Prop
  tt : Sg → AHeap → (Bool → AHeap → Prop) → XPost → Prop
  el : Sg → AHeap → (List V → AHeap → Prop) → XPost → Prop
  it : Sg → AHeap → (List Item → (AHeap → Prop) → AHeap → Prop) → XPost → Prop
noncomputable def Me.ofEv (ev : Sg → AHeap → VPost → XPost → Prop) : Me where
  ev := ev
  tt := fun σ H q X => ev σ H (fun v H1 => match truthyA v with | some b => q b H1 | Option.none => False) X
  el := fun _ _ _ _ => False
  it := fun _ _ _ _ => False
noncomputable def Me.ofEl (el : Sg → AHeap → (List V → AHeap → Prop) → XPost → Prop) : Me := ⟨fun _ _ _ _ => False, fun _ _ _ _ => False, el, fun _ _ _ _ => False⟩
noncomputable def Me.ofIt (i : Sg → AHeap → (List Item → (AHeap → Prop) → AHeap → Prop) → XPost → Prop) : Me := ⟨fun _ _ _ _ => False, fun _ _ _ _ => False, fun _ _ _ _ => False, i⟩
noncomputable def sem (T : Tab) : PE → Me
  | .name x => .ofEv fun σ H Q _ => match σ x with | some v => Q v H | Option.none => False
  | .glob g => .ofEv fun _ H Q _ => match T.gv g with | some v => Q v H | Option.none => False
  | .none => .ofEv fun _ H Q _ => Q .none H
  | .bool b => .ofEv fun _ H Q _ => Q (.bool b) H
  | .int i => .ofEv fun _ H Q _ => Q (.int i) H
  | .str x => .ofEv fun _ H Q _ => Q (.str x.cps.toList) H
  | .bin op l r => .ofEv fun σ H Q X => (sem T l).ev σ H (fun a H1 => (sem T r).ev σ H1 (fun b H2 => binA op a b H2 Q) X) X
  | .cmp1 op l r =>
    let go := fun (σ : Sg) (H : AHeap) (q : Bool → AHeap → Prop) (X : XPost) => (sem T l).ev σ H (fun a H1 => (sem T r).ev σ H1 (fun b H2 => cmpA op a b H2 fun c => q c H2) X) X
    { Me.ofEv (fun σ H Q X => go σ H (fun c H2 => Q (.bool c) H2) X) with tt := go }
  | .cmp2 o1 o2 a b c =>
    let go := fun (σ : Sg) (H : AHeap) (q : Bool → AHeap → Prop) (X : XPost) => (sem T a).ev σ H (fun x H1 => (sem T b).ev σ H1 (fun y H2 => cmpA o1 x y H2 fun c1 =>
      if c1 then (sem T c).ev σ H2 (fun z H3 => cmpA o2 y z H3 fun c2 => q c2 H3) X else q false H2) X) X
    { Me.ofEv (fun σ H Q X => go σ H (fun c H2 => Q (.bool c) H2) X) with tt := go }
  | .and l r =>
    { Me.ofEv (fun σ H Q X => (sem T l).ev σ H (fun v H1 => match truthyA v with | some b => if b then (sem T r).ev σ H1 Q X else Q v H1 | Option.none => False) X) with
      tt := fun σ H q X => (sem T l).tt σ H (fun b H1 => if b then (sem T r).tt σ H1 q X else q false H1) X }
  | .or l r =>
    { Me.ofEv (fun σ H Q X => (sem T l).ev σ H (fun v H1 => match truthyA v with | some b => if b then Q v H1 else (sem T r).ev σ H1 Q X | Option.none => False) X) with
      tt := fun σ H q X => (sem T l).tt σ H (fun b H1 => if b then q true H1 else (sem T r).tt σ H1 q X) X }
  | .not e =>
    { Me.ofEv (fun σ H Q X => (sem T e).ev σ H (fun v H1 => match truthyA v with | some b => Q (.bool !b) H1 | Option.none => False) X) with
      tt := fun σ H q X => (sem T e).tt σ H (fun b H1 => q (!b) H1) X }
  | .neg e => .ofEv fun σ H Q X => (sem T e).ev σ H (fun v H1 => match v with | .int i => Q (.int (-i)) H1 | _ => False) X
  | .call f args => .ofEv fun σ H Q X => (sem T f).ev σ H (fun fv H1 => match fv with
      | .glob g => (sem T args).el σ H1 (fun vs H2 => T.fn g vs H2 Q X) X
      | _ => False) X
  | .meth o m args => .ofEv fun σ H Q X => (sem T o).ev σ H (fun ov H1 => match kindA ov H1 with
      | some kd => T.has kd m = true ∧ (sem T args).el σ H1 (fun vs H2 => T.mt kd m (ov :: vs) H2 Q X) X
      | Option.none => False) X
  | .sub o i => .ofEv fun σ H Q X => (sem T o).ev σ H (fun ov H1 => (sem T i).ev σ H1 (fun iv H2 => subA ov iv H2 fun v => Q v H2) X) X
  | .slice o lo hi => .ofEv fun σ H Q X => (sem T o).ev σ H (fun ov H1 => (sem T lo).ev σ H1 (fun l H2 => (sem T hi).ev σ H2 (fun h H3 => sliceA ov l h H3 Q) X) X) X
  | .list es => .ofEv fun σ H Q X => (sem T es).el σ H (fun vs H1 => vs.length ≤ lid ∧ Q (.ref H1.length) (H1 ++ [.list vs])) X
  | .tuple es => .ofEv fun σ H Q X => (sem T es).el σ H (fun vs H1 => vs.length ≤ lid ∧ Q (.ref H1.length) (H1 ++ [.tuple vs])) X
  | .dict0 => .ofEv fun _ H Q _ => Q (.ref H.length) (H ++ [.dict [] 0])
  | .comp0 elt t it => .ofEv fun σ H Q X => (sem T it).it σ H (fun items K H1 =>
      items.length ≤ lid ∧ compGo K (fun x H' => bindA t x H' σ) (fun _ H' q => q true H') (fun σ' H' q => (sem T elt).ev σ' H' q X) (fun acc H' => Q (.ref H'.length) (H' ++ [.list acc])) items [] H1) X
  | .comp1 elt t it cond => .ofEv fun σ H Q X => (sem T it).it σ H (fun items K H1 =>
      items.length ≤ lid ∧ compGo K (fun x H' => bindA t x H' σ) (fun σ' H' q => (sem T cond).tt σ' H' q X) (fun σ' H' q => (sem T elt).ev σ' H' q X) (fun acc H' => Q (.ref H'.length) (H' ++ [.list acc])) items [] H1) X
  | .nil => .ofEl fun _ H q _ => q [] H
  | .cons h t => .ofEl fun σ H q X => (sem T h).ev σ H (fun v H1 => (sem T t).el σ H1 (fun vs H2 => q (v :: vs) H2) X) X
  | .itVal e => .ofIt (fun σ H q X => (sem T e).ev σ H (fun v H1 => itemsA v H1 fun items K => q items K H1) X)
  | .itRange1 e => .ofIt (fun σ H q X => (sem T e).ev σ H (fun v H1 => match v with
      | .int j => 0 ≤ j ∧ j ≤ lid ∧ q ((intsFrom 0 j.toNat).map fun i => .one (.int i)) (fun _ => True) H1
      | _ => False) X)
  | .itRange2 a b => .ofIt (fun σ H q X => (sem T a).ev σ H (fun u H1 => (sem T b).ev σ H1 (fun v H2 => match u, v with
      | .int i, .int j => 0 ≤ i ∧ i ≤ lid ∧ 0 ≤ j ∧ j ≤ lid ∧ q ((intsFrom i (j - i).toNat).map fun i => .one (.int i)) (fun _ => True) H2
      | _, _ => False) X) X)
abbrev SPost := Fl → Sg → AHeap → Prop
noncomputable def forGo (K : AHeap → Prop) (bind : Item → AHeap → Sg → Option Sg) (body : Sg → AHeap → SPost → Prop) (Q : SPost) : List Item → Sg → AHeap → Prop
  | [], σ, H => K H ∧ Q .next σ H
  | x :: xs, σ, H => K H ∧ match bind x H σ with
    | some σ' => body σ' H fun fl σ2 H2 => match fl with
      | .next => forGo K bind body Q xs σ2 H2
      | .brk => Q .next σ2 H2
      | .ret v => Q (.ret v) σ2 H2
    | Option.none => False
noncomputable def whileGo (test : Sg → AHeap → (Bool → AHeap → Prop) → Prop) (body : Sg → AHeap → SPost → Prop) (Q : SPost) : Nat → Sg → AHeap → Prop
  | 0, _, _ => False
  | n + 1, σ, H => test σ H fun b H1 => if b then body σ H1 fun fl σ2 H2 => match fl with
      | .next => whileGo test body Q n σ2 H2
      | .brk => Q .next σ2 H2
      | .ret v => Q (.ret v) σ2 H2
    else Q .next σ H1
noncomputable def stA (es : List (Txt × V)) (k : Txt) (v : V) : List (Txt × V) := if es.any (fun e => decide (e.1 = k)) then es.map (fun e => if e.1 = k then (e.1, v) else e) else es ++ [(k, v)]
inductive SetA (v : V) (H : AHeap) (q : AHeap → Prop) : V → V → Prop
  | dict {n es ep k} : n ≠ 0 → H[n]? = some (.dict es ep) → es.length < lid → (∀ ep, q (H.set n (.dict (stA es k v) ep))) → SetA v H q (.ref n) (.str k)
abbrev setItemA (o i v : V) (H : AHeap) (q : AHeap → Prop) : Prop := SetA v H q o i
noncomputable def semS (T : Tab) : PS → Sg → AHeap → SPost → XPost → Prop
  | .skip, σ, H, Q, _ => Q .next σ H
  | .seq a b, σ, H, Q, X => semS T a σ H (fun fl σ1 H1 => match fl with | .next => semS T b σ1 H1 Q X | f => Q f σ1 H1) X
  | .assign t e, σ, H, Q, X => (sem T e).ev σ H (fun v H1 => match bindA t (.one v) H1 σ with | some σ' => Q .next σ' H1 | Option.none => False) X
  | .setItem o i e, σ, H, Q, X => (sem T e).ev σ H (fun v H1 => (sem T o).ev σ H1 (fun ov H2 => (sem T i).ev σ H2 (fun iv H3 => setItemA ov iv v H3 fun H4 => Q .next σ H4) X) X) X
  | .expr e, σ, H, Q, X => (sem T e).ev σ H (fun _ H1 => Q .next σ H1) X
  | .ite c a b, σ, H, Q, X => (sem T c).tt σ H (fun t H1 => if t then semS T a σ H1 Q X else semS T b σ H1 Q X) X
  | .for_ t it body, σ, H, Q, X => (sem T it).it σ H (fun items K H1 => forGo K (fun x H' σ' => bindA t x H' σ') (fun σ' H' q => semS T body σ' H' q X) Q items σ H1) X
  | .while_ c body, σ, H, Q, X => ∃ n, whileGo (fun σ' H' q => (sem T c).tt σ' H' q X) (fun σ' H' q => semS T body σ' H' q X) Q n σ H
  | .ret e, σ, H, Q, X => (sem T e).ev σ H (fun v H1 => Q (.ret v) σ H1) X
  | .raise, _, _, _, _ => False
  | .brk, σ, H, Q, _ => Q .brk σ H
end Mine
end
section
namespace Mine
open PySem
abbrev Kd := Str → Option NameKind
set_option genSizeOf false in
set_option genInjectivity false in
inductive Vw where
  | name (x : Str) (p : Pos)
  | attr (o : Expr) (a : Str) (p : Pos)
  | call (f : Expr) (a : List Expr) (k : List Keyword) (p : Pos)
  | slice (a b c : Option Expr) (p : Pos)
  | sub (o i : Expr) (p : Pos)
  | tup (es : List Expr) (c : Nat) (p : Pos)
  | star
  | set
  | comp
  | other
noncomputable def vw : Expr → Vw
  | .Name x p => .name x p
  | .Attribute o a p => .attr o a p
  | .Call f a k p => .call f a k p
  | .Slice a b c p => .slice a b c p
  | .Subscript o i p => .sub o i p
  | .Tuple es c p => .tup es c p
  | .Starred .. => .star
  | .Set .. => .set
  | .ListComp .. => .comp
  | .SetComp .. => .comp
  | .DictComp .. => .comp
  | _ => .other
inductive VwIs : Expr → Vw → Prop
  | name {x p} : VwIs (.Name x p) (.name x p)
  | attr {o a p} : VwIs (.Attribute o a p) (.attr o a p)
  | call {f a k p} : VwIs (.Call f a k p) (.call f a k p)
  | slice {a b c p} : VwIs (.Slice a b c p) (.slice a b c p)
  | sub {o i p} : VwIs (.Subscript o i p) (.sub o i p)
  | tup {es c p} : VwIs (.Tuple es c p) (.tup es c p)
  | star {e} : VwIs e .star
  | set {e} : VwIs e .set
  | comp {e} : VwIs e .comp
  | other {e} : VwIs e .other
theorem vw_is (e : Expr) : VwIs e (vw e) := by
  cases e <;> constructor
noncomputable def asName (e : Expr) : Option (Str × Pos) := match vw e with
  | .name x p => some (x, p)
  | _ => none
noncomputable def asAttr (e : Expr) : Option (Expr × Str × Pos) := match vw e with
  | .attr o a p => some (o, a, p)
  | _ => none
noncomputable def asCall (e : Expr) : Option (Expr × List Expr × List Keyword × Pos) := match vw e with
  | .call f a k p => some (f, a, k, p)
  | _ => none
noncomputable def asSlice (e : Expr) : Option (Option Expr × Option Expr × Option Expr × Pos) := match vw e with
  | .slice a b c p => some (a, b, c, p)
  | _ => none
noncomputable def asSub (e : Expr) : Option (Expr × Expr × Pos) := match vw e with
  | .sub o i p => some (o, i, p)
  | _ => none
noncomputable def asTup (e : Expr) : Option (List Expr × Nat × Pos) := match vw e with
  | .tup es c p => some (es, c, p)
  | _ => none
noncomputable def isStar (e : Expr) : Bool := match vw e with
  | .star => true
  | _ => false
noncomputable def isSet (e : Expr) : Bool := match vw e with
  | .set => true
  | _ => false
noncomputable def isComp (e : Expr) : Bool := match vw e with
  | .comp => true
  | _ => false
section
variable {e f a b o i : Expr} {as : List Expr} {ks : List Keyword} {x y z : Option Expr} {p : Pos} {n : Str} {c : Nat}
theorem no_some {α : Type} {a : α} {P : Prop} (h : (none : Option α) = some a) : P := nomatch h
theorem asName_is (h : asName e = some (n, p)) : e = .Name n p := by
  have k := vw_is e
  unfold asName at h
  generalize vw e = v at h k
  cases k <;> first | exact no_some h | (cases h; rfl)
theorem asAttr_is (h : asAttr e = some (o, n, p)) : e = .Attribute o n p := by
  have k := vw_is e
  unfold asAttr at h
  generalize vw e = v at h k
  cases k <;> first | exact no_some h | (cases h; rfl)
theorem asCall_is (h : asCall e = some (f, as, ks, p)) : e = .Call f as ks p := by
  have k := vw_is e
  unfold asCall at h
  generalize vw e = v at h k
  cases k <;> first | exact no_some h | (cases h; rfl)
theorem asSlice_is (h : asSlice e = some (x, y, z, p)) : e = .Slice x y z p := by
  have k := vw_is e
  unfold asSlice at h
  generalize vw e = v at h k
  cases k <;> first | exact no_some h | (cases h; rfl)
theorem asSub_is (h : asSub e = some (o, i, p)) : e = .Subscript o i p := by
  have k := vw_is e
  unfold asSub at h
  generalize vw e = v at h k
  cases k <;> first | exact no_some h | (cases h; rfl)
theorem asTup_is (h : asTup e = some (as, c, p)) : e = .Tuple as c p := by
  have k := vw_is e
  unfold asTup at h
  generalize vw e = v at h k
  cases k <;> first | exact no_some h | (cases h; rfl)
end
noncomputable def asCall1 (e : Expr) : Option (Expr × Expr × Pos) := match asCall e with
  | some (f, as, ks, p) => (match as with
    | [] => none
    | a :: r => if r.isEmpty && ks.isEmpty then some (f, a, p) else none)
  | none => none
noncomputable def asCall2 (e : Expr) : Option (Expr × Expr × Expr × Pos) := match asCall e with
  | some (f, as, ks, p) => (match as with
    | [] => none
    | a :: r => (match r with
      | [] => none
      | b :: r => if r.isEmpty && ks.isEmpty then some (f, a, b, p) else none))
  | none => none
section
variable {e f a b : Expr} {p : Pos}
theorem asCall1_is (h : asCall1 e = some (f, a, p)) : e = .Call f [a] [] p := by
  unfold asCall1 at h
  cases q : asCall e with
  | none => rw [q] at h; exact no_some h
  | some v =>
    obtain ⟨f', as, ks, p'⟩ := v
    rw [q] at h
    have := asCall_is q
    cases as with
    | nil => exact no_some h
    | cons a' r =>
      cases r with
      | cons _ _ => exact no_some h
      | nil =>
        cases ks with
        | cons _ _ => exact no_some h
        | nil => cases h; exact this
theorem asCall2_is (h : asCall2 e = some (f, a, b, p)) : e = .Call f [a, b] [] p := by
  unfold asCall2 at h
  cases q : asCall e with
  | none => rw [q] at h; exact no_some h
  | some v =>
    obtain ⟨f', as, ks, p'⟩ := v
    rw [q] at h
    have := asCall_is q
    cases as with
    | nil => exact no_some h
    | cons a' r =>
      cases r with
      | nil => exact no_some h
      | cons b' r =>
        cases r with
        | cons _ _ => exact no_some h
        | nil =>
          cases ks with
          | cons _ _ => exact no_some h
          | nil => cases h; exact this
end
noncomputable def tgtNames : List Expr → Option (List Str)
  | [] => some []
  | e :: r => match asName e with
    | some (x, _) => (tgtNames r).map (x :: ·)
    | none => none
noncomputable def dot0 : Str := Str.ofString ".0"
noncomputable def stored (k : Kd) (x : Str) : Bool := (k x == some .local || k x == some .cell) && x != dot0
noncomputable def trT (k : Kd) (e : Expr) : Option Tgt := match asName e with
  | some (x, _) => if stored k x then some (.name x) else none
  | none => (match asTup e with
    | some (es, _) => (match tgtNames es with
      | some xs => if xs.all (stored k) && decide xs.Nodup then some (.tup xs) else none
      | none => none)
    | none => none)
noncomputable def inner (sc : Scope) (k : Kd) : Kd := fun x => (sc.names.map fun p => if p.2 == .free && k p.1 == some .cell then (p.1, NameKind.cell) else (p.1, p.2)).lookup x
noncomputable def scOk (sc : Scope) (k : Kd) : Bool := sc.kind == .function && sc.names.all fun p => match p.2 with
  | .local => sc.names.lookup p.1 == some .local
  | .cell => false
  | .free => k p.1 == some .cell
  | _ => true
noncomputable def Tgt.names : Tgt → List Str
  | .name x => [x]
  | .tup xs => xs
noncomputable def onlyHere (sc : Scope) (t : Tgt) : Bool := (t.names.all fun x => sc.names.lookup x == some .local) && sc.names.all fun p => p.2 != .local || p.1 == dot0 || t.names.contains p.1
noncomputable def isG (k : Kd) (x : Str) (n : String) : Bool := x == Str.ofString n && k x == some .globalImplicit
noncomputable def trBool (op : BoolOp) : List PE → Option PE
  | [] => none
  | [e] => some e
  | e :: r => (trBool op r).map fun x => match op with | .And => .and e x | .Or => .or e x
noncomputable def trL (f : Expr → Option PE) : List Expr → Option PE
  | [] => some .nil
  | e :: r => (f e).bind fun a => (trL f r).map fun b => .cons a b
noncomputable def trLs (f : Expr → Option PE) : List Expr → Option (List PE)
  | [] => some []
  | e :: r => (f e).bind fun a => (trLs f r).map fun b => a :: b
noncomputable def trO (f : Expr → Option PE) : Option Expr → Option PE
  | none => some .none
  | some e => f e
noncomputable def bnd2 (a b : Option PE) (f : PE → PE → PE) : Option PE := a.bind fun x => b.map fun y => f x y
noncomputable def bnd3 (a b c : Option PE) (f : PE → PE → PE → PE) : Option PE := a.bind fun x => b.bind fun y => c.map fun z => f x y z
noncomputable def isGE (k : Kd) (e : Expr) (n : String) : Bool := match asName e with
  | some (g, _) => isG k g n
  | none => false
noncomputable def trI (k : Kd) (f : Expr → Option PE) (e : Expr) : Option PE := if isSet e then none else match asCall1 e with
  | some (g, a, _) =>
    if isGE k g "range" then (f a).map .itRange1
    else (f e).map .itVal
  | none => (match asCall2 e with
    | some (g, a, b, _) => if isGE k g "range" then bnd2 (f a) (f b) .itRange2 else (f e).map .itVal
    | none => (f e).map .itVal)
noncomputable def callArgs (o : Expr) : Bool := match asCall o with
  | some (_, as, _) => !as.isEmpty
  | none => true
noncomputable def trCall (f : Expr → Option PE) (fn : Expr) (args : List Expr) (kws : List Keyword) (pos : Pos) : Option PE := match kws with
  | [] => if decide (args.length < 20) then (match asAttr fn with
    | some (o, m, apos) => if apos.endLine == pos.line && callArgs o then bnd2 (f o) (trL f args) fun a b => .meth a m b else none
    | none => if (asName fn).isSome then bnd2 (f fn) (trL f args) .call else none) else none
  | _ :: _ => none
noncomputable def trSub (f : Expr → Option PE) (o i : Expr) : Option PE := match asSlice i with
  | some (lo, hi, st, _) => if st.isNone then bnd3 (f o) (trO f lo) (trO f hi) .slice else none
  | none => bnd2 (f o) (f i) .sub
noncomputable def trIfs (f' : Expr → Option PE) (e' : PE) (t' : Tgt) (it' : PE) : List Expr → Option PE
  | [] => some (.comp0 e' t' it')
  | c :: r => if r.isEmpty then (f' c).map fun c' => .comp1 e' t' it' c' else none
noncomputable def trComp (k : Kd) (f f' : Expr → Option PE) (elt : Expr) (gens : List Comprehension) (sc : Scope) : Option PE := match gens with
  | [] => none
  | g :: r => if scOk sc k && g.is_async == 0 && r.isEmpty then (trT (inner sc k) g.target).bind fun t' => (trI k f g.iter).bind fun it' => (f' elt).bind fun e' => if onlyHere sc t' then trIfs f' e' t' it' g.ifs else none else none
noncomputable def trConst : Const → Option PE
  | .none => some .none
  | .bool b => some (.bool b)
  | .int i => some (.int i)
  | .str s => if okT s.cps.toList then some (.str s) else none
  | _ => none
noncomputable def trName (k : Kd) (x : Str) : Option PE := if x == Str.ofString "__debug__" then none else match k x with
  | some .local | some .cell => some (.name x)
  | some .globalImplicit => some (.glob x)
  | _ => none
noncomputable def trUn (f : Expr → Option PE) (op : UnaryOp) (x : Expr) : Option PE := match op with
  | .Not => (f x).map .not
  | .USub => (f x).map .neg
  | _ => none
noncomputable def trCmp2 (f : Expr → Option PE) (a : Expr) (o1 : CmpOp) (b : Expr) (ops : List CmpOp) (cs : List Expr) : Option PE := match ops with
  | [] => if cs.isEmpty then bnd2 (f a) (f b) (.cmp1 o1) else none
  | o2 :: os => (match cs with
    | [] => none
    | c :: r => if isSet c || !os.isEmpty || !r.isEmpty then none else bnd3 (f a) (f b) (f c) (.cmp2 o1 o2))
noncomputable def trCmp (f : Expr → Option PE) (a : Expr) (ops : List CmpOp) (cs : List Expr) : Option PE := match ops with
  | [] => none
  | o :: os => (match cs with
    | [] => none
    | b :: r => if isSet b then none else trCmp2 f a o b os r)
noncomputable def trDict (ks : List (Option Expr)) (vs : List Expr) : Option PE := if ks.isEmpty && vs.isEmpty then some .dict0 else none
noncomputable def trE : Nat → Kd → Expr → Option PE
  | 0, _, _ => none
  | n + 1, k, e => match e with
    | .Name x _ => trName k x
    | .Constant c _ _ => trConst c
    | .BinOp l op r _ => bnd2 (trE n k l) (trE n k r) (.bin op)
    | .UnaryOp op x _ => trUn (trE n k) op x
    | .BoolOp op vs _ => (trLs (trE n k) vs).bind (trBool op)
    | .Compare l ops cs _ => trCmp (trE n k) l ops cs
    | .Call f args kws pos => trCall (trE n k) f args kws pos
    | .Subscript o i _ => trSub (trE n k) o i
    | .List es _ => (trL (trE n k) es).map .list
    | .Tuple es _ _ => (trL (trE n k) es).map .tuple
    | .Dict ks vs _ => trDict ks vs
    | .ListComp elt gens sc _ => trComp k (trE n k) (trE n (inner sc k)) elt gens sc
    | _ => none
noncomputable def oneTup (e : Expr) : Bool := match asTup e with
  | some (vs, _) => vs.all (constantsAlone 8)
  | none => false
noncomputable def trAsg (v : Expr) (v' : PE) : Tgt → Option PS
  | .name x => some (.assign (.name x) v')
  | .tup xs => if isComp v || oneTup v then none else some (.assign (.tup xs) v')
noncomputable def trAssign (k : Kd) (f : Expr → Option PE) (ts : List Expr) (v : Expr) : Option PS := match ts with
  | [] => none
  | t :: r => if r.isEmpty then (match asSub t with
    | some (o, i, _) => if isComp v || (asSlice i).isSome then none else (f v).bind fun a => (f o).bind fun b => (f i).map fun c => .setItem b c a
    | none => (trT k t).bind fun t' => (f v).bind fun v' => trAsg v v' t') else none
noncomputable def trRet (f : Expr → Option PE) : Option Expr → Option PS
  | some e => (f e).map .ret
  | none => some (.ret .none)
noncomputable def tr1 (k : Kd) (f : Expr → Option PE) (b : List Stmt → Option PS) (st : Stmt) : Option PS := match st with
  | .Assign ts v _ => trAssign k f ts v
  | .Expr e _ => if isComp e then none else (f e).map .expr
  | .If c x y _ => (f c).bind fun c' => (b x).bind fun a' => (b y).map fun b' => .ite c' a' b'
  | .For t it body els _ => if els.isEmpty then (trT k t).bind fun t' => (trI k f it).bind fun it' => (b body).map fun b' => .for_ t' it' b' else none
  | .While c body els _ => if els.isEmpty then (f c).bind fun c' => (b body).map fun b' => .while_ c' b' else none
  | .Return e _ => trRet f e
  | .Raise _ _ _ => some .raise
  | .Break _ => some .brk
  | .Pass _ => some .skip
  | _ => none
noncomputable def trS : Nat → Kd → List Stmt → Option PS
  | 0, _, _ => none
  | n + 1, k, l => match l with
    | [] => some .skip
    | st :: rest => (tr1 k (trE 60 k) (trS n k) st).bind fun a => (trS n k rest).map fun b => .seq a b
end Mine
end
section
namespace Mine
open PySem
inductive All2 {α β : Type} (R : α → β → Prop) : List α → List β → Prop
  | nil : All2 R [] []
  | cons {a b as bs} : R a b → All2 R as bs → All2 R (a :: as) (b :: bs)
namespace All2
variable {α β : Type} {R S : α → β → Prop}
theorem length {as : List α} {bs : List β} (h : All2 R as bs) : as.length = bs.length := by
  induction h with
  | nil => rfl
  | cons _ _ ih => exact congrArg (· + 1) ih
theorem mono (f : ∀ a b, R a b → S a b) {as : List α} {bs : List β} (h : All2 R as bs) : All2 S as bs := by
  induction h with
  | nil => exact .nil
  | cons h _ ih => exact .cons (f _ _ h) ih
theorem append {as : List α} {bs : List β} {cs : List α} {ds : List β} (h : All2 R as bs) (k : All2 R cs ds) : All2 R (as ++ cs) (bs ++ ds) := by
  induction h with
  | nil => exact k
  | cons h _ ih => exact .cons h ih
theorem get {as : List α} {bs : List β} (h : All2 R as bs) : ∀ (i : Nat) (a : α), as[i]? = some a → ∃ b, bs[i]? = some b ∧ R a b := by
  induction h with
  | nil => intro i a e; cases e
  | cons h _ ih =>
    intro i a e
    cases i with
    | zero => cases e; exact ⟨_, rfl, h⟩
    | succ i => exact ih i a e
theorem take {as : List α} {bs : List β} (h : All2 R as bs) : ∀ n, All2 R (as.take n) (bs.take n) := by
  induction h with
  | nil => intro n; rw [List.take_nil, List.take_nil]; exact .nil
  | cons h _ ih =>
    intro n
    cases n with
    | zero => exact .nil
    | succ n => exact .cons h (ih n)
theorem drop {as : List α} {bs : List β} (h : All2 R as bs) : ∀ n, All2 R (as.drop n) (bs.drop n) := by
  induction h with
  | nil => intro n; rw [List.drop_nil, List.drop_nil]; exact .nil
  | cons h r ih =>
    intro n
    cases n with
    | zero => exact .cons h r
    | succ n => exact ih n
theorem set {as : List α} {bs : List β} (h : All2 R as bs) {a : α} {b : β} (k : R a b) : ∀ n, All2 R (as.set n a) (bs.set n b) := by
  induction h with
  | nil => intro n; exact .nil
  | cons h r ih =>
    intro n
    cases n with
    | zero => exact .cons k r
    | succ n => exact .cons h (ih n)
theorem replicate {a : α} {b : β} (h : R a b) : ∀ n, All2 R (List.replicate n a) (List.replicate n b)
  | 0 => .nil
  | n + 1 => .cons h (replicate h n)
theorem reverse {as : List α} {bs : List β} (h : All2 R as bs) : All2 R as.reverse bs.reverse := by
  induction h with
  | nil => exact .nil
  | cons h _ ih => rw [List.reverse_cons, List.reverse_cons]; exact ih.append (.cons h .nil)
theorem left {as : List α} {bs : List β} (h : All2 R as bs) : ∀ a ∈ as, ∃ b ∈ bs, R a b := by
  induction h with
  | nil => intro a h; cases h
  | cons h _ ih =>
    intro a m
    cases m with
    | head => exact ⟨_, .head _, h⟩
    | tail _ m => obtain ⟨b, hb, k⟩ := ih a m; exact ⟨b, .tail _ hb, k⟩
theorem right {as : List α} {bs : List β} (h : All2 R as bs) : ∀ b ∈ bs, ∃ a ∈ as, R a b := by
  induction h with
  | nil => intro a h; cases h
  | cons h _ ih =>
    intro a m
    cases m with
    | head => exact ⟨_, .head _, h⟩
    | tail _ m => obtain ⟨b, hb, k⟩ := ih a m; exact ⟨b, .tail _ hb, k⟩
end All2
set_option genSizeOf false in
set_option genInjectivity false in
structure Cx where
  prog : Program
  w : World
  base : Heap
  os : OsState
  G : Str → Option Value
  mg : Str → Option Value
  mb : Str → Option Value
  hg : base.Ns mainGlobals mg
  hb : base.Ns builtinsNs mb
  lim : base.NoLimit
  hN : ∀ x, G x ≠ some .none
  hG : ∀ x v, G x = some v → mg x = some v ∨ (mg x = none ∧ mb x = some v)
variable (C : Cx)
noncomputable def VR (ρ : List Addr) : V → Value → Prop
  | .none, u => u = .none
  | .bool b, u => u = .bool b
  | .int i, u => ∃ t, u = .int i t
  | .str x, u => okT x = true ∧ ∃ t, u = .str ⟨x.toArray⟩ t
  | .ref n, u => ∃ a, u = .ref a ∧ ρ[n]? = some a
  | .glob g, u => C.G g = some u
noncomputable def ER (ρ : List Addr) (e : Txt × V) (d : DictEntry) : Prop :=
  VR C ρ (.str e.1) d.key ∧ d.hash = PyData.keyHash C.w.params ⟨e.1.toArray⟩ ∧ VR C ρ e.2 d.val
noncomputable def OR (ρ : List Addr) (h : Heap) (a : Addr) : AObj → Prop
  | .list xs => ∃ us n, h.get? a = some ⟨.type "list", none, .seq us n, #[]⟩ ∧ All2 (VR C ρ) xs us.toList ∧ xs.length ≤ lid
  | .tuple xs => ∃ us n, h.get? a = some ⟨.type "tuple", none, .seq us n, #[]⟩ ∧ All2 (VR C ρ) xs us.toList ∧ xs.length ≤ lid
  | .dict es n => ∃ ds, h.get? a = some ⟨.type "dict", none, .dict ds n, #[]⟩ ∧ All2 (ER C ρ) es ds.toList ∧ (es.map (·.1)).Nodup ∧ es.length ≤ lid
theorem VR.ext {ρ ρ' : List Addr} (l : List Addr) (e : ρ' = ρ ++ l) : ∀ {v : V} {u : Value}, VR C ρ v u → VR C ρ' v u
  | .none, _, h => h
  | .bool _, _, h => h
  | .int _, _, h => h
  | .str _, _, h => h
  | .ref n, _, ⟨a, e1, e2⟩ => ⟨a, e1, by
      rw [e, List.getElem?_append_left]
      · exact e2
      · exact (List.getElem?_eq_some_iff.mp e2).1⟩
  | .glob _, _, h => h
theorem ER.ext {ρ ρ' : List Addr} (l : List Addr) (e : ρ' = ρ ++ l) {p : Txt × V} {d : DictEntry} (h : ER C ρ p d) : ER C ρ' p d := ⟨h.1.ext C l e, h.2.1, h.2.2.ext C l e⟩
theorem OR.alive {ρ : List Addr} {h : Heap} {a : Addr} : ∀ {o : AObj}, OR C ρ h a o → ∃ ob, h.get? a = some ob
  | .list _, ⟨_, _, e, _⟩ => ⟨_, e⟩
  | .tuple _, ⟨_, _, e, _⟩ => ⟨_, e⟩
  | .dict _ _, ⟨_, e, _⟩ => ⟨_, e⟩
theorem OR.keep {ρ ρ' : List Addr} {h h' : Heap} {a : Addr} (l : List Addr) (e : ρ' = ρ ++ l) (k : ∀ o, h.get? a = some o → h'.get? a = some o) : ∀ {o : AObj}, OR C ρ h a o → OR C ρ' h' a o
  | .list _, ⟨us, n, x, y, z⟩ => ⟨us, n, k _ x, y.mono fun _ _ q => q.ext C l e, z⟩
  | .tuple _, ⟨us, n, x, y, z⟩ => ⟨us, n, k _ x, y.mono fun _ _ q => q.ext C l e, z⟩
  | .dict _ _, ⟨us, x, y, z⟩ => ⟨us, k _ x, y.mono fun _ _ q => q.ext C l e, z⟩
structure Sim (ρ : List Addr) (H : AHeap) (s : Shared) : Prop where
  len : ρ.length = H.length
  nodup : ρ.Nodup
  obj : ∀ (i : Nat) a o, ρ[i]? = some a → H[i]? = some o → OR C ρ s.heap a o
  stays : ∀ b o, C.base.get? b = some o → s.heap.get? b = some o
  fresh : ∀ (i : Nat) a, ρ[i]? = some a → i ≠ 0 → C.base.get? a = none
  sm : sysModules ∉ ρ
  gens : s.gens = #[]
  os : s.os = C.os
structure StepG (ex : Addr → Prop) (ρ : List Addr) (s : Shared) (ρ' : List Addr) (s' : Shared) : Prop where
  ext : ∃ l, ρ' = ρ ++ l ∧ ∀ a ∈ l, s.heap.get? a = none
  keep : ∀ b o, b ∉ ρ → ¬ ex b → s.heap.get? b = some o → s'.heap.get? b = some o
  live : ∀ b o, s.heap.get? b = some o → ∃ o', s'.heap.get? b = some o'
abbrev Step := StepG fun _ => False
variable {C}
theorem StepG.refl {ex : Addr → Prop} (ρ : List Addr) (s : Shared) : StepG ex ρ s ρ s := ⟨⟨[], by simp, fun _ h => nomatch h⟩, fun _ _ _ _ e => e, fun _ o e => ⟨o, e⟩⟩
theorem StepG.mono {ex ex' : Addr → Prop} {ρ ρ' : List Addr} {s s' : Shared} (x : StepG ex ρ s ρ' s') (h : ∀ b, ex b → ex' b) : StepG ex' ρ s ρ' s' := ⟨x.ext, fun b o h1 h2 e => x.keep b o h1 (fun q => h2 (h b q)) e, x.live⟩
theorem StepG.up {ex : Addr → Prop} {ρ ρ' : List Addr} {s s' : Shared} (x : Step ρ s ρ' s') : StepG ex ρ s ρ' s' := x.mono fun _ h => h.elim
theorem StepG.trans {ex : Addr → Prop} {ρ ρ1 ρ2 : List Addr} {s s1 s2 : Shared} (x : StepG ex ρ s ρ1 s1) (y : StepG ex ρ1 s1 ρ2 s2) : StepG ex ρ s ρ2 s2 := by
  obtain ⟨l, e, f⟩ := x.ext
  obtain ⟨l2, e2, f2⟩ := y.ext
  refine ⟨⟨l ++ l2, by rw [e2, e, List.append_assoc], fun a ha => ?_⟩, fun b o hb hx q => ?_, fun b o q => ?_⟩
  · rcases List.mem_append.mp ha with ha | ha
    · exact f a ha
    · cases q : s.heap.get? a with
      | none => rfl
      | some o => obtain ⟨o', q'⟩ := x.live _ _ q; rw [f2 a ha] at q'; cases q'
  · refine y.keep b o (fun hm => ?_) hx (x.keep b o hb hx q)
    rw [e] at hm
    rcases List.mem_append.mp hm with hm | hm
    · exact hb hm
    · rw [f b hm] at q; cases q
  · obtain ⟨o1, q1⟩ := x.live b o q
    exact y.live b o1 q1
theorem StepG.toks {ρ : List Addr} {s : Shared} (t : Nat) : Step ρ s ρ { s with toks := t } := ⟨⟨[], by simp, fun _ h => nomatch h⟩, fun _ _ _ _ e => e, fun _ o e => ⟨o, e⟩⟩
theorem Sim.toks {ρ : List Addr} {H : AHeap} {s : Shared} (S : Sim C ρ H s) (t : Nat) : Sim C ρ H { s with toks := t } := ⟨S.len, S.nodup, S.obj, S.stays, S.fresh, S.sm, S.gens, S.os⟩
theorem StepG.vr {ex : Addr → Prop} {ρ ρ' : List Addr} {s s' : Shared} (x : StepG ex ρ s ρ' s') {v : V} {u : Value} (h : VR C ρ v u) : VR C ρ' v u := by
  obtain ⟨l, e, _⟩ := x.ext
  exact h.ext C l e
theorem StepG.vrs {ex : Addr → Prop} {ρ ρ' : List Addr} {s s' : Shared} (x : StepG ex ρ s ρ' s') {v : List V} {u : List Value} (h : All2 (VR C ρ) v u) : All2 (VR C ρ') v u := h.mono fun _ _ => x.vr
theorem Sim.grow {ρ : List Addr} {H : AHeap} {s : Shared} (S : Sim C ρ H s) {h' : Heap} {tk : Nat} (k : ∀ b o, s.heap.get? b = some o → h'.get? b = some o) :
    Sim C ρ H { s with heap := h', toks := tk } ∧ Step ρ s ρ { s with heap := h', toks := tk } :=
  ⟨⟨S.len, S.nodup, fun i a o e q => (S.obj i a o e q).keep C [] (by simp) fun _ x => k _ _ x, fun b o e => k _ _ (S.stays b o e), S.fresh, S.sm, S.gens, S.os⟩,
   ⟨⟨[], by simp, fun _ h => nomatch h⟩, fun b o _ _ e => k b o e, fun b o e => ⟨o, k b o e⟩⟩⟩
theorem Sim.lookup {ρ : List Addr} {H : AHeap} {s : Shared} (S : Sim C ρ H s) {n : Nat} {o : AObj} {u : Value} (e : H[n]? = some o) (v : VR C ρ (.ref n) u) : ∃ a, u = .ref a ∧ ρ[n]? = some a ∧ OR C ρ s.heap a o :=
  by obtain ⟨a, e1, e2⟩ := v; exact ⟨a, e1, e2, S.obj n a o e2 e⟩
theorem Sim.alloc {ρ : List Addr} {H : AHeap} {s : Shared} (S : Sim C ρ H s) {h' : Heap} {tk : Nat} {a : Addr} {o : AObj} (k : ∀ b x, s.heap.get? b = some x → h'.get? b = some x)
    (hn : s.heap.get? a = none) (hsm : a ≠ sysModules) (ho : OR C ρ h' a o) :
    Sim C (ρ ++ [a]) (H ++ [o]) { s with heap := h', toks := tk } ∧ Step ρ s (ρ ++ [a]) { s with heap := h', toks := tk } ∧ VR C (ρ ++ [a]) (.ref H.length) (.ref a) := by
  have hm : a ∉ ρ := fun hm => by
    obtain ⟨i, hi, e⟩ := List.getElem_of_mem hm
    have hi' : i < H.length := by rw [← S.len]; exact hi
    obtain ⟨ob, q⟩ := (S.obj i a H[i] (by rw [List.getElem?_eq_getElem hi, e]) (List.getElem?_eq_getElem hi')).alive C
    rw [hn] at q; cases q
  refine ⟨⟨by simp [S.len], ?_, fun i b x e q => ?_, fun b x e => k _ _ (S.stays b x e), fun i b e hi => ?_, ?_, S.gens, S.os⟩, ⟨⟨[a], rfl, fun b hb => by simp at hb; rw [hb]; exact hn⟩, fun b x _ _ e => k b x e, fun b x e => ⟨x, k b x e⟩⟩,
    ⟨a, rfl, by rw [← S.len]; simp⟩⟩
  · rw [List.nodup_append]
    exact ⟨S.nodup, by simp, fun x hx y hy => by simp at hy; rw [hy]; exact fun q => hm (q ▸ hx)⟩
  · rcases Nat.lt_or_ge i ρ.length with hi | hi
    · rw [List.getElem?_append_left hi] at e
      rw [List.getElem?_append_left (S.len ▸ hi)] at q
      exact (S.obj i b x e q).keep C [a] rfl fun _ x => k _ _ x
    · rw [List.getElem?_append_right hi] at e
      rw [List.getElem?_append_right (S.len ▸ hi)] at q
      rw [S.len] at e
      rcases Nat.eq_zero_or_pos (i - H.length) with z | z
      · rw [z] at e q
        simp at e q
        subst e q
        exact ho.keep C [a] rfl fun _ x => x
      · rw [List.getElem?_eq_none (by simp; lia)] at e; cases e
  · rcases Nat.lt_or_ge i ρ.length with hi' | hi'
    · rw [List.getElem?_append_left hi'] at e
      exact S.fresh i b e hi
    · rw [List.getElem?_append_right hi'] at e
      have : b = a := by
        rcases Nat.eq_zero_or_pos (i - ρ.length) with z | z
        · rw [z] at e; simpa using e.symm
        · rw [List.getElem?_eq_none (by simp; lia)] at e; cases e
      subst this
      cases q : C.base.get? b with
      | none => rfl
      | some x => rw [S.stays _ _ q] at hn; cases hn
  · intro hq
    rcases List.mem_append.mp hq with hq | hq
    · exact S.sm hq
    · simp only [List.mem_singleton] at hq
      exact hsm hq.symm
theorem Sim.size_ne {ρ : List Addr} {H : AHeap} {s : Shared} (S : Sim C ρ H s) : s.heap.objs.size ≠ sysModules := by
  obtain ⟨mc, ⟨o, es, ep, ho, _⟩, _⟩ := C.lim
  have h1 := Heap.lt_size (S.stays _ _ ho)
  exact fun q => absurd (Nat.lt_of_lt_of_le h1 (Nat.le_of_eq q)) (by decide)
theorem Sim.change {ρ : List Addr} {H : AHeap} {s : Shared} (S : Sim C ρ H s) {h' : Heap} {tk n : Nat} {a : Addr} {o : AObj} (hn : n ≠ 0) (e : ρ[n]? = some a) (k : ∀ b x, b ≠ a → s.heap.get? b = some x → h'.get? b = some x)
    (ho : OR C ρ h' a o) :
    Sim C ρ (H.set n o) { s with heap := h', toks := tk } ∧ Step ρ s ρ { s with heap := h', toks := tk } := by
  have hm : a ∈ ρ := List.mem_of_getElem? e
  refine ⟨⟨by simp [S.len], S.nodup, fun i b x e1 q => ?_, fun b x q => k _ _ (fun z => ?_) (S.stays b x q), S.fresh, S.sm, S.gens, S.os⟩,
    ⟨⟨[], by simp, fun _ h => nomatch h⟩, fun b x hb _ q => k b x (fun z => hb (z ▸ hm)) q, fun b x q => ?_⟩⟩
  · by_cases hi : i = n
    · subst hi
      rw [e] at e1; cases e1
      rw [List.getElem?_set_self] at q
      · cases q; exact ho
      · rw [← S.len]; exact (List.getElem?_eq_some_iff.mp e).1
    · rw [List.getElem?_set_ne (Ne.symm hi)] at q
      refine (S.obj i b x e1 q).keep C [] (by simp) fun y z => k _ _ (fun w => hi ?_) z
      subst w
      obtain ⟨h1, h2⟩ := List.getElem?_eq_some_iff.mp e
      obtain ⟨h3, h4⟩ := List.getElem?_eq_some_iff.mp e1
      exact (List.getElem_inj S.nodup).mp (h4.trans h2.symm)
  · rw [z, S.fresh n a e hn] at q; cases q
  · by_cases hb : b = a
    · subst hb; exact ho.alive C
    · exact ⟨x, k b x hb q⟩
end Mine
end
section
namespace Mine
open PySem PySem.Calls PyProof.Rows
abbrev Cx.M (C : Cx) : Model := model C.prog C.w
structure AOk (K : Nat) (A : Around) : Prop where
  h : A.handled = none
  d : A.depth + K < recursionLimit
  u : A.units + 5 * K + 200 < cLine
theorem AOk.deeper {K : Nat} {A : Around} (a : AOk (K + 1) A) (env : Env) : AOk K (A.deeper env) := ⟨a.h, by show A.depth + 1 + K < _; rw [Nat.add_right_comm]; exact a.d, by show A.units + 3 + 5 * K + 200 < _; have := a.u; lia⟩
theorem AOk.le {K K' : Nat} {A : Around} (a : AOk K A) (h : K' ≤ K) : AOk K' A := ⟨a.h, Nat.lt_of_le_of_lt (Nat.add_le_add_left h _) a.d, Nat.lt_of_le_of_lt (Nat.add_le_add_right (Nat.add_le_add_left (Nat.mul_le_mul_left 5 h) _) _) a.u⟩
variable (C : Cx)
noncomputable def XR (_ : List Addr) (_ : Str) (_ : Value) (_ : Shared) : Prop := False
noncomputable def PV (ρ : List Addr) (s : Shared) (Q : VPost) : Value → Shared → Prop := fun u s' => ∃ ρ' H' v, Step ρ s ρ' s' ∧ Sim C ρ' H' s' ∧ VR C ρ' v u ∧ Q v H'
noncomputable def PL (ρ : List Addr) (s : Shared) (Q : List V → AHeap → Prop) : List Value → Shared → Prop := fun us s' => ∃ ρ' H' vs, Step ρ s ρ' s' ∧ Sim C ρ' H' s' ∧ All2 (VR C ρ') vs us ∧ Q vs H'
noncomputable def PB (ρ : List Addr) (s : Shared) (Q : Bool → AHeap → Prop) : Bool → Shared → Prop := fun b s' => ∃ ρ' H', Step ρ s ρ' s' ∧ Sim C ρ' H' s' ∧ Q b H'
noncomputable def PX (ex : Addr → Prop) (ρ : List Addr) (s : Shared) (X : XPost) : Value → Shared → Prop := fun e s' => ∃ ρ' H' c, StepG ex ρ s ρ' s' ∧ Sim C ρ' H' s' ∧ XR ρ' c e s' ∧ X c H'
structure FR (env : Env) (σ : Sg) (ρ : List Addr) (h : Heap) : Prop where
  dot : σ dot0 = none
  kind : env.scope.kind = .function
  glob : env.globals = mainGlobals
  bl : env.builtins = builtinsNs
  ns : ∃ m, h.Ns env.locals m ∧ ∀ x v, σ x = some v → env.kindOf x = some .local → ∃ u, m x = some u ∧ VR C ρ v u
  cells : ∀ x c, env.cells.lookup x = some c → ∃ ov, h.IsCell c ov ∧ ∀ v, σ x = some v → env.kindOf x = some .cell → ∃ u, ov = some u ∧ VR C ρ v u
  has : ∀ x, env.kindOf x = some .cell → ∃ c, env.cells.lookup x = some c
  nL : env.locals ∉ ρ
  nC : ∀ x c, env.cells.lookup x = some c → c ∉ ρ ∧ c ≠ env.locals
  apart : ∀ x y c, env.cells.lookup x = some c → env.cells.lookup y = some c → x = y
  bL : C.base.get? env.locals = none
  bC : ∀ x c, env.cells.lookup x = some c → C.base.get? c = none
variable {C}
theorem PV.trans {ρ ρ1 : List Addr} {s s1 : Shared} {Q : VPost} {u : Value} {s' : Shared} (st : Step ρ s ρ1 s1) (h : PV C ρ1 s1 Q u s') : PV C ρ s Q u s' :=
  by obtain ⟨ρ', H', v, a, b, c, d⟩ := h; exact ⟨ρ', H', v, st.trans a, b, c, d⟩
theorem PB.trans {ρ ρ1 : List Addr} {s s1 : Shared} {Q : Bool → AHeap → Prop} {u : Bool} {s' : Shared} (st : Step ρ s ρ1 s1) (h : PB C ρ1 s1 Q u s') : PB C ρ s Q u s' :=
  by obtain ⟨ρ', H', a, b, d⟩ := h; exact ⟨ρ', H', st.trans a, b, d⟩
theorem PX.trans {ex : Addr → Prop} {ρ ρ1 : List Addr} {s s1 : Shared} {X : XPost} {u : Value} {s' : Shared} (st : StepG ex ρ s ρ1 s1) (h : PX C ex ρ1 s1 X u s') : PX C ex ρ s X u s' :=
  by obtain ⟨ρ', H', v, a, b, c, d⟩ := h; exact ⟨ρ', H', v, st.trans a, b, c, d⟩
theorem PX.none {ex : Addr → Prop} {ρ : List Addr} {s : Shared} {X : XPost} {u : Value} {s' : Shared} (h : PX C ex ρ s X u s') : False := by obtain ⟨_, _, _, _, _, c, _⟩ := h; exact c
abbrev Takes (C : Cx) (ρ : List Addr) (s : Shared) (X : XPost) (E : Value → Shared → Prop) : Prop := ∀ e s', PX C (fun _ => False) ρ s X e s' → E e s'
theorem Takes.on {ρ ρ1 : List Addr} {s s1 : Shared} {X : XPost} {E : Value → Shared → Prop} (h : Takes C ρ s X E) (st : Step ρ s ρ1 s1) : Takes C ρ1 s1 X E := fun e s' p => h e s' (p.trans st)
theorem FR.step {env : Env} {σ : Sg} {ρ ρ' : List Addr} {s s' : Shared} (F : FR C env σ ρ s.heap) (st : Step ρ s ρ' s') : FR C env σ ρ' s'.heap := by
  obtain ⟨l, e, f⟩ := st.ext
  have nn : ∀ b o, s.heap.get? b = some o → b ∉ ρ → b ∉ ρ' := fun b o q hb hm => by
    rw [e] at hm
    rcases List.mem_append.mp hm with hm | hm
    · exact hb hm
    · rw [f b hm] at q; cases q
  refine ⟨F.dot, F.kind, F.glob, F.bl, ?_, fun x c hc => ?_, F.has, ?_, fun x c hc => ⟨?_, (F.nC x c hc).2⟩, F.apart, F.bL, F.bC⟩
  · obtain ⟨m, hn, hv⟩ := F.ns
    exact ⟨m, hn.at' fun o q => st.keep _ o F.nL id q, fun x v h1 h2 => by obtain ⟨u, h3, h4⟩ := hv x v h1 h2; exact ⟨u, h3, st.vr h4⟩⟩
  · obtain ⟨ov, ⟨o, ho, hd⟩, hv⟩ := F.cells x c hc
    exact ⟨ov, ⟨o, st.keep _ o (F.nC x c hc).1 id ho, hd⟩, fun v h1 h2 => by obtain ⟨u, h3, h4⟩ := hv v h1 h2; exact ⟨u, h3, st.vr h4⟩⟩
  · obtain ⟨m, ⟨o, es, ep, ho, _⟩, _⟩ := F.ns
    exact nn _ o ho F.nL
  · obtain ⟨ov, ⟨o, ho, hd⟩, hv⟩ := F.cells x c hc
    exact nn _ o ho (F.nC x c hc).1
theorem load_ok {env : Env} {σ : Sg} {ρ : List Addr} {s : Shared} {A : Around} {E : Value → Shared → Prop} {Q : Value → Shared → Prop} {x : Str} {v : V} (F : FR C env σ ρ s.heap) (hx : σ x = some v)
    (hk : env.kindOf x = some .local ∨ env.kindOf x = some .cell) (h : ∀ u, VR C ρ v u → Q u s) : wpAny C.M A (loadName env x) Q E s := by
  rcases hk with hk | hk
  · obtain ⟨m, hn, hv⟩ := F.ns
    obtain ⟨u, h1, h2⟩ := hv x v hx hk
    exact wpAny_loadName_local F.kind hk hn h1 (h u h2)
  · obtain ⟨c, hc⟩ := F.has x hk
    obtain ⟨ov, hi, hv⟩ := F.cells x c hc
    obtain ⟨u, rfl, h2⟩ := hv v hx hk
    exact wpAny_loadName_cell F.kind hk hc hi (h u h2)
noncomputable def own (env : Env) (b : Addr) : Prop := b = env.locals ∨ ∃ x, env.cells.lookup x = some b
noncomputable def ownT (env : Env) (Z : List Str) (b : Addr) : Prop := b = env.locals ∨ ∃ x ∈ Z, env.kindOf x = some .cell ∧ env.cells.lookup x = some b
theorem ownT.own {env : Env} {Z : List Str} : ∀ b, ownT env Z b → own env b
  | _, .inl h => .inl h
  | _, .inr ⟨x, _, _, h⟩ => .inr ⟨x, h⟩
theorem Sim.frame {ρ : List Addr} {H : AHeap} {s : Shared} (S : Sim C ρ H s) {h' : Heap} {tk : Nat} {a : Addr} (ha : a ∉ ρ) (hb : C.base.get? a = none) (hs : Heap.SameBut a s.heap h') : Sim C ρ H { s with heap := h', toks := tk } :=
  ⟨S.len, S.nodup, fun i b o e q => (S.obj i b o e q).keep C [] (by simp) fun _ x => (hs.2 b fun z => ha (z ▸ List.mem_of_getElem? e)).trans x,
   fun b o e => (hs.2 b fun z => by rw [z, hb] at e; cases e).trans (S.stays b o e), S.fresh, S.sm, S.gens, S.os⟩
theorem step_same {ex : Addr → Prop} {ρ : List Addr} {s : Shared} {h' : Heap} {tk : Nat} {a : Addr} {o₁ : Obj} (he : ex a) (hs : Heap.SameBut a s.heap h') (ho : h'.get? a = some o₁) : StepG ex ρ s ρ { s with heap := h', toks := tk } :=
  ⟨⟨[], by simp, fun _ h => nomatch h⟩, fun b o _ hx e => (hs.2 b fun z => hx (z ▸ he)).trans e, fun b o e => by
    by_cases z : b = a
    · exact ⟨o₁, z ▸ ho⟩
    · exact ⟨o, (hs.2 b z).trans e⟩⟩
theorem store_ok {env : Env} {σ : Sg} {ρ : List Addr} {H : AHeap} {s : Shared} {A : Around} {E : Value → Shared → Prop} {Q : Unit → Shared → Prop} {x : Str} {Z : List Str} {v : V} {u : Value} (F : FR C env σ ρ s.heap) (S : Sim C ρ H s) (hZ : x ∈ Z)
    (hk : env.kindOf x = some .local ∨ env.kindOf x = some .cell) (h0 : x ≠ dot0) (hu : VR C ρ v u)
    (h : ∀ s', FR C env (σ.set x v) ρ s'.heap → Sim C ρ H s' → StepG (ownT env Z) ρ s ρ s' → Q () s') : wpAny C.M A (storeName env x u) Q E s := by
  have hdot : σ.set x v dot0 = none := by unfold Sg.set; rw [if_neg (Ne.symm h0)]; exact F.dot
  rcases hk with hk | hk
  · obtain ⟨m, hn, hv⟩ := F.ns
    refine wpAny_storeName_local hk hn (fun h' hn' hs' => ?_) (by rw [F.kind]; rfl)
    obtain ⟨o₁, es, ep, ho, _⟩ := id hn'
    refine h _ ⟨hdot, F.kind, F.glob, F.bl, ⟨_, hn', fun y w h1 h2 => ?_⟩, fun y c hc => ?_, F.has, F.nL, F.nC, F.apart, F.bL, F.bC⟩ (S.frame F.nL F.bL hs') (step_same (.inl rfl) hs' ho)
    · by_cases hy : y = x
      · subst hy
        unfold Sg.set at h1
        rw [if_pos rfl] at h1 ⊢
        cases h1
        exact ⟨u, rfl, hu⟩
      · unfold Sg.set at h1
        rw [if_neg hy] at h1 ⊢
        exact hv y w h1 h2
    · obtain ⟨ov, hi, hc'⟩ := F.cells y c hc
      refine ⟨ov, hi.sameBut hs' (F.nC y c hc).2, fun w h1 h2 => ?_⟩
      have hy : y ≠ x := fun z => by rw [z, hk] at h2; cases h2
      unfold Sg.set at h1
      rw [if_neg hy] at h1
      exact hc' w h1 h2
  · obtain ⟨c, hc⟩ := F.has x hk
    obtain ⟨ov, hi, hv⟩ := F.cells x c hc
    refine wpAny_storeName_cell F.kind hk hc hi fun h' hi' hs' => ?_
    obtain ⟨o₁, ho, hd⟩ := id hi'
    refine h _ ⟨hdot, F.kind, F.glob, F.bl, ?_, fun y d hd' => ?_, F.has, F.nL, F.nC, F.apart, F.bL, F.bC⟩ (S.frame (tk := s.toks) (F.nC x c hc).1 (F.bC x c hc) hs') (step_same (tk := s.toks) (.inr ⟨x, hZ, hk, hc⟩) hs' ho)
    · obtain ⟨m, hn, hm⟩ := F.ns
      refine ⟨m, hn.sameBut hs' (Ne.symm (F.nC x c hc).2), fun y w h1 h2 => ?_⟩
      have hy : y ≠ x := fun z => by rw [z, hk] at h2; cases h2
      unfold Sg.set at h1
      rw [if_neg hy] at h1
      exact hm y w h1 h2
    · by_cases hy : y = x
      · subst hy
        rw [hc] at hd'; cases hd'
        refine ⟨_, hi', fun w h1 _ => ?_⟩
        unfold Sg.set at h1
        rw [if_pos rfl] at h1
        cases h1
        exact ⟨u, rfl, hu⟩
      · obtain ⟨ov', hi2, hv2⟩ := F.cells y d hd'
        refine ⟨ov', hi2.sameBut hs' (fun z => hy (F.apart y x c (z ▸ hd') hc)), fun w h1 h2 => ?_⟩
        unfold Sg.set at h1
        rw [if_neg hy] at h1
        exact hv2 w h1 h2
theorem global_ok {env : Env} {σ : Sg} {ρ : List Addr} {H : AHeap} {s : Shared} {A : Around} {E : Value → Shared → Prop} {Q : Value → Shared → Prop} {x : Str} {u : Value} {pos : Pos} (F : FR C env σ ρ s.heap) (S : Sim C ρ H s)
    (hk : env.kindOf x = some .globalImplicit) (hg : C.G x = some u) (hd : (x == Str.ofString "__debug__") = false) (h : Q u s) : wpAny C.M A (eval (.Name x pos) env) Q E s := by
  refine Name_function_global F.kind hk ?_ hd
  rcases C.hG x u hg with e | ⟨e1, e2⟩
  · exact loadGlobal_global (by rw [F.glob]; exact C.hg.keeps S.stays) e h
  · exact loadGlobal_builtin (by rw [F.glob]; exact C.hg.keeps S.stays) e1 (by rw [F.bl]; exact C.hb.keeps S.stays) e2 h
end Mine
end
section
namespace Mine
open PySem PySem.Calls PyProof.Rows
theorem okT_iff {a : Txt} : okT a = true ↔ a.length ≤ lid ∧ ∀ c ∈ a, c < 1114112 := by
  unfold okT; rw [Bool.and_eq_true, decide_eq_true_eq, List.all_eq_true]
  exact ⟨fun h => ⟨h.1, fun c hc => of_decide_eq_true (h.2 c hc)⟩, fun h => ⟨h.1, fun c hc => decide_eq_true (h.2 c hc)⟩⟩
theorem okT_append {a b : Txt} (ha : okT a = true) (hb : okT b = true) (hl : a.length + b.length ≤ lid) : okT (a ++ b) = true := by
  rw [okT_iff] at *
  refine ⟨by rw [List.length_append]; exact hl, fun c hc => ?_⟩
  rcases List.mem_append.mp hc with h | h
  · exact ha.2 c h
  · exact hb.2 c h
theorem okT_take {a : Txt} (ha : okT a = true) (n : Nat) : okT (a.take n) = true := by
  rw [okT_iff] at *; exact ⟨Nat.le_trans (by rw [List.length_take]; exact Nat.min_le_right _ _) ha.1, fun c hc => ha.2 c (List.mem_of_mem_take hc)⟩
theorem okT_drop {a : Txt} (ha : okT a = true) (n : Nat) : okT (a.drop n) = true := by
  rw [okT_iff] at *; exact ⟨Nat.le_trans (by rw [List.length_drop]; exact Nat.sub_le _ _) ha.1, fun c hc => ha.2 c (List.mem_of_mem_drop hc)⟩
theorem okT_cut {a : Txt} (ha : okT a = true) (i j : Nat) : okT (cut a i j) = true := okT_drop (okT_take ha j) i
theorem str_append (a b : Txt) : (⟨a.toArray⟩ : Str) ++ ⟨b.toArray⟩ = ⟨(a ++ b).toArray⟩ := by
  show (⟨_⟩ : Str) = _
  congr 1
  simp
theorem str_len (a : Txt) : (⟨a.toArray⟩ : Str).length = a.length := by show a.toArray.size = _; simp
theorem str_cps (a : Txt) : (⟨a.toArray⟩ : Str).cps.toList = a := by simp
theorem lid_le {n : Nat} (h : n ≤ lid) : n ≤ sizeLine := by rw [sizeLine_eq]; unfold lid at h; omega
section
variable {C : Cx} {ρ : List Addr} {H : AHeap} {s : Shared} {A : Around} {E : Value → Shared → Prop} {Q : VPost}
theorem vi (i : Int) (t : Tok) : VR C ρ (.int i) (.int i t) := ⟨t, rfl⟩
theorem vt {x : Txt} (h : okT x = true) (t : Tok) : VR C ρ (.str x) (.str ⟨x.toArray⟩ t) := ⟨h, t, rfl⟩
theorem vb (b : Bool) : VR C ρ (.bool b) (.bool b) := rfl
theorem here {v : V} {u : Value} {t : Nat} (S : Sim C ρ H s) (hv : VR C ρ v u) (hq : Q v H) : PV C ρ s Q u { s with toks := t } := ⟨ρ, H, v, StepG.toks t, S.toks t, hv, hq⟩
theorem here0 {v : V} {u : Value} (S : Sim C ρ H s) (hv : VR C ρ v u) (hq : Q v H) : PV C ρ s Q u s := ⟨ρ, H, v, StepG.refl ρ s, S, hv, hq⟩
theorem get_push {h : Heap} {o : Obj} : ∀ b x, h.get? b = some x → (h.push o).get? b = some x := fun _ _ e => Heap.get?_push_of_some _ e
theorem get_size (h : Heap) : h.get? h.objs.size = none := by
  cases e : h.get? h.objs.size with
  | none => rfl
  | some o => exact absurd (Heap.lt_size e) (Nat.lt_irrefl _)
theorem pushed_list {us : List Value} {vs : List V} {tk : Nat} (S : Sim C ρ H s) (hv : All2 (VR C ρ) vs us) (hl : vs.length ≤ lid) (hq : Q (.ref H.length) (H ++ [.list vs])) :
    PV C ρ s Q (.ref s.heap.objs.size) { s with heap := s.heap.push { cls := .type "list", data := .seq us.toArray }, toks := tk } := by
  obtain ⟨a, b, c⟩ := S.alloc (a := s.heap.objs.size) (o := .list vs) (h' := s.heap.push { cls := .type "list", data := .seq us.toArray }) (tk := tk) get_push (get_size _) S.size_ne ⟨us.toArray, 0, Heap.get?_push_size _ rfl, by simpa using hv, hl⟩
  exact ⟨_, _, _, b, a, c, hq⟩
theorem pushed_tuple {us : List Value} {vs : List V} {tk : Nat} (S : Sim C ρ H s) (hv : All2 (VR C ρ) vs us) (hl : vs.length ≤ lid) (hq : Q (.ref H.length) (H ++ [.tuple vs])) :
    PV C ρ s Q (.ref s.heap.objs.size) { s with heap := s.heap.push { cls := .type "tuple", data := .seq us.toArray }, toks := tk } := by
  obtain ⟨a, b, c⟩ := S.alloc (a := s.heap.objs.size) (o := .tuple vs) (h' := s.heap.push { cls := .type "tuple", data := .seq us.toArray }) (tk := tk) get_push (get_size _) S.size_ne ⟨us.toArray, 0, Heap.get?_push_size _ rfl, by simpa using hv, hl⟩
  exact ⟨_, _, _, b, a, c, hq⟩
theorem lo64 {i : Int} (q : i.natAbs < 2 ^ 63) : -(2 ^ 64) < i := by omega
theorem hi64 {i : Int} (q : i.natAbs < 2 ^ 63) : i < 2 ^ 64 := by omega
theorem binA_ok {op : Operator} {a b : V} {u w : Value} (h : binA op a b H Q) (S : Sim C ρ H s) (hu : VR C ρ a u) (hw : VR C ρ b w) : wpAny C.M A (binaryOp op u w) (PV C ρ s Q) E s := by
  cases h with
  | add h => obtain ⟨t, rfl⟩ := hu; obtain ⟨t', rfl⟩ := hw; exact add_int (here S (vi _ _) h)
  | sub h => obtain ⟨t, rfl⟩ := hu; obtain ⟨t', rfl⟩ := hw; exact sub_int (here S (vi _ _) h)
  | mul h0 h =>
    obtain ⟨t, rfl⟩ := hu; obtain ⟨t', rfl⟩ := hw
    refine mul_int (here S (vi _ _) h) ?_
    rcases h0 with q | q
    · exact IntMulOk.of_left (intBits_le_64 (lo64 q) (hi64 q))
    · exact IntMulOk.of_right (intBits_le_64 (lo64 q) (hi64 q))
  | div h1 h2 h3 =>
    obtain ⟨t, rfl⟩ := hu; obtain ⟨t', rfl⟩ := hw
    refine floordiv_int (Int.ne_of_gt h1) ?_ (.inl (PyProof.noPylong_small (by omega)))
    rw [Int.fdiv_eq_ediv_of_nonneg _ (Int.le_of_lt h1)]
    exact here S (vi _ _) h3
  | mod h1 h3 =>
    obtain ⟨t, rfl⟩ := hu; obtain ⟨t', rfl⟩ := hw
    refine mod_int' (Int.ne_of_gt h1) ?_
    rw [Int.fmod_eq_emod_of_nonneg _ (Int.le_of_lt h1)]
    exact here S (vi _ _) h3
  | cat h1 h2 =>
    obtain ⟨hx, t, rfl⟩ := hu; obtain ⟨hy, t', rfl⟩ := hw
    refine P.add_str ?_
    split
    · rename_i q
      rw [str_len, beq_iff_eq] at q
      have := List.eq_nil_of_length_eq_zero q
      subst this
      exact here0 S (vt hy t') h2
    · split
      · rename_i q
        rw [str_len, beq_iff_eq] at q
        have := List.eq_nil_of_length_eq_zero q
        subst this
        rw [List.append_nil] at h2
        exact here0 S (vt hx t) h2
      · rw [str_append]
        exact ⟨by rw [str_len, List.length_append]; exact lid_le h1, here S (vt (okT_append hx hy h1) _) h2⟩
  | lcat e1 e2 h0 h =>
    obtain ⟨a, rfl, ea, us, n, ho, hs, hl⟩ := S.lookup e1 hu
    obtain ⟨b, rfl, eb, us', n', ho', hs', hl'⟩ := S.lookup e2 hw
    have l1 := hs.length
    have l2 := hs'.length
    refine P.add_list ho ho' ?_ (by rw [← show _ = us.size from l1, ← show _ = us'.size from l2]; exact lid_le h0)
    have := pushed_list (us := us.toList ++ us'.toList) (tk := s.toks) S (hs.append hs') (by rw [List.length_append]; exact h0) h
    rwa [← List.append_toArray] at this
noncomputable def Rdd (h : Heap) (n : Nat) (u : Value) (d : PyData) : Prop := ∃ as, Reads h u d as ∧ d.canLay0 = true ∧ d.depth ≤ n
theorem rdL_reads {f : V → Option PyData} {n : Nat} (ih : ∀ v d u, f v = some d → VR C ρ v u → Rdd s.heap n u d) {vs : List V} {us : List Value} (h : All2 (VR C ρ) vs us) : ∀ {ds : List PyData}, rdL f vs = some ds → ∃ as, ReadsAll s.heap us ds as ∧ PyData.canLayAll0 ds = true ∧ PyData.depthAll ds ≤ n := by
  induction h with
  | nil => intro ds e; cases e; exact ⟨[], .nil, rfl, Nat.zero_le _⟩
  | cons hv hr ih' =>
    intro ds e
    obtain ⟨d, e1, e⟩ := Option.bind_eq_some_iff.mp e
    obtain ⟨ds', e2, rfl⟩ := Option.map_eq_some_iff.mp e
    obtain ⟨as, r1, c1, d1⟩ := ih _ d _ e1 hv
    obtain ⟨bs, r2, c2, d2⟩ := ih' e2
    exact ⟨as ++ bs, .cons r1 r2, Bool.and_eq_true_iff.mpr ⟨c1, c2⟩, Nat.max_le.mpr ⟨d1, d2⟩⟩
theorem rdO_reads (S : Sim C ρ H s) {f : V → Option PyData} {n m : Nat} (ih : ∀ v d u, f v = some d → VR C ρ v u → Rdd s.heap n u d) {o : AObj} {d : PyData} {u : Value} (e : H[m]? = some o) (hv : VR C ρ (.ref m) u) (h : rdO f o = some d) : Rdd s.heap (n + 1) u d := by
  cases o with
  | list xs =>
    obtain ⟨b, rfl, eb, us, k, ho, hs, hl⟩ := S.lookup e hv
    obtain ⟨ds, e2, rfl⟩ := Option.map_eq_some_iff.mp h
    obtain ⟨as, r1, c1, d1⟩ := rdL_reads ih hs e2
    exact ⟨b :: as, .list ho rfl rfl r1, c1, Nat.succ_le_succ d1⟩
  | tuple xs =>
    obtain ⟨b, rfl, eb, us, k, ho, hs, hl⟩ := S.lookup e hv
    obtain ⟨ds, e2, rfl⟩ := Option.map_eq_some_iff.mp h
    obtain ⟨as, r1, c1, d1⟩ := rdL_reads ih hs e2
    exact ⟨as, .tuple ho rfl rfl r1, c1, Nat.succ_le_succ d1⟩
  | dict _ _ => cases h
theorem rdV_reads {f : Nat → Option PyData} {n : Nat} (ih : ∀ m d u, f m = some d → VR C ρ (.ref m) u → Rdd s.heap n u d) {v : V} {d : PyData} {u : Value} (h : rdV f v = some d) (hv : VR C ρ v u) : Rdd s.heap n u d := by
  cases v with
  | none => cases h; cases hv; exact ⟨[], .none, rfl, Nat.zero_le _⟩
  | bool b => cases h; cases hv; exact ⟨[], .bool b, rfl, Nat.zero_le _⟩
  | int i => cases h; obtain ⟨t, rfl⟩ := hv; exact ⟨[], .int i t, rfl, Nat.zero_le _⟩
  | str x =>
    cases h
    obtain ⟨ok, t, rfl⟩ := hv
    refine ⟨[], .str _ t, ?_, Nat.zero_le _⟩
    show x.toArray.all _ = true
    rw [Array.all_eq_true_iff_forall_mem]
    exact fun c hc => decide_eq_true ((okT_iff.mp ok).2 c (List.mem_toArray.mp hc))
  | ref a => exact ih a d u h hv
  | glob _ => cases h
theorem rd_reads (S : Sim C ρ H s) : ∀ (n : Nat) (v : V) (d : PyData) (u : Value), rd H n v = some d → VR C ρ v u → Rdd s.heap n u d
  | 0, v, d, u, h, hv => rdV_reads (fun _ _ _ e => (no_some e : False).elim) h hv
  | n + 1, v, d, u, h, hv => rdV_reads (n := n + 1) (fun m d u e hv => by
      obtain ⟨o, e1, e2⟩ := Option.bind_eq_some_iff.mp e
      exact rdO_reads S (rd_reads S n) e1 hv e2) h hv
theorem dict_map {es : List (Txt × V)} {ds : Array DictEntry} {n : Nat} {a : Addr} (ho : s.heap.get? a = some ⟨.type "dict", none, .dict ds n, #[]⟩) (hs : All2 (ER C ρ) es ds.toList) :
    s.heap.MapOf (PySem.strKind C.prog C.w) a (fun k => findBy Value.isStrOf ds k) :=
  ⟨_, ds, n, ho, ⟨rfl, rfl, rfl⟩, rfl, fun e he => by
    obtain ⟨p, hp, ⟨_, t, e1⟩, e2, e3⟩ := hs.right e (Array.mem_toList_iff.mpr he)
    exact ⟨⟨p.1.toArray⟩, by rw [e1]; exact strKind_is _ _ _ t, e2⟩, fun _ => rfl⟩
theorem dict_find {k : Txt} : ∀ {es : List (Txt × V)} {l : List DictEntry}, All2 (ER C ρ) es l →
    (es.find? (fun e => e.1 == k) = none ∧ l.find? (fun e => Value.isStrOf ⟨k.toArray⟩ e.key) = none) ∨
    ∃ e d, es.find? (fun e => e.1 == k) = some e ∧ l.find? (fun e => Value.isStrOf ⟨k.toArray⟩ e.key) = some d ∧ VR C ρ e.2 d.val
  | _, _, .nil => .inl ⟨rfl, rfl⟩
  | _, _, .cons (a := e) (b := d) (as := es) (bs := l) h r => by
    obtain ⟨⟨_, t, e1⟩, e2, e3⟩ := h
    by_cases q : e.1 = k
    · refine .inr ⟨e, d, ?_, ?_, e3⟩
      · rw [List.find?_cons_of_pos (by simpa using q)]
      · rw [List.find?_cons_of_pos (by rw [e1, q]; simp [Value.isStrOf])]
    · have q1 : ¬ ((e.1 == k) = true) := by simpa using q
      have q2 : ¬ (Value.isStrOf ⟨k.toArray⟩ d.key = true) := by rw [e1]; simpa [Value.isStrOf] using q
      have q3 : (e :: es).find? (fun e => e.1 == k) = es.find? (fun e => e.1 == k) := List.find?_cons_of_neg (p := fun e : Txt × V => e.1 == k) q1
      have q4 : (d :: l).find? (fun e => Value.isStrOf ⟨k.toArray⟩ e.key) = l.find? (fun e => Value.isStrOf ⟨k.toArray⟩ e.key) := List.find?_cons_of_neg (p := fun e : DictEntry => Value.isStrOf ⟨k.toArray⟩ e.key) q2
      rw [q3, q4]
      exact dict_find (k := k) r
theorem any_find {k : Txt} (es : List (Txt × V)) : (es.any fun e => e.1 == k) = (es.find? fun e => e.1 == k).isSome := by
  induction es with
  | nil => rfl
  | cons e r ih =>
    rw [List.any_cons, ih, List.find?_cons]
    cases e.1 == k <;> simp
theorem dict_has {es : List (Txt × V)} {ds : Array DictEntry} {k : Txt} (hs : All2 (ER C ρ) es ds.toList) : (findBy Value.isStrOf ds ⟨k.toArray⟩).isSome = es.any fun e => e.1 == k := by
  unfold findBy
  rw [any_find, ← Array.find?_toList]
  rcases dict_find (k := k) hs with ⟨z1, z2⟩ | ⟨e', d', z1, z2, z3⟩
  · rw [z1, z2]; rfl
  · rw [z1, z2]; rfl
theorem Sim.not_sm (S : Sim C ρ H s) {n : Nat} {a : Addr} (e : ρ[n]? = some a) : (a == sysModules) = false := by
  have : a ≠ sysModules := fun z => S.sm (z ▸ List.mem_of_getElem? e)
  simpa using this
theorem deep {K m n : Nat} (h : A.units + 5 * K + 200 < cLine) (h1 : m ≤ 6) (h2 : n ≤ 6) : A.units + min m n < cLine := Nat.lt_of_le_of_lt (Nat.add_le_add (Nat.le_add_right _ (5 * K)) (Nat.le_trans (Nat.min_le_left _ _) (Nat.le_trans h1 (by decide)))) h
theorem deep1 {K m n : Nat} (h : A.units + 5 * K + 200 < cLine) (h2 : n ≤ 6) : A.units + 1 + min m n < cLine := Nat.lt_of_le_of_lt (by rw [Nat.add_assoc]; exact Nat.add_le_add (Nat.le_add_right _ (5 * K)) (Nat.add_le_add_left (Nat.le_trans (Nat.min_le_right _ _) (Nat.le_trans h2 (by decide : 6 ≤ 199))) 1)) h
theorem same_pairs {id : String} {a b : Addr} {es fs : List (Txt × V)} {ds gs : Array DictEntry} {n m : Nat} {R : Bool → Shared → Prop} (ha : (a == sysModules) = false) (hb : (b == sysModules) = false) (hoa : s.heap.get? a = some ⟨.type "dict", none, .dict ds n, #[]⟩) (hob : s.heap.get? b = some ⟨.type "dict", none, .dict gs m, #[]⟩)
    (hs : All2 (ER C ρ) es ds.toList) (ht : All2 (ER C ρ) fs gs.toList) (hl : es.length = fs.length) (heq : ∀ e ∈ es, ∃ f, fs.find? (fun x => x.1 == e.1) = some f ∧ ∀ u w, VR C ρ e.2 u → VR C ρ f.2 w → SeqAt.EqAt A s u w true) (h : R true s) : wpAny C.M A (Builtin.Dict.samePairs id a b) R E s := by
  have hsz : ds.size = gs.size := by rw [← Array.length_toList, ← hs.length, hl, ht.length, Array.length_toList]
  unfold Builtin.Dict.samePairs Builtin.Dict.showsAll
  rw [if_neg (show ¬ (a == sysModules) = true by rw [ha]; exact Bool.false_ne_true), if_neg (show ¬ (b == sysModules) = true by rw [hb]; exact Bool.false_ne_true)]
  refine wpAny_bind (wpAny_pure (wpAny_bind (wpAny_pure ?_)))
  refine wpAny_bind (wpAny_dictEntries hoa rfl ?_)
  dsimp only
  refine wpAny_bind (wpAny_dictEntries hob rfl ?_)
  rw [if_neg (by rw [hsz]; simp)]
  refine wpAny_bind (wpAny_dictEpoch hoa rfl ?_)
  refine wpAny_bind ?_
  rw [Std.Legacy.Range.forIn_eq_forIn_range']
  simp only [Std.Legacy.Range.size, Nat.sub_zero, Nat.add_sub_cancel, Nat.div_one]
  refine wpAny_forIn_list _ (fun rest q s' => s' = s ∧ q = (none, ()) ∧ ∀ i ∈ rest, i < ds.size) _ ?_ ?_ _ _ ⟨rfl, rfl, fun i hi => by simpa using hi⟩
  · rintro x rest q s' ⟨rfl, rfl, hr⟩
    have hlt := hr x (.head _)
    refine wpAny_bind (wpAny_dictEntries hoa rfl ?_)
    rw [Array.getElem?_eq_getElem hlt]
    obtain ⟨e, he, ⟨_, t, hkey⟩, hhash, hval⟩ := hs.right ds[x] (Array.getElem_mem_toList hlt)
    obtain ⟨f, hf, hq⟩ := heq e he
    show wpAny _ _ (holding [ds[x].key, ds[x].val] _ >>= _) _ _ _
    rw [hhash]
    refine wpAny_bind (wpAny_holding (wpAny_bind (wpAny_dictFind_of (knd := PySem.strKind C.prog C.w) (k := ⟨e.1.toArray⟩) (by rw [hkey]; exact strKind_is _ _ _ t) hob rfl (fun d hd => ?_) ?_)))
    · obtain ⟨p, hp, ⟨_, t, e1⟩, e2, e3⟩ := ht.right d (Array.mem_toList_iff.mpr hd)
      exact ⟨⟨p.1.toArray⟩, by rw [e1]; exact strKind_is _ _ _ t, e2⟩
    · have hfb := findBy_of_findIdx? (PySem.strKind C.prog C.w).is gs (⟨e.1.toArray⟩ : Str)
      rcases dict_find (k := e.1) ht with ⟨z1, z2⟩ | ⟨f', d', z1, z2, z3⟩
      · rw [z1] at hf; cases hf
      rw [z1] at hf; cases hf
      have h1 : findBy (PySem.strKind C.prog C.w).is gs (⟨e.1.toArray⟩ : Str) = some d'.val := by show findBy Value.isStrOf _ _ = _; unfold findBy; rw [← Array.find?_toList, z2]; rfl
      rw [h1] at hfb
      cases hj : gs.findIdx? fun d => (PySem.strKind C.prog C.w).is (⟨e.1.toArray⟩ : Str) d.key with
      | none => rw [hj] at hfb; cases hfb
      | some j =>
        rw [hj] at hfb
        obtain ⟨g, hg, hgv⟩ := Option.map_eq_some_iff.mp hfb.symm
        refine wpAny_bind (wpAny_dictEntries hob rfl ?_)
        rw [hg]
        refine wpAny_holding (hq _ _ hval (by rw [hgv]; exact z3) _ _ _ _ ?_)
        show wpAny _ _ (if (!true) = true then _ else _) _ _ _
        rw [if_neg (by decide)]
        refine wpAny_bind (wpAny_dictEpoch hoa rfl ?_)
        rw [if_neg (by simp)]
        exact wpAny_pure ⟨rfl, rfl, fun i hi => hr i (.tail _ hi)⟩
  · rintro q s' ⟨rfl, rfl, _⟩
    exact wpAny_pure h
theorem same_hits {K : Nat} {es fs : List (Txt × V)} (S : Sim C ρ H s) (hA : AOk K A) (h : SameD H es fs) : ∀ e ∈ es, ∃ f, fs.find? (fun x => x.1 == e.1) = some f ∧ ∀ u w, VR C ρ e.2 u → VR C ρ f.2 w → SeqAt.EqAt A.in1 s u w true := fun e he => by
  obtain ⟨f, d, h1, h2, h3⟩ := h.2 e he
  refine ⟨f, h1, fun u w hu hw => ?_⟩
  obtain ⟨as, r1, c1, d1⟩ := rd_reads S _ _ _ _ h2 hu
  obtain ⟨bs, r2, c2, d2⟩ := rd_reads S _ _ _ _ h3 hw
  rw [← SeqAt.eqv_refl d c1]
  exact SeqAt.eqAt_reads d d A.in1 s u w as bs r1 r2 c1 c2 (deep1 hA.u (Nat.le_trans d2 (Nat.zero_le _)))
theorem cmpA_ok {K : Nat} {op : CmpOp} {a b : V} {u w : Value} {q : Bool → Prop} (h : cmpA op a b H q) (S : Sim C ρ H s) (hA : AOk K A) (hu : VR C ρ a u) (hw : VR C ρ b w) :
    wpAny C.M A (compareOp op u w) (fun r s' => ∃ c, r = .bool c ∧ Step ρ s ρ s' ∧ Sim C ρ H s' ∧ q c) E s := by
  have fin : ∀ c, q c → ∃ c', Value.bool c = .bool c' ∧ Step ρ s ρ s ∧ Sim C ρ H s ∧ q c' := fun c hc => ⟨c, rfl, StepG.refl _ _, S, hc⟩
  have fin' : ∀ c t, q c → ∃ c', Value.bool c = .bool c' ∧ Step ρ s ρ { s with toks := t } ∧ Sim C ρ H { s with toks := t } ∧ q c' := fun c t hc => ⟨c, rfl, StepG.toks _, S.toks _, hc⟩
  have hun := hA.u
  have isn : (u == Value.none) = decide (a = .none) := by
    cases a with
    | none => cases hu; rfl
    | bool b => cases hu; rfl
    | int i => obtain ⟨t, rfl⟩ := hu; rfl
    | str x => obtain ⟨_, t, rfl⟩ := hu; rfl
    | ref n => obtain ⟨x, rfl, _⟩ := hu; rfl
    | glob g =>
      have hu : C.G g = some u := hu
      cases hz : u == Value.none with
      | false => simp
      | true =>
        exfalso
        have hz := beq_iff_eq.mp hz
        subst hz
        exact C.hN g hu
  cases h with
  | eq e1 e2 h =>
    obtain ⟨as, r1, c1, d1⟩ := rd_reads S _ _ _ _ e1 hu
    obtain ⟨bs, r2, c2, d2⟩ := rd_reads S _ _ _ _ e2 hw
    exact SeqAt.compareEq_reads r1 r2 c1 c2 (deep hun d1 d2) (fin _ h)
  | ne e1 e2 h =>
    obtain ⟨as, r1, c1, d1⟩ := rd_reads S _ _ _ _ e1 hu
    obtain ⟨bs, r2, c2, d2⟩ := rd_reads S _ _ _ _ e2 hw
    exact SeqAt.compareNe_reads r1 r2 c1 c2 (deep hun d1 d2) (fin _ h)
  | is h => cases hw; refine PySem.is_none ?_; rw [isn]; exact fin _ h
  | isn h => cases hw; refine PySem.isNot_none ?_; rw [isn]; exact fin _ h
  | lt h => obtain ⟨t, rfl⟩ := hu; obtain ⟨t', rfl⟩ := hw; exact lt_int (fin _ h)
  | le h => obtain ⟨t, rfl⟩ := hu; obtain ⟨t', rfl⟩ := hw; exact le_int (fin _ h)
  | gt h => obtain ⟨t, rfl⟩ := hu; obtain ⟨t', rfl⟩ := hw; exact gt_int (fin _ h)
  | ge h => obtain ⟨t, rfl⟩ := hu; obtain ⟨t', rfl⟩ := hw; exact ge_int (fin _ h)
  | inS h =>
    rename_i c u'
    obtain ⟨_, t, rfl⟩ := hu; obtain ⟨_, t', rfl⟩ := hw
    refine P.in_str ?_
    rw [show (⟨[c].toArray⟩ : Str) = ⟨#[c]⟩ from rfl, StrLaws.found_one, str_cps]
    exact fin _ h
  | inL e1 e2 h =>
    obtain ⟨as, r1, c1, d1⟩ := rd_reads S _ _ _ _ e1 hw
    obtain ⟨bs, r2, c2, d2⟩ := rd_reads S _ _ _ _ e2 hu
    exact SeqAt.in_list_reads r1 r2 c1 c2 (deep1 hun d2) (fin _ h)
  | inD e h =>
    obtain ⟨a, rfl, ea, ds, ho, hs, _⟩ := S.lookup e hw
    obtain ⟨_, t, rfl⟩ := hu
    refine wpAny_in_of (strKind_is _ _ _ t) (S.not_sm ea) (dict_map ho hs) ?_
    rw [dict_has hs]; exact fin' _ _ h
  | ninL e1 e2 h =>
    obtain ⟨as, r1, c1, d1⟩ := rd_reads S _ _ _ _ e1 hw
    obtain ⟨bs, r2, c2, d2⟩ := rd_reads S _ _ _ _ e2 hu
    exact SeqAt.notIn_list_reads r1 r2 c1 c2 (deep1 hun d2) (fin _ h)
  | ninD e h =>
    obtain ⟨a, rfl, ea, ds, ho, hs, _⟩ := S.lookup e hw
    obtain ⟨_, t, rfl⟩ := hu
    refine wpAny_notIn_of (strKind_is _ _ _ t) (S.not_sm ea) (dict_map ho hs) ?_
    rw [dict_has hs]; exact fin' _ _ h
  | eqD e1 e2 hsd h =>
    obtain ⟨a, rfl, ea, ds, ho, hs, _⟩ := S.lookup e1 hu
    obtain ⟨b, rfl, eb, gs, ho', hs', _⟩ := S.lookup e2 hw
    have ta : s.TypeIs (.ref a) "dict" := ⟨_, ho, rfl⟩
    have tb : s.TypeIs (.ref b) "dict" := ⟨_, ho', rfl⟩
    refine wpAny_richCompare_same_room (op := .Eq) ta tb PySem.F.slot_dict_eq (wpAny_call_entry PySem.F.slot_dict_eq ta PySem.F.entry_dict_eq ?_ (PySem.F.args_dict_eq_2 _ _)) (Nat.lt_of_le_of_lt (Nat.le_trans (Nat.le_add_right _ _) (Nat.le_add_right _ _)) hun)
    show wpAny _ _ (Builtin.Dict.dictSlotArgs "__eq__" ⟨[.ref a, .ref b], []⟩ >>= _) _ _ s
    refine wpAny_bind ?_
    unfold Builtin.Dict.dictSlotArgs
    refine wpAny_bind (wpAny_notOrdered_dict ta ?_)
    show wpAny _ _ (pure (Value.ref a, Value.ref b)) _ _ s
    refine wpAny_pure ?_
    refine wpAny_bind (wpAny_isInstance (T := "dict") tb PySem.F.sub_dict_dict ?_)
    simp only [Bool.not_true, Bool.false_eq_true, if_false]
    refine wpAny_bind (wpAny_pure (wpAny_bind (wpAny_pure ?_)))
    refine wpAny_bind (same_pairs (S.not_sm ea) (S.not_sm eb) ho ho' hs hs' hsd.1 (same_hits S hA hsd) ?_)
    exact wpAny_pure ⟨_, rfl, (fun x => nomatch x), fin true h⟩
  | neD e1 e2 hsd h =>
    obtain ⟨a, rfl, ea, ds, ho, hs, _⟩ := S.lookup e1 hu
    obtain ⟨b, rfl, eb, gs, ho', hs', _⟩ := S.lookup e2 hw
    have ta : s.TypeIs (.ref a) "dict" := ⟨_, ho, rfl⟩
    have tb : s.TypeIs (.ref b) "dict" := ⟨_, ho', rfl⟩
    refine wpAny_richCompare_same_room (op := .NotEq) ta tb PySem.F.slot_dict_ne (wpAny_call_entry PySem.F.slot_dict_ne ta PySem.F.entry_dict_ne ?_ (PySem.F.args_dict_ne_2 _ _)) (Nat.lt_of_le_of_lt (Nat.le_trans (Nat.le_add_right _ _) (Nat.le_add_right _ _)) hun)
    show wpAny _ _ (Builtin.Dict.dictSlotArgs "__ne__" ⟨[.ref a, .ref b], []⟩ >>= _) _ _ s
    refine wpAny_bind ?_
    unfold Builtin.Dict.dictSlotArgs
    refine wpAny_bind (wpAny_notOrdered_dict ta ?_)
    show wpAny _ _ (pure (Value.ref a, Value.ref b)) _ _ s
    refine wpAny_pure ?_
    refine wpAny_bind (wpAny_isInstance (T := "dict") tb PySem.F.sub_dict_dict ?_)
    simp only [Bool.not_true, Bool.false_eq_true, if_false]
    refine wpAny_bind (wpAny_pure (wpAny_bind (wpAny_pure ?_)))
    refine wpAny_bind (same_pairs (S.not_sm ea) (S.not_sm eb) ho ho' hs hs' hsd.1 (same_hits S hA hsd) ?_)
    exact wpAny_pure ⟨_, rfl, (fun x => nomatch x), fin false h⟩
end
end Mine
end
section
namespace Mine
open PySem PySem.Calls PyProof.Rows
theorem Pl.lt {n j : Nat} {k : Int} (h : Pl n k j) : j < n := by cases h <;> lia
theorem Pl.seq {n j : Nat} {k : Int} (h : Pl n k j) : seqIndex? k n = some j := by
  cases h with
  | pos h0 h1 => exact seqIndex_of h0 h1
  | neg h0 h1 => exact seqIndex_neg h0 h1
theorem Pl.fit {n j : Nat} {k : Int} (h : Pl n k j) (hn : n ≤ lid) : -(2 ^ 63) ≤ k ∧ k < 2 ^ 63 := by unfold lid at hn; cases h <;> lia
theorem clip_le (n : Nat) (i : Int) : clipAt n i ≤ n := Int.toNat_le.mpr (Int.max_le.mpr ⟨Int.natCast_nonneg n, Int.min_le_right _ _⟩)
theorem cut_eq {α : Type} (xs : List α) (a b : Nat) : (xs.drop a).take (b - a) = cut xs a b := by unfold cut; rw [List.drop_take]
theorem strIdx (lo hi : Option Int) (n : Nat) : Builtin.Str.strSliceIndices lo hi 1 n = sliceRange ((lo.elim 0 (clipAt n) : Nat) : Int) ((hi.elim n (clipAt n) : Nat) : Int) 1 := by
  cases lo <;> cases hi <;> simp [Builtin.Str.strSliceIndices, clipAt_cast]
theorem cut_len {α : Type} (xs : List α) (a b : Nat) : (cut xs a b).length ≤ xs.length := by
  unfold cut; rw [List.length_drop]; exact Nat.le_trans (Nat.sub_le _ _) (List.length_take_le' _ _)
theorem cut_whole (x : Txt) (a b : Nat) (hb : b ≤ x.length) (h : b - a = x.length) : cut x a b = x := by
  have e : b = x.length := Nat.le_antisymm hb (h ▸ Nat.sub_le _ _)
  subst e
  unfold cut
  rw [List.take_length]
  cases a with
  | zero => rfl
  | succ a =>
    have z : x.length = 0 := by lia
    rw [List.eq_nil_of_length_eq_zero z, List.drop_nil]
section
variable {C : Cx} {ρ : List Addr} {H : AHeap} {s : Shared} {A : Around} {E : Value → Shared → Prop} {Q : VPost}
theorem Bd.val {n d i : Nat} {v : V} {u : Value} (h : Bd n d v i) (hv : VR C ρ v u) : ∃ q : Option (Int × Tok), u = partValue q ∧ i = (q.map (·.1)).elim d (clipAt n) ∧ IsPart u (q.map (·.1)) := by
  cases h with
  | none => cases hv; exact ⟨Option.none, rfl, rfl, .none⟩
  | int => obtain ⟨t, rfl⟩ := hv; exact ⟨some (_, t), rfl, rfl, .int _ t⟩
theorem Bd.le {n i : Nat} {v : V} (h : Bd n n v i) : i ≤ n := by
  cases h with
  | none => exact Nat.le_refl _
  | int => exact clip_le _ _
theorem subA_ok {o i : V} {u w : Value} {value slice : Expr} (h : subA o i H fun v => Q v H) (S : Sim C ρ H s) (hu : VR C ρ o u) (hw : VR C ρ i w)
    (hs : subscripted slice false u w = operate [u, w] (getItem u w)) : wpAny C.M A (subscriptTail value slice u w) (PV C ρ s Q) E s := by
  cases h with
  | str e h =>
    rename_i t k j
    obtain ⟨ok, tk, rfl⟩ := hu; obtain ⟨tk', rfl⟩ := hw
    have b1 := e.lt
    obtain ⟨f1, f2⟩ := e.fit (okT_iff.mp ok).1
    refine tail_any (typeIs_str _ _ _) F.slot_str_getitem.lookup ?_ hs
    have e2 : (t.drop j).take 1 = [t[j]] := by rw [List.drop_eq_getElem_cons b1]; rfl
    refine P.getItem_str (c := t[j]) ?_ ?_ ?_
    · rw [decide_eq_false (Int.not_lt.mpr f1), decide_eq_false (Int.not_le.mpr f2)]; rfl
    · rw [str_len, e.seq]
      show t.toArray[j]? = _
      rw [List.getElem?_toArray, List.getElem?_eq_getElem b1]
    · rw [e2] at h
      exact here S (vt (by rw [← e2]; exact okT_take (okT_drop ok j) 1) _) h
  | list e e2 e3 h =>
    obtain ⟨a, rfl, ea, us, m, ho, hs', hl⟩ := S.lookup e hu
    obtain ⟨tk', rfl⟩ := hw
    obtain ⟨y, e4, hv⟩ := hs'.get _ _ e3
    rw [Array.getElem?_toList] at e4
    obtain ⟨f1, f2⟩ := e2.fit hl
    refine tail_any ⟨_, ho, rfl⟩ slot_list_getitem.lookup ?_ hs
    cases e2 with
    | pos h0 h1 => exact wpAny_getItem_list ⟨_, ho, rfl, m, rfl⟩ h0 f2 e4 (here0 S hv h)
    | neg h0 h1 =>
      rw [show _ = us.size from hs'.length] at e4 h1
      exact wpAny_getItem_list_neg ⟨_, ho, rfl, m, rfl⟩ h0 h1 f1 e4 (here0 S hv h)
  | tuple e e2 e3 h =>
    obtain ⟨a, rfl, ea, us, m, ho, hs', hl⟩ := S.lookup e hu
    obtain ⟨tk', rfl⟩ := hw
    obtain ⟨y, e4, hv⟩ := hs'.get _ _ e3
    rw [Array.getElem?_toList] at e4
    obtain ⟨f1, f2⟩ := e2.fit hl
    have e5 := e2.seq
    rw [show _ = us.size from hs'.length] at e5
    exact tail_any ⟨_, ho, rfl⟩ slot_tuple_getitem.lookup (P.getItem_tuple ho f1 f2 e5 e4 (here0 S hv h)) hs
  | dict e e2 h =>
    rename_i n k es ep p
    obtain ⟨a, rfl, ea, ds, ho, hs', _⟩ := S.lookup e hu
    obtain ⟨_, t, rfl⟩ := hw
    have hm := dict_map (C := C) (ρ := ρ) ho hs'
    rcases dict_find (k := k) hs' with ⟨z1, z2⟩ | ⟨e', d', z1, z2, z3⟩
    · rw [z1] at e2; cases e2
    · rw [z1] at e2; cases e2
      refine tail_any hm.typeIs slot_dict_getitem.lookup (wpAny_getItem_of (strKind_is _ _ _ t) hm (v := d'.val) ?_ (here S z3 h)) hs
      unfold findBy
      rw [← Array.find?_toList, z2]; rfl
theorem sliceA_ok {o lo hi : V} {u l w : Value} {value : Expr} {e1 e2 : Option Expr} {p : Pos} (h : sliceA o lo hi H Q) (S : Sim C ρ H s) (hu : VR C ρ o u) (hl : VR C ρ lo l) (hw : VR C ρ hi w) :
    wpAny C.M A (subscriptTail value (.Slice e1 e2 none p) u (.ref s.heap.objs.size)) (PV C ρ s Q) E { s with heap := s.heap.push { cls := .type "slice", data := .fields #[l, w, .none] } } := by
  have hs : ∀ x y, subscripted (.Slice e1 e2 none p) false x y = operate [y, x] (getItem x y) := fun _ _ => rfl
  obtain ⟨S1, st1⟩ := S.grow (h' := s.heap.push { cls := .type "slice", data := .fields #[l, w, .none] }) (tk := s.toks) get_push
  cases h with
  | str q1 q2 h =>
    rename_i t i j
    have hj := q2.le
    obtain ⟨ql, rfl, ei, a4⟩ := q1.val hl
    obtain ⟨qh, rfl, ej, b4⟩ := q2.val hw
    obtain ⟨ok, tk, rfl⟩ := hu
    refine tail_any (typeIs_str _ _ _) F.slot_str_getitem.lookup ?_ (hs _ _)
    refine wpAny_getItem_str_slice (l := ql) (u := qh) (st := none) ⟨_, Heap.get?_push_size _ rfl, rfl, rfl⟩ rfl ?_
    have hp : slicePicked ⟨t.toArray⟩ ql qh none = sliceRange ((i : Nat) : Int) ((j : Nat) : Int) 1 := by
      unfold slicePicked
      rw [str_len, ei, ej]
      exact strIdx _ _ _
    unfold sliceMade
    rw [hp, sliceRange_one, pick_run, cut_eq]
    split
    · rename_i q
      rw [List.length_map, List.length_range, str_len] at q
      have := cut_whole t i j hj (beq_iff_eq.mp (Bool.and_eq_true_iff.mp q).2)
      rw [this] at h
      exact ⟨ρ, H, _, st1, S1, vt ok tk, h⟩
    · refine ⟨?_, PV.trans st1 (here S1 (vt (okT_cut ok _ _) _) h)⟩
      rw [str_len]
      exact lid_le (Nat.le_trans (cut_len _ _ _) (okT_iff.mp ok).1)
  | list e q1 q2 h =>
    rename_i n xs i j
    obtain ⟨ql, rfl, ei, a4⟩ := q1.val hl
    obtain ⟨qh, rfl, ej, b4⟩ := q2.val hw
    obtain ⟨a, rfl, ea, us, m, ho, hs', hlx⟩ := S.lookup e hu
    have hlen : xs.length = us.size := hs'.length
    refine tail_any (T := "list") ⟨_, Heap.get?_push_of_some _ ho, rfl⟩ slot_list_getitem.lookup ?_ (hs _ _)
    refine wpAny_getItem_list_slice (lo := ql.map (·.1)) (hi := qh.map (·.1)) (st := none) ⟨_, Heap.get?_push_of_some _ ho, rfl, m, rfl⟩ (Heap.IsSliceOf.new ..) a4 b4 .none (fun z => nomatch z) ?_ (by rw [← hlen]; exact lid_le hlx)
    rw [slicePick_plain, cut_eq, ← hlen, ← ei, ← ej]
    exact PV.trans st1 (pushed_list (tk := s.toks) S1 ((hs'.take _).drop _) (Nat.le_trans (cut_len _ _ _) hlx) h)
theorem truthy_ok {v : V} {u : Value} {b : Bool} {R : Bool → Shared → Prop} (h : truthyA v = some b) (hv : VR C ρ v u) (hq : ∀ t, R b { s with toks := t }) : wpAny C.M A (truthy u) R E s := by
  cases v with
  | none => cases h; cases hv; exact fun _ _ _ => hq s.toks
  | bool _ => cases h; cases hv; exact wpAny_truthy_bool (hq s.toks)
  | int _ => cases h; obtain ⟨t, rfl⟩ := hv; exact P.truthy_int (hq s.toks)
  | str x =>
    cases h
    obtain ⟨ok, t, rfl⟩ := hv
    refine P.truthy_str (by rw [str_len]; have := (okT_iff.mp ok).1; unfold lid at this; lia) ?_
    rw [str_len, show ((x.length : Int) != 0) = !x.isEmpty by cases x <;> rfl]; exact hq _
  | ref _ => exact no_some h
  | glob _ => exact no_some h
end
end Mine
end
section
namespace Mine
open PySem PySem.Calls PyProof.Rows
noncomputable def Callee (C : Cx) (u : Value) : Prop := (∃ id, u = .builtin id) ∨ (∃ t, u = .type t) ∨ ∃ a o fd, u = .ref a ∧ C.base.get? a = some o ∧ o.data = .func fd
noncomputable def CallOk (C : Cx) (K : Nat) (sp : Spec) (u : Value) : Prop := ∀ vs H Q X, sp vs H Q X → ∀ ρ s us A E, Sim C ρ H s → All2 (VR C ρ) vs us → AOk K A → Takes C ρ s X E → wpAny C.M A (call u us) (PV C ρ s Q) E s
structure TabOk (C : Cx) (T : Tab) (K : Nat) : Prop where
  gv : ∀ g v, T.gv g = some v → ∃ u, C.G g = some u ∧ ∀ ρ, VR C ρ v u
  fn : ∀ g, (∃ vs H Q X, T.fn g vs H Q X) → ∃ u, C.G g = some u ∧ Callee C u ∧ CallOk C K (T.fn g) u
  mt : ∀ kd m, T.has kd m = true → ∃ f, Callee C f ∧ CallOk C K (T.mt kd m) f ∧
    ∀ v H ρ s u pl A (Q : Value × List Value → Shared → Prop) E, kindA v H = some kd → Sim C ρ H s → VR C ρ v u → (∀ t, Q (f, [u]) { s with toks := t }) → wpAny C.M A (getMethod u m pl) Q E s
  range : C.G (Str.ofString "range") = some (.type "range")
section
variable (C : Cx) (T : Tab) (K : Nat)
noncomputable def EvOk (env : Env) (e : Expr) (pe : PE) : Prop := ∀ {σ : Sg} {ρ : List Addr} {H : AHeap} {s : Shared} {A : Around} {Q : VPost} {X : XPost} {E : Value → Shared → Prop},
  FR C env σ ρ s.heap → Sim C ρ H s → AOk K A → (sem T pe).ev σ H Q X → Takes C ρ s X E → wpAny C.M A (eval e env) (PV C ρ s Q) E s
noncomputable def TtOk (env : Env) (e : Expr) (pe : PE) : Prop := ∀ {σ : Sg} {ρ : List Addr} {H : AHeap} {s : Shared} {A : Around} {q : Bool → AHeap → Prop} {X : XPost} {E : Value → Shared → Prop},
  FR C env σ ρ s.heap → Sim C ρ H s → AOk K A → (sem T pe).tt σ H q X → Takes C ρ s X E → wpAny C.M A (isTrue e env (eval e env)) (PB C ρ s q) E s
noncomputable def ElOk (env : Env) (pos : Pos) (es : List Expr) (pe : PE) : Prop := ∀ {σ : Sg} {ρ : List Addr} {H : AHeap} {s : Shared} {A : Around} {q : List V → AHeap → Prop} {X : XPost} {E : Value → Shared → Prop},
  FR C env σ ρ s.heap → Sim C ρ H s → AOk K A → (sem T pe).el σ H q X → Takes C ρ s X E → wpAny C.M A (spliced (backTo pos (starEach es env))) (PL C ρ s q) E s
end
section
variable {C : Cx} {T : Tab} {K : Nat} {env : Env}
theorem EvOk.bind {e : Expr} {pe : PE} (he : EvOk C T K env e pe) {σ : Sg} {ρ : List Addr} {H : AHeap} {s : Shared} {A : Around} {Q : VPost} {X : XPost} {E : Value → Shared → Prop} {R : Value → Shared → Prop}
    (F : FR C env σ ρ s.heap) (S : Sim C ρ H s) (hA : AOk K A) (h : (sem T pe).ev σ H Q X) (hE : Takes C ρ s X E)
    (k : ∀ ρ' H' v u s', Step ρ s ρ' s' → FR C env σ ρ' s'.heap → Sim C ρ' H' s' → VR C ρ' v u → Q v H' → Takes C ρ' s' X E → R u s') : wpAny C.M A (eval e env) R E s :=
  wpAny_mono (he F S hA h hE) (fun u s' ⟨ρ', H', v, st, S', hv, hq⟩ => k ρ' H' v u s' st (F.step st) S' hv hq (hE.on st)) fun _ _ x => x
theorem TtOk.bind {e : Expr} {pe : PE} (he : TtOk C T K env e pe) {σ : Sg} {ρ : List Addr} {H : AHeap} {s : Shared} {A : Around} {q : Bool → AHeap → Prop} {X : XPost} {E : Value → Shared → Prop} {R : Bool → Shared → Prop}
    (F : FR C env σ ρ s.heap) (S : Sim C ρ H s) (hA : AOk K A) (h : (sem T pe).tt σ H q X) (hE : Takes C ρ s X E)
    (k : ∀ ρ' H' b s', Step ρ s ρ' s' → FR C env σ ρ' s'.heap → Sim C ρ' H' s' → q b H' → Takes C ρ' s' X E → R b s') : wpAny C.M A (isTrue e env (eval e env)) R E s :=
  wpAny_mono (he F S hA h hE) (fun u s' ⟨ρ', H', st, S', hq⟩ => k ρ' H' u s' st (F.step st) S' hq (hE.on st)) fun _ _ x => x
theorem ElOk.bind {pos : Pos} {e : List Expr} {pe : PE} (he : ElOk C T K env pos e pe) {σ : Sg} {ρ : List Addr} {H : AHeap} {s : Shared} {A : Around} {q : List V → AHeap → Prop} {X : XPost} {E : Value → Shared → Prop} {R : List Value → Shared → Prop}
    (F : FR C env σ ρ s.heap) (S : Sim C ρ H s) (hA : AOk K A) (h : (sem T pe).el σ H q X) (hE : Takes C ρ s X E)
    (k : ∀ ρ' H' vs us s', Step ρ s ρ' s' → FR C env σ ρ' s'.heap → Sim C ρ' H' s' → All2 (VR C ρ') vs us → q vs H' → Takes C ρ' s' X E → R us s') : wpAny C.M A (spliced (backTo pos (starEach e env))) R E s :=
  wpAny_mono (he F S hA h hE) (fun u s' ⟨ρ', H', vs, st, S', hv, hq⟩ => k ρ' H' vs u s' st (F.step st) S' hv hq (hE.on st)) fun _ _ x => x
theorem tt_of_ev {e : Expr} {pe : PE} (hi : ∀ whole, isTrue e env whole = (do let v ← whole; standAt e.pos; holding [v] (truthy v)))
    (ht : (sem T pe).tt = (Me.ofEv (sem T pe).ev).tt) (he : EvOk C T K env e pe) : TtOk C T K env e pe := by
  intro σ ρ H s A q X E F S hA h hE
  rw [ht] at h
  refine wpAny_isTrue_value ?_ (hi _)
  refine he.bind F S hA h hE fun ρ' H' v u s' st F' S' hv hq hE' => ?_
  split at hq
  · rename_i b e1
    exact truthy_ok e1 hv fun t => ⟨ρ', H', st.trans (StepG.toks t), S'.toks t, hq⟩
  · exact hq.elim
theorem ok_name {x : Str} {pos : Pos} (hk : env.kindOf x = some .local ∨ env.kindOf x = some .cell) (hd : (x == Str.ofString "__debug__") = false) : EvOk C T K env (.Name x pos) (.name x) := by
  intro σ ρ H s A Q X E F S hA h hE
  refine wpAny_Name ?_ hd
  change (match σ x with | some v => Q v H | none => False) at h
  split at h
  · rename_i v e
    exact load_ok F e hk fun u hu => here0 S hu h
  · exact h.elim
theorem ok_glob (hT : TabOk C T K) {x : Str} {pos : Pos} (hk : env.kindOf x = some .globalImplicit) (hd : (x == Str.ofString "__debug__") = false) : EvOk C T K env (.Name x pos) (.glob x) := by
  intro σ ρ H s A Q X E F S hA h hE
  change (match T.gv x with | some v => Q v H | none => False) at h
  split at h
  · rename_i v e
    obtain ⟨u, hu, hv⟩ := hT.gv x v e
    exact global_ok F S hk hu hd (here0 S (hv ρ) h)
  · exact h.elim
theorem ok_bin {l r : Expr} {op : Operator} {pos : Pos} {pl pr : PE} (hl : EvOk C T K env l pl) (hr : EvOk C T K env r pr) : EvOk C T K env (.BinOp l op r pos) (.bin op pl pr) := by
  intro σ ρ H s A Q X E F S hA h hE
  refine wpAny_BinOp (hl.bind F S hA h hE fun ρ1 H1 v1 u1 s1 st1 F1 S1 hv1 hq1 hE1 => hr.bind F1 S1 hA hq1 hE1 fun ρ2 H2 v2 u2 s2 st2 F2 S2 hv2 hq2 hE2 => ?_)
  exact wpAny_mono (binA_ok hq2 S2 (st2.vr hv1) hv2) (fun _ _ p => PV.trans (st1.trans st2) p) fun _ _ x => x
theorem cmp_marks {op : CmpOp} {e : Expr} (h : isSet e = false) : behindInMarks op e = false := by
  cases e <;> first | rfl | exact Bool.noConfusion h
theorem ok_cmp1 {l r : Expr} {op : CmpOp} {pos : Pos} {pl pr : PE} (hs : isSet r = false) (hl : EvOk C T K env l pl) (hr : EvOk C T K env r pr) :
    EvOk C T K env (.Compare l [op] [r] pos) (.cmp1 op pl pr) ∧ TtOk C T K env (.Compare l [op] [r] pos) (.cmp1 op pl pr) := by
  constructor
  · intro σ ρ H s A Q X E F S hA h hE
    refine wpAny_Compare1 (hl.bind F S hA h hE fun ρ1 H1 v1 u1 s1 st1 F1 S1 hv1 hq1 hE1 => hr.bind F1 S1 hA hq1 hE1 fun ρ2 H2 v2 u2 s2 st2 F2 S2 hv2 hq2 hE2 => ?_) (cmp_marks hs)
    refine wpAny_mono (cmpA_ok hq2 S2 hA (st2.vr hv1) hv2) (fun r s' p => ?_) fun _ _ x => x
    obtain ⟨c, rfl, st3, S3, hc⟩ := p
    exact ⟨ρ2, H2, _, (st1.trans st2).trans st3, S3, vb c, hc⟩
  · intro σ ρ H s A Q X E F S hA h hE
    refine wpAny_isTrue_Compare1 (hl.bind F S hA h hE fun ρ1 H1 v1 u1 s1 st1 F1 S1 hv1 hq1 hE1 => hr.bind F1 S1 hA hq1 hE1 fun ρ2 H2 v2 u2 s2 st2 F2 S2 hv2 hq2 hE2 => ?_) (cmp_marks hs)
    refine wpAny_mono (cmpA_ok hq2 S2 hA (st2.vr hv1) hv2) (fun r s' p => ?_) fun _ _ x => x
    obtain ⟨c, rfl, st3, S3, hc⟩ := p
    exact wpAny_truthy_bool ⟨ρ2, H2, (st1.trans st2).trans st3, S3, hc⟩
theorem ok_cmp2 {a b c : Expr} {o1 o2 : CmpOp} {pos : Pos} {pa pb pc : PE} (hs : isSet b = false) (hs' : isSet c = false) (ha : EvOk C T K env a pa) (hb : EvOk C T K env b pb) (hc : EvOk C T K env c pc) :
    EvOk C T K env (.Compare a [o1, o2] [b, c] pos) (.cmp2 o1 o2 pa pb pc) ∧ TtOk C T K env (.Compare a [o1, o2] [b, c] pos) (.cmp2 o1 o2 pa pb pc) := by
  have hm : lastMarks [o1, o2] [b, c] = false := cmp_marks (op := o2) hs'
  constructor
  · intro σ ρ H s A Q X E F S hA h hE
    refine Compare_chain (ha.bind F S hA h hE fun ρ1 H1 v1 u1 s1 st1 F1 S1 hv1 hq1 hE1 => chain_link (hb.bind F1 S1 hA hq1 hE1 fun ρ2 H2 v2 u2 s2 st2 F2 S2 hv2 hq2 hE2 => ?_)) hm
    refine wpAny_mono (cmpA_ok hq2 S2 hA (st2.vr hv1) hv2) (fun r s' p => ?_) fun _ _ x => x
    obtain ⟨c1, rfl, st3, S3, hc1⟩ := p
    refine wpAny_truthy_bool ?_
    cases c1 with
    | false => exact ⟨ρ2, H2, _, (st1.trans st2).trans st3, S3, vb _, hc1⟩
    | true =>
      rw [if_pos rfl] at hc1
      refine chain_last (hc.bind (F2.step st3) S3 hA hc1 (hE2.on st3) fun ρ4 H4 v4 u4 s4 st4 F4 S4 hv4 hq4 hE4 => ?_)
      refine wpAny_mono (cmpA_ok hq4 S4 hA (st4.vr (st3.vr hv2)) hv4) (fun r s' p => ?_) fun _ _ x => x
      obtain ⟨c2, rfl, st5, S5, hc2⟩ := p
      exact ⟨ρ4, H4, _, (((st1.trans st2).trans st3).trans st4).trans st5, S5, vb _, hc2⟩
  · intro σ ρ H s A Q X E F S hA h hE
    refine isTrue_chain (ha.bind F S hA h hE fun ρ1 H1 v1 u1 s1 st1 F1 S1 hv1 hq1 hE1 => test_link (hb.bind F1 S1 hA hq1 hE1 fun ρ2 H2 v2 u2 s2 st2 F2 S2 hv2 hq2 hE2 => ?_)) hm
    refine wpAny_mono (cmpA_ok hq2 S2 hA (st2.vr hv1) hv2) (fun r s' p => ?_) fun _ _ x => x
    obtain ⟨c1, rfl, st3, S3, hc1⟩ := p
    refine wpAny_truthy_bool ?_
    cases c1 with
    | false => exact ⟨ρ2, H2, (st1.trans st2).trans st3, S3, hc1⟩
    | true =>
      rw [if_pos rfl] at hc1
      refine test_last (hc.bind (F2.step st3) S3 hA hc1 (hE2.on st3) fun ρ4 H4 v4 u4 s4 st4 F4 S4 hv4 hq4 hE4 => ?_)
      refine wpAny_mono (cmpA_ok hq4 S4 hA (st4.vr (st3.vr hv2)) hv4) (fun r s' p => ?_) fun _ _ x => x
      obtain ⟨c2, rfl, st5, S5, hc2⟩ := p
      exact wpAny_truthy_bool ⟨ρ4, H4, (((st1.trans st2).trans st3).trans st4).trans st5, S5, hc2⟩
theorem ok_not {e : Expr} {pos : Pos} {pe : PE} (he : EvOk C T K env e pe) (ht : TtOk C T K env e pe) : EvOk C T K env (.UnaryOp .Not e pos) (.not pe) ∧ TtOk C T K env (.UnaryOp .Not e pos) (.not pe) := by
  constructor
  · intro σ ρ H s A Q X E F S hA h hE
    refine wpAny_UnaryOp (he.bind F S hA h hE fun ρ1 H1 v1 u1 s1 st1 F1 S1 hv1 hq1 hE1 => not_value ?_)
    split at hq1
    · rename_i b e1
      exact truthy_ok e1 hv1 fun t => ⟨ρ1, H1, _, st1.trans (StepG.toks t), S1.toks t, vb _, hq1⟩
    · exact hq1.elim
  · intro σ ρ H s A Q X E F S hA h hE
    exact wpAny_isTrue_Not (ht.bind F S hA h hE fun ρ1 H1 b s1 st1 F1 S1 hq1 hE1 => ⟨ρ1, H1, st1, S1, hq1⟩)
theorem ok_neg {e : Expr} {pos : Pos} {pe : PE} (he : EvOk C T K env e pe) : EvOk C T K env (.UnaryOp .USub e pos) (.neg pe) := by
  intro σ ρ H s A Q X E F S hA h hE
  refine wpAny_UnaryOp (he.bind F S hA h hE fun ρ1 H1 v1 u1 s1 st1 F1 S1 hv1 hq1 hE1 => ?_)
  split at hq1
  · obtain ⟨t, rfl⟩ := hv1
    exact P.neg_int (PV.trans st1 (here S1 (vi _ _) hq1))
  · exact hq1.elim
theorem boolOp_cons {M : Model} {A : Around} {E : Value → Shared → Prop} {s : Shared} {pos : Pos} {op : BoolOp} {x y : Sem Value} {r : List (Sem Value)} {R : Value → Shared → Prop}
    (h : wpAny M A x (fun v s1 => wpAny M A (truthy v) (fun t s2 => if t = (op == .And) then wpAny M A (boolOp pos op (y :: r)) R E s2 else R v s2) E s1) E s) : wpAny M A (boolOp pos op (x :: y :: r)) R E s := by
  show wpAny M A (do
    let v ← x
    standAt pos
    let t ← holding [v] (truthy v)
    match op, t with
    | .And, false | .Or, true => pure v
    | _, _ => boolOp pos op (y :: r)) R E s
  refine wpAny_bind (wpAny_mono h (fun v s₁ h₁ => wpAny_bind (wpAny_standAt (wpAny_bind (wpAny_holding (wpAny_mono h₁ (fun t s₂ h₂ => ?_) fun _ _ x => x))))) fun _ _ x => x)
  cases op <;> cases t <;> first | exact wpAny_pure h₂ | exact h₂
theorem ok_bool (op : BoolOp) (pos : Pos) : ∀ (vs : List Expr) (ps : List PE) (pe : PE), All2 (fun e p => EvOk C T K env e p ∧ TtOk C T K env e p) vs ps → trBool op ps = some pe →
    (∀ {σ : Sg} {ρ : List Addr} {H : AHeap} {s : Shared} {A : Around} {Q : VPost} {X : XPost} {E : Value → Shared → Prop}, FR C env σ ρ s.heap → Sim C ρ H s → AOk K A → (sem T pe).ev σ H Q X → Takes C ρ s X E →
      wpAny C.M A (boolOp pos op (evalEach vs env)) (PV C ρ s Q) E s) ∧
    (∀ {σ : Sg} {ρ : List Addr} {H : AHeap} {s : Shared} {A : Around} {q : Bool → AHeap → Prop} {X : XPost} {E : Value → Shared → Prop}, FR C env σ ρ s.heap → Sim C ρ H s → AOk K A → (sem T pe).tt σ H q X → Takes C ρ s X E →
      wpAny C.M A (allTrue op vs env) (PB C ρ s q) E s)
  | [], _, _, .nil, h => by cases h
  | [e], _, _, .cons (b := p) he .nil, h => by
    cases h
    refine ⟨fun F S hA h hE => he.1 F S hA h hE, fun {σ ρ H s A q X E} F S hA h hE => ?_⟩
    cases op with
    | And =>
      refine wpAny_allTrue_And_cons (wpAny_mono (he.2 F S hA h hE) (fun b s' p => ?_) fun _ _ x => x)
      cases b with
      | true => exact wpAny_allTrue_And_nil p
      | false => exact p
    | Or =>
      refine wpAny_allTrue_Or_cons (wpAny_mono (he.2 F S hA h hE) (fun b s' p => ?_) fun _ _ x => x)
      cases b with
      | true => exact p
      | false => exact wpAny_allTrue_Or_nil p
  | e :: e2 :: vs, _, pe, .cons (b := p) he (.cons (b := p2) (bs := ps) he2 hr), h => by
    have ht : ∃ x, trBool op (p2 :: ps) = some x ∧ pe = (if op = .And then PE.and p x else PE.or p x) := by
      unfold trBool at h
      cases hx : trBool op (p2 :: ps) with
      | none => rw [hx] at h; cases h
      | some x => rw [hx] at h; cases h; refine ⟨x, rfl, ?_⟩; cases op <;> rfl
    obtain ⟨x, hx, he0⟩ := ht
    obtain ⟨ih1, ih2⟩ := ok_bool op pos (e2 :: vs) (p2 :: ps) x (.cons he2 hr) hx
    clear h
    subst he0
    cases op with
    | And =>
      refine ⟨fun {σ ρ H s A Q X E} F S hA h hE => ?_, fun {σ ρ H s A q X E} F S hA h hE => ?_⟩
      · refine boolOp_cons (EvOk.bind he.1 F S hA h hE fun ρ1 H1 v1 u1 s1 st1 F1 S1 hv1 hq1 hE1 => ?_)
        split at hq1
        · rename_i b e1
          refine truthy_ok e1 hv1 fun t => ?_
          cases b with
          | true => exact wpAny_mono (ih1 (F1.step (StepG.toks t)) (S1.toks t) hA hq1 (hE1.on (StepG.toks t))) (fun _ _ p => PV.trans (st1.trans (StepG.toks t)) p) fun _ _ x => x
          | false => exact ⟨ρ1, H1, v1, st1.trans (StepG.toks t), S1.toks t, hv1, hq1⟩
        · exact hq1.elim
      · refine wpAny_allTrue_And_cons (TtOk.bind he.2 F S hA h hE fun ρ1 H1 b s1 st1 F1 S1 hq1 hE1 => ?_)
        cases b with
        | true => exact wpAny_mono (ih2 F1 S1 hA hq1 hE1) (fun _ _ p => PB.trans st1 p) fun _ _ x => x
        | false => exact ⟨ρ1, H1, st1, S1, hq1⟩
    | Or =>
      refine ⟨fun {σ ρ H s A Q X E} F S hA h hE => ?_, fun {σ ρ H s A q X E} F S hA h hE => ?_⟩
      · refine boolOp_cons (EvOk.bind he.1 F S hA h hE fun ρ1 H1 v1 u1 s1 st1 F1 S1 hv1 hq1 hE1 => ?_)
        split at hq1
        · rename_i b e1
          refine truthy_ok e1 hv1 fun t => ?_
          cases b with
          | false => exact wpAny_mono (ih1 (F1.step (StepG.toks t)) (S1.toks t) hA hq1 (hE1.on (StepG.toks t))) (fun _ _ p => PV.trans (st1.trans (StepG.toks t)) p) fun _ _ x => x
          | true => exact ⟨ρ1, H1, v1, st1.trans (StepG.toks t), S1.toks t, hv1, hq1⟩
        · exact hq1.elim
      · refine wpAny_allTrue_Or_cons (TtOk.bind he.2 F S hA h hE fun ρ1 H1 b s1 st1 F1 S1 hq1 hE1 => ?_)
        cases b with
        | false => exact wpAny_mono (ih2 F1 S1 hA hq1 hE1) (fun _ _ p => PB.trans st1 p) fun _ _ x => x
        | true => exact ⟨ρ1, H1, st1, S1, hq1⟩
theorem ok_nil {pos : Pos} : ElOk C T K env pos [] .nil := by
  intro σ ρ H s A q X E F S hA h hE
  exact wpAny_items_nil ⟨ρ, H, [], StepG.refl _ _, S, .nil, h⟩
theorem star_cons {e : Expr} (h : isStar e = false) (r : List Expr) : starEach (e :: r) env = (false, eval e env) :: starEach r env := by
  cases e <;> first | rfl | exact Bool.noConfusion h
theorem ok_cons {pos : Pos} {e : Expr} {r : List Expr} {pe pr : PE} (he : EvOk C T K env e pe) (hr : ElOk C T K env pos r pr) (hs : isStar e = false) : ElOk C T K env pos (e :: r) (.cons pe pr) := by
  intro σ ρ H s A q X E F S hA h hE
  refine wpAny_items_cons (he.bind F S hA h hE fun ρ1 H1 v1 u1 s1 st1 F1 S1 hv1 hq1 hE1 => hr.bind F1 S1 hA hq1 hE1 fun ρ2 H2 vs us s2 st2 F2 S2 hv2 hq2 hE2 => ?_) (star_cons hs r)
  exact ⟨ρ2, H2, v1 :: vs, st1.trans st2, S2, .cons (st2.vr hv1) hv2, hq2⟩
theorem evalArgs_any {M : Model} {A : Around} {E : Value → Shared → Prop} {s : Shared} {f : Value} {pos : Pos} : ∀ {es : List Expr} {R : Args → Shared → Prop}, (∀ e ∈ es, isStar e = false) →
    wpAny M A (spliced (backTo pos (starEach es env))) (fun vs s' => R ⟨vs, []⟩ s') E s → wpAny M A (evalArgs f true (backTo pos (starEach es env)) []) R E s
  | [], R, _, h => by
    unfold evalArgs
    show wpAny M A (spliced [] >>= _) R E s
    refine wpAny_bind (wpAny_mono h (fun vs s' h' => ?_) fun _ _ x => x)
    exact wpAny_bind (wpAny_pure (wpAny_holding (wpAny_bind (wpAny_pure (wpAny_bind (wpAny_pure (wpAny_pure h')))))))
  | e :: r, R, hs, h => by
    rw [star_cons (hs e (.head _)) r] at h ⊢
    exact evalArgs_plain h
theorem callWith_any {M : Model} {A : Around} {E : Value → Shared → Prop} {s : Shared} {pos : Pos} {u : Value} {first : List Value} {args : List (Bool × Sem Value)} {R : Value → Shared → Prop} (hp : args.any (·.1) = false)
    (h : wpAny M A (evalArgs u true args []) (fun a s₁ => ((∃ id, u = .builtin id) ∨ (∃ t, u = .type t) ∨ ∃ x o fd, u = .ref x ∧ s₁.heap.get? x = some o ∧ o.data = .func fd) ∧ wpAny M A (call u (first ++ a.pos) a.kw) R E s₁) E s) :
    wpAny M A (callWith pos u first args []) R E s := by
  unfold callWith
  refine wpAny_bind (wpAny_holding (wpAny_mono h (fun a s₁ h₁ => wpAny_bind (wpAny_standAt ?_)) fun _ _ x => x))
  have tail : ∀ {t : Sem Value}, wpAny M A t R E s₁ → wpAny M A (t >>= fun r => holding [r] point >>= fun _ => pure r) R E s₁ :=
    fun ht => wpAny_bind (wpAny_mono ht (fun r s₂ hr => wpAny_bind (wpAny_holding (wpAny_point (wpAny_pure hr)))) fun _ _ x => x)
  simp only [hp, List.any_nil, Bool.or_false]
  obtain ⟨hc, h₁⟩ := h₁
  rcases hc with ⟨id, rfl⟩ | ⟨t, rfl⟩ | ⟨x, o, fd, rfl, ho, hd⟩
  · exact wpAny_bind (wpAny_pure (tail h₁))
  · exact wpAny_bind (wpAny_pure (tail h₁))
  · refine wpAny_bind (m := keeperOf (.ref x)) ?_
    unfold keeperOf
    refine wpAny_bind (wpAny_load ho ?_)
    rw [hd]
    refine wpAny_pure ?_
    dsimp only
    refine wpAny_ite ?_
    split
    · exact tail h₁
    · exact tail (by unfold callMarked; exact Calls.wpAny_keep h₁)
theorem starEach_one {f : Expr → Option PE} (hf : ∀ e pe, f e = some pe → isStar e = false) : ∀ {es : List Expr} {pe : PE}, trL f es = some pe → ∀ e ∈ es, isStar e = false
  | [], _, _, _, h => nomatch h
  | e :: r, pe, h, e', hm => by
    obtain ⟨a, ha, h⟩ := Option.bind_eq_some_iff.mp h
    obtain ⟨b, hb, _⟩ := Option.map_eq_some_iff.mp h
    cases hm with
    | head => exact hf e a ha
    | tail _ hm => exact starEach_one hf hb e' hm
theorem any_false {pos : Pos} : ∀ {es : List Expr}, (∀ e ∈ es, isStar e = false) → (backTo pos (starEach es env)).any (·.1) = false
  | [], _ => rfl
  | e :: r, h => by
    rw [star_cons (h e (.head _)) r]
    have ih := any_false (pos := pos) (es := r) fun e' he' => h e' (.tail _ he')
    unfold backTo at ih ⊢
    rw [List.map_cons, List.any_cons, ih]; rfl
theorem ok_call (hT : TabOk C T K) {f : Expr} {args : List Expr} {pos : Pos} {pf pa : PE} (hf : EvOk C T K env f pf) (ha : ElOk C T K env pos args pa) (hs : ∀ e ∈ args, isStar e = false)
    (hc : eval (.Call f args [] pos) env = (do callWith pos (← eval f env) [] (backTo pos (starEach args env)) [])) : EvOk C T K env (.Call f args [] pos) (.call pf pa) := by
  intro σ ρ H s A Q X E F S hA h hE
  rw [hc]
  refine wpAny_bind (hf.bind F S hA h hE fun ρ1 H1 v1 u1 s1 st1 F1 S1 hv1 hq1 hE1 => ?_)
  split at hq1
  · rename_i g
    have hv1 : C.G g = some u1 := hv1
    refine callWith_any (any_false hs) (evalArgs_any hs (ha.bind F1 S1 hA hq1 hE1 fun ρ2 H2 vs us s2 st2 F2 S2 hv2 hq2 hE2 => ?_))
    obtain ⟨u, hu, hcal, hok⟩ := hT.fn g ⟨_, _, _, _, hq2⟩
    rw [hv1] at hu; cases hu
    refine ⟨?_, ?_⟩
    · rcases hcal with q | q | ⟨a, o, fd, q1, q2, q3⟩
      · exact .inl q
      · exact .inr (.inl q)
      · exact .inr (.inr ⟨a, o, fd, q1, S2.stays _ _ q2, q3⟩)
    · exact wpAny_mono (hok _ _ _ _ hq2 _ _ _ _ _ S2 hv2 hA hE2) (fun _ _ p => PV.trans (st1.trans st2) p) fun _ _ x => x
  · exact hq1.elim
theorem attrBase {o : Expr} {m : Str} {whole : Sem Value} (h : callArgs o = true) : attributeBase o m env whole = whole := by
  unfold callArgs at h
  split at h
  · rename_i f as ks e
    cases asCall_is e
    cases as with
    | nil => cases h
    | cons _ _ => cases f <;> rfl
  · rename_i e
    cases o <;> first | rfl | cases e
theorem ok_meth (hT : TabOk C T K) {o : Expr} {m : Str} {args : List Expr} {apos pos : Pos} {po pa : PE} (ho : EvOk C T K env o po) (ha : ElOk C T K env pos args pa) (hs : ∀ e ∈ args, isStar e = false)
    (hl : apos.endLine = pos.line) (hn : args.length < 20) (hb : callArgs o = true) : EvOk C T K env (.Call (.Attribute o m apos) args [] pos) (.meth po m pa) := by
  intro σ ρ H s A Q X E F S hA h hE
  rw [arm_eval_Call, attrBase hb]
  refine wpAny_bind (ho.bind F S hA h hE fun ρ1 H1 v1 u1 s1 st1 F1 S1 hv1 hq1 hE1 => wpAny_bind (wpAny_standAt ?_))
  split at hq1
  · rename_i kd e1
    obtain ⟨hm, hq1⟩ := hq1
    obtain ⟨f, hcal, hok, hget⟩ := hT.mt kd m hm
    unfold methodCall
    have hform : methodCallForm (args.length + ([] : List Keyword).length) (backTo pos (starEach args env)) (backToKw pos (keywordEach [] env)) = true := by
      have := any_false (env := env) (pos := pos) hs
      have h2 : (backTo pos (starEach args env)).all (fun x => !x.1) = true := by
        rw [List.all_eq_true]
        intro x hx
        have := List.any_eq_false.mp this x hx
        simpa using this
      unfold methodCallForm
      rw [h2]
      show (true && true && decide (args.length + 0 + 0 < 30)) = true
      simp; lia
    rw [hform]
    refine wpAny_bind (wpAny_holding ?_)
    unfold calleeOf
    rw [if_pos rfl]
    refine hget v1 H1 ρ1 s1 u1 _ A _ E e1 S1 hv1 fun t => ?_
    have hpos : methodCallPos true o env apos pos = pure pos := by
      unfold methodCallPos
      rw [hl]
      simp
    rw [hpos]
    refine wpAny_bind (wpAny_pure ?_)
    have st1' := st1.trans (StepG.toks (ρ := ρ1) (s := s1) t)
    refine callWith_any (any_false hs) (evalArgs_any hs (ha.bind (F1.step (StepG.toks t)) (S1.toks t) hA hq1 (hE1.on (StepG.toks t)) fun ρ2 H2 vs us s2 st2 F2 S2 hv2 hq2 hE2 => ?_))
    refine ⟨?_, ?_⟩
    · rcases hcal with q | q | ⟨a, o, fd, q1, q2, q3⟩
      · exact .inl q
      · exact .inr (.inl q)
      · exact .inr (.inr ⟨a, o, fd, q1, S2.stays _ _ q2, q3⟩)
    · exact wpAny_mono (hok _ _ _ _ hq2 _ _ _ _ _ S2 (.cons (st2.vr hv1) hv2) hA hE2) (fun _ _ p => PV.trans (st1'.trans st2) p) fun _ _ x => x
  · exact hq1.elim
theorem ok_sub {o i : Expr} {pos : Pos} {po pi : PE} (ho : EvOk C T K env o po) (hi : EvOk C T K env i pi) (hs : ∀ u w, subscripted i false u w = operate [u, w] (getItem u w)) : EvOk C T K env (.Subscript o i pos) (.sub po pi) := by
  intro σ ρ H s A Q X E F S hA h hE
  refine Subscript_ (ho.bind F S hA h hE fun ρ1 H1 v1 u1 s1 st1 F1 S1 hv1 hq1 hE1 => hi.bind F1 S1 hA hq1 hE1 fun ρ2 H2 v2 u2 s2 st2 F2 S2 hv2 hq2 hE2 => ?_)
  exact wpAny_mono (subA_ok hq2 S2 (st2.vr hv1) hv2 (hs _ _)) (fun _ _ p => PV.trans (st1.trans st2) p) fun _ _ x => x
noncomputable def PtOk (C : Cx) (T : Tab) (K : Nat) (env : Env) (e : Option Expr) (pe : PE) : Prop := ∀ {σ : Sg} {ρ : List Addr} {H : AHeap} {s : Shared} {A : Around} {Q : VPost} {X : XPost} {E : Value → Shared → Prop},
  FR C env σ ρ s.heap → Sim C ρ H s → AOk K A → (sem T pe).ev σ H Q X → Takes C ρ s X E → wpAny C.M A (evalPart e env) (PV C ρ s Q) E s
theorem pt_none : PtOk C T K env none .none := fun F S hA h hE => wpAny_pure (here0 (v := .none) S rfl h)
theorem pt_some {e : Expr} {pe : PE} (he : EvOk C T K env e pe) : PtOk C T K env (some e) pe := fun F S hA h hE => he F S hA h hE
theorem ok_slice {o : Expr} {lo hi : Option Expr} {p pos : Pos} {po pl ph : PE} (ho : EvOk C T K env o po) (hl : PtOk C T K env lo pl) (hh : PtOk C T K env hi ph) :
    EvOk C T K env (.Subscript o (.Slice lo hi none p) pos) (.slice po pl ph) := by
  intro σ ρ H s A Q X E F S hA h hE
  refine Subscript_ (ho.bind F S hA h hE fun ρ1 H1 v1 u1 s1 st1 F1 S1 hv1 hq1 hE1 => wpAny_Slice ?_)
  refine wpAny_mono (hl F1 S1 hA hq1 hE1) (fun u2 s2 ⟨ρ2, H2, v2, st2, S2, hv2, hq2⟩ => ?_) fun _ _ x => x
  refine wpAny_mono (hh (F1.step st2) S2 hA hq2 (hE1.on st2)) (fun u3 s3 ⟨ρ3, H3, v3, st3, S3, hv3, hq3⟩ => ?_) fun _ _ x => x
  rw [evalPart_none]
  refine wpAny_pure ?_
  exact wpAny_mono (sliceA_ok hq3 S3 (st3.vr (st2.vr hv1)) (st3.vr hv2) hv3) (fun _ _ p => PV.trans ((st1.trans st2).trans st3) p) fun _ _ x => x
theorem ok_list {es : List Expr} {pos : Pos} {pe : PE} (he : ElOk C T K env pos es pe) : EvOk C T K env (.List es pos) (.list pe) := by
  intro σ ρ H s A Q X E F S hA h hE
  refine wpAny_List (he.bind F S hA h hE fun ρ1 H1 vs us s1 st1 F1 S1 hv1 hq1 hE1 => ?_)
  exact ⟨by rw [← hv1.length]; exact lid_le hq1.1, PV.trans st1 (pushed_list (tk := s1.toks) S1 hv1 hq1.1 hq1.2)⟩
theorem ok_tuple {es : List Expr} {k : Nat} {pos : Pos} {pe : PE} (he : ElOk C T K env pos es pe) : EvOk C T K env (.Tuple es k pos) (.tuple pe) := by
  intro σ ρ H s A Q X E F S hA h hE
  refine wpAny_Tuple (he.bind F S hA h hE fun ρ1 H1 vs us s1 st1 F1 S1 hv1 hq1 hE1 => ?_)
  exact ⟨by rw [← hv1.length]; exact lid_le hq1.1, PV.trans st1 (pushed_tuple (tk := s1.toks) S1 hv1 hq1.1 hq1.2)⟩
end
end Mine
end
section
namespace Mine
open PySem PySem.Calls PyProof.Rows
noncomputable def IR (C : Cx) (ρ : List Addr) (h0 h : Heap) : Item → Value → Prop
  | .one v, u => VR C ρ v u
noncomputable def tgtFits : Expr → Item → Prop
  | .Name _ _, .one _ => True
  | .Tuple _ _ _, _ => True
  | _, _ => False
structure Itr (C : Cx) (A : Around) (ρ0 : List Addr) (items : List Item) (Kp : AHeap → Prop) (I : Addr) (wr : List Addr) (St : Nat → Heap → Prop) : Prop where
  frame : ∀ i h h', St i h → (∀ b ∈ wr, ∀ o, h.get? b = some o → h'.get? b = some o) → St i h'
  alive : ∀ i h, St i h → ∀ b ∈ wr, ∃ o, h.get? b = some o
  next : ∀ i x target ρ H s E, items[i]? = some x → tgtFits target x → St i s.heap → Sim C ρ H s → (∃ l, ρ = ρ0 ++ l) → Kp H → (∀ b ∈ wr, b ∉ ρ) →
    wpAny C.M A (pyNext (.ref I)) (fun r s1 => ∃ u, r = some u ∧ wpAny C.M A (letOwnedTupleGo target (.ref I) u) (fun _ s2 => ∃ h tk, s2 = { s with heap := h, toks := tk } ∧ IR C ρ s.heap h x u ∧ St (i + 1) h ∧
      (∀ b o, b ∉ wr → s.heap.get? b = some o → h.get? b = some o)) E s1) E s
  done : ∀ ρ H s E, St items.length s.heap → Sim C ρ H s → (∃ l, ρ = ρ0 ++ l) → Kp H → (∀ b ∈ wr, b ∉ ρ) →
    wpAny C.M A (pyNext (.ref I)) (fun r s1 => r = none ∧ ∃ h tk, s1 = { s with heap := h, toks := tk } ∧ (∀ b o, b ∉ wr → s.heap.get? b = some o → h.get? b = some o)) E s
  self : ∀ i s (Q : Value → Shared → Prop) E, St i s.heap → Q (.ref I) s → wpAny C.M A (pyIter (.ref I)) Q E s
noncomputable def Ready' (C : Cx) (A : Around) (ρ : List Addr) (s : Shared) (q : List Item → (AHeap → Prop) → AHeap → Prop) : Value → Shared → Prop := fun it s2 =>
  ∃ ρ' H' items Kp I wr St, it = .ref I ∧ Itr C A ρ' items Kp I wr St ∧ St 0 s2.heap ∧ Step ρ s ρ' s2 ∧ Sim C ρ' H' s2 ∧ (∀ b ∈ wr, s.heap.get? b = none ∧ b ∉ ρ') ∧ q items Kp H'
noncomputable def ItOk (C : Cx) (T : Tab) (K : Nat) (env : Env) (e : Expr) (pe : PE) : Prop := ∀ {σ : Sg} {ρ : List Addr} {H : AHeap} {s : Shared} {A : Around} {q : List Item → (AHeap → Prop) → AHeap → Prop} {X : XPost} {E : Value → Shared → Prop},
  FR C env σ ρ s.heap → Sim C ρ H s → AOk K A → (sem T pe).it σ H q X → Takes C ρ s X E → wpAny C.M A (eval e env) (fun xv s1 => wpAny C.M A (pyIter xv) (Ready' C A ρ s q) E s1) E s
theorem letGo_other {M : Model} {A : Around} {E : Value → Shared → Prop} {s : Shared} {target : Expr} {I : Addr} {u : Value} {Q : Unit → Shared → Prop} {o : Obj} {n : String} {vs : Array Value} (ho : s.heap.get? I = some o) (hc : o.cls = .type n) (hd : o.data = .fields vs)
    (hn : (["enumerate", "zip", "dict_itemiterator", "dict_reverseitemiterator", "odict_iterator", "itertools.zip_longest", "itertools.pairwise"].contains n) = false) (hQ : Q () s) : wpAny M A (letOwnedTupleGo target (.ref I) u) Q E s := by
  unfold letOwnedTupleGo
  split
  · split
    · rename_i heq; cases heq
      refine wpAny_bind (wpAny_load ho ?_)
      rw [hc, hd]
      dsimp only
      rw [hn]
      exact wpAny_pure hQ
    · exact wpAny_pure hQ
  · split
    · rename_i heq; cases heq
      refine wpAny_bind (wpAny_load ho ?_)
      rw [hc, hd]
      dsimp only
      rw [hn]
      exact wpAny_pure hQ
    · exact wpAny_pure hQ
  · exact wpAny_pure hQ
section
variable {C : Cx} {A : Around}
theorem ext_at {ρ0 ρ : List Addr} {n : Nat} {a : Addr} (h : ρ0[n]? = some a) (e : ∃ l, ρ = ρ0 ++ l) : ρ[n]? = some a := by
  obtain ⟨l, rfl⟩ := e
  rw [List.getElem?_append_left]
  · exact h
  · exact (List.getElem?_eq_some_iff.mp h).1
theorem get_map_one {xs : List V} {i : Nat} {x : Item} (h : (xs.map Item.one)[i]? = some x) : ∃ v, x = .one v ∧ xs[i]? = some v := by
  rw [List.getElem?_map] at h
  cases e : xs[i]? with
  | none => rw [e] at h; cases h
  | some v => rw [e] at h; cases h; exact ⟨v, rfl, rfl⟩
theorem itr_list (hA : A.handled = none) {I a : Addr} {n : Nat} {xs : List V} {ρ0 : List Addr} (hn : ρ0[n]? = some a) :
    Itr C A ρ0 (xs.map .one) (fun H => H[n]? = some (.list xs)) I [I] (fun i h => h.IsListIter I a i) where
  frame := fun i h h' x k => x.at fun o e => k I (.head _) o e
  alive := fun i h x b hb => by simp at hb; subst hb; obtain ⟨o, ho, _⟩ := x; exact ⟨o, ho⟩
  next := fun i x target ρ H s E hx ht hst S hρ hK hw => by
    obtain ⟨v, rfl, hv⟩ := get_map_one hx
    have hna := ext_at hn hρ
    obtain ⟨us, m, ho, hs, _⟩ := S.obj n a _ hna hK
    obtain ⟨u, hu, hr⟩ := hs.get i v hv
    have hne : a ≠ I := fun z => hw I (.head _) (z ▸ List.mem_of_getElem? hna)
    refine wpAny_pyNext_list_item hst ⟨_, ho, rfl, m, rfl⟩ (by rw [← Array.getElem?_toList]; exact hu) fun h' hit hsb => ⟨u, rfl, ?_⟩
    obtain ⟨o, ho', hc, hd⟩ := id hit
    refine letGo_other ho' hc hd (by decide) ⟨h', s.toks, rfl, hr, hit, fun b o hb e => (hsb.2 b fun z => hb (by simp [z])).trans e⟩
  done := fun ρ H s E hst S hρ hK hw => by
    have hna := ext_at hn hρ
    obtain ⟨us, m, ho, hs, _⟩ := S.obj n a _ hna hK
    rw [List.length_map] at hst
    refine wpAny_pyNext_list_end hA hst ⟨_, ho, rfl, m, rfl⟩ (by rw [← Array.getElem?_toList, hs.length, List.getElem?_eq_none (Nat.le_refl _)]) fun h' he => ⟨rfl, h', s.toks, rfl, fun b o hb e => he b o (fun z => hb (by simp [z])) e⟩
  self := fun i s Q E hst hq => wpAny_pyIter_listiter hst hq
theorem itr_tuple (hA : A.handled = none) {I a : Addr} {n : Nat} {xs : List V} {ρ0 : List Addr} (hn : ρ0[n]? = some a) :
    Itr C A ρ0 (xs.map .one) (fun H => H[n]? = some (.tuple xs)) I [I] (fun i h => h.IsTupleIter I a i) where
  frame := fun i h h' x k => x.at fun o e => k I (.head _) o e
  alive := fun i h x b hb => by simp at hb; subst hb; obtain ⟨o, ho, _⟩ := x; exact ⟨o, ho⟩
  next := fun i x target ρ H s E hx ht hst S hρ hK hw => by
    obtain ⟨v, rfl, hv⟩ := get_map_one hx
    have hna := ext_at hn hρ
    obtain ⟨us, m, ho, hs, _⟩ := S.obj n a _ hna hK
    obtain ⟨u, hu, hr⟩ := hs.get i v hv
    refine wpAny_pyNext_tuple_item hst ⟨_, ho, rfl, m, rfl⟩ (by rw [← Array.getElem?_toList]; exact hu) fun h' hit hsb => ⟨u, rfl, ?_⟩
    obtain ⟨o, ho', hc, hd⟩ := id hit
    refine letGo_other ho' hc hd (by decide) ⟨h', s.toks, rfl, hr, hit, fun b o hb e => (hsb.2 b fun z => hb (by simp [z])).trans e⟩
  done := fun ρ H s E hst S hρ hK hw => by
    have hna := ext_at hn hρ
    obtain ⟨us, m, ho, hs, _⟩ := S.obj n a _ hna hK
    rw [List.length_map] at hst
    refine wpAny_pyNext_tuple_end hA hst ⟨_, ho, rfl, m, rfl⟩ (by rw [← Array.getElem?_toList, hs.length, List.getElem?_eq_none (Nat.le_refl _)]) fun h' he => ⟨rfl, h', s.toks, rfl, fun b o hb e => he b o (fun z => hb (by simp [z])) e⟩
  self := fun i s Q E hst hq => wpAny_pyIter_tupleiter hst hq
theorem itr_range (hA : A.handled = none) {I : Addr} {a c : Int} {n : Nat} {ρ0 : List Addr} :
    Itr C A ρ0 ((List.range n).map fun k => Item.one (.int (a + (k : Nat) * c))) (fun _ => True) I [I] (fun i h => IsRangeIter h I (a + (i : Nat) * c) ((n : Int) - (i : Nat)) c) where
  frame := fun i h h' x k => k I (.head _) _ x
  alive := fun i h x b hb => by simp at hb; subst hb; exact ⟨_, x⟩
  next := fun i x target ρ H s E hx ht hst S hρ hK hw => by
    rw [List.getElem?_map] at hx
    have hi : i < n := by
      rcases Nat.lt_or_ge i n with h | h
      · exact h
      · rw [List.getElem?_eq_none (by simpa using h)] at hx; cases hx
    rw [List.getElem?_eq_getElem (by simpa using hi)] at hx
    simp at hx
    subst hx
    refine wpAny_pyNext_range_item hst (by lia) fun h' hit hsb => ⟨_, rfl, ?_⟩
    refine letGo_other hit rfl rfl (by decide) ⟨h', s.toks + 1, rfl, vi (C := C) (ρ := ρ) _ _, ?_, fun b o hb e => (hsb.2 b fun z => hb (by simp [z])).trans e⟩
    have e1 : a + (i : Int) * c + c = a + ((i + 1 : Nat) : Int) * c := by rw [Int.natCast_add, Int.add_mul]; simp; lia
    have e2 : (n : Int) - i - 1 = n - ((i + 1 : Nat) : Int) := by lia
    rw [e1, e2] at hit; exact hit
  done := fun ρ H s E hst S hρ hK hw => by
    simp only [List.length_map, List.length_range] at hst
    exact wpAny_pyNext_range_end hA hst (by lia) fun h' he => ⟨rfl, h', s.toks, rfl, fun b o hb e => he b o (fun z => hb (by simp [z])) e⟩
  self := fun i s Q E hst hq => wpAny_pyIter_rangeiter hst hq
theorem one_sign {t : Txt} {i c : Nat} (ok : okT t = true) (h : t.toArray[i]? = some c) : okT [c] = true := by
  rw [okT_iff] at *
  refine ⟨by simp [lid], fun d hd => ?_⟩
  simp only [List.mem_singleton] at hd
  subst hd
  exact ok.2 d (by simpa using Array.mem_of_getElem? h)
theorem get_map_sign {t : Txt} {i : Nat} {x : Item} (h : (t.map fun c => Item.one (.str [c]))[i]? = some x) : ∃ c, x = .one (.str [c]) ∧ t[i]? = some c := by
  rw [List.getElem?_map] at h
  cases e : t[i]? with
  | none => rw [e] at h; cases h
  | some v => rw [e] at h; cases h; exact ⟨v, rfl, rfl⟩
theorem itr_ascii (hA : A.handled = none) {I : Addr} {t : Txt} {tk : Tok} {ρ0 : List Addr} (ok : okT t = true) :
    Itr C A ρ0 (t.map fun c => Item.one (.str [c])) (fun _ => True) I [I] (fun i h => h.IsStrIter I "str_ascii_iterator" ⟨t.toArray⟩ tk i) where
  frame := fun i h h' x k => by obtain ⟨o, ho, r⟩ := x; exact ⟨o, k I (.head _) o ho, r⟩
  alive := fun i h x b hb => by simp at hb; subst hb; obtain ⟨o, ho, _⟩ := x; exact ⟨o, ho⟩
  next := fun i x target ρ H s E hx ht hst S hρ hK hw => by
    obtain ⟨c, rfl, hc⟩ := get_map_sign hx
    have hc' : t.toArray[i]? = some c := by simpa using hc
    refine wpAny_pyNext_ascii_item hst hc' fun h' hit hsb => ⟨_, rfl, ?_⟩
    obtain ⟨o, ho', hc1, hd⟩ := id hit
    exact letGo_other ho' hc1 hd (by decide) ⟨h', s.toks + 1, rfl, vt (C := C) (ρ := ρ) (one_sign ok hc') _, hit, fun b o hb e => (hsb.2 b fun z => hb (by simp [z])).trans e⟩
  done := fun ρ H s E hst S hρ hK hw => by
    rw [List.length_map] at hst
    exact wpAny_pyNext_ascii_end hA hst (by simp) fun h' he => ⟨rfl, h', s.toks, rfl, fun b o hb e => he b o (fun z => hb (by simp [z])) e⟩
  self := fun i s Q E hst hq => wpAny_pyIter_striter_ascii hst hq
theorem itr_wide (hA : A.handled = none) {I : Addr} {t : Txt} {tk : Tok} {ρ0 : List Addr} (ok : okT t = true) :
    Itr C A ρ0 (t.map fun c => Item.one (.str [c])) (fun _ => True) I [I] (fun i h => h.IsStrIter I "str_iterator" ⟨t.toArray⟩ tk i) where
  frame := fun i h h' x k => by obtain ⟨o, ho, r⟩ := x; exact ⟨o, k I (.head _) o ho, r⟩
  alive := fun i h x b hb => by simp at hb; subst hb; obtain ⟨o, ho, _⟩ := x; exact ⟨o, ho⟩
  next := fun i x target ρ H s E hx ht hst S hρ hK hw => by
    obtain ⟨c, rfl, hc⟩ := get_map_sign hx
    have hc' : t.toArray[i]? = some c := by simpa using hc
    refine wpAny_pyNext_wide_item hst hc' fun h' hit hsb => ⟨_, rfl, ?_⟩
    obtain ⟨o, ho', hc1, hd⟩ := id hit
    exact letGo_other ho' hc1 hd (by decide) ⟨h', s.toks + 1, rfl, vt (C := C) (ρ := ρ) (one_sign ok hc') _, hit, fun b o hb e => (hsb.2 b fun z => hb (by simp [z])).trans e⟩
  done := fun ρ H s E hst S hρ hK hw => by
    rw [List.length_map] at hst
    exact wpAny_pyNext_wide_end hA hst (by simp) fun h' he => ⟨rfl, h', s.toks, rfl, fun b o hb e => he b o (fun z => hb (by simp [z])) e⟩
  self := fun i s Q E hst hq => wpAny_pyIter_striter_wide hst hq
noncomputable def DK (C : Cx) (ρ : List Addr) (e : Txt × V) (kv : Str × Value) : Prop := kv.1 = ⟨e.1.toArray⟩ ∧ okT e.1 = true ∧ VR C ρ e.2 kv.2
theorem dk_keys {ρ : List Addr} {es : List (Txt × V)} {kvs : List (Str × Value)} (h : All2 (DK C ρ) es kvs) : kvs.map (·.1) = (es.map (·.1)).map fun t => (⟨t.toArray⟩ : Str) := by
  induction h with
  | nil => rfl
  | cons he _ ih => rw [List.map_cons, List.map_cons, List.map_cons, ih, he.1]
theorem str_inj {t u : Txt} (h : (⟨t.toArray⟩ : Str) = ⟨u.toArray⟩) : t = u := by
  have := congrArg (fun x : Str => x.cps.toList) h
  exact this
theorem er_pairs {ρ : List Addr} {es : List (Txt × V)} {l : List DictEntry} (h : All2 (ER C ρ) es l) : ∃ kvs, Pairs (PySem.strKind C.prog C.w) l kvs ∧ All2 (DK C ρ) es kvs := by
  induction h with
  | nil => exact ⟨[], .nil, .nil⟩
  | @cons e d es l he _ ih =>
    obtain ⟨kvs, h1, h2⟩ := ih
    obtain ⟨⟨ok, t, e1⟩, e2, e3⟩ := he
    exact ⟨(⟨e.1.toArray⟩, d.val) :: kvs, .cons (by rw [e1]; exact strKind_is _ _ _ t) rfl h1, .cons ⟨rfl, ok, e3⟩ h2⟩
theorem dict_at {ρ : List Addr} {h : Heap} {a : Addr} {es : List (Txt × V)} {ep : Nat} (o : OR C ρ h a (.dict es ep)) :
    ∃ kvs : List (Str × Value), h.DictAt (PySem.strKind C.prog C.w) a kvs ep ∧ All2 (DK C ρ) es kvs := by
  obtain ⟨ds, ho, hs, hn, _⟩ := o
  obtain ⟨kvs, h1, h2⟩ := er_pairs hs
  refine ⟨kvs, ⟨_, ds, ho, ⟨rfl, rfl, rfl⟩, rfl, fun e he => ?_, h1, ?_⟩, h2⟩
  · obtain ⟨p, hp, ⟨_, t, e1⟩, e2, e3⟩ := hs.right e (Array.mem_toList_iff.mpr he)
    exact ⟨⟨p.1.toArray⟩, by rw [e1]; exact strKind_is _ _ _ t, e2⟩
  · rw [dk_keys h2]
    exact List.Pairwise.map _ (fun x y hxy q => hxy (str_inj q)) hn
theorem dict_of {ρ : List Addr} {h : Heap} {a : Addr} {es : List (Txt × V)} {ep : Nat} (o : OR C ρ h a (.dict es ep)) :
    ∃ kvs : List (Str × Value), h.DictOf (PySem.strKind C.prog C.w) a kvs ∧ All2 (DK C ρ) es kvs := by
  obtain ⟨kvs, ⟨o, ds, ho, a1, b1, c1, d1, e1⟩, h2⟩ := dict_at o
  exact ⟨kvs, ⟨o, ds, ep, ho, a1, b1, c1, d1, e1⟩, h2⟩
theorem dict_is {ρ : List Addr} {h : Heap} {a : Addr} {es : List (Txt × V)} {kvs : List (Str × Value)} (hd : h.DictOf (PySem.strKind C.prog C.w) a kvs) (hk : All2 (DK C ρ) es kvs) (hl : es.length ≤ lid) : ∃ ep, OR C ρ h a (.dict es ep) := by
  obtain ⟨o, ds, ep, ho, ⟨x1, x2, x3⟩, hdat, hks, hp, hn⟩ := hd
  refine ⟨ep, ds, ?_, ?_, ?_, hl⟩
  · obtain ⟨c, d, dt, sl⟩ := o
    cases x1; cases x2; cases x3; cases hdat
    exact ho
  · have go : ∀ {es : List (Txt × V)} {kvs : List (Str × Value)}, All2 (DK C ρ) es kvs → ∀ {l : List DictEntry}, Pairs (PySem.strKind C.prog C.w) l kvs → (∀ d ∈ l, ∃ k, (PySem.strKind C.prog C.w).is k d.key = true ∧ d.hash = (PySem.strKind C.prog C.w).hash k) → All2 (ER C ρ) es l := by
      intro es kvs h
      induction h with
      | nil => intro l hp _; cases hp; exact .nil
      | @cons e kv es kvs he _ ih =>
        intro l hp hh
        cases hp with
        | @cons d _ l' _ h1 h2 h3 =>
          refine .cons ?_ (ih h3 fun d hd => hh d (.tail _ hd))
          obtain ⟨e1, ok, e3⟩ := he
          rw [e1] at h1
          obtain ⟨t, ht⟩ := Value.isStrOf_shape h1
          obtain ⟨k', hk', hh'⟩ := hh d (.head _)
          have hkk : k' = ⟨e.1.toArray⟩ := by
            rw [ht] at hk'
            obtain ⟨t', ht'⟩ := Value.isStrOf_shape (show Value.isStrOf k' (.str ⟨e.1.toArray⟩ t) = true from hk')
            cases ht'; rfl
          exact ⟨⟨ok, t, ht⟩, by rw [hh', hkk]; rfl, by rw [h2]; exact e3⟩
    exact go hk hp fun d hd => hks d (Array.mem_toList_iff.mp hd)
  · rw [dk_keys hk] at hn
    exact (List.pairwise_map.mp hn).imp fun hxy q => hxy (by rw [q])
theorem dk_stored {ρ : List Addr} {k : Txt} {v : V} {u : Value} (ok : okT k = true) (hv : VR C ρ v u) {es : List (Txt × V)} {kvs : List (Str × Value)} (h : All2 (DK C ρ) es kvs) : All2 (DK C ρ) (stA es k v) (PySem.stored kvs ⟨k.toArray⟩ u) := by
  have eqk : ∀ {e : Txt × V} {kv : Str × Value}, DK C ρ e kv → (kv.1 = ⟨k.toArray⟩ ↔ e.1 = k) := fun he => by
    rw [he.1]; exact ⟨str_inj, fun q => by rw [q]⟩
  have hany : (kvs.any fun kv => decide (kv.1 = ⟨k.toArray⟩)) = es.any fun e => decide (e.1 = k) := by
    induction h with
    | nil => rfl
    | cons he _ ih => rw [List.any_cons, List.any_cons, ih, decide_eq_decide.mpr (eqk he)]
  unfold stA PySem.stored
  rw [hany]
  split
  · rename_i hh
    clear hany hh
    induction h with
    | nil => exact .nil
    | @cons e kv es kvs he _ ih =>
      rw [List.map_cons, List.map_cons]
      refine .cons ?_ ih
      by_cases q : e.1 = k
      · rw [if_pos q, if_pos ((eqk he).mpr q)]; exact ⟨he.1, he.2.1, hv⟩
      · rw [if_neg q, if_neg fun z => q ((eqk he).mp z)]; exact he
  · exact h.append (.cons ⟨rfl, ok, hv⟩ .nil)
theorem get_map_key {es : List (Txt × V)} {i : Nat} {x : Item} (h : (es.map fun e => Item.one (.str e.1))[i]? = some x) : ∃ e, x = .one (.str e.1) ∧ es[i]? = some e := by
  rw [List.getElem?_map] at h
  cases e : es[i]? with
  | none => rw [e] at h; cases h
  | some v => rw [e] at h; cases h; exact ⟨v, rfl, rfl⟩
theorem itr_dict (hA : A.handled = none) {I a : Addr} {n : Nat} {es : List (Txt × V)} {ep : Nat} {ρ0 : List Addr} (hn : ρ0[n]? = some a) :
    Itr C A ρ0 (es.map fun e => Item.one (.str e.1)) (fun H => H[n]? = some (.dict es ep)) I [I] (fun i h => h.IsKeyIter I a i es.length ep) where
  frame := fun i h h' x k => by obtain ⟨o, ho, r⟩ := x; exact ⟨o, k I (.head _) o ho, r⟩
  alive := fun i h x b hb => by simp at hb; subst hb; obtain ⟨o, ho, _⟩ := x; exact ⟨o, ho⟩
  next := fun i x target ρ H s E hx ht hst S hρ hK hw => by
    obtain ⟨e, rfl, he⟩ := get_map_key hx
    have hna := ext_at hn hρ
    have ho := S.obj n a _ hna hK
    obtain ⟨kvs, hd, hk⟩ := dict_at ho
    obtain ⟨kv, e2, hi, okk, _⟩ := hk.get i e he
    rw [hk.length] at hst ⊢
    refine wpAny_pyNext_dict_item hst hd (k := kv.1) (v := kv.2) e2 fun key h' hkey hit hsb => ⟨key, rfl, ?_⟩
    obtain ⟨o, ho', hc1, hd1⟩ := id hit
    rw [hi] at hkey
    obtain ⟨tk, rfl⟩ := Value.isStrOf_shape hkey
    exact letGo_other ho' hc1 hd1 (by decide) ⟨h', s.toks, rfl, vt (C := C) (ρ := ρ) okk tk, hit, fun b o hb e => (hsb.2 b fun z => hb (by simp [z])).trans e⟩
  done := fun ρ H s E hst S hρ hK hw => by
    have hna := ext_at hn hρ
    obtain ⟨kvs, hd, hk⟩ := dict_at (S.obj n a _ hna hK)
    rw [List.length_map, hk.length] at hst
    exact wpAny_pyNext_dict_end hA hst hd (by simp) fun h' he => ⟨rfl, h', s.toks, rfl, fun b o hb e => he b o (fun z => hb (by simp [z])) e⟩
  self := fun i s Q E hst hq => wpAny_pyIter_keyiter hst hq
variable {T : Tab} {K : Nat} {env : Env}
theorem fresh_new {ρ : List Addr} {H : AHeap} {s : Shared} (S : Sim C ρ H s) : s.heap.objs.size ∉ ρ := fun hm => by
  obtain ⟨i, hi, e⟩ := List.getElem_of_mem hm
  have hi' : i < H.length := by rw [← S.len]; exact hi
  obtain ⟨ob, q⟩ := (S.obj i _ H[i] (by rw [List.getElem?_eq_getElem hi, e]) (List.getElem?_eq_getElem hi')).alive C
  rw [get_size] at q; cases q
theorem none_before {ρ ρ' : List Addr} {s s' : Shared} {ex : Addr → Prop} (st : StepG ex ρ s ρ' s') {a : Addr} (h : s'.heap.get? a = none) : s.heap.get? a = none := by
  cases e : s.heap.get? a with
  | none => rfl
  | some o => obtain ⟨o', q⟩ := st.live a o e; rw [h] at q; cases q
theorem ready_new {ρ ρ1 : List Addr} {H1 : AHeap} {s s1 : Shared} {o : Obj} {q : List Item → (AHeap → Prop) → AHeap → Prop} {items : List Item} {Kp : AHeap → Prop} {St : Nat → Heap → Prop} (st1 : Step ρ s ρ1 s1) (S1 : Sim C ρ1 H1 s1)
    (hI : Itr C A ρ1 items Kp s1.heap.objs.size [s1.heap.objs.size] St) (hSt : St 0 (s1.heap.push o)) (hq : q items Kp H1) : Ready' C A ρ s q (.ref s1.heap.objs.size) { s1 with heap := s1.heap.push o } := by
  obtain ⟨S2, st2⟩ := S1.grow (h' := s1.heap.push o) (tk := s1.toks) get_push
  exact ⟨ρ1, H1, _, _, _, [s1.heap.objs.size], _, rfl, hI, hSt, st1.trans st2, S2, fun b hb => by cases List.mem_singleton.mp hb; exact ⟨none_before st1 (get_size _), fresh_new S1⟩, hq⟩
theorem it_val {e : Expr} {pe : PE} (he : EvOk C T K env e pe) : ItOk C T K env e (.itVal pe) := by
  intro σ ρ H s A q X E F S hA h hE
  refine he.bind F S hA h hE fun ρ1 H1 v1 u1 s1 st1 F1 S1 hv1 hq1 hE1 => ?_
  cases hq1 with
  | str hq1 =>
    obtain ⟨ok, tk, rfl⟩ := hv1
    rename_i t
    cases ha : (⟨t.toArray⟩ : Str).cps.all (· < 128) with
    | true => exact wpAny_pyIter_ascii ha (ready_new st1 S1 (itr_ascii hA.h ok) ⟨_, Heap.get?_push_size _ rfl, rfl, rfl⟩ hq1)
    | false => exact wpAny_pyIter_wide ha (ready_new st1 S1 (itr_wide hA.h ok) ⟨_, Heap.get?_push_size _ rfl, rfl, rfl⟩ hq1)
  | list e1 hq1 =>
    obtain ⟨a, rfl, ea, us, m, ho, hs, _⟩ := S1.lookup e1 hv1
    exact wpAny_pyIter_list ⟨_, ho, rfl, m, rfl⟩ (ready_new st1 S1 (itr_list hA.h ea) ⟨_, Heap.get?_push_size _ rfl, rfl, rfl⟩ hq1)
  | tuple e1 hq1 =>
    obtain ⟨a, rfl, ea, us, m, ho, hs, _⟩ := S1.lookup e1 hv1
    exact wpAny_pyIter_tuple ⟨_, ho, rfl, m, rfl⟩ (ready_new st1 S1 (itr_tuple hA.h ea) ⟨_, Heap.get?_push_size _ rfl, rfl, rfl⟩ hq1)
  | dict e1 hq1 =>
    obtain ⟨a, rfl, ea, hor⟩ := S1.lookup e1 hv1
    obtain ⟨kvs, hd, hk⟩ := dict_at hor
    refine wpAny_pyIter_dict (S1.not_sm ea) hd (ready_new st1 S1 (itr_dict hA.h ea) ⟨_, Heap.get?_push_size _ rfl, rfl, ?_⟩ hq1)
    rw [← hk.length]; rfl
theorem type_call1 {g : Str} {t : String} {p pos : Pos} {e : Expr} {pe : PE} {R : Value → Shared → Prop} (hk : env.kindOf g = some .globalImplicit) (hg : C.G g = some (.type t)) (hd : (g == Str.ofString "__debug__") = false) (hs : isStar e = false)
    (he : EvOk C T K env e pe) {σ : Sg} {ρ : List Addr} {H : AHeap} {s : Shared} {Q : VPost} {X : XPost} {E : Value → Shared → Prop}
    (F : FR C env σ ρ s.heap) (S : Sim C ρ H s) (hA : AOk K A) (h : (sem T pe).ev σ H Q X) (hE : Takes C ρ s X E)
    (k : ∀ ρ' H' v u s', Step ρ s ρ' s' → FR C env σ ρ' s'.heap → Sim C ρ' H' s' → VR C ρ' v u → Q v H' → Takes C ρ' s' X E → wpAny C.M A (call (.type t) [u]) R E s') : wpAny C.M A (eval (.Call (.Name g p) [e] [] pos) env) R E s := by
  have hs' : ∀ x ∈ [e], isStar x = false := fun x hx => by simp at hx; subst hx; exact hs
  have e1 : starEach [e] env = (false, eval e env) :: starEach [] env := star_cons hs []
  show wpAny C.M A (do callWith pos (← eval (.Name g p) env) [] (backTo pos (starEach [e] env)) []) R E s
  refine wpAny_bind (global_ok F S hk hg hd ?_)
  refine callWith_any (any_false hs') (evalArgs_any hs' ?_)
  refine wpAny_items_cons (he.bind F S hA h hE fun ρ' H' v u s' st F' S' hv hq hE' => wpAny_items_nil ⟨.inr (.inl ⟨t, rfl⟩), ?_⟩) e1
  exact k ρ' H' v u s' st F' S' hv hq hE'
theorem range_ready {ρ ρ1 : List Addr} {H1 : AHeap} {s s1 : Shared} {r : Addr} {a b : Int} {t u v : Tok} {q : List Item → (AHeap → Prop) → AHeap → Prop} {E : Value → Shared → Prop} (hA : A.handled = none) (st1 : Step ρ s ρ1 s1) (S1 : Sim C ρ1 H1 s1)
    (hr : IsRange s1.heap r a b 1 t u v) (ha : -(2 ^ 62) ≤ a) (ha' : a < 2 ^ 62) (hb : -(2 ^ 62) ≤ b) (hb' : b < 2 ^ 62) (hq : q ((intsFrom a (b - a).toNat).map fun i => .one (.int i)) (fun _ => True) H1) :
    wpAny C.M A (pyIter (.ref r)) (Ready' C A ρ s q) E s1 := by
  refine wpAny_pyIter_range hr (small_one ha ha' hb hb') ?_
  rw [rangeSize_one]
  have hz : ((if a < b then b - a else 0 : Int)) = (((b - a).toNat : Nat) : Int) := by split <;> lia
  rw [hz]
  have hi := itr_range (C := C) (A := A) hA (I := s1.heap.objs.size) (a := a) (c := 1) (n := (b - a).toNat) (ρ0 := ρ1)
  have hitems : ((List.range (b - a).toNat).map fun k => Item.one (.int (a + (k : Nat) * 1))) = (intsFrom a (b - a).toNat).map fun i => Item.one (.int i) := by
    unfold intsFrom; rw [List.map_map]; simp
  rw [hitems] at hi
  refine ready_new st1 S1 hi ?_ hq
  have := Heap.get?_push_size s1.heap (o := { cls := .type "range_iterator", data := .fields #[rawInt a, rawInt (((b - a).toNat : Nat) : Int), rawInt 1] }) rfl
  simpa using this
theorem it_range1 (hT : TabOk C T K) {g : Str} {p pos : Pos} {e : Expr} {pe : PE} (hg : isG env.kindOf g "range" = true) (hs : isStar e = false) (he : EvOk C T K env e pe) : ItOk C T K env (.Call (.Name g p) [e] [] pos) (.itRange1 pe) := by
  intro σ ρ H s A q X E F S hA h hE
  unfold isG at hg
  obtain ⟨hg1, hg2⟩ := Bool.and_eq_true_iff.mp hg
  have hg1 := beq_iff_eq.mp hg1
  subst hg1
  refine type_call1 (beq_iff_eq.mp hg2) hT.range (by decide +kernel) hs he F S hA h hE fun ρ1 H1 v1 u1 s1 st1 F1 S1 hv1 hq1 hE1 => ?_
  split at hq1
  · rename_i j
    obtain ⟨hj0, hj, hq1⟩ := hq1
    obtain ⟨tk, rfl⟩ := hv1
    unfold lid at hj
    obtain ⟨S2, st2⟩ := S1.grow (h' := s1.heap.push { cls := .type "range", data := .fields #[.int 0 s1.toks, .int j tk, .int 1 (s1.toks + 1)] }) (tk := s1.toks + 1 + 1) get_push
    refine call_range_1 (range_ready hA.h (st1.trans st2) S2 (IsRange.new _ _ _ _ _ _ _) (by lia) (by lia) (by lia) (by lia) ?_)
    rw [Int.sub_zero]; exact hq1
  · exact hq1.elim
theorem it_range2 (hT : TabOk C T K) {g : Str} {p pos : Pos} {e1 e2 : Expr} {p1 p2 : PE} (hg : isG env.kindOf g "range" = true) (hs1 : isStar e1 = false) (hs2 : isStar e2 = false)
    (he1 : EvOk C T K env e1 p1) (he2 : EvOk C T K env e2 p2) : ItOk C T K env (.Call (.Name g p) [e1, e2] [] pos) (.itRange2 p1 p2) := by
  intro σ ρ H s A q X E F S hA h hE
  unfold isG at hg
  obtain ⟨hg1, hg2⟩ := Bool.and_eq_true_iff.mp hg
  have hg1 := beq_iff_eq.mp hg1
  subst hg1
  have hs' : ∀ x ∈ [e1, e2], isStar x = false := fun x hx => by
    rcases List.mem_cons.mp hx with rfl | hx
    · exact hs1
    · simp at hx; subst hx; exact hs2
  have q1 : starEach [e1, e2] env = (false, eval e1 env) :: starEach [e2] env := star_cons hs1 [e2]
  have q2 : starEach [e2] env = (false, eval e2 env) :: starEach [] env := star_cons hs2 []
  show wpAny C.M A (do callWith pos (← eval (.Name (Str.ofString "range") p) env) [] (backTo pos (starEach [e1, e2] env)) []) _ E s
  refine wpAny_bind (global_ok F S (beq_iff_eq.mp hg2) hT.range (by decide +kernel) ?_)
  refine callWith_any (any_false hs') (evalArgs_any hs' ?_)
  refine wpAny_items_cons (he1.bind F S hA h hE fun ρ1 H1 v1 u1 s1 st1 F1 S1 hv1 hq1 hE1 => wpAny_items_cons (he2.bind F1 S1 hA hq1 hE1 fun ρ2 H2 v2 u2 s2 st2 F2 S2 hv2 hq2 hE2 => wpAny_items_nil ⟨.inr (.inl ⟨_, rfl⟩), ?_⟩) q2) q1
  split at hq2
  · rename_i i j
    obtain ⟨hi0, hi, hj0, hj, hq2⟩ := hq2
    obtain ⟨tk, rfl⟩ := hv1
    obtain ⟨tk2, rfl⟩ := hv2
    unfold lid at hi hj
    obtain ⟨S3, st3⟩ := S2.grow (h' := s2.heap.push { cls := .type "range", data := .fields #[.int i tk, .int j tk2, .int 1 s2.toks] }) (tk := s2.toks + 1) get_push
    exact call_range_2 (range_ready hA.h ((st1.trans st2).trans st3) S3 (IsRange.new _ _ _ _ _ _ _) (by lia) (by lia) (by lia) (by lia) hq2)
  · exact hq2.elim
end
end Mine
end
section
namespace Mine
open PySem PySem.Calls PyProof.Rows
section
variable {C : Cx} {env : Env} {A : Around} {E : Value → Shared → Prop}
theorem stored_iff {k : Kd} {x : Str} (h : stored k x = true) : k x = some .local ∨ k x = some .cell := by
  unfold stored at h
  rcases Bool.or_eq_true_iff.mp (Bool.and_eq_true_iff.mp h).1 with h | h
  · exact .inl (by simpa using h)
  · exact .inr (by simpa using h)
theorem stored_ne {k : Kd} {x : Str} (h : stored k x = true) : x ≠ dot0 := by
  unfold stored at h
  simpa using (Bool.and_eq_true_iff.mp h).2
theorem tgt_each : ∀ {elts : List Expr} {xs : List Str}, tgtNames elts = some xs → ∃ ps : List Pos, ps.length = xs.length ∧ (assignEach elts env).map (·.2) = (xs.zip ps).map (fun p u => assign (.Name p.1 p.2) env u) ∧ (assignEach elts env).findIdx? (·.1) = none ∧ (assignEach elts env).length = xs.length
  | [], _, h => by cases h; exact ⟨[], rfl, rfl, rfl, rfl⟩
  | e :: r, xs, h => by
    unfold tgtNames at h
    split at h
    · rename_i x p he
      cases asName_is he
      obtain ⟨ys, hr, rfl⟩ := Option.map_eq_some_iff.mp h
      obtain ⟨ps, h1, h2, h3, h5⟩ := tgt_each hr
      have e1 : assignEach (.Name x p :: r) env = (false, assign (.Name x p) env) :: assignEach r env := rfl
      refine ⟨p :: ps, congrArg (· + 1) h1, ?_, ?_, congrArg (· + 1) h5⟩
      · rw [e1, List.map_cons, List.zip_cons_cons, List.map_cons, h2]
      · rw [e1, List.findIdx?_cons, h3]; rfl
    · cases h
theorem stores_zip {Z : List Str} : ∀ (xs : List Str) (ps : List Pos) (vs : List V) (us : List Value) (σ : Sg) (ρ : List Addr) (H : AHeap) (s : Shared) (Q : Unit → Shared → Prop), ps.length = xs.length →
    xs.length = vs.length → All2 (VR C ρ) vs us → (∀ x ∈ xs, x ∈ Z) → (∀ x ∈ xs, stored env.kindOf x = true) → FR C env σ ρ s.heap → Sim C ρ H s →
    (∀ s', FR C env (σ.sets (xs.zip vs)) ρ s'.heap → Sim C ρ H s' → StepG (ownT env Z) ρ s ρ s' → Q () s') → wpAny C.M A (assignInOrder ((xs.zip ps).map fun p u => assign (.Name p.1 p.2) env u) us) Q E s
  | [], _, [], _, σ, ρ, H, s, Q, _, _, .nil, _, _, F, S, h => by rw [List.zip_nil_left]; exact wpAny_pure (h s F S (StepG.refl _ _))
  | x :: xs, p :: ps, v :: vs, _, σ, ρ, H, s, Q, hp, hl,   .cons (b := u) (bs := us) hv hr, hz, hk, F, S, h => by
    rw [List.zip_cons_cons, List.map_cons, assignInOrder]
    refine wpAny_bind (wpAny_holding (assign_Name (store_ok F S (hz x (.head _)) (stored_iff (hk x (.head _))) (stored_ne (hk x (.head _))) hv fun s1 F1 S1 st1 => ?_)))
    refine stores_zip xs ps vs us _ ρ H s1 Q (by simpa using hp) (by simpa using hl) hr (fun y hy => hz y (.tail _ hy)) (fun y hy => hk y (.tail _ hy)) F1 S1 fun s2 F2 S2 st2 => h s2 F2 S2 (st1.trans st2)
  | _ :: _, [], _, _, _, _, _, _, _, hp, _, _, _, _, _, _, _ => by simp at hp
  | [], _, _ :: _, _, _, _, _, _, _, _, hl, _, _, _, _, _, _ => by simp at hl
  | _ :: _, _, [], _, _, _, _, _, _, _, hl, _, _, _, _, _, _ => by simp at hl
theorem unpack_tuple {ρ : List Addr} {H : AHeap} {s : Shared} {t : Addr} {us : Array Value} {n m : Nat} {Q : List Value → Shared → Prop} (hA : A.handled = none) (S : Sim C ρ H s) (ho : s.heap.get? t = some ⟨.type "tuple", none, .seq us n, #[]⟩) (hm : m = us.size)
    (h : ∀ h', (∀ b o, s.heap.get? b = some o → h'.get? b = some o) → Q us.toList { s with heap := h' }) : wpAny C.M A (unpackItems (.ref t) m none) Q E s := by
  subst hm
  exact unpackItems_tuple hA ⟨_, ho, rfl, n, rfl⟩ fun h' he => h h' fun b o e => he b o (Nat.ne_of_lt (Heap.lt_size e)) e
theorem assign_ok {t : Expr} {t' : Tgt} {x : Item} {u : Value} {σ σ' : Sg} {ρ : List Addr} {H : AHeap} {s : Shared} {h0 : Heap} {Q : Unit → Shared → Prop} (hA : A.handled = none) (ht : trT env.kindOf t = some t') (hb : bindA t' x H σ = some σ') (hx : IR C ρ h0 s.heap x u)
    (F : FR C env σ ρ s.heap) (S : Sim C ρ H s) (h : ∀ s', FR C env σ' ρ s'.heap → Sim C ρ H s' → StepG (ownT env t'.names) ρ s ρ s' → Q () s') : wpAny C.M A (assign t env u) Q E s := by
  cases x with
  | one v =>
    unfold trT at ht
    split at ht
    · rename_i y p e
      cases asName_is e
      split at ht
      · rename_i hk
        cases ht
        cases hb
        exact assign_Name (store_ok F S (Z := [y]) (.head _) (stored_iff hk) (stored_ne hk) hx h)
      · cases ht
    · split at ht
      · rename_i elts k p e
        cases asTup_is e
        split at ht
        · rename_i xs hxs
          split at ht
          · rename_i hk
            cases ht
            have hk1 : ∀ x ∈ xs, stored env.kindOf x = true := List.all_eq_true.mp (Bool.and_eq_true_iff.mp hk).1
            obtain ⟨ps, h1, h2, h3, h5⟩ := tgt_each (env := env) hxs
            rw [arm_assign_Tuple]
            refine wpAny_bind (wpAny_standAt ?_)
            unfold unpack
            rw [h2, h3, h5]
            unfold bindA at hb
            dsimp only at hb
            split at hb
            · rename_i n
              split at hb
              · rename_i vs e1
                split at hb
                · rename_i hl
                  cases hb
                  obtain ⟨a, rfl, ea, us, m, ho, hs, _⟩ := S.lookup e1 hx
                  have hz : xs.length = us.size := hl.trans (hs.length.trans Array.length_toList)
                  refine wpAny_bind (wpAny_holding (unpack_tuple hA S ho hz fun h' hk' => ?_))
                  obtain ⟨S1, st1⟩ := S.grow (h' := h') (tk := s.toks) hk'
                  exact stores_zip (Z := xs) xs ps vs us.toList σ ρ H _ Q h1 hl hs (fun _ h => h) hk1 (F.step st1) S1 fun s2 F2 S2 st2 => h s2 F2 S2 ((StepG.up st1).trans st2)
                · cases hb
              · cases hb
            · cases hb
          · cases ht
        · cases ht
      · cases ht
end
end Mine
end
section
namespace Mine
open PySem PySem.Calls PyProof.Rows
section
variable {C : Cx} {env : Env} {A : Around} {E : Value → Shared → Prop}
theorem FR.at {σ : Sg} {ρ : List Addr} {h h' : Heap} (F : FR C env σ ρ h) (k : ∀ b, own env b → ∀ o, h.get? b = some o → h'.get? b = some o) : FR C env σ ρ h' := by
  refine ⟨F.dot, F.kind, F.glob, F.bl, ?_, fun x c hc => ?_, F.has, F.nL, F.nC, F.apart, F.bL, F.bC⟩
  · obtain ⟨m, hn, hv⟩ := F.ns
    exact ⟨m, hn.at' fun o q => k _ (.inl rfl) o q, hv⟩
  · obtain ⟨ov, ⟨o, ho, hd⟩, hv⟩ := F.cells x c hc
    exact ⟨ov, ⟨o, k _ (.inr ⟨x, hc⟩) o ho, hd⟩, hv⟩
theorem FR.less {σ σ' : Sg} {ρ : List Addr} {h : Heap} (F : FR C env σ ρ h) (l : ∀ x v, σ' x = some v → σ x = some v) : FR C env σ' ρ h := by
  refine ⟨?_, F.kind, F.glob, F.bl, ?_, fun x c hc => ?_, F.has, F.nL, F.nC, F.apart, F.bL, F.bC⟩
  · cases e : σ' dot0 with
    | none => rfl
    | some v => have := l _ _ e; rw [F.dot] at this; cases this
  · obtain ⟨m, hn, hv⟩ := F.ns
    exact ⟨m, hn, fun x v h1 h2 => hv x v (l _ _ h1) h2⟩
  · obtain ⟨ov, hi, hv⟩ := F.cells x c hc
    exact ⟨ov, hi, fun v h1 h2 => hv v (l _ _ h1) h2⟩
theorem FR.alive {σ : Sg} {ρ : List Addr} {h : Heap} (F : FR C env σ ρ h) : ∀ b, own env b → ∃ o, h.get? b = some o
  | _, .inl e => by obtain ⟨m, ⟨o, es, ep, ho, _⟩, _⟩ := F.ns; exact ⟨o, e ▸ ho⟩
  | _, .inr ⟨x, e⟩ => by obtain ⟨ov, ⟨o, ho, _⟩, _⟩ := F.cells x _ e; exact ⟨o, ho⟩
theorem adrift {ex : Addr → Prop} {ρ ρ1 : List Addr} {H1 : AHeap} {s t : Shared} {W : Addr → Prop} {h' : Heap} {tk : Nat} (st : StepG ex ρ s ρ1 t) (S : Sim C ρ1 H1 t) (hW : ∀ b, W b → s.heap.get? b = none ∧ b ∉ ρ1 ∧ C.base.get? b = none)
    (k : ∀ b o, ¬ W b → t.heap.get? b = some o → h'.get? b = some o) : StepG ex ρ s ρ1 { t with heap := h', toks := tk } ∧ Sim C ρ1 H1 { t with heap := h', toks := tk } := by
  refine ⟨⟨st.ext, fun b o hb hx e => k b o (fun w => ?_) (st.keep b o hb hx e), fun b o e => ?_⟩, ⟨S.len, S.nodup, fun i a o e q => ?_, fun b o e => k b o (fun w => ?_) (S.stays b o e), S.fresh, S.sm, S.gens, S.os⟩⟩
  · rw [(hW b w).1] at e; cases e
  · obtain ⟨o1, e1⟩ := st.live b o e
    exact ⟨o1, k b o1 (fun w => by rw [(hW b w).1] at e; cases e) e1⟩
  · exact (S.obj i a o e q).keep C [] (by simp) fun x hx => k a x (fun w => (hW a w).2.1 (List.mem_of_getElem? e)) hx
  · rw [(hW b w).2.2] at e; cases e
theorem Sim.adopt {ρ : List Addr} {H : AHeap} {t : Shared} {D : Addr} {o : AObj} (S : Sim C ρ H t) (hD : D ∉ ρ) (hb : C.base.get? D = none) (hsm : D ≠ sysModules) (ho : OR C ρ t.heap D o) :
    Sim C (ρ ++ [D]) (H ++ [o]) t ∧ VR C (ρ ++ [D]) (.ref H.length) (.ref D) := by
  refine ⟨⟨by simp [S.len], ?_, fun i b x e q => ?_, S.stays, fun i b e hi => ?_, ?_, S.gens, S.os⟩, ⟨D, rfl, by rw [← S.len]; simp⟩⟩
  · rw [List.nodup_append]
    exact ⟨S.nodup, by simp, fun x hx y hy => by simp at hy; rw [hy]; exact fun q => hD (q ▸ hx)⟩
  · rcases Nat.lt_or_ge i ρ.length with hi | hi
    · rw [List.getElem?_append_left hi] at e
      rw [List.getElem?_append_left (S.len ▸ hi)] at q
      exact (S.obj i b x e q).keep C [D] rfl fun _ x => x
    · rw [List.getElem?_append_right hi] at e
      rw [List.getElem?_append_right (S.len ▸ hi)] at q
      rw [S.len] at e
      rcases Nat.eq_zero_or_pos (i - H.length) with z | z
      · rw [z] at e q
        simp at e q
        subst e q
        exact ho.keep C [D] rfl fun _ x => x
      · rw [List.getElem?_eq_none (by simp; lia)] at e; cases e
  · rcases Nat.lt_or_ge i ρ.length with hi' | hi'
    · rw [List.getElem?_append_left hi'] at e
      exact S.fresh i b e hi
    · rw [List.getElem?_append_right hi'] at e
      rcases Nat.eq_zero_or_pos (i - ρ.length) with z | z
      · rw [z] at e; simp at e; rw [← e]; exact hb
      · rw [List.getElem?_eq_none (by simp; lia)] at e; cases e
  · intro hq
    rcases List.mem_append.mp hq with hq | hq
    · exact S.sm hq
    · simp only [List.mem_singleton] at hq
      exact hsm hq.symm
theorem step_adopt {ρ ρ1 : List Addr} {s t : Shared} {D : Addr} (st : Step ρ s ρ1 t) (hD : s.heap.get? D = none) : Step ρ s (ρ1 ++ [D]) t := by
  obtain ⟨l, e, f⟩ := st.ext
  refine ⟨⟨l ++ [D], by rw [e, List.append_assoc], fun a ha => ?_⟩, st.keep, st.live⟩
  rcases List.mem_append.mp ha with ha | ha
  · exact f a ha
  · simp at ha; rw [ha]; exact hD
theorem base_none {ρ : List Addr} {H : AHeap} {s : Shared} (S : Sim C ρ H s) {b : Addr} (h : s.heap.get? b = none) : C.base.get? b = none := by
  cases e : C.base.get? b with
  | none => rfl
  | some o => rw [S.stays b o e] at h; cases h
theorem none_ρ {ρ : List Addr} {H : AHeap} {s : Shared} (S : Sim C ρ H s) {b : Addr} (h : s.heap.get? b = none) : b ∉ ρ := fun hm => by
  obtain ⟨i, hi, e⟩ := List.getElem_of_mem hm
  have hi' : i < H.length := by rw [← S.len]; exact hi
  obtain ⟨ob, q⟩ := (S.obj i b H[i] (by rw [List.getElem?_eq_getElem hi, e]) (List.getElem?_eq_getElem hi')).alive C
  rw [h] at q; cases q
theorem stay_out {ex : Addr → Prop} {ρ ρ1 : List Addr} {s t : Shared} (st : StepG ex ρ s ρ1 t) {b : Addr} {o : Obj} (h : s.heap.get? b = some o) (hb : b ∉ ρ) : b ∉ ρ1 := fun hm => by
  obtain ⟨l, e, f⟩ := st.ext
  rw [e] at hm
  rcases List.mem_append.mp hm with hm | hm
  · exact hb hm
  · rw [f b hm] at h; cases h
theorem closure_go (g : Str → Addr) : ∀ (names : List (Str × NameKind)) (acc : List (Str × Addr)), (∀ p ∈ names, p.2 = .free → env.cells.lookup p.1 = some (g p.1)) →
    (forIn names acc fun x r => match x with
      | (name, kind) => if (kind == NameKind.free) = true then do let c ← cellOf env name; pure (ForInStep.yield ((name, c) :: r)) else pure (ForInStep.yield r) : Sem (List (Str × Addr))) =
    pure (((names.filter fun p => p.2 == .free).map fun p => (p.1, g p.1)).reverse ++ acc)
  | [], acc, _ => rfl
  | (x, k) :: r, acc, h => by
    rw [List.forIn_cons]
    dsimp only
    by_cases hk : (k == NameKind.free) = true
    · have hc := h (x, k) (.head _) (by simpa using hk)
      have e1 : cellOf env x = pure (g x) := by unfold cellOf; rw [hc]
      rw [if_pos hk, e1]
      have ih := closure_go g r ((x, g x) :: acc) fun p hp => h p (.tail _ hp)
      simp only [List.filter_cons, hk, if_true, List.map_cons, List.reverse_cons, List.append_assoc, List.singleton_append]
      exact ih
    · rw [if_neg hk]
      have ih := closure_go g r acc fun p hp => h p (.tail _ hp)
      simp only [List.filter_cons, hk]
      exact ih
theorem closure_ok {sc : Scope} (hc : ∀ x, env.kindOf x = some .cell → ∃ c, env.cells.lookup x = some c) (hs : scOk sc env.kindOf = true) :
    ∃ cl, closureFor sc env = pure cl ∧ (∀ x c, cl.lookup x = some c → env.cells.lookup x = some c) ∧ (∀ x, (x, NameKind.free) ∈ sc.names → ∃ c, cl.lookup x = some c) := by
  have hs := (Bool.and_eq_true_iff.mp hs).2
  have hf : ∀ p ∈ sc.names, p.2 = .free → env.cells.lookup p.1 = some ((env.cells.lookup p.1).getD 0) := fun p hp hk => by
    have := List.all_eq_true.mp hs p hp
    rw [hk] at this
    dsimp only at this
    obtain ⟨c, hc'⟩ := hc p.1 (by simpa using this)
    rw [hc']; rfl
  refine ⟨((sc.names.filter fun p => p.2 == .free).map fun p => (p.1, (env.cells.lookup p.1).getD 0)).reverse ++ [], ?_, fun x c h => ?_, fun x h => ?_⟩
  · unfold closureFor
    have := closure_go (env := env) (fun x => (env.cells.lookup x).getD 0) sc.names [] hf
    simp only [this]
    rfl
  · have hm := mem_of_lookup h
    rw [List.append_nil, List.mem_reverse, List.mem_map] at hm
    obtain ⟨p, hp, e⟩ := hm
    obtain ⟨hp1, hp2⟩ := List.mem_filter.mp hp
    have := hf p hp1 (by simpa using hp2)
    cases e
    exact this
  · have hm : (x, (env.cells.lookup x).getD 0) ∈ ((sc.names.filter fun p => p.2 == .free).map fun p => (p.1, (env.cells.lookup p.1).getD 0)).reverse ++ [] := by
      rw [List.append_nil, List.mem_reverse, List.mem_map]
      exact ⟨(x, .free), List.mem_filter.mpr ⟨h, by rfl⟩, rfl⟩
    cases e : List.lookup x (((sc.names.filter fun (p : Str × NameKind) => p.2 == .free).map fun p => (p.1, (env.cells.lookup p.1).getD 0)).reverse ++ []) with
    | some c => exact ⟨c, rfl⟩
    | none =>
      exfalso
      rw [List.lookup_eq_none_iff] at e
      have := e _ hm
      simp at this
theorem inner_kind {sc : Scope} {cl : List (Str × Addr)} {L : Addr} (hf : env.scope.kind = .function) : (compEnvC sc cl L env).kindOf = inner sc env.kindOf := by
  funext x
  unfold Env.kindOf compEnvC relabel inner
  dsimp only
  rw [hf]
  congr 1
  refine List.map_congr_left fun p _ => ?_
  have : (NameKind.free == NameKind.free && (ScopeKind.function == ScopeKind.function)) = true := rfl
  simp only [beq_self_eq_true, Bool.and_true]
  rfl
theorem inner_cell {sc : Scope} (hs : scOk sc env.kindOf = true) {x : Str} (h : inner sc env.kindOf x = some .cell) : (x, NameKind.free) ∈ sc.names ∧ env.kindOf x = some .cell := by
  have hs := (Bool.and_eq_true_iff.mp hs).2
  unfold inner at h
  have hm := mem_of_lookup h
  obtain ⟨p, hp, e⟩ := List.mem_map.mp hm
  split at e
  · rename_i hc
    obtain ⟨h1, h2⟩ := Bool.and_eq_true_iff.mp hc
    cases e
    have h1 : p.2 = .free := by simpa using h1
    exact ⟨by rw [← h1]; exact hp, by simpa using h2⟩
  · have e1 : p = (x, NameKind.cell) := e
    subst e1
    have := List.all_eq_true.mp hs _ hp
    exact absurd this (by simp)
theorem inner_local {sc : Scope} (hs : scOk sc env.kindOf = true) {x : Str} (h : inner sc env.kindOf x = some .local) : (x, NameKind.local) ∈ sc.names := by
  unfold inner at h
  have hm := mem_of_lookup h
  obtain ⟨p, hp, e⟩ := List.mem_map.mp hm
  split at e
  · cases e
  · have e1 : p = (x, NameKind.local) := e
    exact e1 ▸ hp
theorem FR.comp {sc : Scope} {cl : List (Str × Addr)} {L : Addr} {σ σ0 : Sg} {ρ : List Addr} {h : Heap} {m : Str → Option Value} (F : FR C env σ ρ h) (hs : scOk sc env.kindOf = true) (h1 : ∀ x c, cl.lookup x = some c → env.cells.lookup x = some c)
    (h2 : ∀ x, (x, NameKind.free) ∈ sc.names → ∃ c, cl.lookup x = some c) (hl : h.Ns L m) (hL : L ∉ ρ) (hb : C.base.get? L = none) (hC : ∀ x, env.cells.lookup x ≠ some L) (l : ∀ x v, σ0 x = some v → σ x = some v ∧ (x, NameKind.local) ∉ sc.names) :
    FR C (compEnvC sc cl L env) σ0 ρ h := by
  have hk := inner_kind (sc := sc) (cl := cl) (L := L) F.kind
  refine ⟨?_, ?_, F.glob, F.bl, ⟨m, hl, fun x v e1 e2 => ?_⟩, fun x c hc => ?_, fun x hx => ?_, hL, fun x c hc => ⟨(F.nC x c (h1 x c hc)).1, fun q => ?_⟩, fun x y c hx hy => F.apart x y c (h1 _ _ hx) (h1 _ _ hy), hb, fun x c hc => F.bC x c (h1 _ _ hc)⟩
  · cases e : σ0 dot0 with
    | none => rfl
    | some v => have := (l _ _ e).1; rw [F.dot] at this; cases this
  · show sc.kind = .function
    simpa using (Bool.and_eq_true_iff.mp hs).1
  · rw [hk] at e2
    exact absurd (inner_local hs e2) (l _ _ e1).2
  · obtain ⟨ov, hi, hv⟩ := F.cells x c (h1 x c hc)
    refine ⟨ov, hi, fun v e1 e2 => hv v (l _ _ e1).1 ?_⟩
    rw [hk] at e2
    exact (inner_cell hs e2).2
  · rw [hk] at hx
    exact h2 x (inner_cell hs hx).1
  · exact hC x (by rw [h1 x c hc, q]; rfl)
end
end Mine
end
section
namespace Mine
open PySem PySem.Calls PyProof.Rows
section
variable {prog : Program} {w : World} {A : Around} {R : Result → Shared → Prop} {s : Shared}
theorem compLoop_any {elt target iter : Expr} {ifs : List Expr} {scope : Scope} {pos : Pos} {it acc : Value} {env : Env} (I : Nat → Shared → Prop)
    (turn : ∀ n s, I n s → wpAny (model prog w) A (pyNext it) (fun r s₁ => match r with
      | none => R (.ok .next) s₁
      | some v => wpAny (model prog w) A (letOwnedTupleGo target it v) (fun _ s₁' => wpAny (model prog w) A (assign target env v) (fun _ s₂ =>
          wpAny (model prog w) A (forIn ifs true fun c r => if r = true then do let ok ← isTrue c env (eval c env); pure (ForInStep.yield ok) else pure (ForInStep.yield r)) (fun ok s₃ =>
            if ok = true then wpAny (model prog w) A (eval elt env) (fun x s₄ =>
              wpAny (model prog w) A (call (.builtin "list.append") [acc, x]) (fun _ s₅ => ∃ m, m < n ∧ I m s₅) (notedBy (model prog w) A env fun e s' => R (.error e) s') s₄) (notedBy (model prog w) A env fun e s' => R (.error e) s') s₃
            else ∃ m, m < n ∧ I m s₃) (notedBy (model prog w) A env fun e s' => R (.error e) s') s₂) (notedBy (model prog w) A env fun e s' => R (.error e) s') s₁')
             (notedBy (model prog w) A env fun e s' => R (.error e) s') s₁) (notedBy (model prog w) A env fun e s' => R (.error e) s') s)
    (n : Nat) (h : I n s) :
    codeAny (model prog w) A (.compLoop (.ListComp elt [⟨target, iter, ifs, 0⟩] scope pos) 0 it acc env) R s := by
  refine codeAny_loop rfl I (fun n s hI => ?_) n h
  show wpAny _ A ((compTurn (.ListComp elt [⟨target, iter, ifs, 0⟩] scope pos) 0 it acc env).onRaise (fun x => do noteFrame x env; theTreesLotGoes x)) _ _ s
  refine wpAny_noted ?_
  rw [compTurn_list]
  refine wpAny_bind (wpAny_standAt (wpAny_bind (wpAny_mono (turn n s hI) (fun r s₁ h₁ => ?_) fun _ _ h' => h')))
  cases r with
  | none => exact wpAny_pure h₁
  | some v =>
    refine wpAny_bind (wpAny_mono h₁ (fun _ s₁' h₁' => ?_) fun _ _ h' => h')
    refine wpAny_bind (wpAny_mono h₁' (fun _ s₂ h₂ => wpAny_bind (wpAny_mono h₂ (fun ok s₃ h₃ => ?_) fun _ _ h' => h')) fun _ _ h' => h')
    cases ok with
    | false => exact wpAny_pure ⟨rfl, h₃⟩
    | true =>
      exact wpAny_bind (wpAny_bind (wpAny_mono h₃ (fun x s₄ h₄ => wpAny_bind (wpAny_mono h₄ (fun _ s₅ h₅ => wpAny_pure (wpAny_pure ⟨rfl, h₅⟩)) fun _ _ h' => h')) fun _ _ h' => h'))
end
noncomputable def Sg.less (σ : Sg) (xs : List Str) : Sg := fun y => if y ∈ xs then none else σ y
theorem sets_off : ∀ (ps : List (Str × V)) (σ τ : Sg) (y : Str), (y ∈ ps.map (·.1) ∨ σ y = τ y) → σ.sets ps y = τ.sets ps y
  | [], σ, τ, y, h => by
    rcases h with h | h
    · cases h
    · exact h
  | (x, v) :: r, σ, τ, y, h => by
    unfold Sg.sets
    refine sets_off r _ _ y ?_
    by_cases e : y = x
    · right; unfold Sg.set; rw [if_pos e, if_pos e]
    · rcases h with h | h
      · left
        rw [List.map_cons] at h
        cases h with
        | head => exact absurd rfl e
        | tail _ h => exact h
      · right; unfold Sg.set; rw [if_neg e, if_neg e]; exact h
theorem sets_out : ∀ (ps : List (Str × V)) (σ : Sg) (y : Str), y ∉ ps.map (·.1) → σ.sets ps y = σ y
  | [], _, _, _ => rfl
  | (x, v) :: r, σ, y, h => by
    unfold Sg.sets
    rw [sets_out r _ y fun q => h (.tail _ q)]
    unfold Sg.set
    exact if_neg fun (q : y = x) => h (by rw [q, List.map_cons]; exact .head _)
theorem map_fst_zip {xs : List Str} {vs : List V} (h : xs.length = vs.length) : (xs.zip vs).map (·.1) = xs := by
  rw [List.map_fst_zip]; lia
theorem sets_less {xs : List Str} {vs : List V} {σ : Sg} (h : xs.length = vs.length) : (σ.less xs).sets (xs.zip vs) = σ.sets (xs.zip vs) := by
  funext y
  refine sets_off _ _ _ y ?_
  rw [map_fst_zip h]
  by_cases hy : y ∈ xs
  · exact .inl hy
  · right; unfold Sg.less; rw [if_neg hy]
theorem bindA_sets {t : Tgt} {x : Item} {H : AHeap} {σ σ' : Sg} (h : bindA t x H σ = some σ') : ∃ vs : List V, t.names.length = vs.length ∧ σ' = σ.sets (t.names.zip vs) ∧ ∀ τ, bindA t x H τ = some (τ.sets (t.names.zip vs)) := by
  cases x with
  | one v =>
    cases t with
    | name y => cases h; exact ⟨[v], rfl, rfl, fun τ => rfl⟩
    | tup ys =>
      unfold bindA at h
      dsimp only at h
      split at h
      · split at h
        · rename_i vs e
          split at h
          · rename_i hl
            cases h
            exact ⟨vs, hl, rfl, fun τ => by unfold bindA; dsimp only; rw [e]; dsimp only; rw [if_pos hl]; rfl⟩
          · cases h
        · cases h
      · cases h
theorem fits {k : Kd} {target : Expr} {t : Tgt} {x : Item} {H : AHeap} {σ σ' : Sg} (ht : trT k target = some t) (h : bindA t x H σ = some σ') : tgtFits target x := by
  cases x
  unfold trT at ht
  split at ht
  · rename_i e; cases asName_is e; trivial
  · split at ht
    · rename_i e; cases asTup_is e; trivial
    · cases ht
noncomputable def TsOk (C : Cx) (K : Nat) (env : Env) (ifs : List Expr) (test : Sg → AHeap → (Bool → AHeap → Prop) → Prop) : Prop := ∀ {σ : Sg} {ρ : List Addr} {H : AHeap} {s : Shared} {A : Around} {q : Bool → AHeap → Prop} {E : Value → Shared → Prop},
  FR C env σ ρ s.heap → Sim C ρ H s → AOk K A → test σ H q →
    wpAny C.M A (forIn ifs true fun c r => if r = true then do let ok ← isTrue c env (eval c env); pure (ForInStep.yield ok) else pure (ForInStep.yield r)) (PB C ρ s q) E s
noncomputable def LtOk (C : Cx) (K : Nat) (env : Env) (e : Expr) (el : Sg → AHeap → VPost → Prop) : Prop := ∀ {σ : Sg} {ρ : List Addr} {H : AHeap} {s : Shared} {A : Around} {Q : VPost} {E : Value → Shared → Prop},
  FR C env σ ρ s.heap → Sim C ρ H s → AOk K A → el σ H Q → wpAny C.M A (eval e env) (PV C ρ s Q) E s
section
variable {C : Cx} {T : Tab} {K : Nat} {env : Env} {A : Around} {E : Value → Shared → Prop}
theorem comp_walk {elt iter target : Expr} {ifs : List Expr} {sc : Scope} {pos : Pos} {t' : Tgt} {items : List Item} {Kp : AHeap → Prop} {I : Addr} {wr : List Addr} {St : Nat → Heap → Prop} {ρ ρ0 : List Addr} {H H0 : AHeap} {s s2 : Shared} {σ : Sg}
    {test : Sg → AHeap → (Bool → AHeap → Prop) → Prop} {el : Sg → AHeap → VPost → Prop} {Q : List V → AHeap → Prop} {RR : Value → Addr → Result → Shared → Prop} {cl : List (Str × Addr)}
    (hA : AOk K A) (F : FR C env σ ρ s.heap) (S : Sim C ρ H s) (hs : scOk sc env.kindOf = true) (ho : onlyHere sc t' = true) (htr : trT (inner sc env.kindOf) target = some t')
    (h1 : ∀ x c, cl.lookup x = some c → env.cells.lookup x = some c) (h2 : ∀ x, (x, NameKind.free) ∈ sc.names → ∃ c, cl.lookup x = some c)
    (hI : Itr C A ρ0 items Kp I wr St) (hst : St 0 s2.heap) (st : Step ρ s ρ0 s2) (S2 : Sim C ρ0 H0 s2) (hw : ∀ b ∈ wr, s.heap.get? b = none ∧ b ∉ ρ0)
    (hgo : compGo Kp (fun x H' => bindA t' x H' σ) test el Q items [] H0) (hlen : items.length ≤ lid)
    (hts : ∀ cenv : Env, cenv.kindOf = inner sc env.kindOf → TsOk C K cenv ifs test) (hel : ∀ cenv : Env, cenv.kindOf = inner sc env.kindOf → LtOk C K cenv elt el)
    (hRR : ∀ D Cc ρ1 H1 acc t m, Step ρ s (ρ1 ++ [D]) t → Sim C (ρ1 ++ [D]) (H1 ++ [.list acc]) t → VR C (ρ1 ++ [D]) (.ref H1.length) (.ref D) → Q acc H1 → t.heap.Ns Cc m → Cc ∉ ρ1 ++ [D] → s.heap.get? Cc = none → RR (.ref D) Cc (.ok .next) t) :
    wpAny C.M A (newList []) (fun acc s₃ => wpAny C.M A (newFunctionEnv sc env.globals cl [] env.qual none .none (some env)) (fun cenv s₄ =>
      codeAny C.M A (.compStart (.ListComp elt [⟨target, iter, ifs, 0⟩] sc pos) 0 (.ref I) acc { cenv with scope := relabel sc env }) (RR acc cenv.locals) s₄) E s₃) E s2 := by
  have hkind : sc.kind = .function := by simpa using (Bool.and_eq_true_iff.mp hs).1
  have hcell : ∀ x ∈ sc.names, x.2 ≠ .cell := fun x hx e => by
    have := List.all_eq_true.mp (Bool.and_eq_true_iff.mp hs).2 x hx
    rw [e] at this; cases this
  refine wpAny_newObj_type (wpAny_newFunctionEnv hcell (by intro y hy; simp at hy) (fun h₁ hns₁ hsb₁ => ?_) hkind)
  dsimp only at hns₁ hsb₁ ⊢
  generalize hH2 : s2.heap.push { cls := .type "list", dict := none, data := .seq ([] : List Value).toArray } = H2 at hns₁ hsb₁ ⊢
  have hC : H2.objs.size = s2.heap.objs.size + 1 := by rw [← hH2, Heap.size_push]
  have hDC : s2.heap.objs.size ≠ H2.objs.size := by rw [hC]; exact Nat.ne_of_lt (Nat.lt_succ_self _)
  have below : ∀ b, b < s2.heap.objs.size → b ≠ H2.objs.size := fun b hb => by rw [hC]; exact Nat.ne_of_lt (Nat.lt_succ_of_lt hb)
  have old : ∀ b o, s2.heap.get? b = some o → h₁.get? b = some o := fun b o e => hsb₁.extBut b o (below b (Heap.lt_size e)) (Heap.get?_push_of_some _ (hH2 ▸ Heap.get?_push_of_some _ e))
  have hacc : h₁.PlainList s2.heap.objs.size #[] := ⟨_, hsb₁.extBut _ _ hDC (Heap.get?_push_of_some _ (hH2 ▸ Heap.get?_push_size _ rfl))⟩
  have hDn : s2.heap.get? s2.heap.objs.size = none := get_size _
  have hCn : s2.heap.get? H2.objs.size = none := by
    cases e : s2.heap.get? H2.objs.size with
    | none => rfl
    | some o => exact absurd rfl (below _ (Heap.lt_size e))
  have back : ∀ b, s2.heap.get? b = none → s.heap.get? b = none := fun b hb => by
    cases e : s.heap.get? b with
    | none => rfl
    | some o => obtain ⟨o', e'⟩ := st.live b o e; rw [hb] at e'; cases e'
  have hDsm : s2.heap.objs.size ≠ sysModules := S2.size_ne
  generalize hDD : s2.heap.objs.size = D at *
  generalize hCC : H2.objs.size = Cc at *
  have hDw : D ∉ wr := fun q => by obtain ⟨o, e⟩ := hI.alive _ _ hst D q; rw [hDn] at e; cases e
  have hCw : Cc ∉ wr := fun q => by obtain ⟨o, e⟩ := hI.alive _ _ hst Cc q; rw [hCn] at e; cases e
  obtain ⟨S3, st3⟩ := S2.grow (h' := h₁) (tk := s2.toks + ([] : List (Str × Value)).length) old
  have hst₁ : St 0 h₁ := hI.frame _ _ _ hst fun b _ o e => old b o e
  have ho1 : ∀ x ∈ t'.names, sc.names.lookup x = some .local := fun x hx => by simpa using List.all_eq_true.mp (Bool.and_eq_true_iff.mp ho).1 x hx
  have ho2 : ∀ x, (x, NameKind.local) ∈ sc.names → x = dot0 ∨ x ∈ t'.names := fun x hx => by
    have := List.all_eq_true.mp (Bool.and_eq_true_iff.mp ho).2 _ hx
    simpa using this
  have hW : ∀ ρ1 : List Addr, (∀ b ∈ wr, b ∉ ρ1) → D ∉ ρ1 → Cc ∉ ρ1 → ∀ b, (b ∈ wr ∨ b = D ∨ b = Cc) → s.heap.get? b = none ∧ b ∉ ρ1 ∧ C.base.get? b = none := fun ρ1 x1 x2 x3 b hb => by
    have hsn : s.heap.get? b = none := by
      rcases hb with hb | rfl | rfl
      · exact (hw b hb).1
      · exact back _ hDn
      · exact back _ hCn
    refine ⟨hsn, ?_, base_none S hsn⟩
    rcases hb with hb | rfl | rfl
    · exact x1 b hb
    · exact x2
    · exact x3
  have hCown : ∀ x, env.cells.lookup x ≠ some Cc := fun x e => by
    obtain ⟨o, e1⟩ := F.alive Cc (.inr ⟨x, e⟩)
    rw [back _ hCn] at e1; cases e1
  have hDown : ¬ own env D := fun e => by
    obtain ⟨o, e1⟩ := F.alive D e
    rw [back _ hDn] at e1; cases e1
  have hwown : ∀ b ∈ wr, ¬ own env b := fun b hb e => by
    obtain ⟨o, e1⟩ := F.alive b e
    rw [(hw b hb).1] at e1; cases e1
  have ownc : ∀ b, own (compEnvC sc cl Cc env) b → b = Cc ∨ own env b := fun b hb => by
    rcases hb with rfl | ⟨x, e⟩
    · exact .inl rfl
    · exact .inr (.inr ⟨x, h1 _ _ e⟩)
  have ltl : ∀ x v, σ.less t'.names x = some v → σ x = some v ∧ (x, NameKind.local) ∉ sc.names := fun x v e => by
    unfold Sg.less at e
    by_cases hx : x ∈ t'.names
    · rw [if_pos hx] at e; cases e
    · rw [if_neg hx] at e
      refine ⟨e, fun q => ?_⟩
      rcases ho2 x q with rfl | q
      · rw [F.dot] at e; cases e
      · exact hx q
  have ck := inner_kind (sc := sc) (cl := cl) (L := Cc) F.kind
  let Inv : Nat → Shared → Prop := fun n t => ∃ i acc us ρ1 H1, i + n = items.length ∧ acc.length ≤ i ∧ St i t.heap ∧ Step ρ s ρ1 t ∧ (∃ l, ρ1 = ρ0 ++ l) ∧ Sim C ρ1 H1 t ∧ (∀ b ∈ wr, b ∉ ρ1) ∧ D ∉ ρ1 ∧ Cc ∉ ρ1 ∧ t.heap.PlainList D us ∧ All2 (VR C ρ1) acc us.toList ∧
    FR C (compEnvC sc cl Cc env) (σ.less t'.names) ρ1 t.heap ∧ compGo Kp (fun x H' => bindA t' x H' σ) test el Q (items.drop i) acc H1
  have loop : ∀ s₃ : Shared, s₃ = { s2 with heap := h₁, toks := s2.toks + ([] : List (Str × Value)).length } →
      codeAny C.M A (.compLoop (.ListComp elt [⟨target, iter, ifs, 0⟩] sc pos) 0 (.ref I) (.ref D) (compEnvC sc cl Cc env)) (RR (.ref D) Cc) s₃ := by
    rintro s₃ rfl
    refine compLoop_any Inv (fun n t hInv => ?_) items.length ?_
    · obtain ⟨i, acc, us, ρ1, H1, hin, hai, hSt, st1, hl1, S1, hw1, hD1, hC1, hpl, hus, FC, hg⟩ := hInv
      cases n with
      | zero =>
        have hi : i = items.length := by lia
        subst hi
        rw [List.drop_length] at hg
        obtain ⟨hK, hq⟩ := hg
        refine wpAny_mono (hI.done ρ1 H1 t _ hSt S1 hl1 hK hw1) (fun r s1 hr => ?_) fun _ _ x => x
        obtain ⟨rfl, h', tk, rfl, hk⟩ := hr
        dsimp only
        obtain ⟨st4, S4⟩ := adrift (h' := h') (tk := tk) st1 S1 (hW ρ1 hw1 hD1 hC1) (fun b o hb e => hk b o (fun q => hb (.inl q)) e)
        have hpl' : Heap.PlainList h' D us := hpl.at fun o e => hk _ o hDw e
        obtain ⟨nn, hob⟩ := hpl'
        obtain ⟨S5, v5⟩ := S4.adopt (D := D) (o := .list acc) hD1 (base_none S (back _ hDn)) hDsm ⟨us, nn, hob, hus, by unfold lid at *; lia⟩
        obtain ⟨m, hm, _⟩ := FC.ns
        refine hRR D Cc ρ1 H1 acc _ m (step_adopt st4 (back _ hDn)) S5 v5 hq (hm.at' fun o e => hk _ o hCw e) (fun q => ?_) (back _ hCn)
        rcases List.mem_append.mp q with q | q
        · exact hC1 q
        · simp at q; exact hDC q.symm
      | succ n =>
        have hi : i < items.length := by lia
        rw [List.drop_eq_getElem_cons hi] at hg
        obtain ⟨hK, hg⟩ := hg
        dsimp only at hg
        split at hg
        · rename_i σ' hb
          obtain ⟨vs, hvl, rfl, hball⟩ := bindA_sets hb
          refine wpAny_mono (hI.next i items[i] target ρ1 H1 t _ (List.getElem?_eq_getElem hi) (fits htr hb) hSt S1 hl1 hK hw1) (fun r s1 hr => ?_) fun _ _ x => x
          obtain ⟨u, rfl, hu⟩ := hr
          refine wpAny_mono hu (fun _ s1' hs1 => ?_) fun _ _ x => x
          obtain ⟨h', tk, rfl, hIR, hSt', hk⟩ := hs1
          obtain ⟨st4, S4⟩ := adrift (h' := h') (tk := tk) st1 S1 (hW ρ1 hw1 hD1 hC1) (fun b o hb e => hk b o (fun q => hb (.inl q)) e)
          have FC4 : FR C (compEnvC sc cl Cc env) (σ.less t'.names) ρ1 h' := FC.at fun b hb o e => hk b o (fun q => by
            rcases ownc b hb with rfl | hb
            · exact hCw q
            · exact hwown b q hb) e
          have hb2 : bindA t' items[i] H1 (σ.less t'.names) = some (σ.sets (t'.names.zip vs)) := by rw [hball, sets_less hvl]
          refine assign_ok hA.h (by rw [ck]; exact htr) hb2 hIR FC4 S4 fun s5 FC5 S5 st5 => ?_
          -- what the target's store left alone
          have hk5 : ∀ b o, b ∉ ρ1 → b ≠ Cc → h'.get? b = some o → s5.heap.get? b = some o := fun b o hb hbc e => st5.keep b o hb (fun q => by
            rcases q with q | ⟨x, hx, hxc, _⟩
            · exact hbc q
            · have h3 := ho1 x hx
              rw [ck] at hxc
              have := lookup_relabel_local (env := env) h3
              have h4 := inner_kind (sc := sc) (cl := cl) (L := Cc) F.kind
              rw [← h4] at hxc
              have h5 : (compEnvC sc cl Cc env).kindOf x = some .local := this
              rw [h5] at hxc; cases hxc) e
          have st5' : Step ρ s ρ1 s5 := ⟨st4.ext, fun b o hb hx e => hk5 b o (stay_out st4 e hb) (fun q => by rw [q, back _ hCn] at e; cases e) (st4.keep b o hb hx e), fun b o e => by obtain ⟨o1, e1⟩ := st4.live b o e; exact st5.live b o1 e1⟩
          have hSt5 : St (i + 1) s5.heap := hI.frame _ _ _ hSt' fun b hb o e => hk5 b o (hw1 b hb) (fun q => hCw (q ▸ hb)) e
          have hpl5 : Heap.PlainList s5.heap D us := hpl.at fun o e => hk5 _ o hD1 hDC (hk _ o hDw e)
          refine wpAny_mono (hts _ ck FC5 S5 hA hg) (fun ok s6 h6 => ?_) fun _ _ x => x
          obtain ⟨ρ2, H2', st6, S6, hg⟩ := h6
          have kept : ∀ b o, b ∉ ρ1 → s5.heap.get? b = some o → s6.heap.get? b = some o := fun b o hb e => st6.keep b o hb id e
          have out : ∀ b o, s5.heap.get? b = some o → b ∉ ρ1 → b ∉ ρ2 := fun b o e hb => stay_out st6 e hb
          have FC6 := FC5.step st6
          have hSt6 : St (i + 1) s6.heap := hI.frame _ _ _ hSt5 fun b hb o e => kept b o (hw1 b hb) e
          have hw6 : ∀ b ∈ wr, b ∉ ρ2 := fun b hb => by obtain ⟨o, e⟩ := hI.alive _ _ hSt5 b hb; exact out b o e (hw1 b hb)
          have hD6 : D ∉ ρ2 := by obtain ⟨nn, e⟩ := hpl5; exact out D _ e hD1
          have hC6 : Cc ∉ ρ2 := by
            obtain ⟨m, ⟨o, es, ep, e, _⟩, _⟩ := FC5.ns
            exact out Cc o e hC1
          have hpl6 : Heap.PlainList s6.heap D us := hpl5.at fun o e => kept _ o hD1 e
          have hl6 : ∃ l, ρ2 = ρ0 ++ l := by
            obtain ⟨l, e⟩ := hl1
            obtain ⟨l', e', _⟩ := st6.ext
            exact ⟨l ++ l', by rw [e', e, List.append_assoc]⟩
          have lessl : ∀ x v, σ.less t'.names x = some v → σ.sets (t'.names.zip vs) x = some v := fun x v e => by
            unfold Sg.less at e
            by_cases hx : x ∈ t'.names
            · rw [if_pos hx] at e; cases e
            · rw [if_neg hx] at e
              rw [sets_out _ _ _ (by rw [map_fst_zip hvl]; exact hx)]; exact e
          cases ok with
          | false =>
            rw [if_neg (by simp)]
            refine ⟨n, Nat.lt_succ_self n, i + 1, acc, us, ρ2, H2', by lia, by lia, hSt6, st5'.trans st6, hl6, S6, hw6, hD6, hC6, hpl6, st6.vrs hus, FC6.less lessl, hg⟩
          | true =>
            rw [if_pos rfl]
            refine wpAny_mono (hel _ ck FC6 S6 hA hg) (fun x s7 h7 => ?_) fun _ _ x => x
            obtain ⟨ρ3, H3, v, st7, S7, hv, hg⟩ := h7
            have kept7 : ∀ b o, b ∉ ρ2 → s6.heap.get? b = some o → s7.heap.get? b = some o := fun b o hb e => st7.keep b o hb id e
            have hpl7 : Heap.PlainList s7.heap D us := hpl6.at fun o e => kept7 _ o hD6 e
            have hus7 := st7.vrs (st6.vrs hus)
            refine wpAny_list_append_plain hpl7 (fun h8 hpl8 hsb8 => ?_) (by
              have h0 : acc.length = us.size := by rw [hus.length]; simp
              unfold lid at *; unfold sizeLine; lia)
            have FC7 := FC6.step st7
            have hD7 : D ∉ ρ3 := by obtain ⟨nn, e⟩ := hpl6; exact stay_out st7 e hD6
            have hC7 : Cc ∉ ρ3 := by
              obtain ⟨m, ⟨o, es, ep, e, _⟩, _⟩ := FC6.ns
              exact stay_out st7 e hC6
            have hw7 : ∀ b ∈ wr, b ∉ ρ3 := fun b hb => by
              obtain ⟨o, e⟩ := hI.alive _ _ hSt6 b hb
              exact stay_out st7 e (hw6 b hb)
            obtain ⟨st8, S8⟩ := adrift (h' := h8) (tk := s7.toks) ((st5'.trans st6).trans st7) S7 (hW ρ3 hw7 hD7 hC7) (fun b o hb e => hsb8.extBut b o (fun q => hb (.inr (.inl q))) e)
            refine ⟨n, Nat.lt_succ_self n, i + 1, acc ++ [v], us.push x, ρ3, H3, by lia, by simp; lia, ?_, st8, ?_, S8, hw7, hD7, hC7, hpl8, ?_, ?_, hg⟩
            · exact hI.frame _ _ _ hSt6 fun b hb o e => hsb8.extBut b o (fun q => hDw (q ▸ hb)) (kept7 b o (hw6 b hb) e)
            · obtain ⟨l, e⟩ := hl6
              obtain ⟨l', e', _⟩ := st7.ext
              exact ⟨l ++ l', by rw [e', e, List.append_assoc]⟩
            · rw [Array.toList_push]
              exact hus7.append (.cons hv .nil)
            · refine (FC7.less lessl).at fun b hb o e => hsb8.extBut b o (fun q => ?_) e
              rcases ownc b hb with rfl | hb
              · exact hDC q.symm
              · exact hDown (q ▸ hb)
        · exact hg.elim
    · refine ⟨0, [], #[], ρ0, H0, by simp, by simp, hst₁, st.trans st3, ⟨[], by simp⟩, S3, fun b hb => (hw b hb).2, none_ρ S2 hDn, none_ρ S2 hCn, hacc, .nil, ?_, by simpa using hgo⟩
      have F3 : FR C env σ ρ0 h₁ := F.step (st.trans st3)
      exact F3.comp hs h1 h2 hns₁ (none_ρ S2 hCn) (base_none S2 hCn) hCown ltl
  refine codeAny_compStart_list (loop _ rfl) (hI.self 0 _ _ _ hst₁ (loop _ rfl))
end
end Mine
end
section
namespace Mine
open PySem PySem.Calls PyProof.Rows
section
variable {C : Cx} {T : Tab} {K : Nat} {env : Env} {A : Around} {E : Value → Shared → Prop}
theorem scOk_names {sc : Scope} (hs : scOk sc env.kindOf = true) : sc.kind = .function ∧ ∀ x ∈ sc.names, x.2 = .local → sc.names.lookup x.1 = some .local := by
  refine ⟨by simpa using (Bool.and_eq_true_iff.mp hs).1, fun x hx e => ?_⟩
  have := List.all_eq_true.mp (Bool.and_eq_true_iff.mp hs).2 x hx
  rw [e] at this
  simpa using this
theorem comp_any {elt iter target : Expr} {ifs : List Expr} {sc : Scope} {pos p' : Pos} {t' : Tgt} {pit : PE} {test : Sg → AHeap → (Bool → AHeap → Prop) → Prop} {el : Sg → AHeap → VPost → Prop} {σ : Sg} {ρ : List Addr} {H : AHeap} {s : Shared} {Q : VPost} {X : XPost}
    {use : Option (Value → Sem Unit)} {R : Value → Shared → Prop}
    (hA : AOk K A) (F : FR C env σ ρ s.heap) (S : Sim C ρ H s) (hE : Takes C ρ s X E) (hs : scOk sc env.kindOf = true) (ho : onlyHere sc t' = true) (htr : trT (inner sc env.kindOf) target = some t') (hf : ∀ x, foldedSetIterable iter env x = pure x)
    (hit : ItOk C T K env iter pit)
    (hts : ∀ cenv : Env, cenv.kindOf = inner sc env.kindOf → TsOk C K cenv ifs test) (hel : ∀ cenv : Env, cenv.kindOf = inner sc env.kindOf → LtOk C K cenv elt el)
    (h : (sem T pit).it σ H (fun items Kp H1 => items.length ≤ lid ∧ compGo Kp (fun x H' => bindA t' x H' σ) test el (fun acc H' => Q (.ref H'.length) (H' ++ [.list acc])) items [] H1) X)
    (hR : ∀ D Cc t m, PV C ρ s Q (.ref D) t → t.heap.Ns Cc m → s.heap.get? Cc = none → (∀ ρ1 H1 v, Step ρ s ρ1 t → Sim C ρ1 H1 t → VR C ρ1 v (.ref D) → Q v H1 → Cc ∉ ρ1 → compPost C.M A E use R (.ref D) Cc (.ok .next) t)) :
    wpAny C.M A (comprehension (.ListComp elt [⟨target, iter, ifs, 0⟩] sc pos) sc env p' (newList []) false (eval iter env) use) R E s := by
  obtain ⟨cl, hcl, h1, h2⟩ := closure_ok (sc := sc) F.has hs
  refine wpAny_comprehension_free (use := use) rfl hf hcl (scOk_names hs).1 (scOk_names hs).2 ?_
  refine wpAny_mono (hit F S hA h hE) (fun xv s₁ h₁ => wpAny_mono h₁ (fun it s₂ h₂ => ?_) fun _ _ e => e) fun _ _ e => e
  obtain ⟨ρ0, H0, items, Kp, I, wr, St, rfl, hI, hst, st, S2, hw, hlen, hgo⟩ := h₂
  refine comp_walk (RR := fun acc Cc => compPost C.M A E use R acc Cc) hA F S hs ho htr h1 h2 hI hst st S2 hw hgo hlen hts hel ?_
  intro D Cc ρ1 H1 acc t m st1 S1 v1 hq hm hC hCn
  exact hR D Cc t m ⟨_, _, _, st1, S1, v1, hq⟩ hm hCn (ρ1 ++ [D]) _ _ st1 S1 v1 hq hC
theorem letgo_same {ρ ρ1 : List Addr} {H H1 : AHeap} {s t : Shared} {Cc : Addr} {h' : Heap} (S : Sim C ρ H s) (st : Step ρ s ρ1 t) (S1 : Sim C ρ1 H1 t) (hn : s.heap.get? Cc = none) (hC : Cc ∉ ρ1) (hs : Heap.SameBut Cc t.heap h') :
    Step ρ s ρ1 { t with heap := h' } ∧ Sim C ρ1 H1 { t with heap := h' } :=
  adrift (W := fun b => b = Cc) (tk := t.toks) st S1 (fun b hb => by subst hb; exact ⟨hn, hC, base_none S hn⟩) fun b o hb e => hs.extBut b o hb e
theorem ok_comp {elt iter target : Expr} {ifs : List Expr} {sc : Scope} {pos : Pos} {t' : Tgt} {pe pit : PE} {test : XPost → Sg → AHeap → (Bool → AHeap → Prop) → Prop} {el : XPost → Sg → AHeap → VPost → Prop}
    (hs : scOk sc env.kindOf = true) (ho : onlyHere sc t' = true) (htr : trT (inner sc env.kindOf) target = some t') (hf : ∀ x, foldedSetIterable iter env x = pure x) (hit : ItOk C T K env iter pit)
    (hts : ∀ X, ∀ cenv : Env, cenv.kindOf = inner sc env.kindOf → TsOk C K cenv ifs (test X)) (hel : ∀ X, ∀ cenv : Env, cenv.kindOf = inner sc env.kindOf → LtOk C K cenv elt (el X))
    (hsem : ∀ σ H Q X, (sem T pe).ev σ H Q X → (sem T pit).it σ H (fun items Kp H1 => items.length ≤ lid ∧ compGo Kp (fun x H' => bindA t' x H' σ) (test X) (el X) (fun acc H' => Q (.ref H'.length) (H' ++ [.list acc])) items [] H1) X) :
    EvOk C T K env (.ListComp elt [⟨target, iter, ifs, 0⟩] sc pos) pe := by
  intro σ ρ H s A Q X E F S hA h hE
  rw [eval_ListComp]
  refine comp_any (use := none) hA F S hE hs ho htr hf hit (hts X) (hel X) (hsem σ H Q X h) ?_
  intro D Cc t m _ hm hn ρ1 H1 v st1 S1 v1 hq hC
  refine ⟨m, hm, fun h' hsb => ?_⟩
  obtain ⟨st2, S2⟩ := letgo_same S st1 S1 hn hC hsb
  exact ⟨ρ1, H1, v, st2, S2, v1, hq⟩
theorem ok_dict0 {pos : Pos} : EvOk C T K env (.Dict [] [] pos) .dict0 := by
  intro σ ρ H s A Q X E F S hA h hE
  refine wpAny_Dict_empty ?_
  obtain ⟨S1, st1, v1⟩ := S.alloc (h' := s.heap.push { cls := .type "dict", data := .dict #[] }) (tk := s.toks) (a := s.heap.objs.size) (o := .dict [] 0) get_push (get_size _) S.size_ne ⟨#[], Heap.get?_push_size _ rfl, .nil, by simp, by simp⟩
  exact ⟨_, _, _, st1, S1, v1, h⟩
theorem tr_star {n : Nat} {k : Kd} {e : Expr} {pe : PE} (h : trE n k e = some pe) : isStar e = false := by
  cases e <;> first | rfl | (cases n <;> cases h)
theorem bnd2_some {a b : Option PE} {f : PE → PE → PE} {r : PE} (h : bnd2 a b f = some r) : ∃ x y, a = some x ∧ b = some y ∧ r = f x y := by
  obtain ⟨x, hx, h⟩ := Option.bind_eq_some_iff.mp h
  obtain ⟨y, hy, rfl⟩ := Option.map_eq_some_iff.mp h
  exact ⟨x, y, hx, hy, rfl⟩
theorem bnd3_some {a b c : Option PE} {f : PE → PE → PE → PE} {r : PE} (h : bnd3 a b c f = some r) : ∃ x y z, a = some x ∧ b = some y ∧ c = some z ∧ r = f x y z := by
  obtain ⟨x, hx, h⟩ := Option.bind_eq_some_iff.mp h
  obtain ⟨y, hy, h⟩ := Option.bind_eq_some_iff.mp h
  obtain ⟨z, hz, rfl⟩ := Option.map_eq_some_iff.mp h
  exact ⟨x, y, z, hx, hy, hz, rfl⟩
theorem map_some' {a : Option PE} {f : PE → PE} {r : PE} (h : a.map f = some r) : ∃ x, a = some x ∧ r = f x := by
  obtain ⟨x, hx, rfl⟩ := Option.map_eq_some_iff.mp h; exact ⟨x, hx, rfl⟩
theorem el_ok {f : Expr → Option PE} {pos : Pos} : ∀ {es : List Expr} {pe : PE}, (∀ e pe, f e = some pe → EvOk C T K env e pe) → (∀ e pe, f e = some pe → isStar e = false) → trL f es = some pe → ElOk C T K env pos es pe
  | [], _, _, _, h => by cases h; exact ok_nil
  | e :: r, pe, h1, h2, h => by
    obtain ⟨a, ha, h⟩ := Option.bind_eq_some_iff.mp h
    obtain ⟨b, hb, rfl⟩ := Option.map_eq_some_iff.mp h
    exact ok_cons (h1 e a ha) (el_ok h1 h2 hb) (h2 e a ha)
theorem els_ok {f : Expr → Option PE} {P : Expr → PE → Prop} : ∀ {es : List Expr} {ps : List PE}, (∀ e pe, f e = some pe → P e pe) → trLs f es = some ps → All2 P es ps
  | [], _, _, h => by cases h; exact .nil
  | e :: r, ps, h1, h => by
    obtain ⟨a, ha, h⟩ := Option.bind_eq_some_iff.mp h
    obtain ⟨b, hb, rfl⟩ := Option.map_eq_some_iff.mp h
    exact .cons (h1 e a ha) (els_ok h1 hb)
theorem folded_no {e : Expr} (h : isSet e = false) : ∀ x, foldedSetIterable e env x = pure x := by
  intro x
  cases e <;> first | rfl | cases h
theorem isGE_is {k : Kd} {e : Expr} {n : String} (h : isGE k e n = true) : ∃ g p, e = .Name g p ∧ isG k g n = true := by
  unfold isGE at h
  split at h
  · rename_i g p e1; exact ⟨g, p, asName_is e1, h⟩
  · cases h
theorem trI_ok (hT : TabOk C T K) {f : Expr → Option PE} (h1 : ∀ e pe, f e = some pe → EvOk C T K env e pe) (h2 : ∀ e pe, f e = some pe → isStar e = false) {e : Expr} {pe : PE} (h : trI env.kindOf f e = some pe) :
    ItOk C T K env e pe ∧ isSet e = false := by
  unfold trI at h
  split at h
  · cases h
  · rename_i hs
    refine ⟨?_, by simpa using hs⟩
    have val : ∀ {p : PE}, (f e).map .itVal = some p → ItOk C T K env e p := fun h => by
      obtain ⟨x, hx, rfl⟩ := map_some' h
      intro σ ρ H s A q X E
      exact it_val (h1 _ _ hx)
    split at h
    · rename_i g a pos e1
      cases asCall1_is e1
      split at h
      · rename_i hg
        obtain ⟨g', p', rfl, hg⟩ := isGE_is hg
        obtain ⟨x, hx, rfl⟩ := map_some' h
        intro σ ρ H s A q X E
        exact it_range1 hT hg (h2 _ _ hx) (h1 _ _ hx)
      · exact fun {_ _ _ _ _ _ _ _} => val h
    · split at h
      · rename_i g a b pos e1
        cases asCall2_is e1
        split at h
        · rename_i hg
          obtain ⟨g', p', rfl, hg⟩ := isGE_is hg
          obtain ⟨x, y, hx, hy, rfl⟩ := bnd2_some h
          intro σ ρ H s A q X E
          exact it_range2 hT hg (h2 _ _ hx) (h2 _ _ hy) (h1 _ _ hx) (h1 _ _ hy)
        · exact fun {_ _ _ _ _ _ _ _} => val h
      · exact fun {_ _ _ _ _ _ _ _} => val h
theorem sub_plain {i : Expr} (h : asSlice i = none) (u w : Value) : subscripted i false u w = operate [u, w] (getItem u w) := by
  cases i <;> first | rfl | cases h
theorem pt_ok {f : Expr → Option PE} (h1 : ∀ e pe, f e = some pe → EvOk C T K env e pe) {o : Option Expr} {pe : PE} (h : trO f o = some pe) : PtOk C T K env o pe := by
  cases o with
  | none => cases h; exact pt_none
  | some e => exact pt_some (h1 _ _ h)
end
end Mine
end
section
namespace Mine
open PySem PySem.Calls PyProof.Rows
section
variable {C : Cx} {T : Tab} {K : Nat}
theorem both {env : Env} {e : Expr} {pe : PE} (he : EvOk C T K env e pe) (hi : ∀ whole, isTrue e env whole = (do let v ← whole; standAt e.pos; holding [v] (truthy v))) (ht : (sem T pe).tt = (Me.ofEv (sem T pe).ev).tt) :
    EvOk C T K env e pe ∧ TtOk C T K env e pe := ⟨he, tt_of_ev hi ht he⟩
theorem ok_const {env : Env} {c : Const} {k : Nat} {pos : Pos} {pe : PE} (h : trConst c = some pe) : EvOk C T K env (.Constant c k pos) pe ∧ TtOk C T K env (.Constant c k pos) pe := by
  cases c with
  | none => cases h; exact both (fun F S hA h hE => Constant_none (here0 (v := .none) S rfl h)) (fun _ => rfl) rfl
  | bool b => cases h; exact both (fun F S hA h hE => Constant_bool (here0 (v := .bool b) S rfl h)) (fun _ => rfl) rfl
  | int i => cases h; exact both (fun F S hA h hE => wpAny_Constant_int (here S (vi _ _) h)) (fun _ => rfl) rfl
  | str x =>
    unfold trConst at h
    dsimp only at h
    split at h
    · rename_i hx
      cases h
      refine both (fun {σ ρ H s A Q X E} F S hA h hE => wpAny_Constant_str (here S (v := .str x.cps.toList) ⟨hx, s.toks, ?_⟩ h)) (fun _ => rfl) rfl
      cases x; simp
    · cases h
  | _ => cases h
theorem ok_nm (hT : TabOk C T K) {env : Env} {x : Str} {pos : Pos} {pe : PE} (h : trName env.kindOf x = some pe) : EvOk C T K env (.Name x pos) pe ∧ TtOk C T K env (.Name x pos) pe := by
  unfold trName at h
  split at h
  · cases h
  · rename_i hd
    have hd : (x == Str.ofString "__debug__") = false := by simpa using hd
    split at h
    · rename_i hx; cases h; exact both (ok_name (.inl hx) hd) (fun _ => rfl) rfl
    · rename_i hx; cases h; exact both (ok_name (.inr hx) hd) (fun _ => rfl) rfl
    · rename_i hx; cases h; exact both (ok_glob hT hx hd) (fun _ => rfl) rfl
    · cases h
theorem ok_callE (hT : TabOk C T K) {env : Env} {f : Expr → Option PE} (h1 : ∀ e pe, f e = some pe → EvOk C T K env e pe) (h2 : ∀ e pe, f e = some pe → isStar e = false) {fn : Expr} {args : List Expr} {kws : List Keyword} {pos : Pos} {pe : PE}
    (h : trCall f fn args kws pos = some pe) : EvOk C T K env (.Call fn args kws pos) pe ∧ TtOk C T K env (.Call fn args kws pos) pe := by
  unfold trCall at h
  split at h
  · split at h
    · rename_i hn
      split at h
      · rename_i o m apos e1
        have := asAttr_is e1
        subst this
        split at h
        · rename_i hc
          obtain ⟨hc1, hc2⟩ := Bool.and_eq_true_iff.mp hc
          obtain ⟨x, y, hx, hy, rfl⟩ := bnd2_some h
          exact both (ok_meth hT (h1 _ _ hx) (el_ok h1 h2 hy) (starEach_one h2 hy) (by simpa using hc1) (by simpa using hn) (by simpa using hc2)) (fun _ => rfl) rfl
        · cases h
      · split at h
        · rename_i hc
          obtain ⟨⟨g, p⟩, e1⟩ := Option.isSome_iff_exists.mp hc
          have := asName_is e1
          subst this
          obtain ⟨x, y, hx, hy, rfl⟩ := bnd2_some h
          exact both (ok_call hT (h1 _ _ hx) (el_ok h1 h2 hy) (starEach_one h2 hy) rfl) (fun _ => rfl) rfl
        · cases h
    · cases h
  · cases h
theorem ok_subE (hT : TabOk C T K) {env : Env} {f : Expr → Option PE} (h1 : ∀ e pe, f e = some pe → EvOk C T K env e pe) {o i : Expr} {pos : Pos} {pe : PE} (h : trSub f o i = some pe) : EvOk C T K env (.Subscript o i pos) pe ∧ TtOk C T K env (.Subscript o i pos) pe := by
  unfold trSub at h
  split at h
  · rename_i lo hi st p e1
    cases asSlice_is e1
    split at h
    · rename_i hn
      cases Option.isNone_iff_eq_none.mp hn
      obtain ⟨x, y, z, hx, hy, hz, rfl⟩ := bnd3_some h
      exact both (ok_slice (h1 _ _ hx) (pt_ok h1 hy) (pt_ok h1 hz)) (fun _ => rfl) rfl
    · cases h
  · rename_i e1
    obtain ⟨x, y, hx, hy, rfl⟩ := bnd2_some h
    exact both (ok_sub (h1 _ _ hx) (h1 _ _ hy) (sub_plain e1)) (fun _ => rfl) rfl
structure CompOk (C : Cx) (T : Tab) (K : Nat) (env : Env) (elt : Expr) (gens : List Comprehension) (sc : Scope) (pe : PE) (target iter : Expr) (ifs : List Expr) (t' : Tgt) (pit : PE) (test : XPost → Sg → AHeap → (Bool → AHeap → Prop) → Prop) (el : XPost → Sg → AHeap → VPost → Prop) : Prop where
  hgens : gens = [⟨target, iter, ifs, 0⟩]
  hsc : scOk sc env.kindOf = true
  only : onlyHere sc t' = true
  tgt : trT (inner sc env.kindOf) target = some t'
  fold : ∀ x, foldedSetIterable iter env x = pure x
  hit : ItOk C T K env iter pit
  ts : ∀ X, ∀ cenv : Env, cenv.kindOf = inner sc env.kindOf → TsOk C K cenv ifs (test X)
  hel : ∀ X, ∀ cenv : Env, cenv.kindOf = inner sc env.kindOf → LtOk C K cenv elt (el X)
  hsem : ∀ σ H Q X, (sem T pe).ev σ H Q X → (sem T pit).it σ H (fun items Kp H1 => items.length ≤ lid ∧ compGo Kp (fun x H' => bindA t' x H' σ) (test X) (el X) (fun acc H' => Q (.ref H'.length) (H' ++ [.list acc])) items [] H1) X
  htt : (sem T pe).tt = (Me.ofEv (sem T pe).ev).tt
theorem tr_comp (hT : TabOk C T K) {env : Env} {f f' : Expr → Option PE} {elt : Expr} {gens : List Comprehension} {sc : Scope} {pe : PE} (h1 : ∀ e pe, f e = some pe → EvOk C T K env e pe) (h2 : ∀ e pe, f e = some pe → isStar e = false)
    (h3 : ∀ cenv : Env, cenv.kindOf = inner sc env.kindOf → ∀ e pe, f' e = some pe → EvOk C T K cenv e pe ∧ TtOk C T K cenv e pe) (h : trComp env.kindOf f f' elt gens sc = some pe) : ∃ target iter ifs t' pit test el, CompOk C T K env elt gens sc pe target iter ifs t' pit test el := by
  cases gens with
  | nil => cases h
  | cons g r =>
    obtain ⟨tg, iter, ifs, asy⟩ := g
    unfold trComp at h
    dsimp only at h
    split at h
    · rename_i hc
      obtain ⟨hc, hr⟩ := Bool.and_eq_true_iff.mp hc
      obtain ⟨hs, ha⟩ := Bool.and_eq_true_iff.mp hc
      cases List.isEmpty_iff.mp hr
      cases beq_iff_eq.mp ha
      obtain ⟨t', ht, h⟩ := Option.bind_eq_some_iff.mp h
      obtain ⟨it', hit, h⟩ := Option.bind_eq_some_iff.mp h
      obtain ⟨e', he, h⟩ := Option.bind_eq_some_iff.mp h
      split at h
      · rename_i ho
        obtain ⟨hit1, hit2⟩ := trI_ok hT h1 h2 hit
        have hel : ∀ X, ∀ cenv : Env, cenv.kindOf = inner sc env.kindOf → LtOk C K cenv elt fun σ' H' q => (sem T e').ev σ' H' q X := by
          intro X cenv hc σ ρ H s A Q E F S hA h
          exact (h3 cenv hc _ _ he).1 F S hA h fun e s' p => p.none.elim
        cases ifs with
        | nil =>
          cases h
          refine ⟨_, _, _, t', it', fun _ _ H' q => q true H', _, rfl, hs, ho, ht, folded_no hit2, hit1, fun X cenv hc => ?_, hel, fun σ H Q X h => h, rfl⟩
          intro σ ρ H s A q E F S hA h
          exact wpAny_tests_nil ⟨ρ, H, StepG.refl _ _, S, h⟩
        | cons c r =>
          have h : (if r.isEmpty then (f' c).map fun c' => PE.comp1 e' t' it' c' else none) = some pe := h
          split at h
          · rename_i hr
            cases List.isEmpty_iff.mp hr
            obtain ⟨c', hc', rfl⟩ := map_some' h
            refine ⟨_, _, _, t', it', fun X σ' H' q => (sem T c').tt σ' H' q X, _, rfl, hs, ho, ht, folded_no hit2, hit1, fun X cenv hc => ?_, hel, fun σ H Q X h => h, rfl⟩
            intro σ ρ H s A q E F S hA h
            exact wpAny_tests_one ((h3 cenv hc _ _ hc').2 F S hA h fun e s' p => p.none.elim)
          · cases h
      · cases h
    · cases h
theorem ok_cmpE {env : Env} {f : Expr → Option PE} (h1 : ∀ e pe, f e = some pe → EvOk C T K env e pe) {a : Expr} {ops : List CmpOp} {cs : List Expr} {pos : Pos} {pe : PE} (h : trCmp f a ops cs = some pe) : EvOk C T K env (.Compare a ops cs pos) pe ∧ TtOk C T K env (.Compare a ops cs pos) pe := by
  cases ops with
  | nil => cases h
  | cons o os =>
    cases cs with
    | nil => cases h
    | cons b r =>
      unfold trCmp at h
      dsimp only at h
      split at h
      · cases h
      · rename_i hs
        have hs := Bool.eq_false_iff.mpr hs
        cases os with
        | nil =>
          unfold trCmp2 at h
          dsimp only at h
          split at h
          · rename_i hr
            cases List.isEmpty_iff.mp hr
            obtain ⟨x, y, hx, hy, rfl⟩ := bnd2_some h
            exact ok_cmp1 hs (h1 _ _ hx) (h1 _ _ hy)
          · cases h
        | cons o2 os =>
          cases r with
          | nil => cases h
          | cons c r =>
            unfold trCmp2 at h
            dsimp only at h
            split at h
            · cases h
            · rename_i hc
              have hc := Bool.eq_false_iff.mpr hc
              obtain ⟨hc1, hr⟩ := Bool.or_eq_false_iff.mp hc
              obtain ⟨hc2, ho⟩ := Bool.or_eq_false_iff.mp hc1
              cases List.isEmpty_iff.mp (Bool.not_eq_eq_eq_not.mp hr)
              cases List.isEmpty_iff.mp (Bool.not_eq_eq_eq_not.mp ho)
              obtain ⟨x, y, z, hx, hy, hz, rfl⟩ := bnd3_some h
              exact ok_cmp2 hs hc2 (h1 _ _ hx) (h1 _ _ hy) (h1 _ _ hz)
theorem tr_ok (hT : TabOk C T K) : ∀ (n : Nat) (k : Kd) (e : Expr) (pe : PE), trE n k e = some pe → ∀ env : Env, env.kindOf = k → EvOk C T K env e pe ∧ TtOk C T K env e pe
  | 0, _, _, _, h, _, _ => by cases h
  | n + 1, k, e, pe, h, env, hk => by
    have ih := tr_ok hT n
    subst hk
    have ih1 : ∀ e pe, trE n env.kindOf e = some pe → EvOk C T K env e pe := fun e pe h => (ih _ e pe h env rfl).1
    have ih2 : ∀ e pe, trE n env.kindOf e = some pe → TtOk C T K env e pe := fun e pe h => (ih _ e pe h env rfl).2
    have st : ∀ e pe, trE n env.kindOf e = some pe → isStar e = false := fun e pe h => tr_star h
    cases e with
    | Name x pos => exact ok_nm hT h
    | Constant c k pos => exact ok_const h
    | BinOp l op r pos =>
      obtain ⟨x, y, hx, hy, rfl⟩ := bnd2_some h
      exact both (ok_bin (ih1 _ _ hx) (ih1 _ _ hy)) (fun _ => rfl) rfl
    | UnaryOp op x pos =>
      have h : trUn (trE n env.kindOf) op x = some pe := h
      cases op with
      | Not => obtain ⟨x, hx, rfl⟩ := map_some' h; exact ok_not (ih1 _ _ hx) (ih2 _ _ hx)
      | USub => obtain ⟨x, hx, rfl⟩ := map_some' h; exact both (ok_neg (ih1 _ _ hx)) (fun _ => rfl) rfl
      | _ => cases h
    | BoolOp op vs pos =>
      have h : (trLs (trE n env.kindOf) vs).bind (trBool op) = some pe := h
      obtain ⟨ps, hps, h⟩ := Option.bind_eq_some_iff.mp h
      · obtain ⟨h1, h2⟩ := ok_bool op pos vs ps pe (els_ok (fun e pe h => ih _ e pe h env rfl) hps) h
        exact ⟨fun F S hA h hE => h1 F S hA h hE, fun F S hA h hE => by rw [arm_isTrue_BoolOp]; exact h2 F S hA h hE⟩
    | Compare a ops cs pos => exact ok_cmpE ih1 h
    | Call f args kws pos => exact ok_callE hT ih1 st h
    | Subscript o i pos => exact ok_subE hT ih1 h
    | List es pos =>
      obtain ⟨x, hx, rfl⟩ := map_some' (f := .list) h
      exact both (ok_list (el_ok ih1 st hx)) (fun _ => rfl) rfl
    | Tuple es k pos =>
      obtain ⟨x, hx, rfl⟩ := map_some' (f := .tuple) h
      exact both (ok_tuple (el_ok ih1 st hx)) (fun _ => rfl) rfl
    | Dict ks vs pos =>
      have h : trDict ks vs = some pe := h
      unfold trDict at h
      split at h
      · rename_i hc
        obtain ⟨hc1, hc2⟩ := Bool.and_eq_true_iff.mp hc
        cases List.isEmpty_iff.mp hc1
        cases List.isEmpty_iff.mp hc2
        cases h
        exact both ok_dict0 (fun _ => rfl) rfl
      · cases h
    | ListComp elt gens sc pos =>
      obtain ⟨target, iter, ifs, t', pit, test, el, c⟩ := tr_comp hT ih1 st (fun cenv hc e pe h => ih _ e pe h cenv hc) h
      have hg := c.hgens
      subst hg
      exact both (ok_comp c.hsc c.only c.tgt c.fold c.hit c.ts c.hel c.hsem) (fun _ => rfl) c.htt
    | _ => cases h
end
end Mine
end
section
namespace Mine
open PySem PySem.Calls PyProof.Rows
section
variable (C : Cx) (T : Tab) (K : Nat)
noncomputable def FlR (ρ : List Addr) : Fl → Flow → Prop
  | .next, f => f = .next
  | .brk, f => f = .brk
  | .ret v, f => ∃ u, f = .ret u ∧ VR C ρ v u
noncomputable def PF (env : Env) (ρ : List Addr) (s : Shared) (Q : SPost) : Flow → Shared → Prop := fun f s' => ∃ ρ' H' σ' fl, StepG (own env) ρ s ρ' s' ∧ Sim C ρ' H' s' ∧ FR C env σ' ρ' s'.heap ∧ FlR C ρ' fl f ∧ Q fl σ' H'
abbrev TakesS (env : Env) (ρ : List Addr) (s : Shared) (X : XPost) (E : Value → Shared → Prop) : Prop := ∀ e s', PX C (own env) ρ s X e s' → E e s'
noncomputable def BlOk (env : Env) (b : List Stmt) (ps : PS) : Prop := ∀ {σ : Sg} {ρ : List Addr} {H : AHeap} {s : Shared} {A : Around} {Q : SPost} {X : XPost} {E : Value → Shared → Prop},
  FR C env σ ρ s.heap → Sim C ρ H s → AOk K A → semS T ps σ H Q X → TakesS C env ρ s X E → wpAny C.M A (execs b env) (PF C env ρ s Q) E s
noncomputable def S1Ok (env : Env) (st : Stmt) (ps : PS) : Prop := ∀ {σ : Sg} {ρ : List Addr} {H : AHeap} {s : Shared} {A : Around} {Q : SPost} {X : XPost} {E : Value → Shared → Prop},
  FR C env σ ρ s.heap → Sim C ρ H s → AOk K A → semS T ps σ H Q X → TakesS C env ρ s X E → wpAny C.M A (exec st env) (PF C env ρ s Q) E s
end
section
variable {C : Cx} {T : Tab} {K : Nat} {env : Env}
theorem TakesS.takes {ρ : List Addr} {s : Shared} {X : XPost} {E : Value → Shared → Prop} (h : TakesS C env ρ s X E) : Takes C ρ s X E := fun e s' ⟨ρ', H', c, st, S, x, q⟩ => h e s' ⟨ρ', H', c, st.up, S, x, q⟩
theorem TakesS.on {ρ ρ1 : List Addr} {s s1 : Shared} {X : XPost} {E : Value → Shared → Prop} (h : TakesS C env ρ s X E) (st : StepG (own env) ρ s ρ1 s1) : TakesS C env ρ1 s1 X E := fun e s' p => h e s' (p.trans st)
theorem PF.trans {ρ ρ1 : List Addr} {s s1 s' : Shared} {Q : SPost} {f : Flow} (st : StepG (own env) ρ s ρ1 s1) (h : PF C env ρ1 s1 Q f s') : PF C env ρ s Q f s' :=
  by obtain ⟨ρ', H', σ', fl, a, b, c, d, e⟩ := h; exact ⟨ρ', H', σ', fl, st.trans a, b, c, d, e⟩
theorem not_swap {v t : Expr} {line : Nat} (hv : isComp v = false) : swapsWith v (some t) line env = pure false := by
  cases v <;> first | rfl | cases hv
theorem not_swap0 {v : Expr} {line : Nat} (hv : isComp v = false) : swapsWith v none line env = pure false := by
  cases v <;> first | rfl | cases hv
theorem not_swap_t {v t : Expr} {line : Nat} (ht : ∀ x p, t ≠ .Name x p) : swapsWith v (some t) line env = pure false := by
  cases v <;> first | rfl | (cases t <;> first | rfl | exact absurd rfl (ht _ _))
theorem bl_nil : BlOk C T K env [] .skip := fun F S hA h hE => wpAny_execs_nil ⟨_, _, _, .next, StepG.refl _ _, S, F, rfl, h⟩
theorem bl_cons {st : Stmt} {r : List Stmt} {p q : PS} (h1 : S1Ok C T K env st p) (h2 : BlOk C T K env r q) : BlOk C T K env (st :: r) (.seq p q) := by
  intro σ ρ H s A Q X E F S hA h hE
  refine wpAny_execs_cons (wpAny_mono (h1 F S hA h hE) (fun f s1 ⟨ρ1, H1, σ1, fl, st1, S1, F1, hf, hq⟩ => ?_) fun _ _ x => x)
  cases fl with
  | next =>
    cases hf
    exact wpAny_mono (h2 F1 S1 hA hq (TakesS.on hE st1)) (fun _ _ p => PF.trans st1 p) fun _ _ x => x
  | brk => cases hf; exact ⟨ρ1, H1, σ1, .brk, st1, S1, F1, rfl, hq⟩
  | ret v => obtain ⟨u, rfl, hv⟩ := hf; exact ⟨ρ1, H1, σ1, .ret v, st1, S1, F1, ⟨u, rfl, hv⟩, hq⟩
theorem s_pass {pos : Pos} : S1Ok C T K env (.Pass pos) .skip := fun F S hA h hE => wpAny_Pass ⟨_, _, _, .next, StepG.refl _ _, S, F, rfl, h⟩
theorem s_break {pos : Pos} : S1Ok C T K env (.Break pos) .brk := fun F S hA h hE => wpAny_Break ⟨_, _, _, .brk, StepG.refl _ _, S, F, rfl, h⟩
theorem s_ret {e : Expr} {pos : Pos} {pe : PE} (he : EvOk C T K env e pe) : S1Ok C T K env (.Return (some e) pos) (.ret pe) := by
  intro σ ρ H s A Q X E F S hA h hE
  exact wpAny_Return_some (he.bind F S hA h (TakesS.takes hE) fun ρ1 H1 v u s1 st F1 S1 hv hq hE1 => ⟨ρ1, H1, σ, .ret v, st.up, S1, F1, ⟨u, rfl, hv⟩, hq⟩)
theorem s_ret0 {pos : Pos} : S1Ok C T K env (.Return none pos) (.ret .none) := fun F S hA h hE => wpAny_Return_none ⟨_, _, _, .ret .none, StepG.refl _ _, S, F, ⟨_, rfl, rfl⟩, h⟩
theorem s_expr {e : Expr} {pos : Pos} {pe : PE} (he : EvOk C T K env e pe) (hc : isComp e = false) : S1Ok C T K env (.Expr e pos) (.expr pe) := by
  intro σ ρ H s A Q X E F S hA h hE
  exact wpAny_Expr_any (he.bind F S hA h (TakesS.takes hE) fun ρ1 H1 v u s1 st F1 S1 hv hq hE1 => ⟨ρ1, H1, σ, .next, st.up, S1, F1, rfl, hq⟩) (by unfold interactive; rw [F.kind]; rfl) (not_swap0 hc)
theorem s_if {c : Expr} {a b : List Stmt} {pos : Pos} {pc : PE} {pa pb : PS} (hc : TtOk C T K env c pc) (ha : BlOk C T K env a pa) (hb : BlOk C T K env b pb) : S1Ok C T K env (.If c a b pos) (.ite pc pa pb) := by
  intro σ ρ H s A Q X E F S hA h hE
  refine wpAny_If (hc.bind F S hA h (TakesS.takes hE) fun ρ1 H1 t s1 st F1 S1 hq hE1 => ?_)
  cases t with
  | true => exact wpAny_mono (ha F1 S1 hA hq (TakesS.on hE st.up)) (fun _ _ p => PF.trans st.up p) fun _ _ x => x
  | false => exact wpAny_mono (hb F1 S1 hA hq (TakesS.on hE st.up)) (fun _ _ p => PF.trans st.up p) fun _ _ x => x
theorem set_ok {o i v : V} {ou iu vu : Value} {H : AHeap} {q : AHeap → Prop} {ρ : List Addr} {s : Shared} {A : Around} {E : Value → Shared → Prop} (h : setItemA o i v H q) (S : Sim C ρ H s) (ho : VR C ρ o ou) (hi : VR C ρ i iu) (hv : VR C ρ v vu) :
    wpAny C.M A (setItem ou iu vu) (fun _ s' => ∃ H', Step ρ s ρ s' ∧ Sim C ρ H' s' ∧ q H') E s := by
  cases h with
  | @dict n es ep k hn e1 hl hq =>
    obtain ⟨a, rfl, ea, hor⟩ := S.lookup e1 ho
    obtain ⟨ok, tk, rfl⟩ := hi
    obtain ⟨kvs, hd, hdk⟩ := dict_of hor
    refine wpAny_setItem_pairs (strKind_is _ _ _ tk) hd (fun h' hm hsb => ?_) (by rw [← hdk.length]; exact lid_le (Nat.le_of_lt hl))
    obtain ⟨ep', ho'⟩ := dict_is hm (dk_stored ok hv hdk) (by
      unfold stA
      split
      · rw [List.length_map]; exact Nat.le_of_lt hl
      · rw [List.length_append]; exact hl)
    obtain ⟨S1, st1⟩ := S.change (h' := h') (tk := s.toks + 1) (o := .dict (stA es k v) ep') hn ea (fun b x hb e => hsb.extBut b x hb e) ho'
    exact ⟨_, st1, S1, hq ep'⟩
theorem s_setItem {o i e : Expr} {p pos : Pos} {po pi pe : PE} (ho : EvOk C T K env o po) (hi : EvOk C T K env i pi) (he : EvOk C T K env e pe) : S1Ok C T K env (.Assign [.Subscript o i p] e pos) (.setItem po pi pe) := by
  intro σ ρ H s A Q X E F S hA h hE
  refine wpAny_Assign_Subscript (he.bind F S hA h (TakesS.takes hE) fun ρ1 H1 v1 u1 s1 st1 F1 S1 hv1 hq1 hE1 => ho.bind F1 S1 hA hq1 hE1 fun ρ2 H2 v2 u2 s2 st2 F2 S2 hv2 hq2 hE2 => hi.bind F2 S2 hA hq2 hE2 fun ρ3 H3 v3 u3 s3 st3 F3 S3 hv3 hq3 hE3 => ?_) (not_swap_t fun _ _ q => by cases q)
  refine wpAny_mono (set_ok hq3 S3 (st3.vr hv2) hv3 (st3.vr (st2.vr hv1))) (fun _ s' ⟨H', st4, S4, hq4⟩ => ?_) fun _ _ x => x
  exact ⟨ρ3, H', σ, .next, (((st1.trans st2).trans st3).trans st4).up, S4, F3.step st4, rfl, hq4⟩
end
end Mine
end
section
namespace Mine
open PySem PySem.Calls PyProof.Rows
section
variable {C : Cx} {T : Tab} {K : Nat} {env : Env}
theorem ownT_step {Z : List Str} {ρ ρ1 : List Addr} {s s1 : Shared} (st : StepG (ownT env Z) ρ s ρ1 s1) : StepG (own env) ρ s ρ1 s1 := st.mono ownT.own
theorem s_assign_plain {x : Str} {p pos : Pos} {v : Expr} {pv : PE} (hx : stored env.kindOf x = true) (hv : EvOk C T K env v pv) (hs : swapsWith v (some (.Name x p)) pos.line env = pure false) : S1Ok C T K env (.Assign [.Name x p] v pos) (.assign (.name x) pv) := by
  intro σ ρ H s A Q X E F S hA h hE
  refine wpAny_Assign_Name (hv.bind F S hA h (TakesS.takes hE) fun ρ1 H1 v1 u1 s1 st1 F1 S1 hv1 hq1 hE1 => ?_) hs
  refine store_ok (Z := [x]) F1 S1 (.head _) (stored_iff hx) (stored_ne hx) hv1 fun s2 F2 S2 st2 => ?_
  exact ⟨ρ1, H1, _, .next, (StepG.up st1).trans (ownT_step st2), S2, F2, rfl, hq1⟩
theorem s_assign_name (hT : TabOk C T K) {x : Str} {p pos : Pos} {v : Expr} {pv : PE} {n : Nat} (hx : stored env.kindOf x = true) (h : trE n env.kindOf v = some pv) : S1Ok C T K env (.Assign [.Name x p] v pos) (.assign (.name x) pv) := by
  have hv : EvOk C T K env v pv := (tr_ok hT n _ v pv h env rfl).1
  cases hc : isComp v with
  | true =>
    cases v <;> first | (cases hc; done) | skip
    · rename_i elt gens sc cpos
      cases n with
      | zero => cases h
      | succ n =>
      obtain ⟨b, hb⟩ : ∃ b, swapsWith (.ListComp elt gens sc cpos) (some (.Name x p)) pos.line env = pure b := ⟨_, rfl⟩
      cases b with
      | false => intro σ ρ H s A Q X E; exact s_assign_plain hx hv hb
      | true =>
        obtain ⟨target, iter, ifs, t', pit, test, el, cc⟩ := tr_comp hT (fun e pe h => (tr_ok hT n _ e pe h env rfl).1) (fun e pe h => tr_star h) (fun cenv hc e pe h => tr_ok hT n _ e pe h cenv hc) h
        obtain ⟨rfl, hs, ho, htr, hf, hit, hts, hel, hsem, _⟩ := cc
        intro σ ρ H s A Q X E F S hA h hE
        rw [exec_Assign_Name_used _ _ _ _ hb]
        refine wpAny_bind (wpAny_standAt (wpAny_bind ?_))
        show wpAny _ A (do let _ ← comprehension (.ListComp elt [⟨target, iter, ifs, 0⟩] sc cpos) sc env _ (newList []) false (eval iter env) (some (assign (.Name x p) env))) _ _ s
        refine wpAny_bind (wpAny_mono (Q := fun _ s' => PF C env ρ s Q .next s') ?_ (fun _ s' hq => wpAny_pure (wpAny_pure hq)) fun _ _ e => e)
        refine comp_any (use := some (assign (.Name x p) env)) hA F S (TakesS.takes hE) hs ho htr hf hit (hts X) (hel X) (hsem σ H _ X h) ?_
        intro D Cc t m _ hm hn ρ1 H1 v st1 S1 v1 hq hC
        show wpAny _ A (assign (.Name x p) env (.ref D)) _ _ _
        refine assign_Name (store_ok (Z := [x]) (F.step st1) S1 (.head _) (stored_iff hx) (stored_ne hx) v1 fun s2 F2 S2 st2 => ?_)
        have hown : ¬ own env Cc := fun q => by obtain ⟨o, e⟩ := F.alive _ q; rw [hn] at e; cases e
        obtain ⟨ob, es, ep, eC, _⟩ := id hm
        refine ⟨m, hm.at' fun o e => st2.keep _ o hC (fun q => hown (ownT.own _ q)) e, fun h' hsb => ?_⟩
        obtain ⟨st3, S3⟩ := adrift (W := fun b => b = Cc) (h' := h') (tk := s2.toks) ((StepG.up st1).trans (ownT_step st2)) S2 (fun b hb => by subst hb; exact ⟨hn, hC, base_none S hn⟩) fun b o hb e => hsb.extBut b o hb e
        exact ⟨ρ1, H1, _, .next, st3, S3, F2.at fun b hb o e => hsb.extBut b o (fun q => hown (q ▸ hb)) e, rfl, hq⟩
    · cases n <;> cases h
    · cases n <;> cases h
  | false => intro σ ρ H s A Q X E; exact s_assign_plain hx hv (not_swap hc)
theorem sets_cons_ne : ∀ (ps : List (Str × V)) (σ : Sg) (x : Str) (v : V), x ∉ ps.map (·.1) → (σ.set x v).sets ps = (σ.sets ps).set x v
  | [], _, _, _, _ => rfl
  | (y, w) :: r, σ, x, v, h => by
    have hxy : x ≠ y := fun q => h (by rw [q, List.map_cons]; exact .head _)
    have h' : x ∉ r.map (·.1) := fun q => h (by rw [List.map_cons]; exact .tail _ q)
    unfold Sg.sets
    have : (σ.set x v).set y w = (σ.set y w).set x v := by
      funext z
      unfold Sg.set
      by_cases z1 : z = x <;> by_cases z2 : z = y
      · exact absurd (z1.symm.trans z2) hxy
      · simp [z1, hxy]
      · simp [z2, Ne.symm hxy]
      · simp [z1, z2]
    rw [this, sets_cons_ne r _ x v h']
theorem sets_append : ∀ (ps qs : List (Str × V)) (σ : Sg), σ.sets (ps ++ qs) = (σ.sets ps).sets qs
  | [], _, _ => rfl
  | (y, w) :: r, qs, σ => by
    show (σ.set y w).sets (r ++ qs) = ((σ.set y w).sets r).sets qs
    exact sets_append r qs _
theorem sets_reverse : ∀ (ps : List (Str × V)) (σ : Sg), (ps.map (·.1)).Nodup → σ.sets ps.reverse = σ.sets ps
  | [], _, _ => rfl
  | (y, w) :: r, σ, h => by
    rw [List.map_cons, List.nodup_cons] at h
    rw [List.reverse_cons, sets_append, sets_reverse r σ h.2]
    show (σ.sets r).set y w = (σ.set y w).sets r
    rw [sets_cons_ne r σ y w h.1]
theorem stores_list {A : Around} {E : Value → Shared → Prop} {Z : List Str} : ∀ (xs : List Str) (vs : List V) (us : List Value) (σ : Sg) (ρ : List Addr) (H : AHeap) (s : Shared) (Q : Unit → Shared → Prop),
    xs.length = vs.length → All2 (VR C ρ) vs us → (∀ x ∈ xs, x ∈ Z) → (∀ x ∈ xs, stored env.kindOf x = true) → FR C env σ ρ s.heap → Sim C ρ H s →
    (∀ s', FR C env (σ.sets (xs.zip vs)) ρ s'.heap → Sim C ρ H s' → StepG (ownT env Z) ρ s ρ s' → Q () s') → wpAny C.M A (assignInOrder (xs.map fun x => bindName env x) us) Q E s
  | [], [], _, σ, ρ, H, s, Q, _, .nil, _, _, F, S, h => wpAny_pure (h s F S (StepG.refl _ _))
  | x :: xs, v :: vs, _, σ, ρ, H, s, Q, hl, .cons (b := u) (bs := us) hv hr, hz, hk, F, S, h => by
    rw [List.map_cons, assignInOrder]
    refine wpAny_bind (wpAny_holding (bindName_ (store_ok F S (hz x (.head _)) (stored_iff (hk x (.head _))) (stored_ne (hk x (.head _))) hv fun s1 F1 S1 st1 => ?_)))
    refine stores_list xs vs us _ ρ H s1 Q (by simpa using hl) hr (fun y hy => hz y (.tail _ hy)) (fun y hy => hk y (.tail _ hy)) F1 S1 fun s2 F2 S2 st2 => h s2 F2 S2 (st1.trans st2)
  | [], _ :: _, _, _, _, _, _, _, hl, _, _, _, _, _, _ => by simp at hl
  | _ :: _, [], _, _, _, _, _, _, hl, _, _, _, _, _, _ => by simp at hl
theorem tgt_filter {p : Str → Pos → Bool} : ∀ {ts : List Expr} {xs : List Str}, tgtNames ts = some xs → (ts.filterMap fun | .Name id pos => if p id pos then some id else none | _ => none).length = ts.length → (ts.filterMap fun | .Name id pos => if p id pos then some id else none | _ => none) = xs
  | [], _, h, _ => by cases h; rfl
  | e :: r, xs, h, hl => by
    unfold tgtNames at h
    split at h
    · rename_i x q he
      cases asName_is he
      obtain ⟨ys, hr, rfl⟩ := Option.map_eq_some_iff.mp h
      rw [List.filterMap_cons] at hl ⊢
      dsimp only at hl ⊢
      by_cases hp : p x q = true
      · rw [if_pos hp] at hl ⊢
        dsimp only at hl ⊢
        rw [tgt_filter hr (Nat.succ.inj hl)]
      · rw [if_neg hp] at hl
        dsimp only at hl
        have := List.length_filterMap_le (fun | .Name id pos => if p id pos then some id else none | _ => none) r
        rw [hl] at this
        exact absurd this (Nat.not_succ_le_self _)
    · cases h
theorem swapped_one {ts : List Expr} {k : Nat} {tp : Pos} {v : Expr} {xs : List Str} (hx : tgtNames ts = some xs) (hv : oneTup v = false) : swappedStores [.Tuple ts k tp] v env = pure none ∨ swappedStores [.Tuple ts k tp] v env = pure (some xs) := by
  cases v <;> first | exact .inl rfl | skip
  rename_i vs k' vp
  unfold swappedStores
  dsimp only
  split
  · exact .inl rfl
  · split
    · exact .inl rfl
    · split
      · exact .inl rfl
      · rename_i hn
        split
        · exact .inl rfl
        · have : (vs.all (constantsAlone 8)) = false := hv
          rw [this]
          right
          rw [if_neg (by simp)]
          rw [Bool.or_eq_true, not_or] at hn
          have hn1 := hn.1
          simp only [bne_iff_ne, ne_eq, Decidable.not_not] at hn1
          exact congrArg (fun l => (pure (some l) : Sem (Option (List Str)))) (tgt_filter (p := fun id pos => env.kindOf id == some .local && pos.line == (Option.map (fun x => x.pos.line) ts.head?).getD 0) hx hn1)
theorem s_assign_tup {ts : List Expr} {k : Nat} {tp pos : Pos} {v : Expr} {pv : PE} {t' : Tgt} (ht : trT env.kindOf (.Tuple ts k tp) = some t') (hv : EvOk C T K env v pv) (hc : isComp v = false) (ho : oneTup v = false) : S1Ok C T K env (.Assign [.Tuple ts k tp] v pos) (.assign t' pv) := by
  intro σ ρ H s A Q X E F S hA h hE
  have hs : swapsWithSole [.Tuple ts k tp] v pos.line env = pure false := by
    unfold swapsWithSole
    exact not_swap_t (t := .Tuple ts k tp) fun _ _ q => nomatch q
  have ht0 := ht
  have ht : (match tgtNames ts with
      | some xs => if xs.all (stored env.kindOf) && decide xs.Nodup then some (Tgt.tup xs) else none
      | none => none) = some t' := ht
  split at ht
  · rename_i xs hxs
    split at ht
    · rename_i hk
      cases ht
      obtain ⟨hk1, hk2⟩ := Bool.and_eq_true_iff.mp hk
      have hk1 : ∀ x ∈ xs, stored env.kindOf x = true := List.all_eq_true.mp hk1
      have hk2 : xs.Nodup := by simpa using hk2
      rcases swapped_one (env := env) (k := k) (tp := tp) hxs ho with hw | hw
      · refine Assign_Tuple (hv.bind F S hA h (TakesS.takes hE) fun ρ1 H1 v1 u1 s1 st1 F1 S1 hv1 hq1 hE1 => ?_) hs hw
        split at hq1
        · rename_i σ' hb
          refine assign_ok (x := .one v1) (h0 := s1.heap) hA.h ht0 hb hv1 F1 S1 fun s2 F2 S2 st2 => ?_
          exact ⟨ρ1, H1, σ', .next, (StepG.up st1).trans (ownT_step st2), S2, F2, rfl, hq1⟩
        · exact hq1.elim
      · refine Assign_Tuple_swapped (names := xs) (hv.bind F S hA h (TakesS.takes hE) fun ρ1 H1 v1 u1 s1 st1 F1 S1 hv1 hq1 hE1 => ?_) hs hw
        split at hq1
        · rename_i σ' hb
          cases v1 with
          | ref n =>
            unfold bindA at hb
            dsimp only at hb
            split at hb
            · rename_i vs e1
              split at hb
              · rename_i hl
                cases hb
                obtain ⟨a, rfl, ea, us, m, hob, hs', _⟩ := S1.lookup e1 hv1
                have hz : xs.length = us.size := by rw [hl, hs'.length]; simp
                refine unpack_tuple hA.h S1 hob hz fun h' hk' => ?_
                obtain ⟨S2, st2⟩ := S1.grow (h' := h') (tk := s1.toks) hk'
                refine stores_list (Z := xs) xs.reverse vs.reverse us.toList.reverse σ ρ1 H1 _ _ (by simpa using hl) hs'.reverse (fun x hx => by simpa using hx) (fun x hx => hk1 x (by simpa using hx)) (F1.step st2) S2 fun s3 F3 S3 st3 => ?_
                have e4 : xs.reverse.zip vs.reverse = (xs.zip vs).reverse := by
                  unfold List.zip; exact (List.reverse_zipWith hl).symm
                rw [e4, sets_reverse _ _ (by rw [map_fst_zip hl]; exact hk2)] at F3
                exact ⟨ρ1, H1, _, .next, ((StepG.up st1).trans (StepG.up st2)).trans (ownT_step st3), S3, F3, rfl, hq1⟩
              · cases hb
            · cases hb
          | _ => cases hb
        · exact hq1.elim
    · cases ht
  · cases ht
end
end Mine
end
section
namespace Mine
open PySem PySem.Calls PyProof.Rows
section
variable {C : Cx} {T : Tab} {K : Nat} {env : Env}
theorem s_for {t it : Expr} {body : List Stmt} {pos : Pos} {t' : Tgt} {pit : PE} {pb : PS} (ht : trT env.kindOf t = some t') (hit : ItOk C T K env it pit) (hf : ∀ x, foldedSetIterable it env x = pure x) (hb : BlOk C T K env body pb) :
    S1Ok C T K env (.For t it body [] pos) (.for_ t' pit pb) := by
  intro σ ρ H s A Q X E F S hA h hE
  refine wpAny_For ?_ hf
  refine wpAny_mono (hit F S hA h (TakesS.takes hE)) (fun xv s₁ h₁ => wpAny_mono h₁ (fun itv s₂ h₂ => ?_) fun _ _ e => e) fun _ _ e => e
  obtain ⟨ρ0, H0, items, Kp, I, wr, St, rfl, hI, hst, st0, S0, hw, hgo⟩ := h₂
  have hwown : ∀ b ∈ wr, ¬ own env b := fun b hb e => by
    obtain ⟨o, e1⟩ := F.alive b e
    rw [(hw b hb).1] at e1; cases e1
  have hW : ∀ ρ1 : List Addr, (∀ b ∈ wr, b ∉ ρ1) → ∀ b, b ∈ wr → s.heap.get? b = none ∧ b ∉ ρ1 ∧ C.base.get? b = none := fun ρ1 x1 b hb => ⟨(hw b hb).1, x1 b hb, base_none S (hw b hb).1⟩
  let Inv : Nat → Shared → Prop := fun n t => ∃ i σ1 ρ1 H1, i + n = items.length ∧ St i t.heap ∧ StepG (own env) ρ s ρ1 t ∧ (∃ l, ρ1 = ρ0 ++ l) ∧ Sim C ρ1 H1 t ∧ (∀ b ∈ wr, b ∉ ρ1) ∧
    FR C env σ1 ρ1 t.heap ∧ forGo Kp (fun x H' σ' => bindA t' x H' σ') (fun σ' H' q => semS T pb σ' H' q X) Q (items.drop i) σ1 H1
  refine codeAny_forLoop_any Inv (fun n tt hInv => ?_) items.length ⟨0, σ, ρ0, H0, by simp, hst, StepG.up st0, ⟨[], by simp⟩, S0, fun b hb => (hw b hb).2, F.step st0, by simpa using hgo⟩
  obtain ⟨i, σ1, ρ1, H1, hin, hSt, st1, hl1, S1, hw1, F1, hg⟩ := hInv
  cases n with
  | zero =>
    have hi : i = items.length := by lia
    subst hi
    rw [List.drop_length] at hg
    obtain ⟨hK, hq⟩ := hg
    refine wpAny_mono (hI.done ρ1 H1 tt _ hSt S1 hl1 hK hw1) (fun r s1 hr => ?_) fun _ _ x => x
    obtain ⟨rfl, h', tk, rfl, hk⟩ := hr
    refine wpAny_execs_nil ?_
    obtain ⟨st4, S4⟩ := adrift (W := fun b => b ∈ wr) (h' := h') (tk := tk) st1 S1 (hW ρ1 hw1) (fun b o hb e => hk b o hb e)
    exact ⟨ρ1, H1, σ1, .next, st4, S4, F1.at fun b hb o e => hk b o (fun q => hwown b q hb) e, rfl, hq⟩
  | succ n =>
    have hi : i < items.length := by lia
    rw [List.drop_eq_getElem_cons hi] at hg
    obtain ⟨hK, hg⟩ := hg
    dsimp only at hg
    split at hg
    · rename_i σ' hb'
      refine wpAny_mono (hI.next i items[i] t ρ1 H1 tt _ (List.getElem?_eq_getElem hi) (fits ht hb') hSt S1 hl1 hK hw1) (fun r s1 hr => ?_) fun _ _ x => x
      obtain ⟨u, rfl, hu⟩ := hr
      refine wpAny_mono hu (fun _ s1' hs1 => ?_) fun _ _ x => x
      obtain ⟨h', tk, rfl, hIR, hSt', hk⟩ := hs1
      obtain ⟨st4, S4⟩ := adrift (W := fun b => b ∈ wr) (h' := h') (tk := tk) st1 S1 (hW ρ1 hw1) (fun b o hb e => hk b o hb e)
      have F4 : FR C env σ1 ρ1 h' := F1.at fun b hb o e => hk b o (fun q => hwown b q hb) e
      refine assign_ok hA.h ht hb' hIR F4 S4 fun s5 F5 S5 st5 => ?_
      have st5' := ownT_step st5
      have hSt5 : St (i + 1) s5.heap := hI.frame _ _ _ hSt' fun b hb o e => st5'.keep b o (hw1 b hb) (hwown b hb) e
      refine wpAny_mono (hb F5 S5 hA hg fun e s' p => p.none.elim) (fun f s6 h6 => ?_) fun _ _ x => x
      obtain ⟨ρ2, H2, σ2, fl, st6, S6, F6, hf6, hq6⟩ := h6
      have st46 := (st4.trans st5').trans st6
      cases fl with
      | next =>
        cases hf6
        refine ⟨n, Nat.lt_succ_self n, i + 1, σ2, ρ2, H2, by lia, hI.frame _ _ _ hSt5 fun b hb o e => st6.keep b o (hw1 b hb) (hwown b hb) e, st46, ?_, S6, fun b hb => ?_, F6, hq6⟩
        · obtain ⟨l, e⟩ := hl1
          obtain ⟨l', e', _⟩ := st6.ext
          exact ⟨l ++ l', by rw [e', e, List.append_assoc]⟩
        · obtain ⟨o, e⟩ := hI.alive _ _ hSt5 b hb
          exact stay_out st6 e (hw1 b hb)
      | brk =>
        cases hf6
        exact ⟨ρ2, H2, σ2, .next, st46, S6, F6, rfl, hq6⟩
      | ret v =>
        obtain ⟨u, rfl, hv⟩ := hf6
        exact ⟨ρ2, H2, σ2, .ret v, st46, S6, F6, ⟨u, rfl, hv⟩, hq6⟩
    · exact hg.elim
theorem s_while {c : Expr} {body : List Stmt} {pos : Pos} {pc : PE} {pb : PS} (hc : TtOk C T K env c pc) (hb : BlOk C T K env body pb) : S1Ok C T K env (.While c body [] pos) (.while_ pc pb) := by
  intro σ ρ H s A Q X E F S hA h hE
  obtain ⟨N, h⟩ := h
  refine wpAny_While ?_
  let Inv : Nat → Shared → Prop := fun n t => ∃ σ1 ρ1 H1, StepG (own env) ρ s ρ1 t ∧ Sim C ρ1 H1 t ∧ FR C env σ1 ρ1 t.heap ∧ whileGo (fun σ' H' q => (sem T pc).tt σ' H' q X) (fun σ' H' q => semS T pb σ' H' q X) Q n σ1 H1
  refine codeAny_whileLoop Inv (fun n tt hInv => ?_) N ⟨σ, ρ, H, StepG.refl _ _, S, F, h⟩
  obtain ⟨σ1, ρ1, H1, st1, S1, F1, hg⟩ := hInv
  cases n with
  | zero => exact hg.elim
  | succ n =>
    refine hc.bind F1 S1 hA hg (fun e s' p => p.none.elim) fun ρ2 H2 b s2 st2 F2 S2 hq hE2 => ?_
    cases b with
    | false =>
      rw [if_neg (by simp)]
      exact wpAny_execs_nil ⟨ρ2, H2, σ1, .next, st1.trans (StepG.up st2), S2, F2, rfl, hq⟩
    | true =>
      rw [if_pos rfl] at hq
      rw [if_pos rfl]
      refine wpAny_mono (hb F2 S2 hA hq fun e s' p => p.none.elim) (fun f s6 h6 => ?_) fun _ _ x => x
      obtain ⟨ρ3, H3, σ3, fl, st6, S6, F6, hf6, hq6⟩ := h6
      have st46 := (st1.trans (StepG.up st2)).trans st6
      cases fl with
      | next =>
        cases hf6
        exact ⟨n, Nat.lt_succ_self n, σ3, ρ3, H3, st46, S6, F6, hq6⟩
      | brk =>
        cases hf6
        exact ⟨ρ3, H3, σ3, .next, st46, S6, F6, rfl, hq6⟩
      | ret v =>
        obtain ⟨u, rfl, hv⟩ := hf6
        exact ⟨ρ3, H3, σ3, .ret v, st46, S6, F6, ⟨u, rfl, hv⟩, hq6⟩
theorem trT_shape {k : Kd} {t : Expr} {t' : Tgt} (h : trT k t = some t') : (∃ x p, t = .Name x p ∧ t' = .name x ∧ stored k x = true) ∨ ∃ ts n p xs, t = .Tuple ts n p ∧ t' = .tup xs := by
  unfold trT at h
  split at h
  · rename_i e
    split at h
    · rename_i hx; cases h; exact .inl ⟨_, _, asName_is e, rfl, hx⟩
    · cases h
  · split at h
    · rename_i e
      split at h
      · split at h
        · cases h; exact .inr ⟨_, _, _, _, asTup_is e, rfl⟩
        · cases h
      · cases h
    · cases h
theorem assign_tr (hT : TabOk C T K) {n : Nat} {ts : List Expr} {v : Expr} {pos : Pos} {ps : PS} (h : trAssign env.kindOf (trE n env.kindOf) ts v = some ps) : S1Ok C T K env (.Assign ts v pos) ps := by
  have ev : ∀ e pe, trE n env.kindOf e = some pe → EvOk C T K env e pe := fun e pe h => (tr_ok hT n _ e pe h env rfl).1
  cases ts with
  | nil => cases h
  | cons t r =>
    unfold trAssign at h
    dsimp only at h
    split at h
    · rename_i hr
      cases List.isEmpty_iff.mp hr
      split at h
      · rename_i o i p e1
        cases asSub_is e1
        split at h
        · cases h
        · obtain ⟨a, ha, h⟩ := Option.bind_eq_some_iff.mp h
          obtain ⟨b, hb, h⟩ := Option.bind_eq_some_iff.mp h
          obtain ⟨c, hc, rfl⟩ := Option.map_eq_some_iff.mp h
          intro σ ρ H s A Q X E
          exact s_setItem (ev _ _ hb) (ev _ _ hc) (ev _ _ ha)
      · obtain ⟨t', ht, h⟩ := Option.bind_eq_some_iff.mp h
        obtain ⟨v', hv, h⟩ := Option.bind_eq_some_iff.mp h
        rcases trT_shape ht with ⟨x, p, rfl, rfl, hx⟩ | ⟨ts, m, p, ys, rfl, rfl⟩
        · cases h
          intro σ ρ H s A Q X E
          exact s_assign_name hT hx hv
        · have h : (if isComp v || oneTup v then none else some (PS.assign (.tup ys) v')) = some ps := h
          split at h
          · cases h
          · rename_i hcv
            cases h
            obtain ⟨h1, h2⟩ := Bool.or_eq_false_iff.mp (Bool.eq_false_iff.mpr hcv)
            intro σ ρ H s A Q X E
            exact s_assign_tup ht (ev _ _ hv) h1 h2
    · cases h
theorem one_tr (hT : TabOk C T K) {n : Nat} {b : List Stmt → Option PS} (hb : ∀ x ps, b x = some ps → BlOk C T K env x ps) {st : Stmt} {ps : PS} (h : tr1 env.kindOf (trE n env.kindOf) b st = some ps) : S1Ok C T K env st ps := by
  have ev : ∀ e pe, trE n env.kindOf e = some pe → EvOk C T K env e pe := fun e pe h => (tr_ok hT n _ e pe h env rfl).1
  have et : ∀ e pe, trE n env.kindOf e = some pe → TtOk C T K env e pe := fun e pe h => (tr_ok hT n _ e pe h env rfl).2
  cases st with
  | Assign ts v pos =>
    intro σ ρ H s A Q X E
    exact assign_tr hT h
  | Expr e pos =>
    have h : (if isComp e then none else (trE n env.kindOf e).map PS.expr) = some ps := h
    split at h
    · cases h
    · rename_i hc
      obtain ⟨x, hx, rfl⟩ := Option.map_eq_some_iff.mp h
      intro σ ρ H s A Q X E
      exact s_expr (ev _ _ hx) (Bool.eq_false_iff.mpr hc)
  | If c x y pos =>
    obtain ⟨c', hc, h⟩ := Option.bind_eq_some_iff.mp h
    obtain ⟨a, ha, h⟩ := Option.bind_eq_some_iff.mp h
    obtain ⟨d, hd, rfl⟩ := Option.map_eq_some_iff.mp h
    intro σ ρ H s A Q X E
    exact s_if (et _ _ hc) (hb _ _ ha) (hb _ _ hd)
  | For t it body els pos =>
    unfold tr1 at h
    dsimp only at h
    split at h
    · rename_i hels
      cases List.isEmpty_iff.mp hels
      obtain ⟨t', ht, h⟩ := Option.bind_eq_some_iff.mp h
      obtain ⟨i', hi, h⟩ := Option.bind_eq_some_iff.mp h
      obtain ⟨b', hbb, rfl⟩ := Option.map_eq_some_iff.mp h
      obtain ⟨h1, h2⟩ := trI_ok hT ev (fun e pe h => tr_star h) hi
      intro σ ρ H s A Q X E
      exact s_for ht h1 (folded_no h2) (hb _ _ hbb)
    · cases h
  | While c body els pos =>
    unfold tr1 at h
    dsimp only at h
    split at h
    · rename_i hels
      cases List.isEmpty_iff.mp hels
      obtain ⟨c', hc, h⟩ := Option.bind_eq_some_iff.mp h
      obtain ⟨b', hbb, rfl⟩ := Option.map_eq_some_iff.mp h
      intro σ ρ H s A Q X E
      exact s_while (et _ _ hc) (hb _ _ hbb)
    · cases h
  | Return e pos =>
    cases e with
    | some e =>
      obtain ⟨x, hx, rfl⟩ := Option.map_eq_some_iff.mp (show (trE n env.kindOf e).map PS.ret = some ps from h)
      intro σ ρ H s A Q X E
      exact s_ret (ev _ _ hx)
    | none =>
      cases h
      intro σ ρ H s A Q X E
      exact s_ret0
  | Raise _ _ _ =>
    cases h
    intro σ ρ H s A Q X E F S hA hh hE
    exact hh.elim
  | Break pos =>
    cases h
    intro σ ρ H s A Q X E
    exact s_break
  | Pass pos =>
    cases h
    intro σ ρ H s A Q X E
    exact s_pass
  | _ => cases h
theorem trS_ok (hT : TabOk C T K) : ∀ (n : Nat) (b : List Stmt) (ps : PS), trS n env.kindOf b = some ps → BlOk C T K env b ps
  | 0, _, _, h => by cases h
  | _ + 1, [], _, h => by cases h; exact bl_nil
  | n + 1, st :: rest, ps, h => by
    obtain ⟨one, ho, h⟩ := Option.bind_eq_some_iff.mp (show (tr1 _ _ _ st).bind _ = some ps from h)
    obtain ⟨r, hr, rfl⟩ := Option.map_eq_some_iff.mp h
    exact bl_cons (one_tr hT (fun x ps h => trS_ok hT n x ps h) ho) (trS_ok hT n rest r hr)
end
end Mine
end
section
namespace Mine
open PySem PySem.Calls PyProof.Rows
noncomputable def sgOf (xs : List Str) (vs : List V) : Sg := Sg.sets (fun _ => none) (xs.zip vs)
noncomputable def fnSpec (T : Tab) (xs : List Str) (ps : PS) : Spec := fun vs H Q X => xs.length = vs.length ∧ semS T ps (sgOf xs vs) H (fun fl _ H' => match fl with
  | .ret v => Q v H'
  | .next => Q .none H'
  | .brk => False) X
noncomputable def plainArgs (p : Arguments) : Bool := p.posonlyargs.isEmpty && p.vararg.isNone && p.kwonlyargs.isEmpty && p.kwarg.isNone && p.defaults.isEmpty
noncomputable def goodDef (params : Arguments) (sc : Scope) : Bool :=
  let xs := params.args.map (·.arg)
  plainArgs params && decide xs.Nodup && sc.kind == .function && !sc.isCoroutine && !sc.isGenerator && xs.all (stored fun x => sc.names.lookup x)
theorem fm_congr {α β : Type} (f g : α → Option β) : ∀ (l : List α), (∀ n ∈ l, f n = g n) → l.filterMap f = l.filterMap g
  | [], _ => rfl
  | x :: r, h => by rw [List.filterMap_cons, List.filterMap_cons, h x (.head _), fm_congr f g r fun n hn => h n (.tail _ hn)]
theorem zip_lookup : ∀ (xs : List Str) (vals : List Value), xs.Nodup → xs.length = vals.length → xs.filterMap (fun n => ((xs.zip vals).lookup n).map fun v => (n, v)) = xs.zip vals
  | [], [], _, _ => rfl
  | [], _ :: _, _, h => by simp at h
  | _ :: _, [], _, h => by simp at h
  | x :: xs, v :: vals, hn, hl => by
    rw [List.nodup_cons] at hn
    rw [List.zip_cons_cons, List.filterMap_cons]
    simp only [List.lookup_cons, beq_self_eq_true]
    simp only [Option.map_some]
    congr 1
    refine Eq.trans (fm_congr _ _ xs fun n hn' => ?_) (zip_lookup xs vals hn.2 (by simpa using hl))
    have : (n == x) = false := by
      rw [beq_eq_false_iff_ne]
      exact fun q => hn.1 (q ▸ hn')
    rw [this]
theorem zip_full : ∀ (xs : List Str) (vals : List Value), xs.length = vals.length → (xs.filter fun n => ((xs.zip vals).lookup n).isNone) = [] := fun xs vals hl => by
  rw [List.filter_eq_nil_iff]
  intro n hn h
  have : ∀ (xs : List Str) (vals : List Value), xs.length = vals.length → n ∈ xs → ((xs.zip vals).lookup n).isSome = true := by
    intro xs
    induction xs with
    | nil => intro vals _ h; cases h
    | cons x xs ih =>
      intro vals hl hm
      cases vals with
      | nil => simp at hl
      | cons v vals =>
        rw [List.zip_cons_cons, List.lookup_cons]
        cases hb : n == x with
        | true => rfl
        | false =>
          cases hm with
          | head => simp at hb
          | tail _ hm => exact ih vals (by simpa using hl) hm
  have := this xs vals hl hn
  rw [Option.isNone_iff_eq_none] at h
  rw [h] at this; cases this
theorem bind_plain {name : Str} {p : Arguments} {body : List Stmt} {sc : Scope} {pm cd doc : Value} {vals : List Value} (hp : plainArgs p = true) (hn : (p.args.map (·.arg)).Nodup) (hl : (p.args.map (·.arg)).length = vals.length) :
    bindArgs (docDef name p body sc pm cd doc) ⟨vals, []⟩ = pure ((p.args.map (·.arg)).zip vals) := by
  obtain ⟨posonly, args, vararg, kwonly, kwd, kwarg, defaults⟩ := p
  unfold plainArgs at hp
  simp only [Bool.and_eq_true, List.isEmpty_iff, Option.isNone_iff_eq_none] at hp
  obtain ⟨⟨⟨⟨rfl, rfl⟩, rfl⟩, rfl⟩, rfl⟩ := hp
  unfold bindArgs
  have e1 : ∀ {α : Type} (k : Option (Array Value) → Sem α), (seqItems? (docDef name ⟨[], args, none, [], kwd, none, []⟩ body sc pm cd doc).defaults >>= k) = k none := fun k => rfl
  simp only [docDef, List.map_nil, List.nil_append, List.forIn_nil, List.append_nil]
  dsimp only at hl hn
  rw [pure_bind]
  have e2 : ∀ {α : Type} (k : Option (Array Value) → Sem α), (seqItems? Value.none >>= k) = k none := fun k => rfl
  rw [e2]
  simp only [Option.getD_none, Array.toList_empty, List.length_nil, Option.isNone_none, Bool.and_true, Nat.sub_self, List.drop_nil, Nat.sub_zero, List.zip_nil_right, List.forIn_nil]
  have h1 : ¬ (decide (vals.length > (List.map (fun x => x.arg) args).length) = true) := by simp; rw [← hl]; simp
  rw [if_neg h1]
  simp only [Nat.zero_sub, List.take_length, zip_full _ _ hl, List.isEmpty_nil, Bool.not_true, Bool.false_eq_true, if_false, pure_bind, List.drop_nil, List.zip_nil_right, List.forIn_nil, zip_lookup _ _ hn hl]
section
variable {C : Cx} {T : Tab} {K : Nat}
theorem cellsFrom_has : ∀ (names : List (Str × NameKind)) (n : Nat) (acc : List (Str × Addr)) (x : Str), ((x, NameKind.cell) ∈ names ∨ ∃ c, acc.lookup x = some c) → ∃ c, (cellsFrom n names acc).lookup x = some c
  | [], _, _, _, h => by
    rcases h with h | h
    · cases h
    · exact h
  | (y, k) :: r, n, acc, x, h => by
    unfold cellsFrom
    split
    · refine cellsFrom_has r _ _ x ?_
      by_cases e : x = y
      · right; exact ⟨n, by rw [List.lookup_cons, e]; simp⟩
      · rcases h with h | ⟨c, h⟩
        · cases h with
          | head => exact absurd rfl e
          | tail _ h => exact .inl h
        · right; exact ⟨c, by rw [List.lookup_cons, beq_eq_false_iff_ne.mpr e]; exact h⟩
    · rename_i hk
      refine cellsFrom_has r _ _ x ?_
      rcases h with h | h
      · cases h with
        | head => exact absurd rfl hk
        | tail _ h => exact .inl h
      · exact .inr h
theorem bindL_ok {ρ : List Addr} {kd : Kd} : ∀ (xs : List Str) (vs : List V) (us : List Value) (σ : Sg) (m : Str → Option Value), All2 (VR C ρ) vs us → xs.length = vs.length →
    (∀ x v, σ x = some v → kd x = some .local → ∃ u, m x = some u ∧ VR C ρ v u) → ∀ x v, σ.sets (xs.zip vs) x = some v → kd x = some .local → ∃ u, bindL kd (xs.zip us) m x = some u ∧ VR C ρ v u
  | [], _, _, _, _, _, _, h => h
  | y :: ys, w :: vs, _, σ, m, .cons (b := u) (bs := us) hv hr, hl, h => by
    rw [List.zip_cons_cons, List.zip_cons_cons]
    refine bindL_ok ys vs us _ _ hr (by simpa using hl) fun x v h1 h2 => ?_
    unfold Sg.set at h1
    by_cases e : x = y
    · subst e
      rw [if_pos rfl] at h1; cases h1
      rw [if_pos h2, if_pos rfl]
      exact ⟨u, rfl, hv⟩
    · rw [if_neg e] at h1
      obtain ⟨u', h3, h4⟩ := h x v h1 h2
      refine ⟨u', ?_, h4⟩
      by_cases hk : kd y = some .local
      · rw [if_pos hk, if_neg e]; exact h3
      · rw [if_neg hk]; exact h3
  | _ :: _, [], _, _, _, _, hl, _ => by simp at hl
theorem bindC_ok {ρ : List Addr} {kd : Kd} : ∀ (xs : List Str) (vs : List V) (us : List Value) (σ : Sg) (m : Str → Option Value), All2 (VR C ρ) vs us → xs.length = vs.length →
    (∀ x v, σ x = some v → kd x = some .cell → ∃ u, m x = some u ∧ VR C ρ v u) → ∀ x v, σ.sets (xs.zip vs) x = some v → kd x = some .cell → ∃ u, bindC kd (xs.zip us) m x = some u ∧ VR C ρ v u
  | [], _, _, _, _, _, _, h => h
  | y :: ys, w :: vs, _, σ, m, .cons (b := u) (bs := us) hv hr, hl, h => by
    rw [List.zip_cons_cons, List.zip_cons_cons]
    refine bindC_ok ys vs us _ _ hr (by simpa using hl) fun x v h1 h2 => ?_
    unfold Sg.set at h1
    by_cases e : x = y
    · subst e
      rw [if_pos rfl] at h1; cases h1
      rw [if_neg (by rw [h2]; decide), if_pos rfl]
      exact ⟨u, rfl, hv⟩
    · rw [if_neg e] at h1
      obtain ⟨u', h3, h4⟩ := h x v h1 h2
      refine ⟨u', ?_, h4⟩
      by_cases hk : kd y = some .local
      · rw [if_pos hk]; exact h3
      · rw [if_neg hk, if_neg e]; exact h3
  | _ :: _, [], _, _, _, _, hl, _ => by simp at hl
theorem fn_code (hT : TabOk C T K) {name : Str} {params : Arguments} {body : List Stmt} {sc : Scope} {pm cd doc : Value} {a : Addr} {o : Obj} {ps : PS} (ho : C.base.get? a = some o) (hd : o.data = .func (docDef name params body sc pm cd doc)) (hc : C.base.CodeRec cd name)
    (hg : goodDef params sc = true) (htr : trS 60 (fun x => sc.names.lookup x) body = some ps)
    {vs : List V} {H : AHeap} {Q : VPost} {X : XPost} {ρ : List Addr} {s : Shared} {us : List Value} {A : Around} {E : Value → Shared → Prop} (h : fnSpec T (params.args.map (·.arg)) ps vs H Q X) (S : Sim C ρ H s) (hus : All2 (VR C ρ) vs us) (hA : AOk (K + 1) A) (hE : Takes C ρ s X E) :
    codeAny C.M A (.call (.ref a) ⟨us, []⟩) (fun r s' => match r with | .ok (.ret v) => PV C ρ s Q v s' | .ok _ => False | .error e => E e s') s := by
  obtain ⟨hlen, h⟩ := h
  unfold goodDef at hg
  simp only [Bool.and_eq_true, decide_eq_true_eq, beq_iff_eq, Bool.not_eq_true'] at hg
  obtain ⟨⟨⟨⟨⟨hpl, hnd⟩, hkind⟩, hco⟩, hgen⟩, hst⟩ := hg
  have hst : ∀ x ∈ params.args.map (·.arg), stored (fun x => sc.names.lookup x) x = true := List.all_eq_true.mp hst
  have hlu : (params.args.map (·.arg)).length = us.length := by rw [hlen, hus.length]
  have hget : s.heap.get? a = some o := S.stays _ _ ho
  have hroom : A.depth < recursionLimit := by have := hA.d; lia
  refine codeAny_call_cells (binds := (params.args.map (·.arg)).zip us) hroom hget hd (C.lim.keeps S.stays) (hc.keeps S.stays) rfl (bind_plain hpl hnd hlu) rfl (fun x hx => ?_) (fun s₁ hin => ?_) hco hgen hkind
  · have hx1 : x.1 ∈ params.args.map (·.arg) := (List.of_mem_zip (a := x.1) (b := x.2) hx).1
    rcases stored_iff (hst _ hx1) with hk | hk
    · exact .inl hk
    · right
      refine ⟨hk, ?_⟩
      obtain ⟨c, hc⟩ := cellsFrom_has sc.names (s.heap.objs.size + 1) [] x.1 (.inl (mem_of_lookup hk))
      show ((cellsFrom (s.heap.objs.size + 1) sc.names []).lookup x.1).isSome = true
      rw [hc]; rfl
  · generalize henv : callEnvC (docDef name params body sc pm cd doc) s.heap.objs.size a = env at hin ⊢
    have eS : env.scope = sc := by rw [← henv]; rfl
    have eK : env.kindOf = fun x => sc.names.lookup x := by unfold Env.kindOf; rw [eS]
    have eL : env.locals = s.heap.objs.size := by rw [← henv]; rfl
    have eG : env.globals = mainGlobals := by rw [← henv]; rfl
    have eB : env.builtins = builtinsNs := by rw [← henv]; rfl
    have eC : env.cells = cellsFrom (s.heap.objs.size + 1) sc.names [] := by rw [← henv]; rfl
    obtain ⟨⟨⟨h₁, tk, rfl⟩, hns, hkeep, hfr⟩, hcell, hapart, habove⟩ := hin
    have hLn : s.heap.get? env.locals = none := by rw [eL]; exact get_size _
    have hCn : ∀ x c, env.cells.lookup x = some c → s.heap.get? c = none := fun x c hc => by
      cases e : s.heap.get? c with
      | none => rfl
      | some o' =>
        have h1 := Heap.lt_size e
        have h2 := habove x c (mem_of_lookup hc)
        exact absurd (Nat.lt_trans (Nat.lt_of_le_of_lt hfr h2) h1) (Nat.lt_irrefl _)
    have hown : ∀ b, own env b → s.heap.get? b = none := fun b hb => by
      rcases hb with rfl | ⟨x, hx⟩
      · exact hLn
      · exact hCn x b hx
    obtain ⟨S1, st1⟩ := S.grow (h' := h₁) (tk := tk) hkeep
    have F1 : FR C env (sgOf (params.args.map (·.arg)) vs) ρ h₁ := by
      refine ⟨?_, by rw [eS]; exact hkind, eG, eB, ⟨_, hns, fun x v e1 e2 => ?_⟩, fun x c hc => ⟨_, hcell x c hc, fun v e1 e2 => ?_⟩, fun x hx => ?_, none_ρ S hLn, fun x c hc => ⟨none_ρ S (hCn x c hc), fun q => ?_⟩, fun x y c hx hy => name_of_addr hapart (mem_of_lookup hx) (mem_of_lookup hy), base_none S hLn, fun x c hc => base_none S (hCn x c hc)⟩
      · unfold sgOf
        rw [sets_out _ _ _ (by rw [map_fst_zip hlen]; exact fun q => stored_ne (hst _ q) rfl)]
      · exact bindL_ok _ vs us (fun _ => none) (fun _ => none) hus hlen (fun _ _ q => by cases q) x v e1 e2
      · exact bindC_ok _ vs us (fun _ => none) (fun _ => none) hus hlen (fun _ _ q => by cases q) x v e1 e2
      · rw [eC]
        rw [eK] at hx
        exact cellsFrom_has _ _ _ _ (.inl (mem_of_lookup hx))
      · have := habove x c (mem_of_lookup hc)
        rw [q] at this
        exact Nat.lt_irrefl _ this
    have hb : BlOk C T K env body ps := trS_ok (C := C) (T := T) (K := K) (env := env) hT 60 body ps (by rw [eK]; exact htr)
    refine wpAny_mono (hb F1 S1 (hA.deeper env) h fun e s' p => p.none.elim) (fun f s' hp => ?_) fun e s' p => p
    · obtain ⟨ρ', H', σ', fl, st2, S2, F2, hf, hq⟩ := hp
      have st : Step ρ s ρ' s' := by
        refine ⟨?_, fun b ob hb hx e => st2.keep b ob hb (fun q => by rw [hown b q] at e; cases e) (hkeep b ob e), fun b ob e => st2.live b ob (hkeep b ob e)⟩
        obtain ⟨l, e, f⟩ := st2.ext
        refine ⟨l, e, fun b hb => ?_⟩
        cases q : s.heap.get? b with
        | none => rfl
        | some ob => have := f b hb; rw [hkeep b ob q] at this; cases this
      cases fl with
      | next => cases hf; exact ⟨ρ', H', .none, st, S2, rfl, hq⟩
      | brk => exact hq.elim
      | ret v => obtain ⟨u, rfl, hv⟩ := hf; exact ⟨ρ', H', v, st, S2, hv, hq⟩
theorem fn_ok (hT : TabOk C T K) {name : Str} {params : Arguments} {body : List Stmt} {sc : Scope} {pm cd doc : Value} {a : Addr} {o : Obj} {ps : PS} (ho : C.base.get? a = some o) (hd : o.data = .func (docDef name params body sc pm cd doc)) (hc : C.base.CodeRec cd name)
    (hg : goodDef params sc = true) (htr : trS 60 (fun x => sc.names.lookup x) body = some ps) : CallOk C (K + 1) (fnSpec T (params.args.map (·.arg)) ps) (.ref a) :=
  fun vs H Q X h ρ s us A E S hus hA hE => wpAny_call (fn_code hT ho hd hc hg htr h S hus hA hE)
theorem CallOk.mono {sp : Spec} {u : Value} {K' : Nat} (h : CallOk C K sp u) (hk : K ≤ K') : CallOk C K' sp u := fun vs H Q X hs ρ s us A E S hu hA hE => h vs H Q X hs ρ s us A E S hu (hA.le hk) hE
theorem TabOk.mono {K' : Nat} (h : TabOk C T K) (hk : K ≤ K') : TabOk C T K' where
  gv := h.gv
  fn := fun g hg => by obtain ⟨u, a, b, c⟩ := h.fn g hg; exact ⟨u, a, b, c.mono hk⟩
  mt := fun kd m hm => by obtain ⟨f, a, b, c⟩ := h.mt kd m hm; exact ⟨f, a, b.mono hk, c⟩
  range := h.range
noncomputable def Tab.add (T : Tab) (f : Str) (sp : Spec) : Tab := { T with gv := fun g => if g = f then some (.glob f) else T.gv g, fn := fun g => if g = f then sp else T.fn g }
end
end Mine
end
section
namespace Mine
open PySem PySem.Calls PyProof.Rows
noncomputable def dg : Nat → Nat → List Nat
  | 0, _ => []
  | f + 1, n => if n = 0 then [] else (n % 128) :: dg f (n / 128)
noncomputable def undg : List Nat → Nat
  | [] => 0
  | d :: r => d + 128 * undg r
theorem undg_dg : ∀ (f n : Nat), n < 128 ^ f → undg (dg f n) = n
  | 0, n, h => by simp at h; subst h; rfl
  | f + 1, n, h => by
    unfold dg
    split
    · rename_i e; rw [e]; rfl
    · show n % 128 + 128 * undg (dg f (n / 128)) = n
      rw [undg_dg f (n / 128) (by rw [Nat.pow_succ] at h; lia)]
      lia
theorem dg_small : ∀ (f n : Nat), ∀ d ∈ dg f n, d < 128
  | 0, _, d, h => by cases h
  | f + 1, n, d, h => by
    unfold dg at h
    split at h
    · cases h
    · cases h with
      | head => lia
      | tail _ h => exact dg_small f _ d h
noncomputable def nm (n : Nat) : Str := if n < 128 ^ 40 then ⟨(dg 40 n).toArray⟩ else ⟨#[n]⟩
theorem nm_inj {a b : Nat} : nm a = nm b ↔ a = b := by
  refine ⟨fun h => ?_, fun h => h ▸ rfl⟩
  unfold nm at h
  have big : ∀ a b : Nat, ¬ b < 128 ^ 40 → ((⟨(dg 40 a).toArray⟩ : Str) = ⟨#[b]⟩) → False := fun a b hb h => by
    have h1 : (dg 40 a).toArray = #[b] := congrArg Str.cps h
    have h2 : dg 40 a = [b] := by simpa using congrArg Array.toList h1
    have := dg_small 40 a b (by rw [h2]; exact .head _)
    exact hb (Nat.lt_of_lt_of_le this (by decide))
  split at h <;> split at h
  · rename_i ha hb
    have h1 : (dg 40 a).toArray = (dg 40 b).toArray := congrArg Str.cps h
    have h2 : dg 40 a = dg 40 b := by simpa using congrArg Array.toList h1
    rw [← undg_dg 40 a ha, ← undg_dg 40 b hb, h2]
  · rename_i ha hb; exact (big a b hb h).elim
  · rename_i ha hb; exact (big b a ha h.symm).elim
  · have h1 : #[a] = #[b] := congrArg Str.cps h
    simpa using h1
theorem set_nm (σ : Sg) (a b : Nat) (v : V) : (σ.set (nm a) v) (nm b) = if b = a then some v else σ (nm b) := by
  unfold Sg.set
  by_cases h : b = a
  · rw [if_pos h, if_pos (by rw [h])]
  · rw [if_neg h, if_neg (fun q => h (nm_inj.mp q))]
noncomputable def spNo : Spec := fun _ _ _ _ => False
inductive LenA (H : AHeap) (Q : VPost) : List V → Prop
  | str {t : Txt} : Q (.int t.length) H → LenA H Q [.str t]
  | list {n : Nat} {xs : List V} : H[n]? = some (.list xs) → Q (.int xs.length) H → LenA H Q [.ref n]
  | tuple {n : Nat} {xs : List V} : H[n]? = some (.tuple xs) → Q (.int xs.length) H → LenA H Q [.ref n]
noncomputable def spLen : Spec := fun vs H Q _ => LenA H Q vs
inductive IsiA (H : AHeap) (Q : VPost) : List V → Prop
  | str {t : Txt} : Q (.bool true) H → IsiA H Q [.str t, .glob (nm 1882739)]
  | list {n : Nat} {xs : List V} : H[n]? = some (.list xs) → Q (.bool true) H → IsiA H Q [.ref n, .glob (nm 245167340)]
  | tuple {n : Nat} {xs : List V} : H[n]? = some (.tuple xs) → Q (.bool true) H → IsiA H Q [.ref n, .glob (nm 27340323572)]
  | dict {n ep : Nat} {es : List (Txt × V)} : H[n]? = some (.dict es ep) → Q (.bool true) H → IsiA H Q [.ref n, .glob (nm 244905188)]
  | int {i : Int} : Q (.bool true) H → IsiA H Q [.int i, .glob (nm 1914729)]
  | bool {i : Int} : Q (.bool false) H → IsiA H Q [.int i, .glob (nm 228325346)]
noncomputable def spIsi : Spec := fun vs H Q _ => IsiA H Q vs
noncomputable def spMin : Spec := fun vs H Q _ => ∃ a b : Int, vs = [.int a, .int b] ∧ Q (.int (if b < a then b else a)) H
noncomputable def spMax : Spec := fun vs H Q _ => ∃ a b : Int, vs = [.int a, .int b] ∧ Q (.int (if b > a then b else a)) H
noncomputable def spJoin : Spec := fun vs H Q _ => ∃ (n : Nat) (ts : List Txt), vs = [.str [], .ref n] ∧ H[n]? = some (.list (ts.map .str)) ∧ (ts.map List.length).sum + ts.length ≤ lid ∧ Q (.str ts.flatten) H
noncomputable def spAppend : Spec := fun vs H Q _ => ∃ (n : Nat) (v : V) (xs : List V), vs = [.ref n, v] ∧ n ≠ 0 ∧ H[n]? = some (.list xs) ∧ xs.length < lid ∧ Q .none (H.set n (.list (xs ++ [v])))
section
variable {C : Cx} {K : Nat}
theorem all2_one {ρ : List Addr} {a : V} {us : List Value} (h : All2 (VR C ρ) [a] us) : ∃ u, us = [u] ∧ VR C ρ a u := by
  cases h with
  | cons h r => cases r; exact ⟨_, rfl, h⟩
theorem all2_two {ρ : List Addr} {a b : V} {us : List Value} (h : All2 (VR C ρ) [a, b] us) : ∃ u w, us = [u, w] ∧ VR C ρ a u ∧ VR C ρ b w := by
  cases h with
  | cons h r => obtain ⟨w, rfl, hw⟩ := all2_one r; exact ⟨_, w, rfl, h, hw⟩
theorem all2_size {ρ : List Addr} {xs : List V} {us : Array Value} (h : All2 (VR C ρ) xs us.toList) : xs.length = us.size := by rw [h.length, Array.length_toList]
theorem lid63 {n : Nat} (h : n ≤ lid) : (n : Int) < 2 ^ 63 := by unfold lid at h; lia
theorem ok_len : CallOk C K spLen (.builtin "len") := by
  intro vs H Q X h ρ s us A E S hus hA hE
  cases h with
  | @str t hq =>
    obtain ⟨u, rfl, ok, tk, rfl⟩ := all2_one hus
    have e := str_len t
    refine len_str (by rw [e]; exact Int.not_le.mpr (lid63 (okT_iff.mp ok).1)) ?_
    rw [e]
    exact here S (vi _ _) hq
  | list e1 hq =>
    obtain ⟨u, rfl, hu⟩ := all2_one hus
    obtain ⟨a, rfl, ea, us, k, ho, hs, hl⟩ := S.lookup e1 hu
    have e := all2_size hs
    refine call_len_list ⟨_, ho, rfl, k, rfl⟩ (lid63 (e ▸ hl)) ?_
    rw [← e]
    exact here S (vi _ _) hq
  | tuple e1 hq =>
    obtain ⟨u, rfl, hu⟩ := all2_one hus
    obtain ⟨a, rfl, ea, us, k, ho, hs, hl⟩ := S.lookup e1 hu
    have e := all2_size hs
    refine len_tuple ⟨_, ho, rfl, k, rfl⟩ (lid63 (e ▸ hl)) ?_
    rw [← e]
    exact here S (vi _ _) hq
theorem ok_isi (h1 : C.G (nm 1882739) = some (.type "str")) (h2 : C.G (nm 245167340) = some (.type "list")) (h3 : C.G (nm 27340323572) = some (.type "tuple")) (h4 : C.G (nm 244905188) = some (.type "dict")) (h5 : C.G (nm 1914729) = some (.type "int")) (h6 : C.G (nm 228325346) = some (.type "bool")) : CallOk C K spIsi (.builtin "isinstance") := by
  intro vs H Q X h ρ s us A E S hus hA hE
  have ty : ∀ {g : Str} {w : Value} {t : String}, C.G g = some (.type t) → VR C ρ (.glob g) w → w = .type t := fun e h => Option.some.inj (h.symm.trans e)
  cases h with
  | str hq => obtain ⟨u, w, rfl, ⟨ok, tk, rfl⟩, hw⟩ := all2_two hus; cases ty h1 hw; exact IsiPair.str_str (here0 S (vb _) hq)
  | list e1 hq => obtain ⟨u, w, rfl, hu, hw⟩ := all2_two hus; cases ty h2 hw; obtain ⟨ad, rfl, ea, us, k, ho, _⟩ := S.lookup e1 hu; exact IsiPair.list_list ho rfl (here0 S (vb _) hq)
  | tuple e1 hq => obtain ⟨u, w, rfl, hu, hw⟩ := all2_two hus; cases ty h3 hw; obtain ⟨ad, rfl, ea, us, k, ho, _⟩ := S.lookup e1 hu; exact IsiPair.tuple_tuple ho rfl (here0 S (vb _) hq)
  | dict e1 hq => obtain ⟨u, w, rfl, hu, hw⟩ := all2_two hus; cases ty h4 hw; obtain ⟨ad, rfl, ea, us, ho, _⟩ := S.lookup e1 hu; exact IsiPair.dict_dict ho rfl (here0 S (vb _) hq)
  | int hq => obtain ⟨u, w, rfl, ⟨tk, rfl⟩, hw⟩ := all2_two hus; cases ty h5 hw; exact IsiPair.int_int (here0 S (vb _) hq)
  | bool hq => obtain ⟨u, w, rfl, ⟨tk, rfl⟩, hw⟩ := all2_two hus; cases ty h6 hw; exact IsiPair.int_bool (here S (vb _) hq)
theorem ok_min : CallOk C K spMin (.builtin "min") := by
  intro vs H Q X h ρ s us A E S hus hA hE
  obtain ⟨a, b, rfl, h⟩ := h
  obtain ⟨u, w, rfl, ⟨t, rfl⟩, ⟨t', rfl⟩⟩ := all2_two hus
  refine min_two_ints hA.h fun h' tk hk => ?_
  obtain ⟨S1, st1⟩ := S.grow (h' := h') (tk := tk) hk
  by_cases c : b < a
  · rw [if_pos c] at h ⊢; exact ⟨ρ, H, _, st1, S1, vi _ _, h⟩
  · rw [if_neg c] at h ⊢; exact ⟨ρ, H, _, st1, S1, vi _ _, h⟩
theorem ok_max : CallOk C K spMax (.builtin "max") := by
  intro vs H Q X h ρ s us A E S hus hA hE
  obtain ⟨a, b, rfl, h⟩ := h
  obtain ⟨u, w, rfl, ⟨t, rfl⟩, ⟨t', rfl⟩⟩ := all2_two hus
  refine max_two_ints hA.h fun h' tk hk => ?_
  obtain ⟨S1, st1⟩ := S.grow (h' := h') (tk := tk) hk
  by_cases c : b > a
  · rw [if_pos c] at h ⊢; exact ⟨ρ, H, _, st1, S1, vi _ _, h⟩
  · rw [if_neg c] at h ⊢; exact ⟨ρ, H, _, st1, S1, vi _ _, h⟩
theorem txts_are {ρ : List Addr} : ∀ {ts : List Txt} {us : List Value}, All2 (VR C ρ) (ts.map .str) us → StrsAre us (ts.map fun t => ⟨t.toArray⟩) ∧ ∀ t ∈ ts, okT t = true
  | [], _, .nil => ⟨.nil, fun _ h => nomatch h⟩
  | t :: ts, _, .cons ⟨ok, tk, e⟩ hr => by
    cases e
    obtain ⟨h1, h2⟩ := txts_are hr
    exact ⟨.cons _ _ h1, List.forall_mem_cons.mpr ⟨ok, h2⟩⟩
theorem join_flat : ∀ (ts : List Txt), Str.join ⟨#[]⟩ (ts.map fun t => ⟨t.toArray⟩) = ⟨ts.flatten.toArray⟩
  | [] => rfl
  | [t] => by rw [List.flatten_cons, List.flatten_nil, List.append_nil]; rfl
  | t :: u :: r => by
    have ih := join_flat (u :: r)
    rw [List.map_cons, List.map_cons]
    show (⟨t.toArray⟩ : Str) ++ ⟨#[]⟩ ++ Str.join ⟨#[]⟩ ((⟨u.toArray⟩ : Str) :: r.map fun t => ⟨t.toArray⟩) = _
    rw [← List.map_cons (f := fun t : Txt => (⟨t.toArray⟩ : Str)), ih]
    show (⟨t.toArray ++ #[] ++ (u :: r).flatten.toArray⟩ : Str) = _
    rw [Array.append_empty, List.append_toArray]; rfl
theorem okT_flat {ts : List Txt} (h : ∀ t ∈ ts, okT t = true) (hl : (ts.map List.length).sum ≤ lid) : okT ts.flatten = true := by
  rw [okT_iff]
  refine ⟨by rw [List.length_flatten]; exact hl, fun c hc => ?_⟩
  obtain ⟨t, ht, hc⟩ := List.mem_flatten.mp hc
  exact (okT_iff.mp (h t ht)).2 c hc
theorem ok_join : CallOk C K spJoin (.builtin "str.join") := by
  intro vs H Q X h ρ s us A E S hus hA hE
  obtain ⟨n, ts, rfl, e1, hl, hq⟩ := h
  obtain ⟨u, w, rfl, ⟨ok, tk, rfl⟩, hw⟩ := all2_two hus
  obtain ⟨a, rfl, ea, us, k, ho, hs, _⟩ := S.lookup e1 hw
  obtain ⟨h1, h2⟩ := txts_are hs
  have hl' := Nat.le_trans (Nat.le_add_right _ _) hl
  have hlen : ((ts.map fun t => (⟨t.toArray⟩ : Str)).map (·.length)).sum = (ts.map List.length).sum := by
    rw [List.map_map]
    congr 1
  refine join_list (ys := ts.map fun t => ⟨t.toArray⟩) ⟨_, ho, rfl, k, rfl⟩ h1 ?_ fun t' k' => ?_
  · rw [hlen]
    exact lid_le hl'
  · have e : PySem.Txt.join (⟨([] : Mine.Txt).toArray⟩ : Str) (ts.map fun t => ⟨t.toArray⟩) = ⟨ts.flatten.toArray⟩ := (StrLaws.glued_eq_join _ _).trans (join_flat ts)
    rw [e]
    exact here S (vt (okT_flat h2 hl') _) hq
theorem ok_append : CallOk C K spAppend (.builtin "list.append") := by
  intro vs H Q X h ρ s us A E S hus hA hE
  obtain ⟨n, v, xs, rfl, hn, e1, hl, hq⟩ := h
  obtain ⟨u, w, rfl, hu, hw⟩ := all2_two hus
  obtain ⟨a, rfl, ea, us, k, ho, hs, _⟩ := S.lookup e1 hu
  have e := all2_size hs
  refine wpAny_list_append_plain ⟨k, ho⟩ (fun h' ⟨k', ho'⟩ hsb => ?_) (by rw [← e]; exact lid_le (Nat.le_of_lt hl))
  obtain ⟨S1, st1⟩ := S.change (h' := h') (tk := s.toks) (o := .list (xs ++ [v])) hn ea (fun b x hb e => hsb.extBut b x hb e) ⟨_, k', ho', by rw [Array.toList_push]; exact hs.append (.cons hw .nil), by rw [List.length_append]; exact hl⟩
  exact ⟨ρ, _, .none, st1, S1, rfl, hq⟩
end
end Mine
end
section
namespace Mine
open PySem PySem.Calls PyProof.Rows
noncomputable def T0 : Tab where
  gv := fun _ => none
  fn := fun _ => spNo
  has := fun _ _ => false
  mt := fun _ _ => spNo
noncomputable def Tab.val (T : Tab) (f : Str) (v : V) : Tab := { T with gv := fun g => if g = f then some v else T.gv g }
noncomputable def Tab.meth (T : Tab) (k : MK) (m : Str) (sp : Spec) : Tab := { T with has := fun kd x => if kd = k ∧ x = m then true else T.has kd x, mt := fun kd x => if kd = k ∧ x = m then sp else T.mt kd x }
noncomputable def Ct (T : Tab) (xs : List Str) (ps : PS) (sp : Spec) : Prop := ∀ vs H Q X, sp vs H Q X → fnSpec T xs ps vs H Q X
structure Has (T : Tab) (f : Str) (sp : Spec) : Prop where
  gv : T.gv f = some (.glob f)
  fn : T.fn f = sp
structure HasM (T : Tab) (k : MK) (m : Str) (sp : Spec) : Prop where
  has : T.has k m = true
  mt : T.mt k m = sp
noncomputable def DefAt (C : Cx) (f : Str) (xs : List Str) (ps : PS) : Prop :=
  ∃ a o name params body sc pm cd doc, C.G f = some (.ref a) ∧ C.base.get? a = some o ∧ o.data = .func (docDef name params body sc pm cd doc) ∧ C.base.CodeRec cd name ∧ goodDef params sc = true ∧ trS 60 (fun x => sc.names.lookup x) body = some ps ∧ params.args.map (·.arg) = xs
section
variable {C : Cx} {T : Tab} {K : Nat}
theorem CallOk.weak {sp sp' : Spec} {u : Value} (h : CallOk C K sp u) (hw : ∀ vs H Q X, sp' vs H Q X → sp vs H Q X) : CallOk C K sp' u := fun vs H Q X hs ρ s us A E S hu hA hE => h vs H Q X (hw _ _ _ _ hs) ρ s us A E S hu hA hE
theorem TabOk.base (h3 : C.G (Str.ofString "range") = some (.type "range")) (h4 : C.G (Str.ofString "reversed") = some (.type "reversed")) (h5 : C.G (Str.ofString "enumerate") = some (.type "enumerate")) : TabOk C T0 0 where
  gv := fun _ _ h => by cases h
  fn := fun _ ⟨_, _, _, _, h⟩ => h.elim
  mt := fun _ _ h => by cases h
  range := h3
theorem TabOk.addB (h : TabOk C T K) {f : Str} {sp : Spec} {u : Value} (hu : C.G f = some u) (hc : Callee C u) (hok : CallOk C K sp u) : TabOk C (T.add f sp) K where
  gv := fun g v hg => by
    unfold Tab.add at hg
    dsimp only at hg
    split at hg
    · rename_i e
      cases hg
      exact ⟨u, e ▸ hu, fun ρ => hu⟩
    · exact h.gv g v hg
  fn := fun g hg => by
    unfold Tab.add at hg ⊢
    dsimp only at hg ⊢
    by_cases e : g = f
    · subst e
      exact ⟨u, hu, hc, by simpa using hok⟩
    · simp only [if_neg e] at hg ⊢
      exact h.fn g hg
  mt := h.mt
  range := h.range
theorem TabOk.addF (h : TabOk C T K) {f : Str} {xs : List Str} {ps : PS} {sp : Spec} (hd : DefAt C f xs ps) (hc : Ct T xs ps sp) : TabOk C (T.add f sp) (K + 1) := by
  obtain ⟨a, o, name, params, body, sc, pm, cd, doc, h1, h2, h3, h4, h5, h6, rfl⟩ := hd
  exact (h.mono (Nat.le_succ K)).addB h1 (.inr (.inr ⟨a, o, _, rfl, h2, h3⟩)) ((fn_ok h h2 h3 h4 h5 h6).weak hc)
theorem TabOk.val (h : TabOk C T K) {f : Str} {v : V} {u : Value} (hu : C.G f = some u) (hv : ∀ ρ, VR C ρ v u) : TabOk C (T.val f v) K where
  gv := fun g w hg => by
    unfold Tab.val at hg
    dsimp only at hg
    split at hg
    · rename_i e
      cases hg
      exact ⟨u, e ▸ hu, hv⟩
    · exact h.gv g w hg
  fn := h.fn
  mt := h.mt
  range := h.range
theorem TabOk.meth (h : TabOk C T K) {k : MK} {m : Str} {sp : Spec} {id : String} (hok : CallOk C K sp (.builtin id))
    (hg : ∀ v H ρ s u pl A (Q : Value × List Value → Shared → Prop) E, kindA v H = some k → Sim C ρ H s → VR C ρ v u → (∀ t, Q (.builtin id, [u]) { s with toks := t }) → wpAny C.M A (getMethod u m pl) Q E s) : TabOk C (T.meth k m sp) K where
  gv := h.gv
  fn := h.fn
  mt := fun kd x hx => by
    unfold Tab.meth at hx ⊢
    dsimp only at hx ⊢
    by_cases e : kd = k ∧ x = m
    · obtain ⟨rfl, rfl⟩ := e
      refine ⟨.builtin id, .inl ⟨id, rfl⟩, by simpa using hok, hg⟩
    · simp only [if_neg e] at hx ⊢
      exact h.mt kd x hx
  range := h.range
theorem kind_str {v : V} {H : AHeap} (h : kindA v H = some .str) : ∃ t, v = .str t := by
  unfold kindA at h
  split at h
  · exact ⟨_, rfl⟩
  · split at h <;> cases h
  · cases h
theorem kind_list {v : V} {H : AHeap} (h : kindA v H = some .list) : ∃ n xs, v = .ref n ∧ H[n]? = some (.list xs) := by
  unfold kindA at h
  split at h
  · cases h
  · split at h
    · exact ⟨_, _, rfl, by assumption⟩
    all_goals cases h
  · cases h
theorem kind_dict {v : V} {H : AHeap} (h : kindA v H = some .dict) : ∃ n es ep, v = .ref n ∧ H[n]? = some (.dict es ep) := by
  unfold kindA at h
  split at h
  · cases h
  · split at h
    · cases h
    · exact ⟨_, _, _, rfl, by assumption⟩
    all_goals cases h
  · cases h
theorem get_join : ∀ v H ρ s u pl A (Q : Value × List Value → Shared → Prop) E, kindA v H = some .str → Sim C ρ H s → VR C ρ v u → (∀ t, Q (.builtin "str.join", [u]) { s with toks := t }) → wpAny C.M A (getMethod u (nm 232421354) pl) Q E s := by
  intro v H ρ s u pl A Q E hk S hv h
  obtain ⟨t, rfl⟩ := kind_str hk
  obtain ⟨ok, tk, rfl⟩ := hv
  have e : nm 232421354 = Str.ofString "join" := by decide +kernel
  rw [e]
  exact GM.join (h s.toks)
theorem get_append : ∀ v H ρ s u pl A (Q : Value × List Value → Shared → Prop) E, kindA v H = some .list → Sim C ρ H s → VR C ρ v u → (∀ t, Q (.builtin "list.append", [u]) { s with toks := t }) → wpAny C.M A (getMethod u (nm 3465715398753) pl) Q E s := by
  intro v H ρ s u pl A Q E hk S hv h
  obtain ⟨n, xs, rfl, e1⟩ := kind_list hk
  obtain ⟨a, rfl, ea, us, k, ho, _⟩ := S.lookup e1 hv
  have e : nm 3465715398753 = Str.ofString "append" := by decide +kernel
  rw [e]
  exact getMethod_list_append ho rfl rfl (h s.toks)
noncomputable def biL : List (Str × Value) := [(nm 1815276, .builtin "len"), (nm 938756632654307293673, .builtin "isinstance"), (nm 1815789, .builtin "min"), (nm 1978605, .builtin "max"), (nm 1800947, .builtin "sum"), (nm 1783393, .builtin "all"),
  (nm 3463330969587, .builtin "sorted"), (nm 27329802482, .type "range"), (nm 56743180225065714, .type "reversed"), (nm 7343549747291846501, .type "enumerate"), (nm 244905188, .type "dict"), (nm 245167340, .type "list"), (nm 27340323572, .type "tuple"),
  (nm 1914729, .type "int"), (nm 1882739, .type "str"), (nm 228325346, .type "bool")]
end
end Mine
end
section
namespace Mine
open PySem
section
variable {H : AHeap} {Q : VPost} {X : XPost} {q : Bool → Prop}
theorem cut_zero {α : Type} (xs : List α) (j : Nat) : cut xs 0 j = xs.take j := rfl
theorem cut_all {α : Type} (xs : List α) (i : Nat) : cut xs i xs.length = xs.drop i := by unfold cut; rw [List.take_length]
theorem clip_int (n : Nat) {k : Int} (h : 0 ≤ k) : clipAt n k = min k.toNat n := by
  obtain ⟨m, rfl⟩ := Int.eq_ofNat_of_zero_le h; exact clipAt_nat n m
theorem take_clip {α : Type} (xs : List α) {k : Int} (h : 0 ≤ k) : xs.take (clipAt xs.length k) = xs.take k.toNat := by rw [clip_int _ h, List.take_eq_take_iff, Nat.min_assoc, Nat.min_self]
theorem drop_clip {α : Type} (xs : List α) {k : Int} (h : 0 ≤ k) : xs.drop (clipAt xs.length k) = xs.drop k.toNat := by
  rw [clip_int _ h]
  rcases Nat.le_total k.toNat xs.length with h | h
  · rw [Nat.min_eq_left h]
  · rw [Nat.min_eq_right h, List.drop_of_length_le h, List.drop_of_length_le (Nat.le_refl _)]
theorem beq_dec {α : Type} [BEq α] [LawfulBEq α] [DecidableEq α] (a b : α) : (a == b) = decide (a = b) := by rw [Bool.eq_iff_iff]; simp
theorem str_beq (a b : Txt) : PyData.eqv (.str ⟨a.toArray⟩) (.str ⟨b.toArray⟩) = decide (a = b) := by
  show ((⟨a.toArray⟩ : Str) == ⟨b.toArray⟩) = _
  rw [beq_dec, decide_eq_decide]
  exact ⟨fun h => List.toArray_inj (congrArg Str.cps h), fun h => by rw [h]⟩
theorem int_beq (a b : Int) : PyData.eqv (.int a) (.int b) = decide (a = b) := beq_dec a b
theorem bind_tup {ys : List Str} {n : Nat} {vs : List V} {σ : Sg} (h : H[n]? = some (.tuple vs)) (hl : ys.length = vs.length) : bindA (.tup ys) (.one (.ref n)) H σ = some (σ.sets (ys.zip vs)) := by
  unfold bindA; dsimp only; rw [h]; dsimp only; rw [if_pos hl]
theorem intsFrom_len (a : Int) (n : Nat) : (intsFrom a n).length = n := by unfold intsFrom; simp
theorem intsFrom_mem {a i : Int} {n : Nat} (h : i ∈ intsFrom a n) : a ≤ i ∧ i < a + n := by
  unfold intsFrom at h
  simp only [List.mem_map, List.mem_range] at h
  obtain ⟨k, hk, rfl⟩ := h
  lia
theorem st_any {n : Nat} {xs : List V} {k : Int} {p : V → Prop} (h : H[n]? = some (.list xs)) (h0 : 0 ≤ k) (h1 : k < xs.length) (hp : ∀ v ∈ xs, p v) : subA (.ref n) (.int k) H p :=
  have hk : k.toNat < xs.length := (Int.toNat_lt h0).mpr h1
  .list h (.pos h0 h1) (List.getElem?_eq_getElem hk) (hp _ (List.getElem_mem _))
theorem rd_list {a n : Nat} {xs : List V} (h : H[a]? = some (.list xs)) : rd H (n + 1) (.ref a) = (rdL (rd H n) xs).map .list := by show H[a]?.bind _ = _; rw [h]; rfl
theorem get_new {o : AObj} : (H ++ [o])[H.length]? = some o := by simp
end
structure Keep (H H' : AHeap) : Prop where
  le : H.length ≤ H'.length
  old : ∀ i, i < H.length → H'[i]? = H[i]?
theorem Keep.refl (H : AHeap) : Keep H H := ⟨Nat.le_refl _, fun _ _ => rfl⟩
theorem Keep.trans {H H1 H2 : AHeap} (a : Keep H H1) (b : Keep H1 H2) : Keep H H2 := ⟨Nat.le_trans a.le b.le, fun i h => (b.old i (Nat.lt_of_lt_of_le h a.le)).trans (a.old i h)⟩
theorem Keep.new (H : AHeap) (G : List AObj) : Keep H (H ++ G) := ⟨by simp, fun i h => List.getElem?_append_left h⟩
theorem Keep.get {H H' : AHeap} (k : Keep H H') {n : Nat} {o : AObj} (h : H[n]? = some o) : H'[n]? = some o := (k.old n (List.getElem?_eq_some_iff.mp h).1).trans h
theorem Keep.set {H H' : AHeap} (k : Keep H H') {n : Nat} {o : AObj} (h : H.length ≤ n) : Keep H (H'.set n o) := ⟨by simpa using k.le, fun i hi => by rw [List.getElem?_set_ne (by lia)]; exact k.old i hi⟩
theorem lt_of_get {H : AHeap} {n : Nat} {o : AObj} (h : H[n]? = some o) : n < H.length := (List.getElem?_eq_some_iff.mp h).1
theorem comp_map {K : AHeap → Prop} {bind : Item → AHeap → Option Sg} {elt : Sg → AHeap → VPost → Prop} {Q : List V → AHeap → Prop} {P : Item → V → Prop} : ∀ (items : List Item) (acc : List V) (H : AHeap),
    (∀ H', Keep H H' → K H') →
    (∀ x ∈ items, ∀ H', Keep H H' → ∃ σ, bind x H' = some σ ∧ ∀ q : VPost, (∀ v H'', P x v → Keep H' H'' → q v H'') → elt σ H' q) →
    (∀ vs H', All2 P items vs → Keep H H' → Q (acc ++ vs) H') → compGo K bind (fun _ H' q => q true H') elt Q items acc H
  | [], acc, H, hK, _, hQ => ⟨hK H (Keep.refl H), by simpa using hQ [] H .nil (Keep.refl H)⟩
  | x :: xs, acc, H, hK, hx, hQ => by
    obtain ⟨σ, hb, he⟩ := hx x (.head _) H (Keep.refl H)
    refine ⟨hK H (Keep.refl H), ?_⟩
    rw [hb]
    dsimp only
    rw [if_pos rfl]
    refine he _ fun v H1 hv k1 => ?_
    refine comp_map xs (acc ++ [v]) H1 (fun H' k => hK H' (k1.trans k)) (fun y hy H' k => hx y (.tail _ hy) H' (k1.trans k)) fun vs H' hvs k => ?_
    have := hQ (v :: vs) H' (.cons hv hvs) (k1.trans k)
    simpa using this
noncomputable def spLaw : Spec := fun vs H Q _ => vs = [.ref 0] ∧ (∃ is : List Int, H[0]? = some (.list (is.map .int))) ∧ ∀ H', Q (.bool true) H'
theorem while_ind {test : Sg → AHeap → (Bool → AHeap → Prop) → Prop} {body : Sg → AHeap → SPost → Prop} {Q : SPost} (I : Nat → Sg → AHeap → Prop)
    (step : ∀ n σ H, I n σ H → ∀ W : Sg → AHeap → Prop, (∀ m σ H, n = m + 1 → I m σ H → W σ H) →
      test σ H fun b H1 => if b then body σ H1 fun fl σ2 H2 => match fl with
        | .next => W σ2 H2
        | .brk => Q .next σ2 H2
        | .ret v => Q (.ret v) σ2 H2
      else Q .next σ H1) : ∀ n σ H, I n σ H → whileGo test body Q (n + 1) σ H
  | 0, σ, H, h => step 0 σ H h (whileGo test body Q 0) fun m _ _ e => by cases e
  | n + 1, σ, H, h => step (n + 1) σ H h (whileGo test body Q (n + 1)) fun m σ' H' e hi => by cases e; exact while_ind I step n σ' H' hi
theorem for_ind {K : AHeap → Prop} {bind : Item → AHeap → Sg → Option Sg} {body : Sg → AHeap → SPost → Prop} {Q : SPost} (I : List Item → Sg → AHeap → Prop)
    (step : ∀ x xs σ H, I (x :: xs) σ H → K H ∧ ∃ σ', bind x H σ = some σ' ∧ ∀ W : Sg → AHeap → Prop, (∀ σ2 H2, I xs σ2 H2 → W σ2 H2) → body σ' H fun fl σ2 H2 => match fl with
        | .next => W σ2 H2
        | .brk => Q .next σ2 H2
        | .ret v => Q (.ret v) σ2 H2)
    (fin : ∀ σ H, I [] σ H → K H ∧ Q .next σ H) : ∀ items σ H, I items σ H → forGo K bind body Q items σ H
  | [], σ, H, h => fin σ H h
  | x :: xs, σ, H, h => by
    obtain ⟨hK, σ', hb, hs⟩ := step x xs σ H h
    refine ⟨hK, ?_⟩
    rw [hb]
    exact hs (forGo K bind body Q xs) fun σ2 H2 h2 => for_ind I step fin xs σ2 H2 h2
end Mine
end
section
namespace Mine
open PySem PySem.Calls PyProof.Rows
noncomputable def spList : Spec := fun vs H Q _ => ∃ (n : Nat) (xs : List V), vs = [.ref n] ∧ H[n]? = some (.list xs) ∧ Q (.ref H.length) (H ++ [.list xs])
noncomputable def spAll : Spec := fun vs H Q _ => ∃ (n : Nat) (bs : List Bool), vs = [.ref n] ∧ H[n]? = some (.list (bs.map .bool)) ∧ Q (.bool (bs.all id)) H
section
variable {C : Cx} {K : Nat}
theorem ok_list_call : CallOk C K spList (.type "list") := by
  intro vs H Q X h ρ s us A E S hus hA hE
  obtain ⟨n, xs, rfl, e1, h⟩ := h
  obtain ⟨u, rfl, hu⟩ := all2_one hus
  obtain ⟨a, rfl, ea, us, k, ho, hs, hl⟩ := S.lookup e1 hu
  refine call_list_seq a (.inl rfl) ho rfl rfl (fun h' c' hk hD => ?_) (lid_le (all2_size hs ▸ hl))
  obtain ⟨S1, st1, v1⟩ := S.alloc (h' := h') (tk := s.toks) (a := s.heap.objs.size) (o := .list xs) hk (get_size _) S.size_ne ⟨us, c', hD, hs, hl⟩
  exact ⟨_, _, _, st1, S1, v1, h⟩
theorem bools_at {ρ : List Addr} : ∀ {bs : List Bool} {us : List Value}, All2 (VR C ρ) (bs.map .bool) us → us = bs.map Value.bool
  | [], _, .nil => rfl
  | _ :: _, _, .cons e r => by cases e; rw [bools_at r]; rfl
theorem ok_all : CallOk C K spAll (.builtin "all") := by
  intro vs H Q X h ρ s us A E S hus hA hE
  obtain ⟨n, bs, rfl, e1, h⟩ := h
  obtain ⟨u, rfl, hu⟩ := all2_one hus
  obtain ⟨a, rfl, ea, us, k, ho, hs, hl⟩ := S.lookup e1 hu
  have hus := bools_at hs
  have hL : s.heap.IsList a us := ⟨_, ho, rfl, k, rfl⟩
  have hlt : a < s.heap.objs.size := Heap.lt_size ho
  refine call_all_walk (wpAny_pyIter_list hL ?_)
  refine ⟨_, _, _, _, _, _, fun i => (bs[i]?).getD true, rfl, Walks.list (A := A.in1) hA.h _ a (Nat.ne_of_lt hlt) us, ⟨⟨_, Heap.get?_push_size _ rfl, rfl, rfl⟩, hL.push _⟩, ?_, fun h' tk hk => ?_⟩
  · intro i v s' Q' E' hP hQ
    have h1 : us.toList[i]? = some v := by rw [Array.getElem?_toList]; exact hP
    rw [hus, List.getElem?_map] at h1
    cases e : bs[i]? with
    | none => rw [e] at h1; cases h1
    | some b =>
      dsimp only at hQ
      rw [e] at h1 hQ
      cases h1
      exact wpAny_truthy_bool hQ
  · have hlen : us.size = bs.length := by rw [← Array.length_toList, hus]; simp
    have e2 : (List.range us.size).all (fun i => (bs[i]?).getD true) = bs.all id := by
      rw [hlen, Bool.eq_iff_iff, List.all_eq_true, List.all_eq_true]
      constructor
      · intro hh b hb'
        obtain ⟨i, hi, rfl⟩ := List.getElem_of_mem hb'
        have := hh i (by simpa using hi)
        rw [List.getElem?_eq_getElem hi] at this
        exact this
      · intro hh i hi
        have hi : i < bs.length := by simpa using hi
        rw [List.getElem?_eq_getElem hi]
        exact hh _ (List.getElem_mem _)
    rw [e2]
    obtain ⟨S1, st1⟩ := S.grow (h' := h') (tk := tk) (fun b o e => hk b o (by simp; exact Nat.ne_of_lt (Heap.lt_size e)) (Heap.get?_push_of_some _ e))
    exact ⟨ρ, H, _, st1, S1, vb _, h⟩
end
end Mine
end
section
namespace Mine
open PySem PySem.Calls PyProof.Rows PySem.W
noncomputable def gOf (mg mb : Str → Option Value) : Str → Option Value := fun x => match mg x with
  | some .none => none
  | some v => some v
  | none => (match mb x with
    | some .none => none
    | r => r)
theorem gOf_none {mg mb : Str → Option Value} (x : Str) : gOf mg mb x ≠ some .none := by
  unfold gOf
  cases mg x with
  | none =>
    dsimp only
    cases mb x with
    | none => exact fun h => nomatch h
    | some v => cases v <;> exact fun h => nomatch h
  | some v => cases v <;> exact fun h => nomatch h
theorem gOf_is {mg mb : Str → Option Value} (x : Str) (v : Value) (h : gOf mg mb x = some v) : mg x = some v ∨ (mg x = none ∧ mb x = some v) := by
  unfold gOf at h
  cases e : mg x with
  | none =>
    rw [e] at h
    dsimp only at h
    right
    refine ⟨rfl, ?_⟩
    cases e2 : mb x with
    | none => rw [e2] at h; cases h
    | some u => rw [e2] at h; cases u <;> first | exact h | cases h
  | some u =>
    rw [e] at h
    left
    cases u <;> first | exact h | cases h
noncomputable def cxOf (prog : Program) (w : World) (s : Shared) {p : Program} {loose : List Str} {mean : ExcName → Option Value} {mg mb : Str → Option Value} (T : Top p loose mean mg mb s.heap) : Cx where
  prog := prog
  w := w
  base := s.heap
  os := s.os
  G := gOf mg mb
  mg := mg
  mb := mb
  hg := T.g
  hb := T.b
  lim := T.nolimit
  hN := gOf_none
  hG := gOf_is
noncomputable def chk (ds : List DefRec) (f : Str) : Option (List Str × PS) := match ds.find? (fun d => d.name == f) with
  | some d => if goodDef d.params d.scope then (trS 60 (fun x => d.scope.names.lookup x) d.body).map fun ps => (d.params.args.map (·.arg), ps) else none
  | none => none
section
variable {prog : Program} {w : World} {s : Shared} {p : Program} {loose : List Str} {mean : ExcName → Option Value} {mg mb : Str → Option Value} (T : Top p loose mean mg mb s.heap)
theorem defAt_of {f : Str} {xs : List Str} {ps : PS} (h : chk (recsOf p) f = some (xs, ps)) : DefAt (cxOf prog w s T) f xs ps ∧ ∃ a, mg f = some (.ref a) := by
  unfold chk at h
  split at h
  · rename_i d hd
    split at h
    · rename_i hg
      cases ht : trS 60 (fun x => d.scope.names.lookup x) d.body with
      | none => rw [ht] at h; cases h
      | some ps' =>
        rw [ht] at h
        cases h
        have hn : d.name = f := beq_iff_eq.mp (List.find?_some (p := fun e : DefRec => e.name == f) hd)
        obtain ⟨a, o, pm, code, doc, h1, h2, h3, h4⟩ := T.fn d (List.mem_of_find?_eq_some hd)
        rw [hn] at h1
        refine ⟨⟨a, o, d.name, d.params, d.body, d.scope, pm, code, doc, ?_, h2, h3, h4, hg, ht, rfl⟩, a, h1⟩
        show gOf mg mb f = some (.ref a)
        unfold gOf
        rw [h1]
    · cases h
  · cases h
theorem boot_bi : ∀ p ∈ biL, bootBuiltins p.1 = some p.2 := by
  intro p hp
  simp only [biL, List.mem_cons, List.not_mem_nil, or_false] at hp
  rcases hp with rfl | rfl | rfl | rfl | rfl | rfl | rfl | rfl | rfl | rfl | rfl | rfl | rfl | rfl | rfl | rfl <;> kernel_rfl
noncomputable def freeOf (p : Program) (loose : List Str) (x : Str) : Bool := !startupNames.contains x && !loose.contains x && !((recsOf p).map (·.name)).contains x && !((litsOf p).map (·.1)).contains x && !((clssOf p loose).map (·.name)).contains x && x != Str.ofString "__name__"
theorem bi_of (h : (biL.all fun q => freeOf p loose q.1) = true) : ∀ q ∈ biL, (cxOf prog w s T).G q.1 = some q.2 := by
  intro q hq
  have hf := List.all_eq_true.mp h q hq
  unfold freeOf at hf
  simp only [Bool.and_eq_true, Bool.not_eq_true', List.contains_eq_mem, decide_eq_false_iff_not, bne_iff_ne] at hf
  obtain ⟨⟨⟨⟨⟨h1, h2⟩, h3⟩, h4⟩, h5⟩, h6⟩ := hf
  have hm := T.free q.1 h1 h2 h3 h4 h5
  have hb := (T.builtins q.1 h6).trans (boot_bi q hq)
  show gOf mg mb q.1 = some q.2
  unfold gOf
  rw [hm, hb]
  simp only [biL, List.mem_cons, List.not_mem_nil, or_false] at hq
  rcases hq with rfl | rfl | rfl | rfl | rfl | rfl | rfl | rfl | rfl | rfl | rfl | rfl | rfl | rfl | rfl | rfl <;> rfl
theorem ints_vr {C : Cx} {ρ : List Addr} : ∀ {vs : List Value} {ns : List Int}, IntsAre vs ns → All2 (VR C ρ) (ns.map .int) vs
  | _, _, .nil => .nil
  | _, _, .cons i t h => .cons ⟨t, rfl⟩ (ints_vr h)
theorem start_sim {l : Addr} {vs : List Value} {ns : List Int} {P : Params} (hw : Well P s.heap (.ref l) (ofPy (.list (ns.map .int)))) (hL : s.heap.IsList l vs.toArray) (hI : IntsAre vs ns) (hlen : ns.length ≤ 63) (hl : l ≠ sysModules) (hg : s.gens = #[]) :
    Sim (cxOf prog w s T) [l] [.list (ns.map .int)] s := by
  refine ⟨rfl, by simp, fun i a o e q => ?_, fun b o e => e, fun i a e hi => ?_, by simpa using Ne.symm hl, hg, rfl⟩
  · cases i with
    | zero =>
      simp at e q
      subst e q
      cases hw with
      | list ho _ =>
        obtain ⟨o', ho', _, n, hd⟩ := hL
        rw [ho] at ho'
        cases ho'
        simp only at hd
        injection hd with e1 e2
        refine ⟨_, _, ho, ?_, by simpa [lid] using Nat.le_trans hlen (by decide)⟩
        rw [e1]
        exact ints_vr hI
    | succ i => cases e
  · cases i with
    | zero => exact absurd rfl hi
    | succ i => cases e
theorem end_good {prog : Program} {c : ClaimW} {cl : Str → Option Addr} {mean' : ExcName → Option Value} {args : List WData} {ρ : List Addr} {u : Value} {s' : Shared} (hr : ∀ cls, c.raises args cls = false) (hp : c.post args (.bool true) args = true)
    (h : PV (cxOf prog w s T) ρ s (fun v _ => v = .bool true) u s') : GoodW c cl mean' args s (.ok (.ret u)) s' := by
  obtain ⟨ρ', H', v, st, S, hv, rfl⟩ := h
  have hv : u = .bool true := hv
  subst hv
  exact ⟨.inl ⟨_, .bool true, [], rfl, hr, .bool true, hp, fun _ => ⟨by simp, fun a ha => by cases ha⟩⟩, fun b o e => S.stays b o e, S.os, S.gens⟩
theorem law_done {prog : Program} {Tb : Tab} {K : Nat} {f : Str} {xs : List Str} {ps : PS} {fa l : Addr} {vs : List Value} {ns : List Int} {P : Params} {c : ClaimW} {cl : Str → Option Addr} {mean' : ExcName → Option Value} {args : List WData}
    (hT : TabOk (cxOf prog w s T) Tb K) (hK : K ≤ 200) (hd : chk (recsOf p) f = some (xs, ps)) (hct : Ct Tb xs ps spLaw) (hmg : mg f = some (.ref fa))
    (hw : Well P s.heap (.ref l) (ofPy (.list (ns.map .int)))) (hL : s.heap.IsList l vs.toArray) (hI : IntsAre vs ns) (hlen : ns.length ≤ 63) (hl : l ≠ sysModules) (hg : s.gens = #[])
    (hr : ∀ cls, c.raises args cls = false) (hp : c.post args (.bool true) args = true) : codeAny (model prog w) callerA (.call (.ref fa) ⟨[.ref l], []⟩) (GoodWG c cl mean' args s) s := by
  have S := start_sim (prog := prog) (w := w) T hw hL hI hlen hl hg
  obtain ⟨⟨a, o, name, params, body, sc, pm, cd, doc, h1, h2, h3, h4, h5, h6, rfl⟩, a', ha'⟩ := defAt_of (prog := prog) (w := w) T hd
  rw [hmg] at ha'
  cases ha'
  have e : fa = a := by
    have h1 : gOf mg mb f = some (.ref a) := h1
    unfold gOf at h1
    rw [hmg] at h1
    cases h1; rfl
  subst e
  have hA : AOk (K + 1) callerA := ⟨rfl, by show 301 + (K + 1) < 1000; lia, by show 4 + 5 * (K + 1) + 200 < 9900; lia⟩
  refine codeAny_mono (fn_code (C := cxOf prog w s T) (E := fun _ _ => False) hT h2 h3 h4 h5 h6 (vs := [.ref 0]) (Q := fun v _ => v = .bool true) (X := fun _ _ => False) (hct _ _ _ _ ⟨rfl, ⟨ns, rfl⟩, fun _ => rfl⟩) S (.cons ⟨l, rfl, rfl⟩ .nil) hA fun _ _ p => p.none) ?_
  intro r s' h
  match r, h with
  | .ok (.ret v), h => exact GoodW.toG (end_good T hr hp h)
end
end Mine
end
section
namespace Mine
open PySem PySem.Calls PyProof.Rows
section
variable {prog : Program} {w : World} {A : Around} {E : Value → Shared → Prop} {s : Shared}
theorem hint_dict {r : Addr} {Q : Bool → Shared → Prop} (hT : s.TypeIs (.ref r) "dict") (h : Q false s) : wpAny (model prog w) A (Builtin.List.listLengthHint (.ref r)) Q E s := by
  unfold Builtin.List.listLengthHint
  refine wpAny_bind (wpAny_specialOf hT F.slot_dict_len.lookup ?_)
  generalize hx : "dict.__len__" = x
  wp_delta
  have e : splitId x = some ("dict", "__len__") := by rw [← hx]; decide +kernel
  rw [e, ← hx]
  refine wpAny_bind (wpAny_isInstance (T := "dict") (b := true) hT (by rw [isSubtype_type]; kernel_rfl) ?_)
  refine wpAny_ite_split (fun q => absurd q (by decide)) fun _ => ?_
  exact wpAny_ite_split (fun _ => wpAny_bind (wpAny_typeOf hT (wpAny_pure h))) fun q => absurd (by decide +kernel) q
theorem collect_dict {knd : PySem.KeyKind prog w Str} {d : Addr} {kvs : List (Str × Value)} {ep : Nat} {Q : List Value → Shared → Prop} (hh : A.handled = none) (hd : (d == sysModules) = false) (hm : s.heap.DictAt knd d kvs ep) (hsz : kvs.length ≤ sizeLine)
    (hQ : ∀ s' acc, (∀ b o, s.heap.get? b = some o → s'.heap.get? b = some o) → s'.gens = s.gens → s'.drawn = s.drawn → s'.os = s.os → ItemsOf (fun i v => ∃ k x, kvs[i]? = some (k, x) ∧ knd.is k v = true) acc kvs.length → Q acc.toList s') :
    wpAny (model prog w) A (collect (.ref d)) Q E s := by
  have hlt := hm.lt_size
  unfold collect
  refine wpAny_bind (wpAny_runValue (codeAny_builtin F.entry_proto_collect ?_))
  rw [Around.under_plainId F.plain_proto_collect _]
  show wpAny _ A.in1 (newList [] >>= fun l => again (.builtin "list.__iadd__" ⟨[l, .ref d], []⟩)) _ _ s
  refine wpAny_bind (wpAny_newObj_type (wpAny_pure ⟨plainId_quiet F.plain_list_iadd _, codeAny_builtin F.entry_list_iadd ?_⟩))
  rw [Around.under_plainId F.plain_list_iadd _]
  show wpAny _ A.in1 (Builtin.List.listExtendWith (.ref s.heap.objs.size) (.ref d) (.ref s.heap.objs.size)) _ _ _
  unfold Builtin.List.listExtendWith
  have hm1 := hm.push { cls := .type "list", data := .seq ([] : List Value).toArray }
  have hS1 : (s.heap.push { cls := .type "list", data := .seq ([] : List Value).toArray }).get? s.heap.objs.size = some { cls := .type "list", data := .seq ([] : List Value).toArray } := Heap.get?_push_size _ rfl
  have hz : (s.heap.push { cls := .type "list", data := .seq ([] : List Value).toArray }).objs.size = s.heap.objs.size + 1 := Heap.size_push ..
  have k1 : ∀ b o, s.heap.get? b = some o → (s.heap.push { cls := .type "list", data := .seq ([] : List Value).toArray }).get? b = some o := fun b o e => Heap.get?_push_of_some _ e
  generalize s.heap.push { cls := .type "list", data := .seq ([] : List Value).toArray } = h1 at hm1 hS1 hz k1
  have hT : ({ s with heap := h1 } : Shared).TypeIs (.ref d) "dict" := hm1.dictOf.typeIs (s := { s with heap := h1 })
  refine wpAny_bind (wpAny_typeOf hT ?_)
  have ne1 : Builtin.List.listSameRef (.ref s.heap.objs.size) (.ref d) = false := by simp [Builtin.List.listSameRef]; exact Nat.ne_of_gt hlt
  rw [if_neg (by rw [ne1]; decide)]
  refine wpAny_bind (wpAny_pyIter_dict hd hm1 (wpAny_bind (wpAny_holding (hint_dict ?_ ?_))))
  · exact (hm1.push _).dictOf.typeIs (s := { s with heap := h1.push _ })
  have hne : d ≠ h1.objs.size := fun q => by rw [q, hz] at hlt; exact absurd hlt (Nat.not_lt.mpr (Nat.le_succ _))
  have hSf : s.heap.objs.size ∉ [h1.objs.size, d] := fun q => by
    simp only [List.mem_cons, List.not_mem_nil, or_false] at q
    rcases q with q | q
    · rw [hz] at q; exact Nat.ne_of_lt (Nat.lt_succ_self _) q
    · rw [← q] at hlt; exact Nat.lt_irrefl _ hlt
  have hit : (h1.push { cls := .type "dict_keyiterator", data := .fields #[.ref d, .int 0 0, .int kvs.length 0, .int ep 0] }).IsKeyIter h1.objs.size d 0 kvs.length ep := ⟨_, Heap.get?_push_size _ rfl, rfl, rfl⟩
  have hm2 := hm1.push { cls := .type "dict_keyiterator", data := .fields #[.ref d, .int 0 0, .int kvs.length 0, .int ep 0] }
  have hS2 : (h1.push { cls := .type "dict_keyiterator", data := .fields #[.ref d, .int 0 0, .int kvs.length 0, .int ep 0] }).get? s.heap.objs.size = some { cls := .type "list", data := .seq ([] : List Value).toArray } := Heap.get?_push_of_some _ hS1
  have k2 : ∀ b o, s.heap.get? b = some o → (h1.push { cls := .type "dict_keyiterator", data := .fields #[.ref d, .int 0 0, .int kvs.length 0, .int ep 0] }).get? b = some o := fun b o e => Heap.get?_push_of_some _ (k1 b o e)
  generalize h1.push { cls := .type "dict_keyiterator", data := .fields #[.ref d, .int 0 0, .int kvs.length 0, .int ep 0] } = h2 at hit hm2 hS2 k2
  show wpAny _ A.in1 (rule "list.extend.makes-room" >>= fun _ => Builtin.List.listTouch (.ref s.heap.objs.size) >>= fun _ =>
    again (.builtin "list.extend.loop" ⟨[.ref s.heap.objs.size, .ref h1.objs.size, .ref s.heap.objs.size], []⟩)) _ _ _
  refine wpAny_bind (wpAny_rule (wpAny_bind ?_))
  show wpAny _ A.in1 (updateSeq s.heap.objs.size (·.push .none) >>= fun _ => updateSeq s.heap.objs.size (·.pop)) _ _ _
  refine wpAny_bind (wpAny_updateSeq hS2 rfl ?_)
  have hS3 := Heap.get?_update_self (Obj.mapSeq (·.push Value.none)) hS2 rfl
  refine wpAny_updateSeq hS3 rfl ?_
  have hS4 := Heap.get?_update_self (Obj.mapSeq (·.pop)) hS3 rfl
  have oth : ∀ b o, b ≠ s.heap.objs.size → h2.get? b = some o → ((h2.update s.heap.objs.size (Obj.mapSeq (·.push Value.none))).update s.heap.objs.size (Obj.mapSeq (·.pop))).get? b = some o :=
    fun b o hb e => (Heap.get?_update_other _ _ (Ne.symm hb)).trans ((Heap.get?_update_other _ _ (Ne.symm hb)).trans e)
  generalize (h2.update s.heap.objs.size (Obj.mapSeq (·.push Value.none))).update s.heap.objs.size (Obj.mapSeq (·.pop)) = h3 at hS4 oth
  have hne1 : h1.objs.size ≠ s.heap.objs.size := fun q => by rw [hz] at q; exact Nat.ne_of_gt (Nat.lt_succ_self _) q
  refine wpAny_pure ⟨plainId_quiet F.plain_extend_loop _, codeAny_extend_loopS (Walks.dictKeys (knd := knd) (A := A.in1) hh h1.objs.size d hne kvs ep).toS hsz _ hSf _ kvs.length 0 _ _ _ rfl (Nat.zero_le _)
    ⟨hit.at fun o e => oth _ o hne1 e, hm2.at' fun o e => oth _ o (Nat.ne_of_lt hlt) e⟩ hS4 (ItemsOf.nil _) fun s' acc' c' hmv hS' hacc => ?_⟩
  show wpAny _ A (load s.heap.objs.size >>= _) _ _ s'
  refine wpAny_bind (wpAny_load hS' (wpAny_pure (hQ s' acc' (fun b o e => ?_) hmv.gens hmv.drawn hmv.os hacc)))
  have hb := Heap.lt_size e
  have hb1 : b ≠ s.heap.objs.size := Nat.ne_of_lt hb
  refine hmv.heap b o (fun q => ?_) (oth b o hb1 (k2 b o e))
  simp only [List.mem_cons, List.not_mem_nil, or_false] at q
  rcases q with q | q
  · exact hb1 q
  · rw [q, hz] at hb; exact absurd hb (Nat.not_lt.mpr (Nat.le_succ _))
end
end Mine
end
section
namespace Mine
open PySem PySem.Calls PyProof.Rows
section
variable {prog : Program} {w : World} {A : Around} {E : Value → Shared → Prop} {s : Shared} {κ : PyProof.Rows.KeyKind}
noncomputable def Kd1 (κ : PyProof.Rows.KeyKind) (p : Keyed) : Prop := ∃ a, κ.keyOf p.1 = some a
noncomputable def ky (κ : PyProof.Rows.KeyKind) (p : Keyed) : κ.α := (κ.keyOf p.1).getD κ.dflt
noncomputable def LeK (κ : PyProof.Rows.KeyKind) (p q : Keyed) : Prop := κ.kle (ky κ p) (ky κ q)
noncomputable def Srt (κ : PyProof.Rows.KeyKind) (l : List Keyed) : Prop := l.Pairwise (LeK κ)
theorem LeK.trans {p q r : Keyed} (h : LeK κ p q) (k : LeK κ q r) : LeK κ p r := KeyOrd.kle_trans h k
theorem KK_is {xs : Array Keyed} {i : Nat} (h : i < xs.size) : KK κ xs i = ky κ xs[i] := by unfold KK; rw [getElem?_pos xs i h]; rfl
structure SI (a₀ : Array Keyed) (p : Array (Nat × Nat × Nat)) (st : SortSt) : Prop where
  perm : (arrOf st).Perm a₀
  kind : kindOf st = oneType'
  failed : failedOf st = none
  pend : pendingOf st = p
variable {a₀ : Array Keyed} {pd : Array (Nat × Nat × Nat)}
theorem SI.size {st : SortSt} (h : SI a₀ pd st) : (arrOf st).size = a₀.size := h.perm.size_eq
theorem SI.setArr {st : SortSt} (h : SI a₀ pd st) {xs : Array Keyed} (hp : xs.Perm (arrOf st)) : SI a₀ pd (setArr st xs) := ⟨hp.trans h.perm, h.kind, h.failed, h.pend⟩
theorem SI.at {st : SortSt} (h : SI a₀ pd st) (h0 : KeysOf κ a₀) {i : Nat} (hi : i < a₀.size) : ∃ p, (arrOf st)[i]? = some p ∧ Kd1 κ p ∧ ky κ p = KK κ (arrOf st) i := by
  have hi' : i < (arrOf st).size := by rw [h.size]; exact hi
  exact ⟨(arrOf st)[i], getElem?_pos _ i hi', h0 _ ((Array.perm_iff_toList_perm.mp h.perm).mem_iff.mp (by simp)), (KK_is hi').symm⟩
theorem wp_lt (hO : κ.OneLt) {st : SortSt} {x y : Keyed} {Q : Option Bool → SortSt → Prop} (hk : kindOf st = oneType') (hx : Kd1 κ x) (hy : Kd1 κ y) (h : Q (some (κ.blt (ky κ x) (ky κ y))) st) : wpS (model prog w) A E s (lt' x y) Q st := by
  obtain ⟨a, ha⟩ := hx
  obtain ⟨b, hb⟩ := hy
  unfold ky at h
  rw [ha, hb] at h
  rw [lt'_eq]
  refine wpS_bind (wpS_get ?_)
  rw [hk, keyLt'_oneType]
  exact wpS_bind (wpS_lift (wpAny_attempt (hO prog w A _ s x.1 y.1 a b ha hb ⟨rfl, wpS_pure h⟩)))
theorem wp_ltAt (hO : κ.OneLt) (h0 : KeysOf κ a₀) {st : SortSt} {i j : Nat} {Q : Option Bool → SortSt → Prop} (hB : SI a₀ pd st) (hi : i < a₀.size) (hj : j < a₀.size) (h : Q (some (κ.blt (KK κ (arrOf st) i) (KK κ (arrOf st) j))) st) : wpS (model prog w) A E s (ltAt' i j) Q st := by
  obtain ⟨p, e1, k1, q1⟩ := hB.at h0 hi
  obtain ⟨q, e2, k2, q2⟩ := hB.at h0 hj
  rw [← q1, ← q2] at h
  rw [ltAt'_eq]
  refine wpS_bind (wpS_get ?_)
  show wpS _ _ _ _ (do let x ← elem' (arrOf st) i; let y ← elem' (arrOf st) j; lt' x y) Q st
  rw [elem'_eq, elem'_eq, e1, e2]
  exact wpS_bind (wpS_pure (wpS_bind (wpS_pure (wp_lt hO hB.kind k1 k2 h))))
theorem wp_elem {arr : Array Keyed} {i : Nat} {st : SortSt} {Q : Keyed → SortSt → Prop} (hi : i < arr.size) (h : Q arr[i] st) : wpS (model prog w) A E s (elem' arr i) Q st := by
  rw [elem'_eq, getElem?_pos arr i hi]; exact wpS_pure h
inductive Rs {ρ τ : Type} (S : SortSt → Prop) (P : ρ → Prop) (M : τ → Prop) : Option ρ × τ → SortSt → Prop
  | ret {r o st} : S st → P r → Rs S P M (some r, o) st
  | on {o st} : S st → M o → Rs S P M (none, o) st
noncomputable def Sp {ρ τ : Type} (S : SortSt → Prop) (P : ρ → Prop) (M I : τ → Prop) (r : ForInStep (Option ρ × τ)) (st : SortSt) : Prop := match r with | .done c => Rs S P M c st | .yield c => Rs S (fun _ => False) I c st
section
variable {ρ τ : Type} {S : SortSt → Prop} {P : ρ → Prop} {M I : τ → Prop} {st : SortSt} {r : ρ} {o : τ}
theorem sp_ret (sg : S st) (h : P r) : Sp S P M I (.done (some r, o)) st := .ret sg h
theorem sp_brk (sg : S st) (h : M o) : Sp S P M I (.done (none, o)) st := .on sg h
theorem sp_go (sg : S st) (h : I o) : Sp S P M I (.yield (none, o)) st := .on sg h
end
theorem b_loop {α ρ τ : Type} {a n : Nat} {f : Nat → Option ρ × τ → StateT SortSt Sem (ForInStep (Option ρ × τ))} {k : Option ρ × τ → StateT SortSt Sem α} {Q : α → SortSt → Prop} {c : τ} {st : SortSt} (S : SortSt → Prop) (P : ρ → Prop) (I : Nat → τ → Prop) (M : τ → Prop)
    (hs : ∀ i c st, a ≤ i → i < n → S st → I i c → wpS (model prog w) A E s (f i (none, c)) (Sp S P M (I (i + 1))) st)
    (he : ∀ c, I (max a n) c → M c) (sg : S st) (h : I a c) (hr : ∀ r c st, S st → P r → wpS (model prog w) A E s (k (some r, c)) Q st) (hk : ∀ c st, S st → M c → wpS (model prog w) A E s (k (none, c)) Q st) : wpS (model prog w) A E s (forIn [a:n] (none, c) f >>= k) Q st := by
  refine wpS_bind (wpS_mono (wpS_forRange (Q := Rs S P M) (fun i => Rs S (fun _ => False) (I i)) (fun i c st h1 h2 hi => ?_) (fun c st hi => ?_) (.on sg h)) fun c st hi => ?_)
  · cases hi with
    | ret _ hF => exact hF.elim
    | on sg hm => exact wpS_mono (hs _ _ _ h1 h2 sg hm) fun r _ h => by cases r <;> exact h
  · cases hi with
    | ret _ hF => exact hF.elim
    | on sg hm => exact .on sg (he _ hm)
  · cases hi with
    | ret sg h => exact hr _ _ _ sg h
    | on sg hm => exact hk _ _ sg hm
theorem wpS_ite {α : Type} {c : Prop} [Decidable c] {m n : StateT SortSt Sem α} {Q : α → SortSt → Prop} {st : SortSt} (h1 : c → wpS (model prog w) A E s m Q st) (h2 : ¬ c → wpS (model prog w) A E s n Q st) : wpS (model prog w) A E s (if c then m else n) Q st := by
  by_cases q : c
  · rw [if_pos q]; exact h1 q
  · rw [if_neg q]; exact h2 q
theorem b_elem {α : Type} {arr : Array Keyed} {i : Nat} {st : SortSt} {f : Keyed → StateT SortSt Sem α} {Q : α → SortSt → Prop} (hi : i < arr.size) (h : wpS (model prog w) A E s (f arr[i]) Q st) : wpS (model prog w) A E s (elem' arr i >>= f) Q st := wpS_bind (wp_elem hi h)
theorem b_rule {α : Type} {t : String} {st : SortSt} {f : Unit → StateT SortSt Sem α} {Q : α → SortSt → Prop} (h : wpS (model prog w) A E s (f ()) Q st) : wpS (model prog w) A E s ((liftM (rule t) : StateT SortSt Sem Unit) >>= f) Q st := wpS_bind (wpS_lift (wpAny_rule ⟨rfl, h⟩))
theorem ne_of {m n : Nat} (h : ¬ (m == n) = true) : m ≠ n := fun e => h (beq_iff_eq.mpr e)
noncomputable def bey (κ : PyProof.Rows.KeyKind) (left : Bool) (key : Keyed) (k : κ.α) : Bool := if left then κ.blt k (ky κ key) else !κ.blt (ky κ key) k
noncomputable def gallop' : Bool → Keyed → Array Keyed → Nat → Nat → Nat → StateT SortSt Sem (Option Nat) := sortPriv% PySem.Builtin.gallop
noncomputable def mergeLo' : Array Keyed → Array Keyed → StateT SortSt Sem (Array Keyed) := sortPriv% PySem.Builtin.mergeLo
noncomputable def mergeHi' : Array Keyed → Array Keyed → StateT SortSt Sem (Array Keyed) := sortPriv% PySem.Builtin.mergeHi
theorem wp_beyond (hO : κ.OneLt) {left : Bool} {key : Keyed} {arr : Array Keyed} {i : Nat} {st : SortSt} {Q : Option Bool → SortSt → Prop} (hk : kindOf st = oneType') (hkey : Kd1 κ key) (ha : ∃ p, arr[i]? = some p ∧ Kd1 κ p) (h : Q (some (bey κ left key (KK κ arr i))) st) :
    wpS (model prog w) A E s (do
      let x ← elem' arr i
      if left = true then lt' x key else do
        let r ← lt' key x
        pure (Option.map (fun x => !x) r)) Q st := by
  obtain ⟨p, e, hp⟩ := ha
  have ek : KK κ arr i = ky κ p := by unfold KK; rw [e]; rfl
  rw [ek] at h
  rw [elem'_eq, e]
  refine wpS_bind (wpS_pure ?_)
  cases left with
  | true => exact wp_lt hO hk hp hkey h
  | false => exact wpS_bind (wp_lt hO hk hkey hp (wpS_pure h))
structure Bs (B : Nat → Bool) (n lo hi : Nat) : Prop where
  le : lo ≤ hi
  hn : hi ≤ n
  lows : ∀ t, t < lo → B t = true
  highs : ∀ t, hi ≤ t → t < n → B t = false
theorem Bs.up {B : Nat → Bool} {n lo hi m : Nat} (h : Bs B n lo hi) (mono : ∀ u t, u ≤ t → t < n → B t = true → B u = true) (h1 : lo ≤ m) (h2 : m < hi) (hb : B m = true) : Bs B n (m + 1) hi :=
  ⟨h2, h.hn, fun t ht => mono t m (Nat.le_of_lt_succ ht) (Nat.lt_of_lt_of_le h2 h.hn) hb, h.highs⟩
theorem Bs.down {B : Nat → Bool} {n lo hi m : Nat} (h : Bs B n lo hi) (mono : ∀ u t, u ≤ t → t < n → B t = true → B u = true) (h1 : lo ≤ m) (h2 : m < hi) (hb : B m = false) : Bs B n lo m :=
  ⟨h1, Nat.le_trans (Nat.le_of_lt h2) h.hn, h.lows, fun t ht htn => by
    cases hc : B t with
    | false => rfl
    | true => rw [mono m t ht htn hc] at hb; cases hb⟩
structure Gk (B : Nat → Bool) (n k : Nat) : Prop where
  hn : k ≤ n
  lows : ∀ t, t < k → B t = true
  highs : ∀ t, k ≤ t → t < n → B t = false
theorem wp_gallop (hO : κ.OneLt) {left : Bool} {key : Keyed} {arr : Array Keyed} {base n hint : Nat} {st : SortSt} {Q : Option Nat → SortSt → Prop} (hk : kindOf st = oneType') (hkey : Kd1 κ key) (ha : ∀ i, i < n → ∃ p, arr[base + i]? = some p ∧ Kd1 κ p) (hh : hint < n)
    (mono : ∀ u t, u ≤ t → t < n → bey κ left key (KK κ arr (base + t)) = true → bey κ left key (KK κ arr (base + u)) = true) (h : ∀ k, Gk (fun t => bey κ left key (KK κ arr (base + t))) n k → Q (some k) st) :
    wpS (model prog w) A E s (gallop' left key arr base n hint) Q st := by
  generalize hBe : (fun t => bey κ left key (KK κ arr (base + t))) = B at h
  have eB : ∀ t, bey κ left key (KK κ arr (base + t)) = B t := fun t => by rw [← hBe]
  replace mono : ∀ u t, u ≤ t → t < n → B t = true → B u = true := fun u t => by rw [← eB, ← eB]; exact mono u t
  clear hBe
  refine wpS_bind (wp_beyond hO hk hkey (ha hint hh) ?_)
  rw [eB]
  dsimp (zeta := false) (zetaHave := false) only
  extract_lets jp m1 m2
  have hjp : ∀ u l o lo hi, Bs B n lo hi → wpS (model prog w) A E s (jp u l o lo hi) Q st := by
    intro u l o lo hi hb
    refine b_loop (fun st' => st' = st) (fun _ => False) (fun x o => Bs B n o.1 o.2 ∧ o.2 - o.1 ≤ n - x) (fun o => Bs B n o.1 o.2 ∧ o.2 ≤ o.1) ?step (fun c hc => ⟨hc.1, ?fin⟩) rfl ⟨hb, by have := hb.hn; lia⟩ (fun _ _ _ _ hF => hF.elim) (fun o _ e ho => e ▸ wpS_pure (h _ ?post))
    case fin => have := hc.2; rw [Nat.max_eq_right (Nat.zero_le n)] at this; lia
    case post =>
      have e : o.1 = o.2 := Nat.le_antisymm ho.1.le ho.2
      exact ⟨ho.1.hn, fun t ht => ho.1.lows t (by rw [e]; exact ht), ho.1.highs⟩
    rintro x ⟨lo, hi⟩ _ _ hxn rfl ⟨ho, hm⟩
    replace hm : hi - lo ≤ n - x := hm
    refine wpS_ite (fun hge => wpS_pure (sp_brk rfl ⟨ho, hge⟩)) fun hge => ?_
    replace hge : ¬ hi ≤ lo := hge
    have hmid : lo + (hi - lo) / 2 < hi := by lia
    have hmn : lo + (hi - lo) / 2 < n := Nat.lt_of_lt_of_le hmid ho.hn
    refine wpS_bind (wp_beyond hO hk hkey (ha _ hmn) ?_)
    rw [eB]
    cases hb : B (lo + (hi - lo) / 2) with
    | true => exact wpS_pure (sp_go rfl ⟨ho.up mono (Nat.le_add_right _ _) hmid hb, by show hi - (lo + (hi - lo) / 2 + 1) ≤ n - (x + 1); lia⟩)
    | false => exact wpS_pure (sp_go rfl ⟨ho.down mono (Nat.le_add_right _ _) hmid hb, by show lo + (hi - lo) / 2 - lo ≤ n - (x + 1); lia⟩)
  have e1 : m1 = n - hint := rfl
  have e2 : m2 = hint + 1 := rfl
  clear_value jp m1 m2
  cases hb0 : B hint with
  | true =>
    refine wpS_ite (fun _ => ?_) fun hF => absurd rfl hF
    refine b_loop (fun st' => st' = st) (fun _ => False) (fun x o => o.1 < o.2 ∧ x + 1 ≤ o.2 ∧ o.1 < m1 ∧ B (hint + o.1) = true) (fun o => o.1 < o.2 ∧ o.1 < m1 ∧ B (hint + o.1) = true ∧ (m1 ≤ o.2 ∨ B (hint + o.2) = false)) ?step1 (fun c hc => ?fin1) rfl ⟨Nat.one_pos, Nat.le_refl _, by lia, hb0⟩ (fun _ _ _ _ hF => hF.elim) ?post1
    case fin1 =>
      obtain ⟨c1, c2, c3, c4⟩ := hc
      rw [Nat.max_eq_right (Nat.zero_le n)] at c2
      exact ⟨c1, c3, c4, .inl (by lia)⟩
    case step1 =>
      rintro x ⟨l, o⟩ _ _ _ rfl ⟨c1, c2, c3, c4⟩
      refine wpS_ite (fun hge => wpS_pure (sp_brk rfl ⟨c1, c3, c4, .inl hge⟩)) fun hge => ?_
      replace hge : ¬ m1 ≤ o := hge
      refine wpS_bind (wp_beyond hO hk hkey (ha (hint + o) (by lia)) ?_)
      rw [eB]
      cases hb : B (hint + o) with
      | true => exact wpS_pure (sp_go rfl ⟨by show o < 2 * o + 1; lia, by show x + 1 + 1 ≤ 2 * o + 1; replace c2 : x + 1 ≤ o := c2; lia, by show o < m1; lia, hb⟩)
      | false => exact wpS_pure (sp_brk rfl ⟨c1, c3, c4, .inr hb⟩)
    case post1 =>
      rintro ⟨l, o⟩ _ rfl ⟨c1, c2, c3, c4⟩
      replace c1 : l < o := c1
      replace c2 : l < m1 := c2
      replace c3 : B (hint + l) = true := c3
      replace c4 : m1 ≤ o ∨ B (hint + o) = false := c4
      refine hjp _ _ _ (hint + l + 1) (hint + min o m1) ⟨by lia, by lia, fun t ht => mono t (hint + l) (by lia) (by lia) c3, fun t ht htn => ?_⟩
      rcases c4 with c4 | c4
      · lia
      · cases hc : B t with
        | false => rfl
        | true => rw [mono (hint + o) t (by lia) htn hc] at c4; cases c4
  | false =>
    refine wpS_ite (fun hF => absurd hF Bool.false_ne_true) fun _ => ?_
    refine b_loop (fun st' => st' = st) (fun _ => False) (fun x o => o.1 < o.2 ∧ x + 1 ≤ o.2 ∧ o.1 < m2 ∧ B (hint - o.1) = false) (fun o => o.1 < o.2 ∧ o.1 < m2 ∧ B (hint - o.1) = false ∧ (m2 ≤ o.2 ∨ B (hint - o.2) = true)) ?step2 (fun c hc => ?fin2) rfl ⟨Nat.one_pos, Nat.le_refl _, by lia, hb0⟩ (fun _ _ _ _ hF => hF.elim) ?post2
    case fin2 =>
      obtain ⟨c1, c2, c3, c4⟩ := hc
      rw [Nat.max_eq_right (Nat.zero_le n)] at c2
      exact ⟨c1, c3, c4, .inl (by lia)⟩
    case step2 =>
      rintro x ⟨l, o⟩ _ _ _ rfl ⟨c1, c2, c3, c4⟩
      refine wpS_ite (fun hge => wpS_pure (sp_brk rfl ⟨c1, c3, c4, .inl hge⟩)) fun hge => ?_
      replace hge : ¬ m2 ≤ o := hge
      refine wpS_bind (wp_beyond hO hk hkey (ha (hint - o) (by lia)) ?_)
      rw [eB]
      cases hb : B (hint - o) with
      | false => exact wpS_pure (sp_go rfl ⟨by show o < 2 * o + 1; lia, by show x + 1 + 1 ≤ 2 * o + 1; replace c2 : x + 1 ≤ o := c2; lia, by show o < m2; lia, hb⟩)
      | true => exact wpS_pure (sp_brk rfl ⟨c1, c3, c4, .inr hb⟩)
    case post2 =>
      rintro ⟨l, o⟩ _ rfl ⟨c1, c2, c3, c4⟩
      replace c1 : l < o := c1
      replace c2 : l < m2 := c2
      replace c3 : B (hint - l) = false := c3
      replace c4 : m2 ≤ o ∨ B (hint - o) = true := c4
      refine hjp _ _ _ (hint + 1 - min o m2) (hint - l) ⟨by lia, by lia, fun t ht => ?_, fun t ht htn => ?_⟩
      · rcases c4 with c4 | c4
        · lia
        · exact mono t (hint - o) (by lia) (by lia) c4
      · cases hc : B t with
        | false => rfl
        | true => rw [mono (hint - l) t (by lia) htn hc] at c3; cases c3
noncomputable def Mrg (κ : PyProof.Rows.KeyKind) (xs : Array Keyed) : Prop := ∀ p ∈ xs.toList, Kd1 κ p
theorem Mrg.at {xs : Array Keyed} (h : Mrg κ xs) {i : Nat} (hi : i < xs.size) : Kd1 κ xs[i] := h _ (by simp)
theorem Mrg.some {xs : Array Keyed} (h : Mrg κ xs) {i : Nat} (hi : i < xs.size) : ∃ p, xs[i]? = some p ∧ Kd1 κ p := ⟨_, getElem?_pos xs i hi, h.at hi⟩
theorem mem_rest {xs : Array Keyed} {i : Nat} {x : Keyed} (h : x ∈ xs.toList.drop i) : ∃ t, ∃ h : i + t < xs.size, x = xs[i + t] := by
  obtain ⟨t, ht, e⟩ := List.mem_iff_getElem.mp h
  rw [List.getElem_drop, Array.getElem_toList] at e
  exact ⟨t, _, e.symm⟩
theorem mem_seg {xs : Array Keyed} {i k : Nat} {x : Keyed} (h : x ∈ (xs.toList.drop i).take k) : ∃ t, t < k ∧ ∃ h : i + t < xs.size, x = xs[i + t] := by
  obtain ⟨t, ht, e⟩ := List.mem_iff_getElem.mp h
  rw [List.getElem_take, List.getElem_drop, Array.getElem_toList] at e
  rw [List.length_take] at ht
  exact ⟨t, Nat.lt_of_lt_of_le ht (Nat.min_le_left _ _), _, e.symm⟩
theorem mem_low {xs : Array Keyed} {i k : Nat} {x : Keyed} (h : x ∈ (xs.toList.take i).drop k) : ∃ t, k ≤ t ∧ t < i ∧ ∃ h : t < xs.size, x = xs[t] := by
  obtain ⟨t, ht, e⟩ := List.mem_iff_getElem.mp h
  rw [List.getElem_drop, List.getElem_take, Array.getElem_toList] at e
  rw [List.length_drop, List.length_take, Array.length_toList] at ht
  exact ⟨k + t, Nat.le_add_right _ _, by lia, by lia, e.symm⟩
theorem LeK.refl (p : Keyed) : LeK κ p p := KeyOrd.kle_refl _
theorem srt_at {xs : Array Keyed} (h : Srt κ xs.toList) {u t : Nat} (hu : u ≤ t) (ht : t < xs.size) : LeK κ (xs[u]'(Nat.lt_of_le_of_lt hu ht)) xs[t] := by
  rcases Nat.lt_or_eq_of_le hu with hl | rfl
  · have := List.pairwise_iff_getElem.mp h u t (by rw [Array.length_toList]; lia) (by rw [Array.length_toList]; exact ht) hl
    rwa [Array.getElem_toList, Array.getElem_toList] at this
  · exact LeK.refl _
theorem mono_of {left : Bool} {key : Keyed} {xs : Array Keyed} {base n : Nat} (h : Srt κ xs.toList) (hb : base + n ≤ xs.size) : ∀ u t, u ≤ t → t < n → bey κ left key (KK κ xs (base + t)) = true → bey κ left key (KK κ xs (base + u)) = true := by
  intro u t hut ht hb'
  have ht' : base + t < xs.size := by lia
  have hl := srt_at h (u := base + u) (t := base + t) (by lia) ht'
  rw [KK_is ht'] at hb'
  rw [KK_is (Nat.lt_of_le_of_lt (Nat.add_le_add_left hut base) ht')]
  unfold bey at *
  cases left with
  | true => exact KeyOrd.klt_of_kle_of_klt hl hb'
  | false =>
    rw [if_neg Bool.false_ne_true, Bool.not_eq_true'] at *
    exact KeyOrd.kle_trans hl hb'
structure GR (κ : PyProof.Rows.KeyKind) (key : Keyed) (xs : Array Keyed) (base n k : Nat) : Prop where
  hn : k ≤ n
  lows : ∀ t (h : base + t < xs.size), t < k → LeK κ xs[base + t] key
  highs : ∀ t (h : base + t < xs.size), k ≤ t → t < n → LeK κ key xs[base + t]
theorem gr_of {left : Bool} {key : Keyed} {xs : Array Keyed} {base n k : Nat} (g : Gk (fun t => bey κ left key (KK κ xs (base + t))) n k) : GR κ key xs base n k := by
  refine ⟨g.hn, fun t h ht => ?_, fun t h ht htn => ?_⟩
  · have := g.lows t ht
    rw [KK_is h] at this
    unfold bey at this
    cases left with
    | true => exact KeyOrd.kle_of_klt this
    | false => rw [if_neg Bool.false_ne_true, Bool.not_eq_true'] at this; exact this
  · have := g.highs t ht htn
    rw [KK_is h] at this
    unfold bey at this
    cases left with
    | true => exact this
    | false => rw [if_neg Bool.false_ne_true, Bool.not_eq_false'] at this; exact KeyOrd.kle_of_klt this
theorem wp_gall (hO : κ.OneLt) {left : Bool} {key : Keyed} {xs : Array Keyed} {base n hint : Nat} {st : SortSt} {Q : Option Nat → SortSt → Prop} (hk : kindOf st = oneType') (hkey : Kd1 κ key) (hm : Mrg κ xs) (hs : Srt κ xs.toList) (hb : base + n ≤ xs.size) (hh : hint < n)
    (h : ∀ k, GR κ key xs base n k → Q (some k) st) : wpS (model prog w) A E s (gallop' left key xs base n hint) Q st :=
  wp_gallop hO hk hkey (fun i hi => hm.some (by lia)) hh (mono_of hs hb) fun k g => h k (gr_of g)
structure SG (st st' : SortSt) : Prop where
  arr : arrOf st' = arrOf st
  kind : kindOf st' = kindOf st
  pend : pendingOf st' = pendingOf st
  failed : failedOf st' = failedOf st
theorem srt_mid {O X R : List Keyed} (h1 : Srt κ (O ++ R)) (h2 : Srt κ (O ++ X)) (hx : ∀ x ∈ X, ∀ y ∈ R, LeK κ x y) : Srt κ ((O ++ X) ++ R) := by
  unfold Srt at *
  rw [List.pairwise_append] at h1 h2 ⊢
  refine ⟨List.pairwise_append.mpr h2, h1.2.1, fun x hx' y hy => ?_⟩
  rcases List.mem_append.mp hx' with hx' | hx'
  · exact h1.2.2 x hx' y hy
  · exact hx x hx' y hy
theorem srt_left {O X R : List Keyed} (h : Srt κ (O ++ (X ++ R))) : Srt κ (O ++ X) := by rw [← List.append_assoc] at h; exact (List.pairwise_append.mp h).1
structure Got (κ : PyProof.Rows.KeyKind) (a b : Array Keyed) (out : Array Keyed) (i j : Nat) : Prop where
  pm : out.toList.Perm (a.toList.take i ++ b.toList.take j)
  s1 : Srt κ (out.toList ++ a.toList.drop i)
  s2 : Srt κ (out.toList ++ b.toList.drop j)
structure Pm (κ : PyProof.Rows.KeyKind) (a b r : Array Keyed) : Prop where
  pm : r.toList.Perm (a.toList ++ b.toList)
  st : Srt κ r.toList
section
variable {a b out : Array Keyed} {i j k : Nat}
theorem take_more {l : List Keyed} {i k : Nat} : l.take (i + k) = l.take i ++ (l.drop i).take k := by rw [List.take_add]
theorem drop_split {l : List Keyed} {i k : Nat} : l.drop i = (l.drop i).take k ++ l.drop (i + k) := by rw [← List.drop_drop, List.take_append_drop]
theorem ext_list {l : Array Keyed} {i k : Nat} : (l.extract i (i + k)).toList = (l.toList.drop i).take k := by
  rw [Array.toList_extract, List.extract_eq_take_drop]; congr 1; lia
theorem ext_rest {l : Array Keyed} {i : Nat} : (l.extract i l.size).toList = l.toList.drop i := by
  rw [Array.toList_extract, List.extract_eq_take_drop, List.take_of_length_le (by simp)]
theorem Got.addA (g : Got κ a b out i j) (hx : ∀ x ∈ (a.toList.drop i).take k, ∀ y ∈ b.toList.drop j, LeK κ x y) : Got κ a b (out ++ a.extract i (i + k)) (i + k) j := by
  have e1 := g.s1
  rw [drop_split (k := k)] at e1
  refine ⟨?_, ?_, ?_⟩
  · rw [Array.toList_append, ext_list, take_more, List.append_assoc]
    exact (g.pm.append_right _).trans (by rw [List.append_assoc]; exact List.Perm.append_left _ List.perm_append_comm)
  · rw [Array.toList_append, ext_list, List.append_assoc]; exact e1
  · rw [Array.toList_append, ext_list]; exact srt_mid g.s2 (srt_left e1) hx
theorem Got.addB (g : Got κ a b out i j) (hx : ∀ x ∈ (b.toList.drop j).take k, ∀ y ∈ a.toList.drop i, LeK κ x y) : Got κ a b (out ++ b.extract j (j + k)) i (j + k) := by
  have e1 := g.s2
  rw [drop_split (k := k)] at e1
  refine ⟨?_, ?_, ?_⟩
  · rw [Array.toList_append, ext_list, take_more, ← List.append_assoc]
    exact g.pm.append_right _
  · rw [Array.toList_append, ext_list]; exact srt_mid g.s1 (srt_left e1) hx
  · rw [Array.toList_append, ext_list, List.append_assoc]; exact e1
theorem push_ext {l : Array Keyed} {i : Nat} (h : i < l.size) : out.push l[i] = out ++ l.extract i (i + 1) := by
  apply Array.toList_inj.mp
  rw [Array.toList_push, Array.toList_append, ext_list, List.drop_eq_getElem_cons (by simpa using h)]
  simp
theorem up_all {xs : Array Keyed} (hs : Srt κ xs.toList) {i : Nat} (h : i < xs.size) {x : Keyed} (hx : LeK κ x xs[i]) : ∀ y ∈ xs.toList.drop i, LeK κ x y := fun y hy => by
  obtain ⟨t, ht, rfl⟩ := mem_rest hy
  exact hx.trans (srt_at hs (Nat.le_add_right _ _) ht)
theorem seg_one {xs : Array Keyed} {i : Nat} {x : Keyed} (h : i < xs.size) (hx : x ∈ (xs.toList.drop i).take 1) : x = xs[i] := by
  obtain ⟨t, ht, h', rfl⟩ := mem_seg hx
  cases t with
  | zero => rfl
  | succ t => lia
theorem Got.pushA (g : Got κ a b out i j) (h : i < a.size) (hx : ∀ y ∈ b.toList.drop j, LeK κ a[i] y) : Got κ a b (out.push a[i]) (i + 1) j := by
  rw [push_ext h]; exact g.addA fun x hx' => by rw [seg_one h hx']; exact hx
theorem Got.pushB (g : Got κ a b out i j) (h : j < b.size) (hx : ∀ y ∈ a.toList.drop i, LeK κ b[j] y) : Got κ a b (out.push b[j]) i (j + 1) := by
  rw [push_ext h]; exact g.addB fun x hx' => by rw [seg_one h hx']; exact hx
theorem Got.perm (g : Got κ a b out i j) : (out ++ a.extract i a.size ++ b.extract j b.size).toList.Perm (a.toList ++ b.toList) := by
  have g := g.pm
  rw [Array.toList_append, Array.toList_append, ext_rest, ext_rest]
  have h1 : (a.toList ++ b.toList) = (a.toList.take i ++ a.toList.drop i) ++ (b.toList.take j ++ b.toList.drop j) := by rw [List.take_append_drop, List.take_append_drop]
  rw [h1, List.append_assoc, List.append_assoc]
  refine (g.append_right _).trans ?_
  rw [List.append_assoc]
  refine List.Perm.append_left _ ?_
  rw [← List.append_assoc, ← List.append_assoc]
  exact List.Perm.append_right _ List.perm_append_comm
theorem Got.fin (g : Got κ a b out i j) (he : i = a.size ∨ j = b.size) : Pm κ a b (out ++ a.extract i a.size ++ b.extract j b.size) := by
  refine ⟨g.perm, ?_⟩
  rw [Array.toList_append, Array.toList_append, ext_rest, ext_rest]
  rcases he with rfl | rfl
  · rw [List.drop_of_length_le (l := a.toList) (by simp), List.append_nil]; exact g.s2
  · rw [List.drop_of_length_le (l := b.toList) (by simp), List.append_nil]; exact g.s1
theorem Got.last (g : Got κ a b out i j) (he : i + 1 = a.size) (hl : ∀ y ∈ b.toList, ∀ x ∈ a.toList.drop i, LeK κ y x) : Pm κ a b (out ++ b.extract j b.size ++ a.extract i a.size) := by
  refine ⟨List.Perm.trans ?_ g.perm, ?_⟩
  · rw [Array.toList_append, Array.toList_append, Array.toList_append, Array.toList_append, List.append_assoc, List.append_assoc]
    exact List.Perm.append_left _ List.perm_append_comm
  · rw [Array.toList_append, Array.toList_append, ext_rest, ext_rest]
    exact srt_mid g.s1 g.s2 fun y hy => hl y (List.mem_of_mem_drop hy)
end
theorem wp_mark {st : SortSt} {g : Nat} {Q : Unit → SortSt → Prop} (h : Q () (SortSt.mk' (kindOf st) (arrOf st) (pendingOf st) g (failedOf st))) : wpS (model prog w) A E s ((sortPriv% PySem.Builtin.setMinGallop) g) Q st := wpS_modify h
noncomputable def f1 : Nat → Nat
  | 0 => 0
  | _ + 1 => 1
theorem f1_le {x y z : Nat} (h : x + f1 y + 1 ≤ z) : x + 1 ≤ z := Nat.le_trans (Nat.succ_le_succ (Nat.le_add_right _ _)) h
theorem f1_pos {n : Nat} (h : 0 < n) : f1 (max 0 n) = 1 := by
  rw [Nat.zero_max]
  cases n with
  | zero => cases h
  | succ n => rfl
structure Mi (κ : PyProof.Rows.KeyKind) (a b : Array Keyed) (x : Nat) (out : Array Keyed) (i j : Nat) : Prop where
  got : Got κ a b out i j
  ia : i + 1 < a.size
  jb : j < b.size
  le : x ≤ i + j
section
variable {a b out : Array Keyed} {x y i j k : Nat}
theorem Mi.lt (h : Mi κ a b x out i j) : i < a.size := Nat.lt_of_succ_lt h.ia
theorem Mi.dn (h : Mi κ a b y out i j) (k : x ≤ y) : Mi κ a b x out i j := ⟨h.got, h.ia, h.jb, Nat.le_trans k h.le⟩
theorem Mi.f (h : Mi κ a b (x + f1 y + 1) out i j) : Mi κ a b (x + 1) out i j := ⟨h.got, h.ia, h.jb, f1_le h.le⟩
theorem Mi.toB (h : Mi κ a b x out i j) (g : Got κ a b (out.push (b[j]'h.jb)) i (j + 1)) (e : ¬ (j + 1 == b.size) = true) : Mi κ a b (x + 1) (out.push (b[j]'h.jb)) i (j + 1) := ⟨g, h.ia, Nat.lt_of_le_of_ne h.jb (ne_of e), Nat.succ_le_succ h.le⟩
theorem Mi.toA (h : Mi κ a b x out i j) (g : Got κ a b (out.push (a[i]'h.lt)) (i + 1) j) (e : ¬ (i + 1 + 1 == a.size) = true) : Mi κ a b (x + 1) (out.push (a[i]'h.lt)) (i + 1) j := ⟨g, Nat.lt_of_le_of_ne h.ia (ne_of e), h.jb, by have := h.le; lia⟩
theorem Mi.addA (h : Mi κ a b x out i j) (g : Got κ a b (out ++ a.extract i (i + k)) (i + k) j) (hk : k ≤ a.size - i) (e : ¬ (i + k + 1 == a.size) = true) (e' : ¬ (i + k == a.size) = true) : Mi κ a b x (out ++ a.extract i (i + k)) (i + k) j := ⟨g, by have := h.lt; have := ne_of e; have := ne_of e'; lia, h.jb, by have := h.le; lia⟩
theorem Mi.addB (h : Mi κ a b x out i j) (g : Got κ a b (out ++ b.extract j (j + k)) i (j + k)) (hk : k ≤ b.size - j) (e : ¬ (j + k == b.size) = true) : Mi κ a b x (out ++ b.extract j (j + k)) i (j + k) := ⟨g, h.ia, by have := h.jb; have := ne_of e; lia, Nat.le_trans h.le (by lia)⟩
theorem Mi.no (h : Mi κ a b (max 0 (a.size + b.size)) out i j) : False := by have := h.ia; have := h.jb; have := h.le; rw [Nat.zero_max] at this; lia
end
noncomputable def M3 {τ : Type} (κ : PyProof.Rows.KeyKind) (a b : Array Keyed) (x : Nat) (o : Array Keyed × Nat × Nat × τ) : Prop := Mi κ a b x o.1 o.2.1 o.2.2.1
theorem SG.mk' {st st' : SortSt} {g : Nat} (h : SG st st') : SG st (SortSt.mk' (kindOf st') (arrOf st') (pendingOf st') g (failedOf st')) := ⟨h.arr, h.kind, h.pend, h.failed⟩
theorem b_mark {α : Type} {st st' : SortSt} {g : Nat} {f : Unit → StateT SortSt Sem α} {Q : α → SortSt → Prop} (h : SG st st') (k : ∀ st'', SG st st'' → wpS (model prog w) A E s (f ()) Q st'') : wpS (model prog w) A E s ((sortPriv% PySem.Builtin.setMinGallop) g >>= f) Q st' := wpS_bind (wp_mark (k _ h.mk'))
theorem le_t {x y : Keyed} (h : κ.blt (ky κ x) (ky κ y) = true) : LeK κ x y := KeyOrd.kle_of_klt h
theorem le_f {x y : Keyed} (h : κ.blt (ky κ x) (ky κ y) = false) : LeK κ y x := h
theorem wp_mergeLo (hO : κ.OneLt) {a b : Array Keyed} {st : SortSt} {Q : Array Keyed → SortSt → Prop} (hk : kindOf st = oneType') (ha : Mrg κ a) (hb : Mrg κ b) (sa : Srt κ a.toList) (sb : Srt κ b.toList) (ha0 : 0 < a.size) (hb0 : 0 < b.size)
    (first : LeK κ b[0] a[0]) (lst : ∀ y ∈ b.toList, LeK κ y (a[a.size - 1]'(Nat.sub_lt ha0 Nat.one_pos)))
    (h : ∀ xs st', SG st st' → Pm κ a b xs → Q xs st') : wpS (model prog w) A E s (mergeLo' a b) Q st := by
  refine b_rule ?_
  extract_lets total done last
  have hdone : ∀ {out i j}, Got κ a b out i j → (i = a.size ∨ j = b.size) → Pm κ a b (done out i j) := fun g => g.fin
  have hlast : ∀ {out i j}, Got κ a b out i j → (i + 1 == a.size) = true → Pm κ a b (last out i j) := fun g he => g.last (beq_iff_eq.mp he) fun y hy x hx => by
    obtain ⟨t, ht, rfl⟩ := mem_rest hx
    have := beq_iff_eq.mp he
    exact (lst y hy).trans (srt_at sa (by lia) ht)
  have htot : total = a.size + b.size := rfl
  clear_value total done last
  subst htot
  refine b_elem hb0 ?_
  have sg0 : SG st st := ⟨rfl, rfl, rfl, rfl⟩
  have g0 : Got κ a b #[b[0]] 0 1 := Got.pushB (out := #[]) (j := 0) ⟨by simp, sa, sb⟩ hb0 (up_all sa ha0 first)
  extract_lets out0
  replace g0 : Got κ a b out0 0 1 := g0
  clear_value out0
  refine wpS_ite (fun e1 => wpS_pure (h _ _ sg0 (hdone g0 (.inr (beq_iff_eq.mp e1))))) fun e1 => ?_
  refine wpS_ite (fun e2 => wpS_pure (h _ _ sg0 (hlast g0 e2))) fun e2 => ?_
  refine wpS_bind (wpS_get ?_)
  have kd : ∀ {st'}, SG st st' → kindOf st' = oneType' := fun x => x.kind.trans hk
  have hm0 : Mi κ a b 0 out0 0 1 := ⟨g0, Nat.lt_of_le_of_ne ha0 (ne_of e2), Nat.lt_of_le_of_ne hb0 (ne_of e1), Nat.zero_le _⟩
  clear e1 e2 g0
  refine b_loop (SG st) (Pm κ a b) (M3 κ a b) (fun _ => False) ?step (fun _ hm => hm.no) sg0 hm0 (fun r _ st' sg hr => wpS_pure (h r st' sg hr)) fun _ _ _ hF => hF.elim
  clear hm0 sg0 h
  rintro x ⟨out, i, j, g⟩ st' _ _ sg hm
  refine b_loop (SG st) (Pm κ a b) (fun y => M3 κ a b (x + f1 y)) (M3 κ a b (x + 1)) ?s1 (fun c hm => ?f1) sg hm (fun r _ st' sg hr => wpS_pure (sp_ret sg hr)) ?p1
  case f1 => rw [f1_pos (Nat.add_pos_left ha0 _)] at hm; exact hm
  case s1 =>
    clear hm sg
    rintro y ⟨out, i, j, p, q⟩ st' _ _ sg hm
    replace hm : Mi κ a b (x + f1 y) out i j := hm
    refine b_elem hm.jb (b_elem hm.lt (wpS_bind (wp_lt hO (kd sg) (hb.at hm.jb) (ha.at hm.lt) ?_)))
    cases ht : κ.blt (ky κ (b[j]'hm.jb)) (ky κ (a[i]'hm.lt)) with
    | true =>
      have gB := hm.got.pushB hm.jb (up_all sa hm.lt (le_t ht))
      refine b_elem hm.jb ?_
      refine wpS_ite (fun e3 => wpS_pure (sp_ret sg (hdone gB (.inr (beq_iff_eq.mp e3))))) fun e3 => ?_
      exact wpS_ite (fun _ => wpS_pure (sp_brk sg (hm.toB gB e3).f)) fun _ => wpS_pure (sp_go sg (hm.toB gB e3).f)
    | false =>
      have gA := hm.got.pushA hm.lt (up_all sb hm.jb (le_f ht))
      refine b_elem hm.lt ?_
      refine wpS_ite (fun e3 => wpS_pure (sp_ret sg (hlast gA e3))) fun e3 => ?_
      exact wpS_ite (fun _ => wpS_pure (sp_brk sg (hm.toA gA e3).f)) fun _ => wpS_pure (sp_go sg (hm.toA gA e3).f)
  case p1 =>
    clear hm sg
    rintro ⟨out, i, j, p, q⟩ st' sg hm
    refine b_rule ?_
    refine b_loop (SG st) (Pm κ a b) (fun _ => M3 κ a b (x + 1)) (M3 κ a b (x + 1)) ?s2 (fun _ hm => hm) sg hm (fun r _ st' sg hr => wpS_pure (sp_ret sg hr)) fun _ _ sg hm => b_mark sg fun _ sg => wpS_pure (sp_go sg hm)
    clear hm sg
    rintro y ⟨out, i, j, g, p, q⟩ st' _ _ sg hm
    replace hm : Mi κ a b (x + 1) out i j := hm
    dsimp (zeta := false) (zetaHave := false) only
    extract_lets s1 o1 s2 i1 s3 j1 s4 g1 s5 p1 q1 jn jp
    have x1 : out = o1 := rfl
    have x2 : i = i1 := rfl
    have x3 : j = j1 := rfl
    have x4 : j1 + 1 = jn := rfl
    clear_value o1 i1 j1 g1 p1 q1 jn
    subst x1 x2 x3 x4
    have hjp : ∀ u g2 st2, SG st st2 → wpS (model prog w) A E s (jp u g2) (Sp (SG st) (Pm κ a b) (M3 κ a b (x + 1)) (M3 κ a b (x + 1))) st2 := by
      intro u g2 st2 sg
      refine b_mark sg fun st3 sg => ?_
      refine b_elem hm.jb (wpS_bind (wp_gall hO (kd sg) (hb.at hm.jb) ha sa (by have := hm.lt; lia) (Nat.sub_pos_of_lt hm.lt) fun k gr => ?_))
      have gA : Got κ a b (out ++ a.extract i (i + k)) (i + k) j := hm.got.addA fun z hz => by
        obtain ⟨t, ht, h', rfl⟩ := mem_seg hz
        exact up_all sb hm.jb (gr.lows t h' ht)
      have top : ∀ i', i' = i + k → ∀ h' : i' < a.size, LeK κ (b[j]'hm.jb) a[i'] := fun i' e h' => by subst e; exact gr.highs k h' (Nat.le_refl _) (by lia)
      dsimp (zeta := false) (zetaHave := false) only
      extract_lets ac jp2 o3 i3
      have hjp2 : ∀ u out' i', Mi κ a b (x + 1) out' i' j → i' = i + k → wpS (model prog w) A E s (jp2 u out' i') (Sp (SG st) (Pm κ a b) (M3 κ a b (x + 1)) (M3 κ a b (x + 1))) st3 := by
        intro u out' i' hm ei
        refine b_elem hm.jb ?_
        have hg := hm.got.pushB hm.jb (up_all sa hm.lt (top i' ei hm.lt))
        have hmB := hm.toB hg
        extract_lets o2
        replace hg : Got κ a b o2 i' (j + 1) := hg
        replace hmB : ¬ (j + 1 == b.size) = true → Mi κ a b (x + 2) o2 i' (j + 1) := hmB
        clear_value o2
        refine wpS_ite (fun e6 => wpS_pure (sp_ret sg (hdone hg (.inr (beq_iff_eq.mp e6))))) fun e6 => ?_
        replace hm := (hmB e6).dn (Nat.le_succ (x + 1))
        clear hmB e6 hg
        refine b_elem hm.lt (wpS_bind (wp_gall hO (kd sg) (ha.at hm.lt) hb sb (by have := hm.jb; lia) (Nat.sub_pos_of_lt hm.jb) fun k2 gr2 => ?_))
        have gB : Got κ a b (o2 ++ b.extract (j + 1) (j + 1 + k2)) i' (j + 1 + k2) := hm.got.addB fun z hz => by
          obtain ⟨t, ht, h', rfl⟩ := mem_seg hz
          exact up_all sa hm.lt (gr2.lows t h' ht)
        have top2 : ∀ j', j' = j + 1 + k2 → ∀ h' : j' < b.size, LeK κ (a[i']'hm.lt) b[j'] := fun j' e h' => by subst e; exact gr2.highs k2 h' (Nat.le_refl _) (by lia)
        dsimp (zeta := false) (zetaHave := false) only
        extract_lets bc jp3 o4 j4
        have hjp3 : ∀ u out' j', Mi κ a b (x + 1) out' i' j' → j' = j + 1 + k2 → wpS (model prog w) A E s (jp3 u out' j') (Sp (SG st) (Pm κ a b) (M3 κ a b (x + 1)) (M3 κ a b (x + 1))) st3 := by
          intro u out' j' hm ej
          have gA2 := hm.got.pushA hm.lt (up_all sb hm.jb (top2 j' ej hm.jb))
          refine b_elem hm.lt ?_
          refine wpS_ite (fun e8 => wpS_pure (sp_ret sg (hlast gA2 e8))) fun e8 => ?_
          replace hm := (hm.toA gA2 e8).dn (Nat.le_succ (x + 1))
          exact wpS_ite (fun _ => wpS_pure (sp_brk sg hm)) fun _ => wpS_pure (sp_go sg hm)
        clear_value jp3
        refine wpS_ite (fun hk3 => ?_) fun hk3 => hjp3 _ _ _ hm (by lia)
        exact wpS_ite (fun e7 => wpS_pure (sp_ret sg (hdone gB (.inr (beq_iff_eq.mp e7))))) fun e7 => hjp3 _ _ _ (hm.addB gB gr2.hn e7) rfl
      clear_value jp2
      refine wpS_ite (fun hk0 => ?_) fun hk0 => hjp2 _ _ _ hm (by lia)
      refine wpS_ite (fun e4 => wpS_pure (sp_ret sg (hlast gA e4))) fun e4 => ?_
      exact wpS_ite (fun e5 => wpS_pure (sp_ret sg (hdone gA (.inl (beq_iff_eq.mp e5))))) fun e5 => hjp2 _ _ _ (hm.addA gA gr.hn e4 e5) rfl
    clear_value jp
    exact wpS_ite (fun _ => hjp _ _ _ sg) fun _ => hjp _ _ _ sg
theorem srt_mid' {R X O : List Keyed} (h1 : Srt κ (R ++ O)) (h2 : Srt κ (X ++ O)) (hx : ∀ y ∈ R, ∀ x ∈ X, LeK κ y x) : Srt κ (R ++ (X ++ O)) := by
  unfold Srt at *
  rw [List.pairwise_append] at h1
  refine List.pairwise_append.mpr ⟨h1.1, h2, fun y hy x hx' => ?_⟩
  rcases List.mem_append.mp hx' with hx' | hx'
  · exact hx y hy x hx'
  · exact h1.2.2 y hy x hx'
structure Lft (κ : PyProof.Rows.KeyKind) (a b : Array Keyed) (out : Array Keyed) (i j : Nat) : Prop where
  pm : out.toList.Perm (a.toList.drop i ++ b.toList.drop j)
  s1 : Srt κ (a.toList.take i ++ out.toList.reverse)
  s2 : Srt κ (b.toList.take j ++ out.toList.reverse)
section
variable {a b out : Array Keyed} {i j k : Nat}
theorem drop_more {l : List Keyed} {i k : Nat} (h : k ≤ i) : l.drop k = (l.take i).drop k ++ l.drop i := by
  have e : l.drop i = (l.drop k).drop (i - k) := by rw [List.drop_drop]; congr 1; lia
  rw [e, List.drop_take, List.take_append_drop]
theorem take_less {l : List Keyed} {i k : Nat} (h : k ≤ i) : l.take i = l.take k ++ (l.take i).drop k := by
  rw [show l.take k = (l.take i).take k by rw [List.take_take, Nat.min_eq_left h], List.take_append_drop]
theorem ext_seg {l : Array Keyed} {i k : Nat} : (l.extract k i).toList = (l.toList.take i).drop k := by
  rw [Array.toList_extract, List.extract_eq_take_drop, ← List.drop_take]
theorem rev_add {l : Array Keyed} : (out ++ l.reverse).toList.reverse = l.toList ++ out.toList.reverse := by
  rw [Array.toList_append, Array.toList_reverse, List.reverse_append, List.reverse_reverse]
theorem ext_rev {l : Array Keyed} {i k : Nat} : ((l.extract k i).reverse).toList.Perm ((l.toList.take i).drop k) := by
  rw [Array.toList_reverse, ext_seg]
  exact List.reverse_perm _
theorem Lft.addA (g : Lft κ a b out i j) (h : k ≤ i) (hx : ∀ y ∈ b.toList.take j, ∀ x ∈ (a.toList.take i).drop k, LeK κ y x) : Lft κ a b (out ++ (a.extract k i).reverse) k j := by
  have e1 := g.s1
  rw [take_less h, List.append_assoc] at e1
  refine ⟨?_, ?_, ?_⟩
  · rw [Array.toList_append, drop_more h, List.append_assoc]
    exact (g.pm.append ext_rev).trans (List.perm_append_comm)
  · rw [rev_add, ext_seg]; exact e1
  · rw [rev_add, ext_seg]; exact srt_mid' g.s2 (List.pairwise_append.mp e1).2.1 hx
theorem Lft.addB (g : Lft κ a b out i j) (h : k ≤ j) (hx : ∀ y ∈ a.toList.take i, ∀ x ∈ (b.toList.take j).drop k, LeK κ y x) : Lft κ a b (out ++ (b.extract k j).reverse) i k := by
  have e1 := g.s2
  rw [take_less h, List.append_assoc] at e1
  refine ⟨?_, ?_, ?_⟩
  · rw [Array.toList_append, drop_more (i := j) h]
    refine (g.pm.append ext_rev).trans ?_
    rw [List.append_assoc]
    exact List.Perm.append_left _ List.perm_append_comm
  · rw [rev_add, ext_seg]; exact srt_mid' g.s1 (List.pairwise_append.mp e1).2.1 hx
  · rw [rev_add, ext_seg]; exact e1
theorem rev_one {l : Array Keyed} {i : Nat} (h : i < l.size) : out.push l[i] = out ++ (l.extract i (i + 1)).reverse := by
  rw [push_ext h]
  congr 1
  have : (l.extract i (i + 1)).size = 1 := by rw [Array.size_extract]; lia
  apply Array.ext
  · simp
  · intro t h1 h2
    rw [Array.getElem_reverse]
    congr 1
    lia
theorem low_one {xs : Array Keyed} {i : Nat} {x : Keyed} (h : i < xs.size) (hx : x ∈ (xs.toList.take (i + 1)).drop i) : x = xs[i] := by
  obtain ⟨t, h1, h2, h', rfl⟩ := mem_low hx
  have : t = i := by lia
  subst this; rfl
theorem Lft.pushA (g : Lft κ a b out (i + 1) j) (h : i < a.size) (hx : ∀ y ∈ b.toList.take j, LeK κ y a[i]) : Lft κ a b (out.push a[i]) i j := by
  rw [rev_one h]; exact g.addA (Nat.le_succ _) fun y hy x hx' => by rw [low_one h hx']; exact hx y hy
theorem Lft.pushB (g : Lft κ a b out i (j + 1)) (h : j < b.size) (hx : ∀ y ∈ a.toList.take i, LeK κ y b[j]) : Lft κ a b (out.push b[j]) i j := by
  rw [rev_one h]; exact g.addB (Nat.le_succ _) fun y hy x hx' => by rw [low_one h hx']; exact hx y hy
theorem ext_low {l : Array Keyed} {i : Nat} : (l.extract 0 i).toList = l.toList.take i := by
  rw [Array.toList_extract, List.extract_eq_take_drop]; simp
theorem Lft.perm (g : Lft κ a b out i j) : (a.extract 0 i ++ b.extract 0 j ++ out.reverse).toList.Perm (a.toList ++ b.toList) := by
  have g := g.pm
  rw [Array.toList_append, Array.toList_append, ext_low, ext_low, Array.toList_reverse]
  have h1 : (a.toList ++ b.toList) = (a.toList.take i ++ a.toList.drop i) ++ (b.toList.take j ++ b.toList.drop j) := by rw [List.take_append_drop, List.take_append_drop]
  rw [h1, List.append_assoc, List.append_assoc]
  refine List.Perm.append_left _ ?_
  refine (List.Perm.append_left _ ((List.reverse_perm _).trans g)).trans ?_
  rw [← List.append_assoc, ← List.append_assoc]
  exact List.Perm.append_right _ List.perm_append_comm
theorem Lft.fin (g : Lft κ a b out i j) (he : i = 0 ∨ j = 0) : Pm κ a b (a.extract 0 i ++ b.extract 0 j ++ out.reverse) := by
  refine ⟨g.perm, ?_⟩
  rw [Array.toList_append, Array.toList_append, ext_low, ext_low, Array.toList_reverse]
  rcases he with rfl | rfl
  · exact g.s2
  · rw [List.take_zero, List.append_nil]; exact g.s1
theorem Lft.last (g : Lft κ a b out i j) (hl : ∀ y ∈ b.toList.take j, ∀ x ∈ a.toList.take i, LeK κ y x) : Pm κ a b (b.extract 0 j ++ a.extract 0 i ++ out.reverse) := by
  refine ⟨List.Perm.trans ?_ g.perm, ?_⟩
  · rw [Array.toList_append, Array.toList_append, Array.toList_append, Array.toList_append]
    exact List.Perm.append_right _ List.perm_append_comm
  · rw [Array.toList_append, Array.toList_append, ext_low, ext_low, Array.toList_reverse, List.append_assoc]
    exact srt_mid' g.s2 g.s1 hl
theorem mem_take {xs : Array Keyed} {i : Nat} {x : Keyed} (h : x ∈ xs.toList.take i) : ∃ t, t < i ∧ ∃ h : t < xs.size, x = xs[t] := by
  obtain ⟨t, _, h2, h3, e⟩ := mem_low (k := 0) h
  exact ⟨t, h2, h3, e⟩
theorem dn_all {xs : Array Keyed} (hs : Srt κ xs.toList) {i : Nat} (h : i - 1 < xs.size) {x : Keyed} (hx : LeK κ xs[i - 1] x) : ∀ y ∈ xs.toList.take i, LeK κ y x := fun y hy => by
  obtain ⟨t, h1, h2, rfl⟩ := mem_take hy
  exact (srt_at hs (by lia) h).trans hx
end
structure Mh (κ : PyProof.Rows.KeyKind) (a b : Array Keyed) (x : Nat) (out : Array Keyed) (i j : Nat) : Prop where
  lft : Lft κ a b out i j
  i1 : 1 ≤ i
  ia : i ≤ a.size
  j2 : 2 ≤ j
  jb : j ≤ b.size
  le : x + i + j ≤ a.size + b.size
section
variable {a b out : Array Keyed} {x y i j k : Nat}
theorem pred_lt {i n : Nat} (h : 1 ≤ i) (k : i ≤ n) : i - 1 < n := Nat.lt_of_lt_of_le (Nat.sub_lt h Nat.one_pos) k
theorem Mh.ai (h : Mh κ a b x out i j) : i - 1 < a.size := pred_lt h.i1 h.ia
theorem Mh.j1 (h : Mh κ a b x out i j) : 1 ≤ j := Nat.le_of_succ_le h.j2
theorem Mh.bj (h : Mh κ a b x out i j) : j - 1 < b.size := pred_lt h.j1 h.jb
theorem Mh.dn (h : Mh κ a b (x + 1) out i j) : Mh κ a b x out i j := ⟨h.lft, h.i1, h.ia, h.j2, h.jb, by have := h.le; lia⟩
theorem Mh.f (h : Mh κ a b (x + f1 y + 1) out i j) : Mh κ a b (x + 1) out i j := ⟨h.lft, h.i1, h.ia, h.j2, h.jb, by have := h.le; lia⟩
theorem Mh.gA (h : Mh κ a b x out i j) (hx : ∀ y ∈ b.toList.take j, LeK κ y (a[i - 1]'h.ai)) : Lft κ a b (out.push (a[i - 1]'h.ai)) (i - 1) j := Lft.pushA (by rw [Nat.sub_add_cancel h.i1]; exact h.lft) h.ai hx
theorem Mh.gB (h : Mh κ a b x out i j) (hx : ∀ y ∈ a.toList.take i, LeK κ y (b[j - 1]'h.bj)) : Lft κ a b (out.push (b[j - 1]'h.bj)) i (j - 1) := Lft.pushB (by rw [Nat.sub_add_cancel h.j1]; exact h.lft) h.bj hx
theorem Mh.toA (h : Mh κ a b x out i j) (g : Lft κ a b (out.push (a[i - 1]'h.ai)) (i - 1) j) (e : ¬ (i - 1 == 0) = true) : Mh κ a b (x + 1) (out.push (a[i - 1]'h.ai)) (i - 1) j := ⟨g, Nat.pos_of_ne_zero (ne_of e), Nat.le_of_lt h.ai, h.j2, h.jb, by have := h.le; have := h.i1; lia⟩
theorem Mh.toB (h : Mh κ a b x out i j) (g : Lft κ a b (out.push (b[j - 1]'h.bj)) i (j - 1)) (e : ¬ (j - 1 == 1) = true) : Mh κ a b (x + 1) (out.push (b[j - 1]'h.bj)) i (j - 1) := ⟨g, h.i1, h.ia, by have := ne_of e; have := h.j2; lia, Nat.le_of_lt h.bj, by have := h.le; have := h.j2; lia⟩
theorem Mh.addA (h : Mh κ a b x out i j) (g : Lft κ a b (out ++ (a.extract k i).reverse) k j) (hk : k ≤ i) (e : ¬ (k == 0) = true) : Mh κ a b x (out ++ (a.extract k i).reverse) k j := ⟨g, Nat.pos_of_ne_zero (ne_of e), Nat.le_trans hk h.ia, h.j2, h.jb, Nat.le_trans (Nat.add_le_add_right (Nat.add_le_add_left hk _) _) h.le⟩
theorem Mh.addB (h : Mh κ a b x out i j) (g : Lft κ a b (out ++ (b.extract k j).reverse) i k) (hk : k ≤ j) (e : ¬ (k == 1) = true) (e' : ¬ (k == 0) = true) : Mh κ a b x (out ++ (b.extract k j).reverse) i k := ⟨g, h.i1, h.ia, by have := ne_of e; have := ne_of e'; lia, Nat.le_trans hk h.jb, Nat.le_trans (Nat.add_le_add_left hk _) h.le⟩
theorem Mh.no (h : Mh κ a b (max 0 (a.size + b.size)) out i j) : False := by have := h.i1; have := h.le; rw [Nat.zero_max] at this; lia
end
noncomputable def M4 {τ : Type} (κ : PyProof.Rows.KeyKind) (a b : Array Keyed) (x : Nat) (o : Nat × Nat × Array Keyed × τ) : Prop := Mh κ a b x o.2.2.1 o.1 o.2.1
theorem wp_mergeHi (hO : κ.OneLt) {a b : Array Keyed} {st : SortSt} {Q : Array Keyed → SortSt → Prop} (hk : kindOf st = oneType') (ha : Mrg κ a) (hb : Mrg κ b) (sa : Srt κ a.toList) (sb : Srt κ b.toList) (ha0 : 0 < a.size) (hb0 : 0 < b.size)
    (first : LeK κ b[0] a[0]) (lst : ∀ y ∈ b.toList, LeK κ y (a[a.size - 1]'(Nat.sub_lt ha0 Nat.one_pos)))
    (h : ∀ xs st', SG st st' → Pm κ a b xs → Q xs st') : wpS (model prog w) A E s (mergeHi' a b) Q st := by
  refine b_rule ?_
  extract_lets total done last na nb
  have hdone : ∀ {out i j}, Lft κ a b out i j → (i = 0 ∨ j = 0) → Pm κ a b (done out i j) := fun g => g.fin
  have hlast : ∀ {out i j}, Lft κ a b out i j → (j == 1) = true → Pm κ a b (last out i j) := fun g he => g.last fun y hy x hx => by
    rw [beq_iff_eq.mp he] at hy
    obtain ⟨t, h1, h2, rfl⟩ := mem_take hy
    obtain ⟨u, _, h3, rfl⟩ := mem_take hx
    have e : t = 0 := by lia
    subst e
    exact first.trans (srt_at sa (Nat.zero_le _) h3)
  have htot : total = a.size + b.size := rfl
  have hna : na = a.size - 1 := rfl
  have hnb : nb = b.size := rfl
  clear_value total done last na nb
  subst htot hna hnb
  have sg0 : SG st st := ⟨rfl, rfl, rfl, rfl⟩
  have hpa : a.size - 1 < a.size := pred_lt ha0 (Nat.le_refl _)
  refine b_elem hpa ?_
  have g0 : Lft κ a b #[a[a.size - 1]'hpa] (a.size - 1) b.size := Lft.pushA (out := #[]) ⟨by rw [Nat.sub_add_cancel ha0, List.drop_of_length_le (by simp), List.drop_of_length_le (by simp)]; exact List.Perm.refl _, by rw [Nat.sub_add_cancel ha0, List.take_of_length_le (by simp)]; show Srt κ (a.toList ++ []); rw [List.append_nil]; exact sa, by rw [List.take_of_length_le (by simp)]; show Srt κ (b.toList ++ []); rw [List.append_nil]; exact sb⟩ hpa (fun y hy => lst y (List.mem_of_mem_take hy))
  extract_lets out0
  replace g0 : Lft κ a b out0 (a.size - 1) b.size := g0
  clear_value out0
  refine wpS_ite (fun e1 => wpS_pure (h _ _ sg0 (hdone g0 (.inl (beq_iff_eq.mp e1))))) fun e1 => ?_
  refine wpS_ite (fun e2 => wpS_pure (h _ _ sg0 (hlast g0 e2))) fun e2 => ?_
  refine wpS_bind (wpS_get ?_)
  have kd : ∀ {st'}, SG st st' → kindOf st' = oneType' := fun x => x.kind.trans hk
  have hm0 : Mh κ a b 0 out0 (a.size - 1) b.size := ⟨g0, Nat.pos_of_ne_zero (ne_of e1), Nat.le_of_lt hpa, Nat.lt_of_le_of_ne hb0 (Ne.symm (ne_of e2)), Nat.le_refl _, by lia⟩
  clear e1 e2 g0
  refine b_loop (SG st) (Pm κ a b) (M4 κ a b) (fun _ => False) ?step (fun _ hm => hm.no) sg0 hm0 (fun r _ st' sg hr => wpS_pure (h r st' sg hr)) fun _ _ _ hF => hF.elim
  clear hm0 sg0 h
  rintro x ⟨i, j, out, g⟩ st' _ _ sg hm
  refine b_loop (SG st) (Pm κ a b) (fun y => M4 κ a b (x + f1 y)) (M4 κ a b (x + 1)) ?s1 (fun c hm => ?f1) sg hm (fun r _ st' sg hr => wpS_pure (sp_ret sg hr)) ?p1
  case f1 => rw [f1_pos (Nat.add_pos_left ha0 _)] at hm; exact hm
  case s1 =>
    clear hm sg
    rintro y ⟨i, j, out, p, q⟩ st' _ _ sg hm
    replace hm : Mh κ a b (x + f1 y) out i j := hm
    refine b_elem hm.bj (b_elem hm.ai (wpS_bind (wp_lt hO (kd sg) (hb.at hm.bj) (ha.at hm.ai) ?_)))
    cases ht : κ.blt (ky κ (b[j - 1]'hm.bj)) (ky κ (a[i - 1]'hm.ai)) with
    | true =>
      have gA := hm.gA (dn_all sb hm.bj (le_t ht))
      refine b_elem hm.ai ?_
      refine wpS_ite (fun e3 => wpS_pure (sp_ret sg (hdone gA (.inl (beq_iff_eq.mp e3))))) fun e3 => ?_
      exact wpS_ite (fun _ => wpS_pure (sp_brk sg (hm.toA gA e3).f)) fun _ => wpS_pure (sp_go sg (hm.toA gA e3).f)
    | false =>
      have gB := hm.gB (dn_all sa hm.ai (le_f ht))
      refine b_elem hm.bj ?_
      refine wpS_ite (fun e3 => wpS_pure (sp_ret sg (hlast gB e3))) fun e3 => ?_
      exact wpS_ite (fun _ => wpS_pure (sp_brk sg (hm.toB gB e3).f)) fun _ => wpS_pure (sp_go sg (hm.toB gB e3).f)
  case p1 =>
    clear hm sg
    rintro ⟨i, j, out, p, q⟩ st' sg hm
    refine b_rule ?_
    refine b_loop (SG st) (Pm κ a b) (fun _ => M4 κ a b (x + 1)) (M4 κ a b (x + 1)) ?s2 (fun _ hm => hm) sg hm (fun r _ st' sg hr => wpS_pure (sp_ret sg hr)) fun _ _ sg hm => b_mark sg fun _ sg => wpS_pure (sp_go sg hm)
    clear hm sg
    rintro y ⟨i, j, out, g, p, q⟩ st' _ _ sg hm
    replace hm : Mh κ a b (x + 1) out i j := hm
    dsimp (zeta := false) (zetaHave := false) only
    extract_lets s1 i1 s2 j1 s3 o1 s4 g1 s5 p1 q1 jn jp
    have x1 : out = o1 := rfl
    have x2 : i = i1 := rfl
    have x3 : j = j1 := rfl
    have x4 : j1 - 1 = jn := rfl
    clear_value o1 i1 j1 g1 p1 q1 jn
    subst x1 x2 x3 x4
    have hjp : ∀ u g2 st2, SG st st2 → wpS (model prog w) A E s (jp u g2) (Sp (SG st) (Pm κ a b) (M4 κ a b (x + 1)) (M4 κ a b (x + 1))) st2 := by
      intro u g2 st2 sg
      refine b_mark sg fun st3 sg => ?_
      refine b_elem hm.bj (wpS_bind (wp_gall hO (kd sg) (hb.at hm.bj) ha sa (by rw [Nat.zero_add]; exact hm.ia) (pred_lt hm.i1 (Nat.le_refl _)) fun k gr => ?_))
      have gA : Lft κ a b (out ++ (a.extract k i).reverse) k j := hm.lft.addA gr.hn fun y' hy z hz => by
        obtain ⟨t, h1, h2, h3, rfl⟩ := mem_low hz
        have := gr.highs t (by rw [Nat.zero_add]; exact h3) h1 h2
        simp only [Nat.zero_add] at this
        exact dn_all sb hm.bj this y' hy
      have top : ∀ i', i' = k → ∀ z ∈ a.toList.take i', LeK κ z (b[j - 1]'hm.bj) := fun i' e z hz => by
        subst e
        obtain ⟨t, h1, h2, rfl⟩ := mem_take hz
        have := gr.lows t (by rw [Nat.zero_add]; exact h2) h1
        simpa only [Nat.zero_add] using this
      dsimp (zeta := false) (zetaHave := false) only
      extract_lets k0 ac jp2 o3 i3
      have hjp2 : ∀ u i' out', Mh κ a b (x + 1) out' i' j → i' = k → wpS (model prog w) A E s (jp2 u i' out') (Sp (SG st) (Pm κ a b) (M4 κ a b (x + 1)) (M4 κ a b (x + 1))) st3 := by
        intro u i' out' hm ei
        refine b_elem hm.bj ?_
        have hg := hm.gB (top i' ei)
        have hmB := hm.toB hg
        extract_lets o2
        replace hg : Lft κ a b o2 i' (j - 1) := hg
        replace hmB : ¬ (j - 1 == 1) = true → Mh κ a b (x + 2) o2 i' (j - 1) := hmB
        clear_value o2
        refine wpS_ite (fun e6 => wpS_pure (sp_ret sg (hlast hg e6))) fun e6 => ?_
        replace hm := (hmB e6).dn
        clear hmB e6 hg
        refine b_elem hm.ai (wpS_bind (wp_gall hO (kd sg) (ha.at hm.ai) hb sb (by rw [Nat.zero_add]; exact hm.jb) (pred_lt hm.j1 (Nat.le_refl _)) fun k2 gr2 => ?_))
        have gB : Lft κ a b (o2 ++ (b.extract k2 (j - 1)).reverse) i' k2 := hm.lft.addB gr2.hn fun y' hy z hz => by
          obtain ⟨t, h1, h2, h3, rfl⟩ := mem_low hz
          have := gr2.highs t (by rw [Nat.zero_add]; exact h3) h1 h2
          simp only [Nat.zero_add] at this
          exact dn_all sa hm.ai this y' hy
        have top2 : ∀ j', j' = k2 → ∀ z ∈ b.toList.take j', LeK κ z (a[i' - 1]'hm.ai) := fun j' e z hz => by
          subst e
          obtain ⟨t, h1, h2, rfl⟩ := mem_take hz
          have := gr2.lows t (by rw [Nat.zero_add]; exact h2) h1
          simpa only [Nat.zero_add] using this
        dsimp (zeta := false) (zetaHave := false) only
        extract_lets kk bc jp3 o4 j4
        have hjp3 : ∀ u j' out', Mh κ a b (x + 1) out' i' j' → j' = k2 → wpS (model prog w) A E s (jp3 u j' out') (Sp (SG st) (Pm κ a b) (M4 κ a b (x + 1)) (M4 κ a b (x + 1))) st3 := by
          intro u j' out' hm ej
          have gA2 := hm.gA (top2 j' ej)
          refine b_elem hm.ai ?_
          refine wpS_ite (fun e8 => wpS_pure (sp_ret sg (hdone gA2 (.inl (beq_iff_eq.mp e8))))) fun e8 => ?_
          replace hm := (hm.toA gA2 e8).dn
          exact wpS_ite (fun _ => wpS_pure (sp_brk sg hm)) fun _ => wpS_pure (sp_go sg hm)
        have hkk : kk = j - 1 - k2 := rfl
        clear_value jp3
        refine wpS_ite (fun hk3 => ?_) fun hk3 => hjp3 _ _ _ hm (by have := gr2.hn; lia)
        refine wpS_ite (fun e7 => wpS_pure (sp_ret sg (hlast gB e7))) fun e7 => ?_
        exact wpS_ite (fun e9 => wpS_pure (sp_ret sg (hdone gB (.inr (beq_iff_eq.mp e9))))) fun e9 => hjp3 _ _ _ (hm.addB gB gr2.hn e7 e9) rfl
      have hk0' : k0 = i - k := rfl
      clear_value jp2
      refine wpS_ite (fun hk0 => ?_) fun hk0 => hjp2 _ _ _ hm (by have := gr.hn; lia)
      exact wpS_ite (fun e5 => wpS_pure (sp_ret sg (hdone gA (.inl (beq_iff_eq.mp e5))))) fun e5 => hjp2 _ _ _ (hm.addA gA gr.hn e5) rfl
    clear_value jp
    exact wpS_ite (fun _ => hjp _ _ _ sg) fun _ => hjp _ _ _ sg
noncomputable def Runs (κ : PyProof.Rows.KeyKind) (xs : List Keyed) : List (Nat × Nat × Nat) → Nat → Nat → Prop
  | [], a, e => a = e
  | x :: r, a, e => x.1 = a ∧ 0 < x.2.1 ∧ Srt κ ((xs.drop a).take x.2.1) ∧ Runs κ xs r (a + x.2.1) e
theorem Runs.app {xs : List Keyed} : ∀ {l r : List (Nat × Nat × Nat)} {a e : Nat}, Runs κ xs (l ++ r) a e ↔ ∃ m, Runs κ xs l a m ∧ Runs κ xs r m e
  | [], r, a, e => ⟨fun h => ⟨a, rfl, h⟩, fun ⟨m, h1, h2⟩ => by cases h1; exact h2⟩
  | x :: l, r, a, e => ⟨fun ⟨h1, h2, h3, h4⟩ => by obtain ⟨m, h5, h6⟩ := Runs.app.mp h4; exact ⟨m, ⟨h1, h2, h3, h5⟩, h6⟩, fun ⟨m, ⟨h1, h2, h3, h4⟩, h5⟩ => ⟨h1, h2, h3, Runs.app.mpr ⟨m, h4, h5⟩⟩⟩
theorem Runs.le {xs : List Keyed} : ∀ {l : List (Nat × Nat × Nat)} {a e : Nat}, Runs κ xs l a e → a + l.length ≤ e
  | [], a, e, h => Nat.le_of_eq h
  | x :: l, a, e, ⟨h1, h2, _, h3⟩ => by have := Runs.le h3; rw [List.length_cons]; lia
theorem Runs.to {xs ys : List Keyed} : ∀ {l : List (Nat × Nat × Nat)} {a e : Nat}, Runs κ xs l a e → (∀ i, a ≤ i → i < e → ys[i]? = xs[i]?) → Runs κ ys l a e
  | [], a, e, h, _ => h
  | x :: l, a, e, ⟨h1, h2, h3, h4⟩, hx => by
    have hle := h4.le
    have e1 : (ys.drop a).take x.2.1 = (xs.drop a).take x.2.1 := by
      apply List.ext_getElem?
      intro t
      rw [List.getElem?_take, List.getElem?_take, List.getElem?_drop, List.getElem?_drop]
      split
      · exact hx (a + t) (Nat.le_add_right _ _) (by lia)
      · rfl
    exact ⟨h1, h2, by rw [e1]; exact h3, Runs.to h4 fun i hi => hx i (by lia)⟩
theorem write_all : ∀ (m : List Keyed) (o c : Nat) (xs : Array Keyed), o + c + m.length ≤ xs.size → ((m.zipIdx c).foldl (fun a x => a.setIfInBounds (o + x.2) x.1) xs).toList = xs.toList.take (o + c) ++ m ++ xs.toList.drop (o + c + m.length)
  | [], o, c, xs, h => by simp
  | p :: m, o, c, xs, h => by
    rw [List.length_cons] at h
    have hz : (xs.setIfInBounds (o + c) p).size = xs.size := Array.size_setIfInBounds
    rw [List.zipIdx_cons, List.foldl_cons, write_all m o (c + 1) _ (by rw [hz]; lia), Array.toList_setIfInBounds]
    have hl : o + c < xs.toList.length := by rw [Array.length_toList]; lia
    have e1 : (xs.toList.set (o + c) p).take (o + (c + 1)) = xs.toList.take (o + c) ++ [p] := by
      rw [show o + (c + 1) = (o + c) + 1 by lia, List.take_add_one, List.take_set_of_le (by lia), List.getElem?_set_self hl]; rfl
    have e2 : (xs.toList.set (o + c) p).drop (o + (c + 1) + m.length) = xs.toList.drop (o + c + (p :: m).length) := by
      rw [List.length_cons, show o + (c + 1) + m.length = o + c + (m.length + 1) by lia, List.drop_set_of_lt (by lia)]
    rw [e1, e2]
    simp
theorem erase_pair {p : Array (Nat × Nat × Nat)} {i : Nat} {x y z : Nat × Nat × Nat} (h1 : p[i]? = some x) (h2 : p[i + 1]? = some y) : ∃ l r, p.toList = l ++ x :: y :: r ∧ ((p.setIfInBounds i z).eraseIdxIfInBounds (i + 1)).toList = l ++ z :: r ∧ l.length = i := by
  obtain ⟨hi1, e1⟩ := Array.getElem?_eq_some_iff.mp h1
  obtain ⟨hi2, e2⟩ := Array.getElem?_eq_some_iff.mp h2
  have hl1 : i < p.toList.length := by simpa using hi1
  have hl2 : i + 1 < p.toList.length := by simpa using hi2
  have hlen : (p.toList.take i).length = i := by rw [List.length_take]; lia
  have e : p.toList = p.toList.take i ++ x :: y :: p.toList.drop (i + 1 + 1) := by
    have d1 : p.toList.drop i = x :: p.toList.drop (i + 1) := by rw [List.drop_eq_getElem_cons hl1, Array.getElem_toList, e1]
    have d2 : p.toList.drop (i + 1) = y :: p.toList.drop (i + 1 + 1) := by rw [List.drop_eq_getElem_cons hl2, Array.getElem_toList, e2]
    rw [← d2, ← d1, List.take_append_drop]
  refine ⟨_, _, e, ?_, hlen⟩
  have hz : i + 1 < (p.setIfInBounds i z).size := by rw [Array.size_setIfInBounds]; exact hi2
  unfold Array.eraseIdxIfInBounds
  rw [dif_pos hz, Array.toList_eraseIdx, Array.toList_setIfInBounds]
  generalize p.toList.take i = l at e hlen
  generalize p.toList.drop (i + 1 + 1) = r at e
  rw [e, List.set_append_right _ _ (by lia), hlen, Nat.sub_self, List.set_cons_zero, List.eraseIdx_append_of_length_le (by lia), hlen, show i + 1 - i = 1 by lia]
  rfl
theorem wp_set {st x : SortSt} {Q : PUnit → SortSt → Prop} (h : Q ⟨⟩ x) : wpS (model prog w) A E s (set x : StateT SortSt Sem PUnit) Q st := by
  unfold wpS; rw [StateT.run_set]; exact wpAny_pure ⟨rfl, h⟩
theorem Mrg.ext {xs : Array Keyed} (h : Mrg κ xs) {p q : Nat} : Mrg κ (xs.extract p q) := fun x hx => by
  rw [Array.toList_extract, List.extract_eq_take_drop] at hx
  exact h x (List.mem_of_mem_drop (List.mem_of_mem_take hx))
theorem seg_at {xs : Array Keyed} {i n u t : Nat} (h : Srt κ ((xs.toList.drop i).take n)) (hu : u ≤ t) (ht : t < n) (hi : i + t < xs.size) : LeK κ (xs[i + u]'(by lia)) xs[i + t] := by
  rcases Nat.lt_or_eq_of_le hu with hl | rfl
  · have hlen : t < ((xs.toList.drop i).take n).length := by rw [List.length_take, List.length_drop, Array.length_toList]; lia
    have := List.pairwise_iff_getElem.mp h u t (by lia) hlen hl
    rwa [List.getElem_take, List.getElem_take, List.getElem_drop, List.getElem_drop, Array.getElem_toList, Array.getElem_toList] at this
  · exact LeK.refl _
theorem mono_seg {left : Bool} {key : Keyed} {xs : Array Keyed} {base n : Nat} (h : Srt κ ((xs.toList.drop base).take n)) (hb : base + n ≤ xs.size) : ∀ u t, u ≤ t → t < n → bey κ left key (KK κ xs (base + t)) = true → bey κ left key (KK κ xs (base + u)) = true := by
  intro u t hut ht hb'
  have ht' : base + t < xs.size := by lia
  have hl := seg_at h hut ht ht'
  rw [KK_is ht'] at hb'
  rw [KK_is (Nat.lt_of_le_of_lt (Nat.add_le_add_left hut base) ht')]
  unfold bey at *
  cases left with
  | true => exact KeyOrd.klt_of_kle_of_klt hl hb'
  | false =>
    rw [if_neg Bool.false_ne_true, Bool.not_eq_true'] at *
    exact KeyOrd.kle_trans hl hb'
theorem wp_galS (hO : κ.OneLt) {left : Bool} {key : Keyed} {xs : Array Keyed} {base n hint : Nat} {st : SortSt} {Q : Option Nat → SortSt → Prop} (hk : kindOf st = oneType') (hkey : Kd1 κ key) (hm : Mrg κ xs) (hs : Srt κ ((xs.toList.drop base).take n)) (hb : base + n ≤ xs.size) (hh : hint < n)
    (h : ∀ k, GR κ key xs base n k → Q (some k) st) : wpS (model prog w) A E s (gallop' left key xs base n hint) Q st :=
  wp_gallop hO hk hkey (fun i hi => hm.some (by lia)) hh (mono_seg hs hb) fun k g => h k (gr_of g)
theorem glue0 {s1 s2 : List Keyed} (h1 : Srt κ s1) (h2 : Srt κ s2) (l : ∀ x ∈ s1, ∀ y ∈ s2, LeK κ x y) : Srt κ (s1 ++ s2) := List.pairwise_append.mpr ⟨h1, h2, l⟩
theorem glue {s1 s2 M : List Keyed} {k k2 : Nat} (h1 : Srt κ s1) (h2 : Srt κ s2) (hM : Srt κ M) (pM : M.Perm (s1.drop k ++ s2.take k2)) (l1 : ∀ x ∈ s1.take k, ∀ y ∈ s2, LeK κ x y) (l2 : ∀ x ∈ s1, ∀ y ∈ s2.drop k2, LeK κ x y) : Srt κ (s1.take k ++ M ++ s2.drop k2) := by
  have d1 : Srt κ (s1.take k ++ s1.drop k) := by rw [List.take_append_drop]; exact h1
  have d2 : Srt κ (s2.take k2 ++ s2.drop k2) := by rw [List.take_append_drop]; exact h2
  have d1 := List.pairwise_append.mp d1
  have d2 := List.pairwise_append.mp d2
  refine glue0 (glue0 d1.1 hM fun x hx y hy => ?_) d2.2.1 fun x hx y hy => ?_
  · rcases List.mem_append.mp (pM.mem_iff.mp hy) with hy | hy
    · exact d1.2.2 x hx y hy
    · exact l1 x hx y (List.mem_of_mem_take hy)
  · rcases List.mem_append.mp hx with hx | hx
    · exact l2 x (List.mem_of_mem_take hx) y hy
    · rcases List.mem_append.mp (pM.mem_iff.mp hx) with hx | hx
      · exact l2 x (List.mem_of_mem_drop hx) y hy
      · exact d2.2.2 x hx y hy
theorem mem_end {xs : Array Keyed} {i n k : Nat} {x : Keyed} (h : x ∈ ((xs.toList.drop i).take n).drop k) : ∃ t, k ≤ t ∧ t < n ∧ ∃ h : i + t < xs.size, x = xs[i + t] := by
  obtain ⟨t, ht, e⟩ := List.mem_iff_getElem.mp h
  rw [List.length_drop, List.length_take, List.length_drop, Array.length_toList] at ht
  rw [List.getElem_drop, List.getElem_take, List.getElem_drop, Array.getElem_toList] at e
  exact ⟨k + t, Nat.le_add_right _ _, by lia, by lia, e.symm⟩
theorem seg_cut {l : List Keyed} {i n m : Nat} : (l.drop i).take (n + m) = (l.drop i).take n ++ (l.drop (i + n)).take m := by rw [List.take_add, List.drop_drop]
structure Wt (κ : PyProof.Rows.KeyKind) (a₀ : Array Keyed) (p : Array (Nat × Nat × Nat)) (lo : Nat) (st : SortSt) : Prop where
  si : SI a₀ p st
  runs : Runs κ (arrOf st).toList p.toList 0 lo
noncomputable def Beh (lo : Nat) (st st' : SortSt) : Prop := ∀ i, lo ≤ i → (arrOf st').toList[i]? = (arrOf st).toList[i]?
theorem wp_mergeAt (hO : κ.OneLt) (h0 : KeysOf κ a₀) {i lo : Nat} {st : SortSt} {Q : Bool → SortSt → Prop} (hW : Wt κ a₀ pd lo st) (hlo : lo ≤ a₀.size) (hi : i + 1 < pd.size) (h : ∀ st' p', Wt κ a₀ p' lo st' → p'.size + 1 = pd.size → Beh lo st st' → Q true st') : wpS (model prog w) A E s (mergeAt' i) Q st := by
  obtain ⟨hB, hs⟩ := hW
  refine wpS_bind (wpS_get ?_)
  rcases hx : pd[i]'(Nat.lt_of_succ_lt hi) with ⟨sa, na, pw⟩
  rcases hy : pd[i + 1] with ⟨sb, nb, pw'⟩
  have e1 : pd[i]? = some (sa, na, pw) := by rw [Array.getElem?_eq_getElem (Nat.lt_of_succ_lt hi), hx]
  have e2 : pd[i + 1]? = some (sb, nb, pw') := by rw [Array.getElem?_eq_getElem hi, hy]
  obtain ⟨l, r, hl, hp', _⟩ := erase_pair (z := (sa, na + nb, pw)) e1 e2
  have hsz : ((pd.setIfInBounds i (sa, na + nb, pw)).eraseIdxIfInBounds (i + 1)).size + 1 = pd.size := by
    have a1 := congrArg List.length hp'
    have a2 := congrArg List.length hl
    rw [Array.length_toList, List.length_append, List.length_cons] at a1 a2
    rw [List.length_cons] at a2
    lia
  rw [hl] at hs
  obtain ⟨m, r1, q1, q2, S1, q3, q4, S2, q5⟩ := Runs.app.mp hs
  have hend := q5.le
  replace q1 : sa = m := q1
  replace q2 : 0 < na := q2
  replace q3 : sb = m + na := q3
  replace q4 : 0 < nb := q4
  replace S1 : Srt κ (((arrOf st).toList.drop m).take na) := S1
  replace S2 : Srt κ (((arrOf st).toList.drop (m + na)).take nb) := S2
  replace q5 : Runs κ (arrOf st).toList r (m + na + nb) lo := q5
  replace hend : m + na + nb ≤ lo := Nat.le_trans (Nat.le_add_right _ _) hend
  subst q1 q3
  -- the new runs, once the merged piece is in order
  have hR : ∀ xs : List Keyed, (∀ t, t < sa ∨ sa + na + nb ≤ t → xs[t]? = (arrOf st).toList[t]?) → Srt κ ((xs.drop sa).take (na + nb)) → Runs κ xs ((pd.setIfInBounds i (sa, na + nb, pw)).eraseIdxIfInBounds (i + 1)).toList 0 lo := fun xs hxs hsr => by
    rw [hp']
    refine Runs.app.mpr ⟨sa, r1.to fun t _ ht => hxs t (.inl ht), rfl, Nat.add_pos_left q2 nb, hsr, ?_⟩
    show Runs κ xs r (sa + (na + nb)) lo
    rw [← Nat.add_assoc]
    exact q5.to fun t ht _ => hxs t (.inr ht)
  have hE : sa + na + nb ≤ (arrOf st).size := by rw [hB.size]; exact Nat.le_trans hend hlo
  have hA : sa + na ≤ (arrOf st).size := Nat.le_trans (Nat.le_add_right _ _) hE
  have km : Mrg κ (arrOf st) := fun p hp => h0 p ((Array.perm_iff_toList_perm.mp hB.perm).mem_iff.mp hp)
  have hpe : (sortPriv% PySem.Builtin.SortState.pending) st = pd := hB.pend
  clear hs hl hp' hx hy q5 r1
  simp only [hpe, e1, e2]
  clear e1 e2 hpe
  generalize (pd.setIfInBounds i (sa, na + nb, pw)).eraseIdxIfInBounds (i + 1) = p' at hR hsz
  refine wpS_bind (wp_set (x := SortSt.mk' (kindOf st) (arrOf st) p' (gallopOf st) (failedOf st)) ?_)
  generalize hs2 : SortSt.mk' (kindOf st) (arrOf st) p' (gallopOf st) (failedOf st) = st2
  have hB2 : SI a₀ p' st2 := by rw [← hs2]; exact ⟨hB.perm, hB.kind, hB.failed, rfl⟩
  have ha2 : arrOf st2 = arrOf st := by rw [← hs2]
  clear hs2
  -- nothing moved
  have stay : (∀ x ∈ ((arrOf st).toList.drop sa).take na, ∀ y ∈ ((arrOf st).toList.drop (sa + na)).take nb, LeK κ x y) → Q true st2 := fun hl => by
    refine h st2 p' ⟨hB2, ?_⟩ hsz (fun t _ => by rw [ha2])
    rw [ha2]
    exact hR _ (fun _ _ => rfl) (by rw [seg_cut]; exact glue0 S1 S2 hl)
  have hb : sa + na < (arrOf st).size := Nat.lt_of_lt_of_le (Nat.lt_add_of_pos_right q4) hE
  have heads : ∀ y ∈ ((arrOf st).toList.drop (sa + na)).take nb, LeK κ (arrOf st)[sa + na] y := fun y hy => by
    obtain ⟨t, ht, h', rfl⟩ := mem_seg hy
    exact seg_at S2 (Nat.zero_le _) ht h'
  refine b_elem hb (wpS_bind (wp_galS hO hB2.kind (km.at hb) km S1 hA q2 fun k gr => ?_))
  have l1 : ∀ x ∈ ((arrOf st).toList.drop sa).take k, ∀ y ∈ ((arrOf st).toList.drop (sa + na)).take nb, LeK κ x y := fun x hx y hy => by
    obtain ⟨t, ht, h', rfl⟩ := mem_seg hx
    exact (gr.lows t h' ht).trans (heads y hy)
  dsimp (zeta := false) (zetaHave := false) only
  refine wpS_ite (fun e3 => ?_) fun e3 => ?_
  · have e3 := beq_iff_eq.mp e3
    have hkn : k = na := by have := gr.hn; lia
    subst hkn
    exact wpS_pure (stay l1)
  have e3 : k < na := Nat.lt_of_le_of_ne gr.hn fun e => e3 (by rw [e, Nat.sub_self]; rfl)
  have hs3 : sa + k + (na - k) - 1 < (arrOf st).size := by lia
  refine b_elem hs3 (wpS_bind (wp_galS hO hB2.kind (km.at hs3) km S2 hE (pred_lt q4 (Nat.le_refl _)) fun k2 gr2 => ?_))
  have ei : sa + k + (na - k) - 1 = sa + (na - 1) := by lia
  have l2 : ∀ x ∈ ((arrOf st).toList.drop sa).take na, ∀ y ∈ (((arrOf st).toList.drop (sa + na)).take nb).drop k2, LeK κ x y := fun x hx y hy => by
    obtain ⟨t, ht, h', rfl⟩ := mem_seg hx
    obtain ⟨u, hu, hun, h'', rfl⟩ := mem_end hy
    have a1 := gr2.highs u h'' hu hun
    simp only [ei] at a1
    exact (seg_at S1 (u := t) (t := na - 1) (by lia) (by lia) (by lia)).trans a1
  dsimp (zeta := false) (zetaHave := false) only
  refine wpS_ite (fun e4 => ?_) fun e4 => ?_
  · have e4 := beq_iff_eq.mp e4
    subst e4
    exact wpS_pure (stay l2)
  have hsk : sa + k < sa + na := Nat.add_lt_add_left e3 sa
  have hk3 : sa + na + k2 ≤ (arrOf st).size := Nat.le_trans (Nat.add_le_add_left gr2.hn _) hE
  have hk2 : 0 < k2 := Nat.pos_of_ne_zero (ne_of e4)
  have exA : ((arrOf st).extract (sa + k) (sa + na)).toList = (((arrOf st).toList.drop sa).take na).drop k := by
    rw [Array.toList_extract, List.extract_eq_take_drop, List.drop_take, List.drop_drop, show sa + na - (sa + k) = na - k by lia]
  have exB : ((arrOf st).extract (sa + na) (sa + na + k2)).toList = (((arrOf st).toList.drop (sa + na)).take nb).take k2 := by
    rw [ext_list, List.take_take, Nat.min_eq_left gr2.hn]
  have tkA : (((arrOf st).toList.drop sa).take na).take k = ((arrOf st).toList.drop sa).take k := by rw [List.take_take, Nat.min_eq_left gr.hn]
  have fin : ∀ (xs : Array Keyed) (st3 : SortSt), SG st2 st3 → Pm κ ((arrOf st).extract (sa + k) (sa + na)) ((arrOf st).extract (sa + na) (sa + na + k2)) xs →
      Q ((failedOf st3).isNone) (setArr st3 (xs.toList.zipIdx.foldl (fun a x => a.setIfInBounds (sa + k + x.2) x.1) (arrOf st3))) := by
    intro xs st3 sg hp
    rw [sg.failed, hB2.failed]
    have hpm := hp.pm
    rw [exA, exB] at hpm
    have hml : xs.toList.length = (na - k) + k2 := by
      rw [hpm.length_eq, List.length_append, List.length_drop, List.length_take, List.length_take, List.length_take, List.length_drop, List.length_drop, Array.length_toList]
      have := gr2.hn
      lia
    have hwr : (xs.toList.zipIdx.foldl (fun a x => a.setIfInBounds (sa + k + x.2) x.1) (arrOf st3)).toList = (arrOf st).toList.take (sa + k) ++ xs.toList ++ (arrOf st).toList.drop (sa + na + k2) := by
      rw [sg.arr, ha2, write_all xs.toList (sa + k) 0 (arrOf st) (by rw [hml]; lia), Nat.add_zero, hml, show sa + k + (na - k + k2) = sa + na + k2 by lia]
    have hlen1 : ((arrOf st).toList.take (sa + k)).length = sa + k := by rw [List.length_take, Array.length_toList]; lia
    have hlen2 : ((arrOf st).toList.take (sa + k) ++ xs.toList).length = sa + na + k2 := by rw [List.length_append, hlen1, hml]; lia
    have out : ∀ t, t < sa ∨ sa + na + nb ≤ t → ((arrOf st).toList.take (sa + k) ++ xs.toList ++ (arrOf st).toList.drop (sa + na + k2))[t]? = (arrOf st).toList[t]? := fun t ht => by
      rcases ht with ht | ht
      · rw [List.getElem?_append_left (by rw [hlen2]; lia), List.getElem?_append_left (by rw [hlen1]; lia), List.getElem?_take_of_lt (by lia)]
      · have := gr2.hn
        rw [List.getElem?_append_right (by rw [hlen2]; lia), hlen2, List.getElem?_drop]
        congr 1; lia
    refine h _ p' ⟨⟨?_, sg.kind.trans hB2.kind, sg.failed.trans hB2.failed, sg.pend.trans hB2.pend⟩, ?_⟩ hsz fun t ht => ?_
    · refine Array.Perm.trans ?_ hB.perm
      refine Array.perm_iff_toList_perm.mpr ?_
      show (xs.toList.zipIdx.foldl (fun a x => a.setIfInBounds (sa + k + x.2) x.1) (arrOf st3)).toList.Perm _
      rw [hwr]
      have e9 : (arrOf st).toList = (arrOf st).toList.take (sa + k) ++ ((((arrOf st).toList.drop sa).take na).drop k ++ (((arrOf st).toList.drop (sa + na)).take nb).take k2) ++ (arrOf st).toList.drop (sa + na + k2) := by
        rw [← exA, ← exB, ext_seg, ext_seg, List.append_assoc, List.append_assoc, ← drop_more (Nat.le_add_right _ _), ← drop_more (Nat.le_of_lt hsk), List.take_append_drop]
      conv => rhs; rw [e9]
      exact (List.Perm.append_left _ hpm).append_right _
    · show Runs κ (xs.toList.zipIdx.foldl (fun a x => a.setIfInBounds (sa + k + x.2) x.1) (arrOf st3)).toList p'.toList 0 lo
      rw [hwr]
      refine hR _ out ?_
      have eseg : (((arrOf st).toList.take (sa + k) ++ xs.toList ++ (arrOf st).toList.drop (sa + na + k2)).drop sa).take (na + nb) = (((arrOf st).toList.drop sa).take na).take k ++ xs.toList ++ (((arrOf st).toList.drop (sa + na)).take nb).drop k2 := by
        have hkn := gr2.hn
        rw [List.append_assoc, List.drop_append_of_le_length (by rw [hlen1]; lia), List.drop_take, Nat.add_sub_cancel_left, tkA, ← List.append_assoc]
        have hl3 : (((arrOf st).toList.drop sa).take k ++ xs.toList).length = na + k2 := by
          rw [List.length_append, List.length_take, List.length_drop, Array.length_toList, hml]; lia
        rw [List.take_append, List.take_of_length_le (by rw [hl3]; lia), hl3, List.drop_take, List.drop_drop, show na + nb - (na + k2) = nb - k2 by lia]
      rw [eseg]
      exact glue S1 S2 hp.st hpm (by rw [tkA]; exact l1) l2
    · show (xs.toList.zipIdx.foldl (fun a x => a.setIfInBounds (sa + k + x.2) x.1) (arrOf st3)).toList[t]? = _
      rw [hwr]
      exact out t (.inr (Nat.le_trans hend ht))
  have sz : ∀ {p q}, p < q → q ≤ (arrOf st).size → 0 < ((arrOf st).extract p q).size := fun h1 h2 => by rw [Array.size_extract, Nat.min_eq_left h2]; exact Nat.sub_pos_of_lt h1
  have sz1 := sz hsk hA
  have sz2 := sz (Nat.lt_add_of_pos_right hk2) hk3
  have srA : Srt κ ((arrOf st).extract (sa + k) (sa + na)).toList := by rw [exA]; exact S1.sublist (List.drop_sublist _ _)
  have srB : Srt κ ((arrOf st).extract (sa + na) (sa + na + k2)).toList := by rw [exB]; exact S2.sublist (List.take_sublist _ _)
  have fst : LeK κ (((arrOf st).extract (sa + na) (sa + na + k2))[0]'sz2) (((arrOf st).extract (sa + k) (sa + na))[0]'sz1) := by
    rw [Array.getElem_extract, Array.getElem_extract]
    exact gr.highs k (Nat.lt_of_lt_of_le hsk hA) (Nat.le_refl _) e3
  have lst : ∀ y ∈ ((arrOf st).extract (sa + na) (sa + na + k2)).toList, LeK κ y (((arrOf st).extract (sa + k) (sa + na))[((arrOf st).extract (sa + k) (sa + na)).size - 1]'(Nat.sub_lt sz1 Nat.one_pos)) := fun y hy => by
    rw [exB, List.take_take, Nat.min_eq_left gr2.hn] at hy
    obtain ⟨t, ht, h', rfl⟩ := mem_seg hy
    have a1 := gr2.lows t h' ht
    have ei2 : sa + k + (((arrOf st).extract (sa + k) (sa + na)).size - 1) = sa + k + (na - k) - 1 := by rw [Array.size_extract, Nat.min_eq_left hA]; lia
    rw [Array.getElem_extract]
    simp only [ei2]
    exact a1
  refine wpS_ite (fun _ => ?_) fun _ => ?_
  · exact wpS_bind (wp_mergeLo hO hB2.kind km.ext km.ext srA srB sz1 sz2 fst lst fun xs st3 sg hp => wpS_bind (wpS_modify (wpS_bind (wpS_get (wpS_pure (fin xs st3 sg hp))))))
  · exact wpS_bind (wp_mergeHi hO hB2.kind km.ext km.ext srA srB sz1 sz2 fst lst fun xs st3 sg hp => wpS_bind (wpS_modify (wpS_bind (wpS_get (wpS_pure (fin xs st3 sg hp))))))
inductive Rm {ρ τ : Type} (M : τ → SortSt → Prop) : Option ρ × τ → SortSt → Prop
  | on {o st} : M o st → Rm M (none, o) st
noncomputable def Sm2 {ρ τ : Type} (M J : τ → SortSt → Prop) (r : ForInStep (Option ρ × τ)) (st : SortSt) : Prop := match r with | .done c => Rm M c st | .yield c => Rm J c st
theorem sm_brk {ρ τ : Type} {M J : τ → SortSt → Prop} {st : SortSt} {o : τ} (h : M o st) : Sm2 (ρ := ρ) M J (.done (none, o)) st := .on h
theorem sm_go {ρ τ : Type} {M J : τ → SortSt → Prop} {st : SortSt} {o : τ} (h : J o st) : Sm2 (ρ := ρ) M J (.yield (none, o)) st := .on h
theorem b_loopS {α ρ τ : Type} {a n : Nat} {f : Nat → Option ρ × τ → StateT SortSt Sem (ForInStep (Option ρ × τ))} {k : Option ρ × τ → StateT SortSt Sem α} {Q : α → SortSt → Prop} {c : τ} {st : SortSt} (J : Nat → τ → SortSt → Prop) (M : τ → SortSt → Prop)
    (hs : ∀ i c st, a ≤ i → i < n → J i c st → wpS (model prog w) A E s (f i (none, c)) (Sm2 M (J (i + 1))) st) (he : ∀ c st, J (max a n) c st → M c st) (h : J a c st) (hk : ∀ c st, M c st → wpS (model prog w) A E s (k (none, c)) Q st) : wpS (model prog w) A E s (forIn [a:n] (none, c) f >>= k) Q st := by
  refine wpS_bind (wpS_mono (wpS_forRange (Q := Rm M) (fun i => Rm (J i)) (fun i c st h1 h2 hi => ?_) (fun c st hi => ?_) (.on h)) fun c st hi => ?_)
  · cases hi with
    | on hm => exact wpS_mono (hs _ _ _ h1 h2 hm) fun r _ h => by cases r <;> exact h
  · cases hi with
    | on hm => exact .on (he _ _ hm)
  · cases hi with
    | on hm => exact hk _ _ hm
noncomputable def AscR (κ : PyProof.Rows.KeyKind) (xs : Array Keyed) (lo n : Nat) : Prop := ∀ i j, i ≤ j → j < n → κ.kle (KK κ xs (lo + i)) (KK κ xs (lo + j))
noncomputable def DscR (κ : PyProof.Rows.KeyKind) (xs : Array Keyed) (lo n : Nat) : Prop := ∀ i j, i ≤ j → j < n → κ.kle (KK κ xs (lo + j)) (KK κ xs (lo + i))
theorem AscR.up {xs : Array Keyed} {lo x : Nat} (h : AscR κ xs lo x) (hx : 1 ≤ x) (hk : κ.kle (KK κ xs (lo + x - 1)) (KK κ xs (lo + x))) : AscR κ xs lo (x + 1) := fun i j hij hj => by
  by_cases hjx : j < x
  · exact h i j hij hjx
  · have hj' : j = x := by lia
    subst hj'
    by_cases hi' : i = j
    · subst hi'; exact KeyOrd.kle_refl _
    · have := h i (j - 1) (by lia) (by lia)
      rw [show lo + (j - 1) = lo + j - 1 by lia] at this
      exact KeyOrd.kle_trans this hk
theorem DscR.up {xs : Array Keyed} {lo x : Nat} (h : DscR κ xs lo x) (hx : 1 ≤ x) (hk : κ.kle (KK κ xs (lo + x)) (KK κ xs (lo + x - 1))) : DscR κ xs lo (x + 1) := fun i j hij hj => by
  by_cases hjx : j < x
  · exact h i j hij hjx
  · have hj' : j = x := by lia
    subst hj'
    by_cases hi' : i = j
    · subst hi'; exact KeyOrd.kle_refl _
    · have := h i (j - 1) (by lia) (by lia)
      rw [show lo + (j - 1) = lo + j - 1 by lia] at this
      exact KeyOrd.kle_trans hk this
theorem AscR.one {xs : Array Keyed} {lo : Nat} : AscR κ xs lo 1 := fun i j hij hj => by
  have : i = j := by lia
  subst this; exact KeyOrd.kle_refl _
theorem DscR.same {xs ys : Array Keyed} {lo n : Nat} (h : DscR κ xs lo n) (e : ∀ k, KK κ ys k = KK κ xs k) : DscR κ ys lo n := fun i j hij hj => by rw [e, e]; exact h i j hij hj
theorem DscR.turn {xs : Array Keyed} {lo n : Nat} (h : DscR κ xs lo n) (hn : lo + n ≤ xs.size) : AscR κ (mirror xs lo (lo + n) ((lo + n - lo) / 2)) lo n := fun i j hij hj => by
  rw [KK_mirror hn, KK_mirror hn, if_pos (by lia), if_pos (by lia), show lo + (lo + n) - 1 - (lo + i) = lo + (n - 1 - i) by lia, show lo + (lo + n) - 1 - (lo + j) = lo + (n - 1 - j) by lia]
  exact h _ _ (by lia) (by lia)
structure Cr (a₀ : Array Keyed) (pd : Array (Nat × Nat × Nat)) (lo : Nat) (xs₀ : Array Keyed) (st : SortSt) : Prop where
  si : SI a₀ pd st
  low : ∀ i, i < lo → (arrOf st)[i]? = xs₀[i]?
theorem Cr.rev {lo i j : Nat} {xs₀ : Array Keyed} {st : SortSt} (h : Cr a₀ pd lo xs₀ st) (hi : lo ≤ i) (hj : j ≤ a₀.size) : Cr a₀ pd lo xs₀ (setArr st (mirror (arrOf st) i j ((j - i) / 2))) :=
  ⟨h.si.setArr (mirror_perm _ _ _ _), fun k hk => by
    show (mirror (arrOf st) i j ((j - i) / 2))[k]? = _
    rw [getElem?_mirror_all (by rw [h.si.size]; exact hj), if_neg (by lia)]
    exact h.low k hk⟩
theorem wp_countRun (hO : κ.OneLt) (h0 : KeysOf κ a₀) {st : SortSt} {lo nrem : Nat} {Q : Option Nat → SortSt → Prop} (hB : SI a₀ pd st) (hn : lo + nrem ≤ a₀.size) (h1 : 1 ≤ nrem) (h : ∀ m st', Cr a₀ pd lo (arrOf st) st' → 1 ≤ m → m ≤ nrem → AscR κ (arrOf st') lo m → Q (some m) st') : wpS (model prog w) A E s (countRun' lo nrem) Q st := by
  rw [countRun'_eq]
  extract_lets n0
  have hl : ∀ {n}, n < nrem → lo + n < a₀.size ∧ lo + n - 1 < a₀.size := fun h => ⟨by lia, by lia⟩
  have hc0 : Cr a₀ pd lo (arrOf st) st := ⟨hB, fun _ _ => rfl⟩
  generalize arrOf st = xs₀ at h hc0
  refine b_loop (fun st' => st = st') (fun _ => False) (fun x n => x = n ∧ AscR κ (arrOf st) lo x) (fun n => 1 ≤ n ∧ n ≤ nrem ∧ AscR κ (arrOf st) lo n ∧ (n = nrem ∨ κ.blt (KK κ (arrOf st) (lo + n)) (KK κ (arrOf st) (lo + n - 1)) = true)) ?step (fun c hc => ?fin) rfl ⟨rfl, AscR.one⟩ (fun _ _ _ _ hF => hF.elim) ?post
  case fin =>
    obtain ⟨rfl, hs⟩ := hc
    rw [Nat.max_eq_right h1] at hs ⊢
    exact ⟨h1, Nat.le_refl _, hs, .inl rfl⟩
  case step =>
    rintro x _ _ h1x hx rfl ⟨rfl, hs⟩
    refine wpS_bind (wp_ltAt hO h0 hB (hl hx).1 (hl hx).2 ?_)
    cases hb : κ.blt (KK κ (arrOf st) (lo + x)) (KK κ (arrOf st) (lo + x - 1)) with
    | true => exact wpS_pure (sp_brk rfl ⟨h1x, Nat.le_of_lt hx, hs, .inr hb⟩)
    | false => exact wpS_pure (sp_go rfl ⟨rfl, hs.up h1x hb⟩)
  case post =>
    rintro n _ rfl ⟨hn1, hn2, hsn, hor⟩
    dsimp (zeta := false) (zetaHave := false) only
    extract_lets r0 n2 n3 jp
    have e2 : n = n2 := rfl
    have e3 : n2 + 1 = n3 := rfl
    clear_value n2 n3
    subst e2 e3
    have hjp : ∀ st', n < nrem → Cr a₀ pd lo xs₀ st' → DscR κ (arrOf st') lo (n + 1) → wpS (model prog w) A E s (jp ()) Q st' := by
      intro st' hlt hC hN
      refine b_rule ?_
      refine b_loopS (fun x (o : Nat × Nat) st' => x = o.1 ∧ Cr a₀ pd lo xs₀ st' ∧ DscR κ (arrOf st') lo x ∧ o.2 + 1 ≤ x ∧ ∀ i, x - (o.2 + 1) ≤ i → i < x → KK κ (arrOf st') (lo + i) = KK κ (arrOf st') (lo + x - 1))
        (fun o st' => 1 ≤ o.1 ∧ o.1 ≤ nrem ∧ Cr a₀ pd lo xs₀ st' ∧ DscR κ (arrOf st') lo o.1 ∧ o.2 + 1 ≤ o.1 ∧ ∀ i, o.1 - (o.2 + 1) ≤ i → i < o.1 → KK κ (arrOf st') (lo + i) = KK κ (arrOf st') (lo + o.1 - 1)) ?step2 ?fin2 ⟨rfl, hC, hN, ?ini1, ?ini2⟩ ?post2
      case ini1 => show 0 + 1 ≤ n + 1; lia
      case ini2 =>
        intro i i1 i2
        replace i1 : n + 1 - (0 + 1) ≤ i := i1
        congr 1; lia
      case fin2 =>
        rintro ⟨m, q⟩ st' ⟨c1, c2, c3, c4, c5⟩
        replace c1 : max (n + 1) nrem = m := c1
        rw [Nat.max_eq_right hlt] at c1 c3 c4 c5
        subst c1
        exact ⟨h1, Nat.le_refl _, c2, c3, c4, c5⟩
      case step2 =>
        rintro x ⟨m, q⟩ st' h1x hx ⟨em, hC', hN', hq, he⟩
        replace em : x = m := em
        subst em
        replace hq : q + 1 ≤ x := hq
        replace he : ∀ i, x - (q + 1) ≤ i → i < x → KK κ (arrOf st') (lo + i) = KK κ (arrOf st') (lo + x - 1) := he
        have hx1 : 1 ≤ x := by lia
        have hsz : lo + x ≤ (arrOf st').size := by rw [hC'.si.size]; lia
        refine wpS_bind (wp_ltAt hO h0 hC'.si (hl hx).1 (hl hx).2 ?_)
        cases hb : κ.blt (KK κ (arrOf st') (lo + x)) (KK κ (arrOf st') (lo + x - 1)) with
        | true =>
          have hup := hN'.up hx1 (KeyOrd.kle_of_klt hb)
          have ini : ∀ (xs : Array Keyed) i, x + 1 - (0 + 1) ≤ i → i < x + 1 → KK κ xs (lo + i) = KK κ xs (lo + (x + 1) - 1) := fun xs i h1 h2 => by congr 1; lia
          refine wpS_ite (fun _ => wpS_ite (fun _ => wpS_bind (wpS_reverse (wpS_pure (sm_go ⟨rfl, hC'.rev (i := lo + x - (q + 1)) (j := lo + x) (by lia) (by lia), ?_, by show 0 + 1 ≤ x + 1; lia, ini _⟩)))) fun _ => wpS_pure (sm_go ⟨rfl, hC', hup, by show 0 + 1 ≤ x + 1; lia, ini _⟩)) fun hF => (hF rfl).elim
          refine hup.same fun k => KK_mirror_equal (i := lo + x - (q + 1)) (j := lo + x) hsz (fun k h1 h2 => ?_) k
          have := he (k - lo) (by lia) (by lia)
          rwa [show lo + (k - lo) = k by lia] at this
        | false =>
          refine wpS_bind (wp_ltAt hO h0 hC'.si (hl hx).2 (hl hx).1 ?_)
          cases hb2 : κ.blt (KK κ (arrOf st') (lo + x - 1)) (KK κ (arrOf st') (lo + x)) with
          | true => exact wpS_pure (sm_brk ⟨hx1, Nat.le_of_lt hx, hC', hN', hq, he⟩)
          | false =>
            have heq : KK κ (arrOf st') (lo + x) = KK κ (arrOf st') (lo + x - 1) := KeyOrd.kle_antisymm hb2 hb
            refine wpS_pure (sm_go ⟨rfl, hC', hN'.up hx1 hb2, by show q + 1 + 1 ≤ x + 1; lia, fun i i1 i2 => ?_⟩)
            replace i1 : x + 1 - (q + 1 + 1) ≤ i := i1
            rw [show lo + (x + 1) - 1 = lo + x by lia]
            by_cases hix : i = x
            · rw [hix]
            · rw [heq]; exact he i (by lia) (by lia)
      case post2 =>
        rintro ⟨m, q⟩ st' ⟨hm1, hm2, hC', hN', hq, he⟩
        replace hm1 : 1 ≤ m := hm1
        replace hm2 : m ≤ nrem := hm2
        replace hN' : DscR κ (arrOf st') lo m := hN'
        replace he : ∀ i, m - (q + 1) ≤ i → i < m → KK κ (arrOf st') (lo + i) = KK κ (arrOf st') (lo + m - 1) := he
        replace hq : q + 1 ≤ m := hq
        dsimp (zeta := false) (zetaHave := false) only
        extract_lets s1 m2 q2 jp2
        have e4 : m = m2 := rfl
        clear_value m2
        subst e4
        have hjp2 : ∀ u st', Cr a₀ pd lo xs₀ st' → DscR κ (arrOf st') lo m → wpS (model prog w) A E s (jp2 u) Q st' := by
          intro u st' hC hN
          have hsz : lo + m ≤ (arrOf st').size := by rw [hC.si.size]; lia
          refine wpS_bind (wpS_reverse ?_)
          have hC2 := hC.rev (Nat.le_refl lo) (j := lo + m) (by lia)
          have hS2 := hN.turn hsz
          generalize hst : setArr st' (mirror (arrOf st') lo (lo + m) ((lo + m - lo) / 2)) = st2 at hC2
          replace hS2 : AscR κ (arrOf st2) lo m := by rw [← hst]; exact hS2
          clear hst
          refine b_loop (fun st' => st2 = st') (fun _ => False) (fun x n => x = n ∧ AscR κ (arrOf st2) lo x) (fun n => 1 ≤ n ∧ n ≤ nrem ∧ AscR κ (arrOf st2) lo n) ?step3 (fun c hc => ?fin3) rfl ⟨rfl, hS2⟩ (fun _ _ _ _ hF => hF.elim) fun n _ e hn => by subst e; exact wpS_pure (h n st2 hC2 hn.1 hn.2.1 hn.2.2)
          case fin3 =>
            obtain ⟨rfl, hs⟩ := hc
            rw [Nat.max_eq_right hm2] at hs ⊢
            exact ⟨h1, Nat.le_refl _, hs⟩
          case step3 =>
            rintro x _ _ h1x hx rfl ⟨rfl, hs⟩
            refine wpS_bind (wp_ltAt hO h0 hC2.si (hl hx).1 (hl hx).2 ?_)
            cases hb : κ.blt (KK κ (arrOf st2) (lo + x)) (KK κ (arrOf st2) (lo + x - 1)) with
            | true => exact wpS_pure (sp_brk rfl ⟨Nat.le_trans hm1 h1x, Nat.le_of_lt hx, hs⟩)
            | false => exact wpS_pure (sp_go rfl ⟨rfl, hs.up (Nat.le_trans hm1 h1x) hb⟩)
        clear_value jp2
        have e5 : q = q2 := rfl
        clear_value q2
        subst e5
        refine wpS_ite (fun _ => wpS_bind (wpS_reverse (hjp2 _ _ (hC'.rev (by lia) (by lia)) ?_))) fun _ => hjp2 _ _ hC' hN'
        have hsz : lo + m ≤ (arrOf st').size := by rw [hC'.si.size]; lia
        refine hN'.same fun k => KK_mirror_equal hsz (fun k h1 h2 => ?_) k
        have := he (k - lo) (by lia) (by lia)
        rwa [show lo + (k - lo) = k by lia] at this
    clear_value jp
    refine wpS_ite (fun _ => wpS_pure (h n st hc0 hn1 hn2 hsn)) fun hne => ?_
    have hlt := Nat.lt_of_le_of_ne hn2 (ne_of hne)
    have hdn : κ.kle (KK κ (arrOf st) (lo + n)) (KK κ (arrOf st) (lo + n - 1)) := KeyOrd.kle_of_klt (hor.resolve_left (ne_of hne))
    have hsz : lo + n ≤ (arrOf st).size := by rw [hB.size]; lia
    refine wpS_ite (fun _ => ?_) fun hn1' => hjp _ hlt hc0 ?_
    · refine wpS_bind (wp_ltAt hO h0 hB (Nat.lt_of_lt_of_le (Nat.lt_add_of_pos_right h1) hn) (hl hlt).2 ?_)
      cases hb : κ.blt (KK κ (arrOf st) lo) (KK κ (arrOf st) (lo + n - 1)) with
      | true => exact wpS_pure (h n st hc0 hn1 hn2 hsn)
      | false =>
        have hall : ∀ i, i < n → KK κ (arrOf st) (lo + i) = KK κ (arrOf st) (lo + n - 1) := fun i hi => by
          have a1 := hsn 0 i (Nat.zero_le _) hi
          have a2 := hsn i (n - 1) (by lia) (by lia)
          rw [Nat.add_zero] at a1
          rw [show lo + (n - 1) = lo + n - 1 by lia] at a2
          exact KeyOrd.kle_antisymm a2 (KeyOrd.kle_trans hb a1)
        have hN : DscR κ (arrOf st) lo n := fun i j hij hj => by rw [hall i (by lia), hall j hj]; exact KeyOrd.kle_refl _
        refine wpS_bind (wpS_reverse (hjp _ hlt (hc0.rev (Nat.le_refl _) (by lia)) ?_))
        refine (hN.up hn1 hdn).same fun k => KK_mirror_equal hsz (fun k h1 h2 => ?_) k
        have := hall (k - lo) (by lia)
        rwa [show lo + (k - lo) = k by lia] at this
    · have e1 : n = 1 := by lia
      subst e1
      exact DscR.up (fun i j hij hj => by rw [show i = j by lia]; exact KeyOrd.kle_refl _) (Nat.le_refl _) hdn
structure Ib (κ : PyProof.Rows.KeyKind) (xs : Array Keyed) (lo k l r : Nat) : Prop where
  le : l ≤ r
  rk : r ≤ k
  lows : ∀ i, i < l → κ.kle (KK κ xs (lo + i)) (KK κ xs (lo + k))
  highs : ∀ i, r ≤ i → i < k → κ.kle (KK κ xs (lo + k)) (KK κ xs (lo + i))
theorem wp_binarySort (hO : κ.OneLt) (h0 : KeysOf κ a₀) {st : SortSt} {lo n ok : Nat} {xs₀ : Array Keyed} {Q : Bool → SortSt → Prop} (hC : Cr a₀ pd lo xs₀ st) (hn : lo + n ≤ a₀.size) (hok : ok ≤ n) (hn1 : 1 ≤ n) (hs : AscR κ (arrOf st) lo ok) (h : ∀ st', Cr a₀ pd lo xs₀ st' → AscR κ (arrOf st') lo n → Q true st') : wpS (model prog w) A E s (binarySort' lo n ok) Q st := by
  rw [binarySort'_eq]
  have hl : ∀ {x}, x < n → lo + x < a₀.size := fun hx => Nat.lt_of_lt_of_le (Nat.add_lt_add_left hx lo) hn
  refine b_loopS (fun k _ st' => Cr a₀ pd lo xs₀ st' ∧ AscR κ (arrOf st') lo k) (fun _ st' => Cr a₀ pd lo xs₀ st' ∧ AscR κ (arrOf st') lo n) ?step (fun _ st' h => ?fin) ⟨hC, ?ini⟩ fun _ st' hm => wpS_pure (h st' hm.1 hm.2)
  case fin => rw [Nat.max_eq_right (Nat.max_le.mpr ⟨hok, hn1⟩)] at h; exact h
  case ini =>
    intro i j hij hj
    by_cases h1 : ok = 0
    · have : i = j := by lia
      subst this; exact KeyOrd.kle_refl _
    · exact hs i j hij (by lia)
  rintro k _ st' hak hkn ⟨hC', hs'⟩
  refine b_loop (fun st'' => st' = st'') (fun _ => False) (fun x o => Ib κ (arrOf st') lo k o.1 o.2 ∧ o.2 - o.1 ≤ k - x) (fun o => Ib κ (arrOf st') lo k o.1 o.2 ∧ o.2 ≤ o.1) ?istep (fun c hc => ⟨hc.1, ?ifin⟩) rfl ⟨⟨Nat.zero_le _, Nat.le_refl _, fun i hi => absurd hi (Nat.not_lt_zero _), fun i h1 h2 => absurd h2 (Nat.not_lt.mpr h1)⟩, Nat.le_refl _⟩ (fun _ _ _ _ hF => hF.elim) ?ipost
  case ifin => have := hc.2; rw [Nat.max_eq_right (Nat.zero_le k)] at this; lia
  case istep =>
    rintro x ⟨l, r⟩ _ _ hx rfl ⟨hi, hm⟩
    replace hm : r - l ≤ k - x := hm
    replace hi : Ib κ (arrOf st') lo k l r := hi
    refine wpS_ite (fun hge => wpS_pure (sp_brk rfl ⟨hi, hge⟩)) fun hge => ?_
    replace hge : ¬ r ≤ l := hge
    have hrk := hi.rk
    refine wpS_bind (wp_ltAt hO h0 hC'.si (hl hkn) (hl (x := (l + r) / 2) (by lia)) ?_)
    cases hb : κ.blt (KK κ (arrOf st') (lo + k)) (KK κ (arrOf st') (lo + (l + r) / 2)) with
    | true =>
      refine wpS_pure (sp_go rfl ⟨⟨by show l ≤ (l + r) / 2; lia, by show (l + r) / 2 ≤ k; lia, hi.lows, fun i h1 h2 => ?_⟩, by show (l + r) / 2 - l ≤ k - (x + 1); lia⟩)
      exact KeyOrd.kle_trans (KeyOrd.kle_of_klt hb) (hs' _ _ h1 h2)
    | false =>
      refine wpS_pure (sp_go rfl ⟨⟨by show (l + r) / 2 + 1 ≤ r; lia, hrk, fun i h1 => ?_, hi.highs⟩, by show r - ((l + r) / 2 + 1) ≤ k - (x + 1); lia⟩)
      replace h1 : i < (l + r) / 2 + 1 := h1
      exact KeyOrd.kle_trans (hs' i ((l + r) / 2) (by lia) (by lia)) hb
  case ipost =>
    rintro ⟨l, r⟩ _ rfl ⟨hi, hle⟩
    replace hi : Ib κ (arrOf st') lo k l r := hi
    replace hle : r ≤ l := hle
    have hlr : l = r := Nat.le_antisymm hi.le hle
    subst hlr
    have hlk := hi.rk
    show wpS _ _ _ _ (moveDown' _ _ >>= _) _ _
    rw [moveDown'_eq]
    have hks : lo + k < (arrOf st').size := by rw [hC'.si.size]; exact hl hkn
    refine wpS_bind (wpS_modify (wpS_pure (sm_go ⟨⟨hC'.si.setArr (bubble_perm _ _ _), fun i hil => ?_⟩, fun i j hij hj => ?_⟩)))
    · show (bubble (arrOf st') (lo + k) (lo + k - (lo + l)))[i]? = _
      rw [getElem?_bubble hks _ (by lia), if_neg (by lia), if_neg (by lia)]
      exact hC'.low i hil
    · show κ.kle (KK κ (bubble (arrOf st') (lo + k) (lo + k - (lo + l))) (lo + i)) (KK κ (bubble (arrOf st') (lo + k) (lo + k - (lo + l))) (lo + j))
      rw [KK_bubble hks (by lia), KK_bubble hks (by lia), show lo + k - (lo + k - (lo + l)) = lo + l by lia]
      by_cases i1 : i < l
      · rw [if_neg (by lia), if_neg (by lia)]
        by_cases j1 : j < l
        · rw [if_neg (by lia), if_neg (by lia)]; exact hs' i j hij (by lia)
        · by_cases j2 : j = l
          · rw [if_pos (by lia)]; exact hi.lows i i1
          · rw [if_neg (by lia), if_pos (by lia), show lo + j - 1 = lo + (j - 1) by lia]; exact hs' i (j - 1) (by lia) (by lia)
      · by_cases i2 : i = l
        · rw [if_pos (by lia)]
          by_cases j2 : j = l
          · rw [if_pos (by lia)]; exact KeyOrd.kle_refl _
          · rw [if_neg (by lia), if_pos (by lia), show lo + j - 1 = lo + (j - 1) by lia]; exact hi.highs (j - 1) (by lia) (by lia)
        · rw [if_neg (by lia), if_pos (by lia), if_neg (by lia), if_pos (by lia), show lo + i - 1 = lo + (i - 1) by lia, show lo + j - 1 = lo + (j - 1) by lia]
          exact hs' (i - 1) (j - 1) (by lia) (by lia)
theorem srt_of_SR {xs : Array Keyed} {lo m : Nat} (h : AscR κ xs lo m) (hm : lo + m ≤ xs.size) : Srt κ ((xs.toList.drop lo).take m) := by
  refine List.pairwise_iff_getElem.mpr fun i j hi hj hij => ?_
  rw [List.length_take, List.length_drop, Array.length_toList] at hi hj
  rw [List.getElem_take, List.getElem_take, List.getElem_drop, List.getElem_drop, Array.getElem_toList, Array.getElem_toList]
  have := h i j (Nat.le_of_lt hij) (by lia)
  rwa [KK_is (by lia), KK_is (by lia)] at this
theorem AscR.to {xs ys : Array Keyed} {lo m : Nat} (h : AscR κ xs lo m) (e : ∀ i, lo ≤ i → ys.toList[i]? = xs.toList[i]?) : AscR κ ys lo m := fun i j hij hj => by
  have k : ∀ t, KK κ ys (lo + t) = KK κ xs (lo + t) := fun t => KK_congr (by rw [← Array.getElem?_toList, ← Array.getElem?_toList]; exact e _ (Nat.le_add_right _ _))
  rw [k, k]; exact h i j hij hj
theorem Cr.wt {p : Array (Nat × Nat × Nat)} {lo : Nat} {st st' : SortSt} (h : Cr a₀ p lo (arrOf st) st') (hW : Wt κ a₀ p lo st) : Wt κ a₀ p lo st' :=
  ⟨h.si, hW.runs.to fun i _ hi => by rw [Array.getElem?_toList, Array.getElem?_toList]; exact h.low i hi⟩
theorem runs_same {xs : List Keyed} : ∀ {l l' : List (Nat × Nat × Nat)} {a e : Nat}, l'.map (fun x => (x.1, x.2.1)) = l.map (fun x => (x.1, x.2.1)) → Runs κ xs l a e → Runs κ xs l' a e
  | [], [], _, _, _, h => h
  | [], _ :: _, _, _, q, _ => nomatch q
  | _ :: _, [], _, _, q, _ => nomatch q
  | x :: l, y :: l', a, e, q, ⟨h1, h2, h3, h4⟩ => by
    rw [List.map_cons, List.map_cons] at q
    obtain ⟨q1, q2⟩ := List.cons.inj q
    obtain ⟨e1, e2⟩ := Prod.mk.inj q1
    exact ⟨e1.trans h1, e2 ▸ h2, e2 ▸ h3, e2 ▸ runs_same q2 h4⟩
theorem mod_same (p : Array (Nat × Nat × Nat)) (i : Nat) {f : Nat × Nat × Nat → Nat × Nat × Nat} (hf : ∀ x, ((f x).1, (f x).2.1) = (x.1, x.2.1)) : (p.modify i f).toList.map (fun x => (x.1, x.2.1)) = p.toList.map (fun x => (x.1, x.2.1)) := by
  rw [Array.toList_modify]
  apply List.ext_getElem?
  intro j
  rw [List.getElem?_map, List.getElem?_map, List.getElem?_modify]
  cases p.toList[j]? with
  | none => split <;> rfl
  | some x =>
    split
    · exact congrArg some (hf x)
    · rfl
noncomputable def Wm (κ : PyProof.Rows.KeyKind) (a₀ : Array Keyed) (lo m : Nat) (st : SortSt) : Prop := (∃ p, Wt κ a₀ p lo st) ∧ AscR κ (arrOf st) lo m
theorem wp_sortRuns (hO : κ.OneLt) (h0 : KeysOf κ a₀) {st : SortSt} {Q : Unit → SortSt → Prop} (hB : SI a₀ #[] st) (h : ∀ st', (arrOf st').Perm a₀ → failedOf st' = none → Srt κ (arrOf st').toList → Q () st') : wpS (model prog w) A E s sortRuns' Q st := by
  rw [sortRuns'_eq]
  refine wpS_bind (wpS_get ?_)
  extract_lets size minrun lo0
  have hz : a₀.size = size := hB.size.symm
  clear_value size minrun
  subst hz
  refine b_loopS (fun x lo st => x ≤ lo ∧ lo ≤ a₀.size ∧ ∃ p, Wt κ a₀ p lo st) (fun lo st => lo = a₀.size ∧ ∃ p, Wt κ a₀ p lo st) ?step ?fin ⟨Nat.le_refl _, Nat.zero_le _, #[], hB, rfl⟩ ?post
  case fin =>
    rintro lo st' ⟨h1, h2, hW⟩
    rw [Nat.max_eq_right (Nat.zero_le _)] at h1
    exact ⟨Nat.le_antisymm h2 h1, hW⟩
  case post =>
    rintro lo st' ⟨rfl, p, hW⟩
    refine b_loopS (fun x _ st => ∃ p, Wt κ a₀ p a₀.size st ∧ (p.size ≤ 1 ∨ p.size + x ≤ a₀.size)) (fun _ st => ∃ p, Wt κ a₀ p a₀.size st ∧ p.size ≤ 1) ?s2 ?f2 ⟨p, hW, .inr ?i2⟩ ?p2
    case i2 => have := hW.runs.le; rw [Array.length_toList, Nat.zero_add] at this; exact this
    case f2 =>
      rintro _ st' ⟨p, hW, hp⟩
      rw [Nat.max_eq_right (Nat.zero_le _)] at hp
      exact ⟨p, hW, by lia⟩
    case p2 =>
      rintro _ st' ⟨p, hW, hp⟩
      refine wpS_pure (h _ hW.si.perm hW.si.failed ?_)
      have hr := hW.runs
      have hsz := hW.si.size
      cases hl : p.toList with
      | nil =>
        rw [hl] at hr
        have hr : 0 = a₀.size := hr
        have e : (arrOf st').toList = [] := List.length_eq_zero_iff.mp (by rw [Array.length_toList, hsz]; exact hr.symm)
        rw [e]; exact List.Pairwise.nil
      | cons x r =>
        have hlen := congrArg List.length hl
        rw [Array.length_toList, List.length_cons] at hlen
        have er : r = [] := List.length_eq_zero_iff.mp (by lia)
        subst er
        rw [hl] at hr
        obtain ⟨_, _, h3, h4⟩ := hr
        have h4 : 0 + x.2.1 = a₀.size := h4
        rwa [List.drop_zero, List.take_of_length_le (by rw [Array.length_toList, hsz]; lia)] at h3
    case s2 =>
      rintro x _ st' _ _ ⟨p, hW, hp⟩
      obtain rfl := hW.si.pend
      refine wpS_bind (wpS_get ?_)
      refine wpS_ite (fun hle => wpS_pure (sm_brk ⟨_, hW, hle⟩)) fun hgt => ?_
      replace hgt : ¬ (pendingOf st').size ≤ 1 := hgt
      have any : ∀ (c : Prop) [Decidable c], (if c then (pendingOf st').size - 2 - 1 else (pendingOf st').size - 2) + 1 < (pendingOf st').size := fun c _ => by split <;> lia
      exact wpS_bind (wp_mergeAt hO h0 hW (Nat.le_refl _) (any _) fun st2 p' hW2 hs2 _ => wpS_pure (sm_go ⟨p', hW2, .inr (by lia)⟩))
  case step =>
    rintro x lo st' _ hx ⟨hxl, hlo, p, hW⟩
    refine wpS_ite (fun hge => wpS_pure (sm_brk ⟨Nat.le_antisymm hlo hge, p, hW⟩)) fun hlt => ?_
    replace hlt : ¬ a₀.size ≤ lo := hlt
    have hlo2 : lo + (a₀.size - lo) = a₀.size := Nat.add_sub_cancel' hlo
    have h1 : 1 ≤ a₀.size - lo := Nat.sub_pos_of_lt (Nat.lt_of_not_le hlt)
    refine wpS_bind (wp_countRun hO h0 hW.si (Nat.le_of_eq hlo2) h1 fun n st2 hC hn1 hn2 hsr => ?_)
    dsimp (zeta := false) (zetaHave := false) only
    extract_lets n2 jp
    have hjp : ∀ u m st', 1 ≤ m → m ≤ a₀.size - lo → Wm κ a₀ lo m st' → wpS (model prog w) A E s (jp u m) (Sm2 (fun lo st => lo = a₀.size ∧ ∃ p, Wt κ a₀ p lo st) fun lo st => x + 1 ≤ lo ∧ lo ≤ a₀.size ∧ ∃ p, Wt κ a₀ p lo st) st' := by
      intro u m st' m1 m2 hW
      replace m2 : m ≤ a₀.size - lo := m2
      refine wpS_bind (wpS_get ?_)
      extract_lets l2 jp2
      have hjp2 : ∀ st', Wm κ a₀ lo m st' → wpS (model prog w) A E s (jp2 ()) (Sm2 (fun lo st => lo = a₀.size ∧ ∃ p, Wt κ a₀ p lo st) fun lo st => x + 1 ≤ lo ∧ lo ≤ a₀.size ∧ ∃ p, Wt κ a₀ p lo st) st' := by
        rintro st' ⟨⟨p, hW⟩, hs⟩
        obtain rfl := hW.si.pend
        refine wpS_bind (wpS_modify (wpS_pure ?_))
        refine (sm_go (o := lo + m) (st := setPending st' ((pendingOf st').push (lo, m, 0))) ⟨by lia, by lia, (pendingOf st').push (lo, m, 0), ⟨hW.si.perm, hW.si.kind, hW.si.failed, rfl⟩, ?_⟩)
        show Runs κ (arrOf st').toList ((pendingOf st').push (lo, m, 0)).toList 0 (lo + m)
        rw [Array.toList_push]
        exact Runs.app.mpr ⟨lo, hW.runs, rfl, m1, srt_of_SR (m := m) hs (by rw [hW.si.size]; lia), rfl⟩
      clear_value jp2
      cases (pendingOf st').back? with
      | none => exact hjp2 _ hW
      | some y =>
        obtain ⟨s1, n1, pw⟩ := y
        refine b_loop (Wm κ a₀ lo m) (fun _ => False) (fun _ _ => True) (fun _ => True) ?s3 (fun _ h => h) hW trivial (fun _ _ _ _ hF => hF.elim) ?p3
        case s3 =>
          rintro x _ st' _ _ hW -
          refine wpS_bind (wpS_get ?_)
          extract_lets p
          generalize hq : (if p.size > 1 then p[p.size - 2]? else none) = q
          cases q with
          | none => exact wpS_pure (sp_brk hW trivial)
          | some y =>
            have hp : p.size > 1 := Decidable.byContradiction fun hc => by rw [if_neg hc] at hq; cases hq
            refine wpS_ite (fun _ => wpS_pure (sp_brk hW trivial)) fun _ => ?_
            obtain ⟨⟨p', hW⟩, hs⟩ := hW
            obtain rfl := hW.si.pend
            exact wpS_bind (wp_mergeAt hO h0 hW hlo (by show p.size - 2 + 1 < p.size; lia) fun st2 p2 hW2 _ hbh => wpS_pure (sp_go ⟨⟨p2, hW2⟩, hs.to hbh⟩ trivial))
        case p3 =>
          rintro _ st' ⟨⟨p, hW⟩, hs⟩ -
          obtain rfl := hW.si.pend
          exact wpS_bind (wpS_modify (hjp2 _ ⟨⟨_, ⟨hW.si.perm, hW.si.kind, hW.si.failed, rfl⟩, runs_same (mod_same _ _ fun x => rfl) hW.runs⟩, hs⟩))
    clear_value jp
    refine wpS_ite (fun hmr => ?_) fun _ => hjp _ _ _ hn1 hn2 ⟨⟨p, hC.wt hW⟩, hsr⟩
    refine b_rule ?_
    have m1 : 1 ≤ min (a₀.size - lo) minrun := Nat.le_min.mpr ⟨h1, Nat.lt_of_le_of_lt (Nat.zero_le _) hmr⟩
    have m2 : min (a₀.size - lo) minrun ≤ a₀.size - lo := Nat.min_le_left _ _
    exact wpS_bind (wp_binarySort hO h0 hC (by rw [← hlo2]; exact Nat.add_le_add_left m2 lo) (Nat.le_min.mpr ⟨hn2, Nat.le_of_lt hmr⟩) m1 hsr fun st3 hC3 hs3 => hjp _ _ _ m1 m2 ⟨⟨p, hC3.wt hW⟩, hs3⟩)
theorem sortAny (prog : Program) (w : World) (A : Around) (E : Value → Shared → Prop) (s : Shared) (κ : PyProof.Rows.KeyKind) (a₀ : Array Keyed) (st : SortSt) (hO : κ.OneLt) (h0 : KeysOf κ a₀) (hB : SBase a₀ st) :
    wpS (model prog w) A E s sortRuns' (fun _ st' => (arrOf st').Perm a₀ ∧ failedOf st' = none ∧ SortedToK κ (arrOf st') a₀.size) st :=
  wp_sortRuns hO h0 ⟨hB.perm, hB.kind, hB.failed, hB.pend⟩ fun st' a b c => ⟨a, b, fun i j hij hj => by
    have hs := a.size_eq
    rw [KK_is (by lia), KK_is (by lia)]
    exact srt_at c hij (by lia)⟩
end
end Mine
end
section
namespace Mine
open PySem PySem.Calls PyProof.Rows
section
variable {prog : Program} {w : World} {A : Around} {E : Value → Shared → Prop} {s : Shared}
structure Left (a : Addr) (h h' : Heap) (xs : Array Value) : Prop where
  keep : ∀ b o, b ≠ a → h.get? b = some o → h'.get? b = some o
  obj : ∃ n, h'.get? a = some (seqObj "list" xs n)
theorem upd_keep {h : Heap} {a : Addr} {f : Obj → Obj} : ∀ b o, b ≠ a → h.get? b = some o → (h.update a f).get? b = some o := fun b o hb e => (Heap.get?_update_other h f (Ne.symm hb)).trans e
theorem sort_plain {κ : PyProof.Rows.KeyKind} (hO : κ.OneLt) {a : Addr} {vs : List Value} {n : Nat} {P : Fin → Shared → Prop} (ho : s.heap.get? a = some (seqObj "list" vs.toArray n))
    (h0 : KeysOf κ (pairsOf vs)) (hkk : 2 ≤ vs.length → keyKind' vs.toArray = pure oneType') (hlt : vs.length ≤ sizeLine)
    (h : ∀ (xs : Array Keyed) h', xs.Perm (pairsOf vs) → SortedToK κ xs (pairsOf vs).size → Left a s.heap h' (xs.map (·.2)) → P (.done (.ret .none)) { s with heap := h' }) :
    wpAny (model prog w) A (Builtin.«list.sort» ⟨[.ref a], []⟩) P E s := by
  rw [list_sort_plain]
  have ha : a < s.heap.objs.size := Heap.lt_size ho
  have hvs : vs.toArray.size ≤ sizeLine := hlt
  refine wpAny_bind (listItems_at ho rfl ?_)
  refine wpAny_bind (listUpdate_at ho rfl ?_ hvs (Nat.zero_le _))
  have k1 := upd_keep (h := s.heap) (a := a) (f := Obj.mapSeq fun _ => #[])
  obtain ⟨e1, ho1⟩ : ∃ e1, (s.heap.update a (Obj.mapSeq fun _ => #[])).get? a = some (seqObj "list" #[] e1) := ⟨_, get?_update_seq ho (fun _ => #[])⟩
  generalize s.heap.update a (Obj.mapSeq fun _ => #[]) = h1 at k1 ho1
  refine wpAny_bind (seqEpoch_at ho1 rfl ?_)
  refine wpAny_bind (wpAny_newTuple ?_ (by simpa using hvs))
  refine wpAny_bind (wpAny_newList ?_ (Nat.zero_le _))
  refine wpAny_holding ?_
  have k2 : ∀ b o, h1.get? b = some o → ((h1.push (seqObj "tuple" vs.toArray 0)).push (seqObj "list" #[] 0)).get? b = some o := fun b o e => Heap.get?_push_of_some _ (Heap.get?_push_of_some _ e)
  show wpAny (model prog w) A _ P E { s with heap := (h1.push (seqObj "tuple" vs.toArray 0)).push (seqObj "list" #[] 0) }
  generalize (h1.push (seqObj "tuple" vs.toArray 0)).push (seqObj "list" #[] 0) = h2 at k2
  have ho6 := k2 _ _ ho1
  dsimp only
  have fin : ∀ (xs : Array Keyed), xs.Perm (pairsOf vs) → SortedToK κ xs (pairsOf vs).size → P (.done (.ret .none)) { s with heap := h2.update a (Obj.mapSeq fun _ => xs.map (·.2)) } := fun xs hp hs => by
    refine h xs _ hp hs ⟨fun b o hb e => upd_keep b o hb (k2 b o (k1 b o hb e)), ?_⟩
    exact ⟨_, get?_update_seq ho6 (fun _ => xs.map (·.2))⟩
  by_cases h2' : vs.toArray.size < 2
  · rw [if_pos h2', if_pos h2']
    refine wpAny_bind (wpAny_pure ?_)
    rw [StateT.run_pure]
    refine wpAny_bind (wpAny_pure ?_)
    dsimp only
    refine wpAny_bind (seqEpoch_at ho6 rfl ?_)
    refine wpAny_bind (listUpdate_at ho6 rfl ?_ (Nat.zero_le _) (by rw [Array.size_map]; show (pairsOf vs).size ≤ _; rw [pairsOf_size]; exact Nat.le_succ_of_le hlt))
    simp only [bne_self_eq_false, Bool.false_eq_true, if_false]
    refine wpAny_pure (fin (pairsOf vs) (Array.Perm.refl _) ?_)
    intro i j hij hj
    have : i = j := by rw [pairsOf_size] at hj; simp at h2'; lia
    subst this; exact KeyOrd.kle_refl _
  · rw [if_neg h2', if_neg h2']
    have hkk' : keyKind' vs.toArray = pure oneType' := hkk (Nat.not_lt.mp h2')
    rw [hkk']
    refine wpAny_bind (wpAny_pure ?_)
    refine wpAny_bind (wpAny_mono (sortAny _ _ _ _ _ κ (pairsOf vs) (SortSt.mk' oneType' (vs.toArray.zip vs.toArray) #[] 7 none) hO h0 ⟨Array.Perm.refl _, rfl, rfl, rfl⟩) ?_ fun _ _ e => e)
    rintro ⟨⟨⟩, st'⟩ s' ⟨rfl, hp, hf, hs⟩
    dsimp only
    refine wpAny_bind (seqEpoch_at ho6 rfl ?_)
    refine wpAny_bind (listUpdate_at ho6 rfl ?_ (Nat.zero_le _) (by refine Nat.le_trans (Nat.le_of_eq ((Array.size_map ..).trans (hp.size_eq.trans (pairsOf_size _)))) ?_; exact Nat.le_succ_of_le hlt))
    rw [hf]
    simp only [bne_self_eq_false, Bool.false_eq_true, if_false]
    exact wpAny_pure (fin (arrOf st') hp hs)
end
noncomputable def keyT : Value → Txt
  | .str x _ => x.cps.toList
  | _ => []
noncomputable def SortQ (ts : List Txt) (H : AHeap) (Q : VPost) : Prop := ∀ ys : List Txt, ys.Perm ts → ys.Pairwise (fun a b => ¬ b < a) → Q (.ref H.length) (H ++ [.list (ys.map .str)])
inductive SortA (H : AHeap) (Q : VPost) : List V → Prop
  | list {n : Nat} {ts : List Txt} : H[n]? = some (.list (ts.map .str)) → SortQ ts H Q → SortA H Q [.ref n]
  | dict {n ep : Nat} {es : List (Txt × V)} : H[n]? = some (.dict es ep) → SortQ (es.map (·.1)) H Q → SortA H Q [.ref n]
noncomputable def spSorted : Spec := fun vs H Q _ => SortA H Q vs
section
variable {C : Cx} {K : Nat}
theorem txts_key {ρ : List Addr} : ∀ {ts : List Txt} {us : List Value}, All2 (VR C ρ) (ts.map .str) us → us.map keyT = ts ∧ ∀ u ∈ us, VR C ρ (.str (keyT u)) u
  | [], _, .nil => ⟨rfl, fun _ h => nomatch h⟩
  | t :: ts, _, .cons ⟨ok, tk, e⟩ r => by
    cases e
    obtain ⟨h1, h2⟩ := txts_key r
    exact ⟨by rw [List.map_cons, h1]; rfl, List.forall_mem_cons.mpr ⟨⟨ok, tk, rfl⟩, h2⟩⟩
theorem vr_keys {ρ : List Addr} : ∀ (us : List Value), (∀ u ∈ us, VR C ρ (.str (keyT u)) u) → All2 (VR C ρ) ((us.map keyT).map .str) us
  | [], _ => .nil
  | u :: r, h => .cons (h u (.head _)) (vr_keys r fun x hx => h x (.tail _ hx))
theorem sorted_core {ρ : List Addr} {H : AHeap} {s : Shared} {A : Around} {E : Value → Shared → Prop} {Q : VPost} {arg : Value} {ts : List Txt} (S : Sim C ρ H s) (hl : ts.length ≤ lid) (hq : SortQ ts H Q)
    (hcol : ∀ R : List Value → Shared → Prop, (∀ us h' tk, us.map keyT = ts → (∀ u ∈ us, VR C ρ (.str (keyT u)) u) → (∀ b o, s.heap.get? b = some o → h'.get? b = some o) → R us { s with heap := h', toks := tk }) → wpAny C.M A.in1 (collect arg) R E s) : wpAny C.M A (call (.builtin "sorted") [arg]) (PV C ρ s Q) E s := by
  refine Calls.call_function_entry kind_sorted plain_sorted entry_sorted (args_sorted1 _) ?_
  unfold Builtin.«sorted»
  refine wpAny_bind (m := checkCount "sorted" 1 1 _) (wpAny_pure ?_)
  refine wpAny_bind (hcol _ fun us h' tk hk1 hk2 hk => ?_)
  have hst := strsAre_map us fun u hu => by obtain ⟨_, t, e⟩ := hk2 u hu; exact ⟨_, t, e⟩
  have hnl : us.length = ts.length := by have := congrArg List.length hk1; rw [List.length_map] at this; exact this
  have hn : us.length ≤ sizeLine := by rw [hnl]; exact lid_le hl
  refine wpAny_bind (wpAny_newList ?_ hn)
  have hDn : s.heap.get? h'.objs.size = none := by
    cases e : s.heap.get? h'.objs.size with
    | none => rfl
    | some o => exact absurd (Heap.lt_size (hk _ _ e)) (Nat.lt_irrefl _)
  have hsm : h'.objs.size ≠ sysModules := (S.grow (h' := h') (tk := tk) hk).1.size_ne
  have hD : (h'.push (seqObj "list" us.toArray 0)).get? h'.objs.size = some (seqObj "list" us.toArray 0) := Heap.get?_push_size _ rfl
  have hk' : ∀ b o, s.heap.get? b = some o → (h'.push (seqObj "list" us.toArray 0)).get? b = some o := fun b o e => Heap.get?_push_of_some _ (hk b o e)
  show wpAny C.M A.in1 _ _ E { s with heap := h'.push (seqObj "list" us.toArray 0), toks := tk }
  generalize h'.push (seqObj "list" us.toArray 0) = h2 at hD hk'
  generalize h'.objs.size = D at hD hDn hsm
  refine wpAny_bind (wpAny_holding (wpAny_call_entry slot_list_sort ⟨_, hD, rfl⟩ entry_list_sort ?_ (args_list_sort _)))
  refine sort_plain strKind_oneLt hD hst.keysOf (fun h2 => ?_) hn fun ks h'' hp hsrt hleft => ?_
  · match us, hst, h2 with
    | [], _, h2 => simp at h2
    | [_], _, h2 => simp at h2
    | v₁ :: v₂ :: r, hst, _ => exact keyKind_strs hst
  · refine ⟨_, rfl, wpAny_pure ⟨_, rfl, ?_⟩⟩
    have hpl : ks.toList.Perm (us.zip us) := by rw [← pairsOf_toList]; exact Array.perm_iff_toList_perm.mp hp
    have hmem : ∀ p ∈ ks.toList, p.1 = p.2 ∧ p.1 ∈ us := fun p hp' => mem_zip_self (hpl.mem_iff.mp hp')
    have hout : (ks.map (·.2)).toList = ks.toList.map (·.1) := by
      rw [Array.toList_map]; exact List.map_congr_left fun p hp' => (hmem p hp').1.symm
    have hperm : ((ks.toList.map (·.1)).map keyT).Perm ts := by
      have h1 := (hpl.map (·.1)).map keyT
      rwa [List.map_fst_zip (Nat.le_refl _), hk1] at h1
    have hpw : ((ks.toList.map (·.1)).map keyT).Pairwise (fun a b => ¬ b < a) := by
      rw [List.map_map, List.pairwise_iff_getElem]
      intro i j hi hj hij
      have hi' : i < ks.size := by simpa using hi
      have hj' : j < ks.size := by simpa using hj
      have h1 := hsrt i j (Nat.le_of_lt hij) (by rw [← hp.size_eq]; exact hj')
      have kk : ∀ i (hi : i < ks.size), KK strKind ks i = keyT ks[i].1 := fun i hi => by
        unfold KK
        rw [Array.getElem?_eq_getElem hi]
        obtain ⟨ok, tk, e⟩ := hk2 _ (hmem ks[i] (by simp)).2
        show (strKind.keyOf ks[i].1).getD [] = _
        rw [e]; rfl
      rw [kk i hi', kk j hj'] at h1
      have h1 : decide (keyT ks[j].1 < keyT ks[i].1) = false := h1
      simpa using h1
    have hvr : All2 (VR C ρ) (((ks.toList.map (·.1)).map keyT).map .str) (ks.map (·.2)).toList := by
      rw [hout]
      exact vr_keys _ fun u hu => by
        obtain ⟨p, hp', rfl⟩ := List.mem_map.mp hu
        exact hk2 _ (hmem p hp').2
    obtain ⟨m, hob⟩ := hleft.obj
    obtain ⟨S1, st1, v1⟩ := S.alloc (h' := h'') (tk := tk) (a := D) (o := .list (((ks.toList.map (·.1)).map keyT).map .str)) (fun b x e => hleft.keep b x (fun q => by rw [q, hDn] at e; cases e) (hk' b x e)) hDn hsm
      ⟨_, m, hob, hvr, by rw [List.length_map, hperm.length_eq]; exact hl⟩
    exact ⟨_, _, _, st1, S1, v1, hq _ hperm hpw⟩
theorem all2_getR {α β : Type} {R : α → β → Prop} {as : List α} {bs : List β} {i : Nat} {b : β} (h : All2 R as bs) (e : bs[i]? = some b) : ∃ a, as[i]? = some a ∧ R a b := by
  have hi : i < as.length := by rw [h.length]; exact (List.getElem?_eq_some_iff.mp e).1
  obtain ⟨b', e', r⟩ := h.get i _ (List.getElem?_eq_getElem hi)
  cases e.symm.trans e'
  exact ⟨_, List.getElem?_eq_getElem hi, r⟩
theorem ok_sorted : CallOk C K spSorted (.builtin "sorted") := by
  intro vs H Q X h ρ s us A E S hus hA hE
  cases h with
  | list e1 h =>
    obtain ⟨u, rfl, hu⟩ := all2_one hus
    obtain ⟨a, rfl, ea, us, k, ho, hs, hl⟩ := S.lookup e1 hu
    obtain ⟨hk1, hk2⟩ := txts_key hs
    refine sorted_core S (by rw [List.length_map] at hl; exact hl) h fun R hR => collect_list (vs := us.toList) ⟨_, ho, rfl, k, rfl⟩ (hR _ _ s.toks hk1 hk2 fun b o e => ?_) (by rw [← hs.length]; exact lid_le hl)
    exact upd_keep b o (Nat.ne_of_lt (Heap.lt_size e)) (Heap.get?_push_of_some _ e)
  | @dict n ep es e1 h =>
    obtain ⟨u, rfl, hu⟩ := all2_one hus
    obtain ⟨a, rfl, ea, hor⟩ := S.lookup e1 hu
    obtain ⟨kvs, hd, hdk⟩ := dict_at hor
    obtain ⟨ds, _, _, _, hl⟩ := hor
    have hkl := hdk.length
    have key : ∀ acc : Array Value, ItemsOf (fun i v => ∃ k x, kvs[i]? = some (k, x) ∧ (PySem.strKind C.prog C.w).is k v = true) acc kvs.length → acc.toList.map keyT = es.map (·.1) ∧ ∀ u ∈ acc.toList, VR C ρ (.str (keyT u)) u := by
      rintro acc ⟨hz, hit⟩
      have each : ∀ (i : Nat) (v : Value), acc[i]? = some v → ∃ e t, es[i]? = some e ∧ okT e.1 = true ∧ v = .str ⟨e.1.toArray⟩ t := fun i v hv => by
        obtain ⟨k, x, hk, his⟩ := hit i v hv
        obtain ⟨e, he, ek, ok, _⟩ := all2_getR hdk hk
        cases ek
        obtain ⟨t, ht⟩ := Value.isStrOf_shape (show Value.isStrOf (⟨e.1.toArray⟩ : Str) v = true from his)
        exact ⟨e, t, he, ok, ht⟩
      refine ⟨List.ext_getElem? fun i => ?_, fun u hu => ?_⟩
      · rw [List.getElem?_map, List.getElem?_map, Array.getElem?_toList]
        cases hv : acc[i]? with
        | none =>
          have h1 := Array.getElem?_eq_none_iff.mp hv
          rw [hz, ← hkl] at h1
          rw [List.getElem?_eq_none h1]; rfl
        | some v =>
          obtain ⟨e, t, he, _, rfl⟩ := each i v hv
          rw [he]; rfl
      · obtain ⟨i, hi⟩ := List.getElem?_of_mem hu
        rw [Array.getElem?_toList] at hi
        obtain ⟨e, t, he, ok, rfl⟩ := each i u hi
        exact ⟨ok, t, rfl⟩
    refine sorted_core S (by rw [List.length_map]; exact hl) h fun R hR => collect_dict hA.h (S.not_sm ea) hd (by rw [← hkl]; exact lid_le hl) fun s' acc hk hg hdr hos hacc => ?_
    obtain ⟨q1, q2⟩ := key acc hacc
    have e : s' = { s with heap := s'.heap, toks := s'.toks } := by
      cases s'; cases hg; cases hdr; cases hos; rfl
    rw [e]
    exact hR _ _ _ q1 q2 hk
end
end Mine
end
section
namespace Mine
open PySem PySem.Calls PyProof.Rows
section
variable {prog : Program} {w : World} {A : Around} {E : Value → Shared → Prop} {s : Shared}
theorem no_keys : typeLookup (.type "list") (Str.ofString "keys") = pure none := by rw [typeLookup_type, builtinLookup_eq_fast]; kernel_rfl
theorem keys_none {a : Addr} {xs : Array Value} {k : Nat} {Q : Option Value → Shared → Prop} (hx : s.heap.get? a = some ⟨.type "list", none, .seq xs k, #[]⟩) (hA : A.handled = none)
    (h : ∀ h' tk, (∀ b o, s.heap.get? b = some o → h'.get? b = some o) → Q none { s with heap := h', toks := tk }) : wpAny (model prog w) A (getAttr? (.ref a) (Str.ofString "keys")) Q E s := by
  obtain ⟨hp, g, d, tk, os⟩ := s
  have hT : ∀ tk', (⟨hp, g, d, tk', os⟩ : Shared).TypeIs (.ref a) "list" := fun _ => ⟨_, hx, rfl⟩
  have f1 := sub_AttributeError
  have f3 := F.slot_list_getattribute.lookup
  have f4 := F.slot_list_getattribute.bind (.ref a)
  have f5 := am_list_getattr_none
  unfold getAttr? getAttrBy? getAttrBy
  repeat (any_goals (first | assumption | exact hT _ | ((with_reducible show wpAny _ _ (call (Value.builtin "list.__getattribute__") _ _) _ _ _); refine call_meets F.slot_list_getattribute (hT _) am_entry_list_getattribute (F.args_list_getattribute_2 _ _) (meets_getattribute_miss_list a xs k #[] (Str.ofString "keys") _ no_keys (by decide +kernel) (by decide +kernel)) ⟨hx, hA, fun h' tk' e hx' => ?_⟩) | wp_step))
  obtain ⟨t', u', he⟩ := hx'.there
  show wpAny _ _ (getattributeRaised _ _ _ _ _ _ _) _ _ _
  unfold getattributeRaised
  repeat (any_goals (first | assumption | wp_step))
  exact h _ _ hx'.of.keeps
theorem upl_entry : entryFor table "dict.update.loop" = some Builtin.«dict.update.loop» := entryFor_of_tree (by kernel_rfl)
theorem upl_plain : plainId "dict.update.loop" = true := by decide +kernel
noncomputable def PT (h : Heap) (I D : Addr) (u : Value) (kv : Str × Value) : Prop := ∃ r tk m, u = .ref r ∧ h.get? r = some ⟨.type "tuple", none, .seq #[.str kv.1 tk, kv.2] m, #[]⟩ ∧ r ≠ I ∧ r ≠ D
theorem pair_items {r : Addr} {x y : Value} {m : Nat} {Q : List Value → Shared → Prop} (ho : s.heap.get? r = some ⟨.type "tuple", none, .seq #[x, y] m, #[]⟩) (h : Q [x, y] s) : wpAny (model prog w) A (Builtin.Dict.pairItems (.ref r)) Q E s := by
  have hT : s.TypeIs (.ref r) "tuple" := ⟨_, ho, rfl⟩
  unfold Builtin.Dict.pairItems
  refine wpAny_bind (wpAny_typeOf hT ?_)
  rw [if_pos (by decide)]
  refine wpAny_bind ?_
  unfold seqItems?
  refine wpAny_bind (wpAny_load ho (wpAny_pure (wpAny_pure ?_)))
  exact h
theorem stored_new {kvs : List (Str × Value)} {k : Str} {v : Value} (h : k ∉ kvs.map (·.1)) : PySem.stored kvs k v = kvs ++ [(k, v)] := by
  unfold PySem.stored
  rw [if_neg]
  intro q
  obtain ⟨x, hx, e⟩ := List.any_eq_true.mp q
  exact h (List.mem_map.mpr ⟨x, hx, of_decide_eq_true e⟩)
theorem upd_loop {knd : PySem.KeyKind prog w Str} (hk : ∀ x t, knd.is x (.str x t) = true) (hh : A.handled = none) {I L D : Addr} {us : Array Value} {n0 : Nat} {kvs : List (Str × Value)} {h0 : Heap} (hLI : L ≠ I) (hLD : L ≠ D) (hID : I ≠ D) (hL : h0.get? L = some ⟨.type "list", none, .seq us n0, #[]⟩)
    (hus : All2 (PT h0 I D) us.toList kvs) (hnd : (kvs.map (·.1)).Nodup) (hsz : kvs.length ≤ sizeLine) {R : Result → Shared → Prop} (fin : ∀ h' tk, h'.DictOf knd D kvs → (∀ b o, b ≠ I → b ≠ D → h0.get? b = some o → h'.get? b = some o) → R (.ok (.ret .none)) { s with heap := h', toks := tk }) :
    ∀ (rest dn : List (Str × Value)) (h : Heap) (tk : Nat) (j : Int) (t : Tok), kvs = dn ++ rest → h.IsListIter I L dn.length → h.DictOf knd D dn → (∀ b o, b ≠ I → b ≠ D → h0.get? b = some o → h.get? b = some o) →
    codeAny (model prog w) A (.builtin "dict.update.loop" ⟨[.ref D, .ref I, .int j t, .none], []⟩) R { s with heap := h, toks := tk } := by
  intro rest
  induction rest with
  | nil =>
    intro dn h tk j t e hit hd hkp
    rw [List.append_nil] at e
    subst e
    refine codeAny_builtin upl_entry ?_
    rw [Around.under_plainId upl_plain _]
    show wpAny _ A.in1 (pyNext (.ref I) >>= _) _ _ _
    refine wpAny_bind (wpAny_pyNext_list_end hh hit ⟨_, hkp L _ hLI hLD hL, rfl, n0, rfl⟩ (by rw [← Array.getElem?_toList, ← hus.length, List.getElem?_eq_none (Nat.le_refl _)]) fun h' he => ?_)
    refine wpAny_bind (wpAny_pure (wpAny_pure (fin h' tk ?_ fun b o hb hb' e => he b o hb (hkp b o hb hb' e))))
    exact hd.extBut he (Ne.symm hID)
  | cons kv rest ih =>
    intro dn h tk j t e hit hd hkp
    have hi : kvs[dn.length]? = some kv := by rw [e, List.getElem?_append_right (Nat.le_refl _), Nat.sub_self]; rfl
    obtain ⟨u, hu, r, tk', m, rfl, ho, hrI, hrD⟩ := all2_getR hus hi
    refine codeAny_builtin upl_entry ?_
    rw [Around.under_plainId upl_plain _]
    show wpAny _ A.in1 (pyNext (.ref I) >>= _) _ _ _
    refine wpAny_bind (wpAny_pyNext_list_item hit ⟨_, hkp L _ hLI hLD hL, rfl, n0, rfl⟩ (by rw [← Array.getElem?_toList]; exact hu) fun h' hit' hsb => ?_)
    have ho' := hsb.extBut r _ hrI (hkp r _ hrI hrD ho)
    have hd' := hd.extBut hsb.extBut (Ne.symm hID)
    have hkp' : ∀ b o, b ≠ I → b ≠ D → h0.get? b = some o → h'.get? b = some o := fun b o hb hb' e => hsb.extBut b o hb (hkp b o hb hb' e)
    refine wpAny_bind (wpAny_holding (wpAny_bind (wpAny_tryCatch (pair_items ho' ?_))))
    refine wpAny_holding ?_
    have hnk : kv.1 ∉ dn.map (·.1) := by
      rw [e, List.map_append, List.map_cons] at hnd
      exact fun q => (List.nodup_append.mp hnd).2.2 _ q _ (.head _) rfl
    refine wpAny_dictSet_pairs (hk kv.1 tk') hd' (fun h2 hd2 hsb2 => ?_) (Nat.le_trans (by rw [e, List.length_append]; exact Nat.le_add_right _ _) hsz)
    have es : PySem.stored dn kv.1 kv.2 = dn ++ [kv] := stored_new hnk
    rw [es] at hd2
    refine wpAny_pure ⟨plainId_quiet upl_plain _, ih (dn ++ [kv]) h2 _ _ _ (by rw [e, List.append_assoc]; rfl) ?_ hd2 fun b o hb hb' e => hsb2.extBut b o hb' (hkp' b o hb hb' e)⟩
    rw [List.length_append, List.length_singleton]
    exact hit'.at fun o q => hsb2.extBut I o hID q
theorem dict_pairs {knd : PySem.KeyKind prog w Str} (hk : ∀ x t, knd.is x (.str x t) = true) (hh : A.handled = none) {L : Addr} {us : Array Value} {n0 : Nat} {kvs : List (Str × Value)} (hL : s.heap.get? L = some ⟨.type "list", none, .seq us n0, #[]⟩)
    (hus : All2 (fun u (kv : Str × Value) => ∃ r tk m, u = .ref r ∧ s.heap.get? r = some ⟨.type "tuple", none, .seq #[.str kv.1 tk, kv.2] m, #[]⟩) us.toList kvs) (hnd : (kvs.map (·.1)).Nodup) (hsz : kvs.length ≤ sizeLine) {Q : Value → Shared → Prop}
    (fin : ∀ h' tk, h'.DictOf knd s.heap.objs.size kvs → (∀ b o, s.heap.get? b = some o → h'.get? b = some o) → Q (.ref s.heap.objs.size) { s with heap := h', toks := tk }) : wpAny (model prog w) A (call (.type "dict") [.ref L]) Q E s := by
  refine callType_codes (Q₁ := fun obj s₁ => obj = .ref s.heap.objs.size ∧ s₁ = { s with heap := s.heap.push { cls := .type "dict", data := .dict #[] } }) F.kt_called_dict (F.kt_typeCall_dict_1 _) F.entry_dict_init (kt_code_dict_new _ ⟨rfl, rfl⟩) ?_
  rintro obj s₁ ⟨rfl, rfl⟩
  have hnew : (s.heap.push { cls := .type "dict", data := .dict #[] }).DictOf knd s.heap.objs.size [] := Heap.DictOf.new s.heap
  have k1 : ∀ b o, s.heap.get? b = some o → (s.heap.push { cls := .type "dict", data := .dict #[] }).get? b = some o := fun b o e => Heap.get?_push_of_some _ e
  generalize s.heap.push { cls := .type "dict", data := .dict #[] } = h1 at hnew k1
  refine ⟨hnew.typeIs (s := { s with heap := h1 }), F.args_dict_init_2 _ _, ?_⟩
  unfold Builtin.«dict.__init__»
  refine wpAny_bind ?_
  unfold Builtin.Dict.selfAndRest
  refine wpAny_bind (wpAny_notOrdered_dict (hnew.typeIs (s := { s with heap := h1 })) ?_)
  show wpAny _ _ (pure (s.heap.objs.size, [Value.ref L])) _ _ _
  refine wpAny_pure ?_
  show wpAny _ _ (Builtin.Dict.updateFrom "dict.__init__" s.heap.objs.size (.ref L) [] .none) _ _ _
  unfold Builtin.Dict.updateFrom
  have hL1 := k1 _ _ hL
  refine wpAny_bind (wpAny_typeOf (s := { s with heap := h1 }) (T := "list") ⟨_, hL1, rfl⟩ ?_)
  rw [if_pos (by decide)]
  refine wpAny_bind (keys_none (s := { s with heap := h1 }) hL1 hh fun h2 tk k2 => ?_)
  rw [if_pos (show (none : Option Value).isNone = true from rfl)]
  refine wpAny_bind (wpAny_rule (wpAny_bind (wpAny_pyIter_list (s := { s with heap := h2, toks := tk }) ⟨_, k2 _ _ hL1, rfl, n0, rfl⟩ ?_)))
  have hD2 := hnew.keep k2
  have lt2 : ∀ b o, s.heap.get? b = some o → b < h2.objs.size := fun b o e => Heap.lt_size (k2 b o (k1 b o e))
  have ltD : s.heap.objs.size < h2.objs.size := by obtain ⟨o, es, ep, ho, _⟩ := hD2; exact Heap.lt_size ho
  refine wpAny_pure ⟨plainId_quiet upl_plain _, upd_loop (A := A.in1) (s := s) (h0 := h2.push { cls := .type "list_iterator", data := .fields #[.ref L, .int 0 0] }) hk (show A.in1.handled = none from hh) (I := h2.objs.size) (L := L) (D := s.heap.objs.size) (Nat.ne_of_lt (lt2 _ _ hL)) (Nat.ne_of_lt (Heap.lt_size hL)) (Nat.ne_of_gt ltD) (Heap.get?_push_of_some _ (k2 _ _ hL1)) (hus.mono fun u kv hp => ?_) hnd hsz (fun h' tk' hd' hkp => ⟨rfl, fin h' tk' hd' fun b o e => hkp b o (Nat.ne_of_lt (lt2 b o e)) (Nat.ne_of_lt (Heap.lt_size e)) (Heap.get?_push_of_some _ (k2 b o (k1 b o e)))⟩) kvs [] _ tk 0 0 rfl ⟨_, Heap.get?_push_size _ rfl, rfl, rfl⟩ (hD2.push _) fun b o _ _ e => e⟩
  obtain ⟨r, tk, m, e, ho⟩ := hp
  exact ⟨r, tk, m, e, Heap.get?_push_of_some _ (k2 _ _ (k1 _ _ ho)), Nat.ne_of_lt (lt2 _ _ ho), Nat.ne_of_lt (Heap.lt_size ho)⟩
end
inductive DictA (H : AHeap) (Q : VPost) : List V → Prop
  | pairs {n : Nat} {rs : List Nat} {es : List (Txt × V)} : H[n]? = some (.list (rs.map .ref)) → All2 (fun r (e : Txt × V) => H[r]? = some (.tuple [.str e.1, e.2])) rs es → (es.map (·.1)).Nodup → (∀ ep, Q (.ref H.length) (H ++ [.dict es ep])) → DictA H Q [.ref n]
  | copy {n ep : Nat} {es : List (Txt × V)} : H[n]? = some (.dict es ep) → (∀ ep, Q (.ref H.length) (H ++ [.dict es ep])) → DictA H Q [.ref n]
noncomputable def spDict : Spec := fun vs H Q _ => DictA H Q vs
noncomputable def spGet : Spec := fun vs H Q _ => ∃ (n ep : Nat) (es : List (Txt × V)) (k : Txt), vs = [.ref n, .str k, .none] ∧ H[n]? = some (.dict es ep) ∧ Q (((es.find? fun e => e.1 == k).map (·.2)).getD .none) H
section
variable {C : Cx} {K : Nat}
theorem pairs_are {ρ : List Addr} {H : AHeap} {s : Shared} (S : Sim C ρ H s) : ∀ {rs : List Nat} {es : List (Txt × V)} {us : List Value}, All2 (VR C ρ) (rs.map .ref) us → All2 (fun r (e : Txt × V) => H[r]? = some (.tuple [.str e.1, e.2])) rs es →
    ∃ kvs : List (Str × Value), All2 (DK C ρ) es kvs ∧ All2 (fun u (kv : Str × Value) => ∃ r tk m, u = .ref r ∧ s.heap.get? r = some ⟨.type "tuple", none, .seq #[.str kv.1 tk, kv.2] m, #[]⟩) us kvs
  | [], _, _, .nil, .nil => ⟨[], .nil, .nil⟩
  | r :: rs, e :: es, u :: us, .cons hu hr, .cons he hes => by
    obtain ⟨kvs, h1, h2⟩ := pairs_are S hr hes
    obtain ⟨a, rfl, ea, vs, m, ho, hs, _⟩ := S.lookup he hu
    obtain ⟨x, y, hxy, ⟨ok, tk, rfl⟩, hy⟩ := all2_two hs
    have hv : vs = #[.str ⟨e.1.toArray⟩ tk, y] := by rw [← Array.toArray_toList (xs := vs), hxy]
    rw [hv] at ho
    exact ⟨(⟨e.1.toArray⟩, y) :: kvs, .cons ⟨rfl, ok, hy⟩ h1, .cons ⟨a, tk, m, rfl, ho⟩ h2⟩
theorem dk_nodup {ρ : List Addr} {es : List (Txt × V)} {kvs : List (Str × Value)} (h : All2 (DK C ρ) es kvs) (hn : (es.map (·.1)).Nodup) : (kvs.map (·.1)).Nodup := by
  rw [dk_keys h]
  exact List.pairwise_map.mpr (List.Pairwise.imp (fun h e => h (str_inj e)) hn)
theorem ok_dict : CallOk C K spDict (.type "dict") := by
  intro vs H Q X h ρ s us A E S hus hA hE
  cases h with
  | @pairs n rs es e1 ht hn h =>
    obtain ⟨u, rfl, hu⟩ := all2_one hus
    obtain ⟨L, rfl, ea, us, k, ho, hs, hl⟩ := S.lookup e1 hu
    obtain ⟨kvs, hdk, hpt⟩ := pairs_are S hs ht
    have hel : es.length ≤ lid := by rw [← ht.length, ← List.length_map (f := V.ref)]; exact hl
    refine dict_pairs (knd := PySem.strKind C.prog C.w) (fun x t => strKind_is _ _ x t) hA.h ho hpt (dk_nodup hdk hn) (by rw [← hdk.length]; exact lid_le hel) fun h' tk hd hkp => ?_
    obtain ⟨ep, hor⟩ := dict_is hd hdk hel
    obtain ⟨S1, st1, v1⟩ := S.alloc (h' := h') (tk := tk) (a := s.heap.objs.size) (o := .dict es ep) hkp (get_size _) S.size_ne hor
    exact ⟨_, _, _, st1, S1, v1, h ep⟩
  | @copy n ep es e1 h =>
    obtain ⟨u, rfl, hu⟩ := all2_one hus
    obtain ⟨L, rfl, ea, hor⟩ := S.lookup e1 hu
    obtain ⟨kvs, hd, hdk⟩ := dict_of hor
    obtain ⟨ds, _, _, _, hl⟩ := hor
    refine kt_call_dict (S.not_sm ea) hd (by rw [← hdk.length]; exact lid_le hl) fun h' hd' hsb => ?_
    obtain ⟨ep', hor'⟩ := dict_is hd' hdk hl
    obtain ⟨S1, st1, v1⟩ := S.alloc (h' := h') (tk := s.toks) (a := s.heap.objs.size) (o := .dict es ep') (fun b o e => hsb.extBut b o (Nat.ne_of_lt (Heap.lt_size e)) (Heap.get?_push_of_some _ e)) (get_size _) S.size_ne hor'
    exact ⟨_, _, _, st1, S1, v1, h ep'⟩
theorem ok_get : CallOk C K spGet (.builtin "dict.get") := by
  intro vs H Q X h ρ s us A E S hus hA hE
  obtain ⟨n, ep, es, k, rfl, e1, hq⟩ := h
  obtain ⟨u, us, rfl, hu, hus⟩ : ∃ u us', us = u :: us' ∧ VR C ρ (.ref n) u ∧ All2 (VR C ρ) [.str k, .none] us' := by cases hus with | cons h r => exact ⟨_, _, rfl, h, r⟩
  obtain ⟨w, z, rfl, ⟨ok, tk, rfl⟩, hz⟩ := all2_two hus
  cases hz
  obtain ⟨a, rfl, ea, ds, ho, hs, _⟩ := S.lookup e1 hu
  refine call_meetsIn F.slot_dict_get ⟨_, ho, rfl⟩ F.entry_dict_get (F.args_dict_get_3 _ _ _) (meets_dict_get_default (PySem.strKind C.prog C.w) (k := ⟨k.toArray⟩) a (strKind_is _ _ _ tk) (S.not_sm ea) .none) ⟨_, dict_map (C := C) (ρ := ρ) ho hs, ?_⟩
  show PV C ρ s Q ((findBy Value.isStrOf ds ⟨k.toArray⟩).getD .none) { s with toks := s.toks + 1 }
  unfold findBy
  rw [← Array.find?_toList]
  rcases dict_find (k := k) hs with ⟨z1, z2⟩ | ⟨e', d', z1, z2, z3⟩
  · rw [z1] at hq; rw [z2]; exact here (v := .none) S rfl hq
  · rw [z1] at hq; rw [z2]; exact here S z3 hq
theorem get_get : ∀ v H ρ s u pl A (Q : Value × List Value → Shared → Prop) E, kindA v H = some .dict → Sim C ρ H s → VR C ρ v u → (∀ t, Q (.builtin "dict.get", [u]) { s with toks := t }) → wpAny C.M A (getMethod u (nm 1913575) pl) Q E s := by
  intro v H ρ s u pl A Q E hk S hv h
  obtain ⟨n, es, ep, rfl, e1⟩ := kind_dict hk
  obtain ⟨a, rfl, ea, ds, ho, _⟩ := S.lookup e1 hv
  have e : nm 1913575 = Str.ofString "get" := by decide +kernel
  rw [e]
  exact getMethod_builtin (T := "dict") ⟨_, ho, rfl⟩ F.plainAttrs_dict F.slot_dict_get F.type_dict_get (fun b hb => by cases hb; exact ⟨_, ho, rfl⟩) (h s.toks)
noncomputable def spClearD : Spec := fun vs H Q _ => ∃ (n ep : Nat) (es : List (Txt × V)), vs = [.ref n] ∧ n ≠ 0 ∧ H[n]? = some (.dict es ep) ∧ ∀ ep, Q .none (H.set n (.dict [] ep))
theorem ok_clearD : CallOk C K spClearD (.builtin "dict.clear") := by
  intro vs H Q X h ρ s us A E S hus hA hE
  obtain ⟨n, ep, es, rfl, hn, e1, hq⟩ := h
  obtain ⟨u, rfl, hu⟩ := all2_one hus
  obtain ⟨a, rfl, ea, hor⟩ := S.lookup e1 hu
  obtain ⟨kvs, hd, hdk⟩ := dict_of hor
  obtain ⟨ds, _, _, _, hl⟩ := hor
  refine call_meetsIn F.slot_dict_clear hd.typeIs F.entry_dict_clear (F.args_dict_clear_1 _) (meets_dict_clear (PySem.strKind C.prog C.w) a) ⟨kvs, hd, by rw [← hdk.length]; exact lid_le hl, fun h' hd' hsb => ?_⟩
  obtain ⟨ep', ho'⟩ := dict_is (ρ := ρ) (es := []) hd' .nil (Nat.zero_le _)
  obtain ⟨S1, st1⟩ := S.change (h' := h') (tk := s.toks) (o := .dict [] ep') hn ea (fun b x hb e => hsb.extBut b x hb e) ho'
  exact ⟨ρ, _, .none, st1, S1, rfl, hq ep'⟩
theorem get_clearD : ∀ v H ρ s u pl A (Q : Value × List Value → Shared → Prop) E, kindA v H = some .dict → Sim C ρ H s → VR C ρ v u → (∀ t, Q (.builtin "dict.clear", [u]) { s with toks := t }) → wpAny C.M A (getMethod u (nm 30806734435) pl) Q E s := by
  intro v H ρ s u pl A Q E hk S hv h
  obtain ⟨n, es, ep, rfl, e1⟩ := kind_dict hk
  obtain ⟨a, rfl, ea, ds, ho, _⟩ := S.lookup e1 hv
  have e : nm 30806734435 = Str.ofString "clear" := by decide +kernel
  rw [e]
  exact getMethod_builtin (T := "dict") ⟨_, ho, rfl⟩ F.plainAttrs_dict F.slot_dict_clear F.type_dict_clear (fun b hb => by cases hb; exact ⟨_, ho, rfl⟩) (h s.toks)
end
end Mine
end
section
namespace Mine
open PySem PySem.Calls PyProof.Rows
noncomputable def tabE (T : Tab) : List (Nat × Spec) → Tab
  | [] => T
  | (n, sp) :: r => (tabE T r).add (nm n) sp
noncomputable def getE : List (Nat × Spec) → Nat → Option Spec
  | [], _ => none
  | (n, sp) :: r, m => bif Nat.beq m n then some sp else getE r m
theorem Has.ent {T : Tab} {m : Nat} {sp : Spec} : ∀ {l : List (Nat × Spec)}, getE l m = some sp → Has (tabE T l) (nm m) sp
  | [], h => nomatch h
  | (n, sp') :: r, h => by
    unfold getE at h
    cases e : Nat.beq m n with
    | true =>
      rw [e] at h
      cases Nat.eq_of_beq_eq_true e
      cases h
      exact ⟨if_pos rfl, if_pos rfl⟩
    | false =>
      rw [e] at h
      have ne : ¬ nm m = nm n := fun q => Nat.ne_of_beq_eq_false e (nm_inj.mp q)
      have ih : Has (tabE T r) (nm m) sp := Has.ent h
      exact ⟨(if_neg ne).trans ih.gv, (if_neg ne).trans ih.fn⟩
noncomputable def tabV (T : Tab) : List (Nat × V) → Tab
  | [] => T
  | (n, v) :: r => (tabV T r).val (nm n) v
noncomputable def getV : List (Nat × V) → Nat → Option V
  | [], _ => none
  | (n, v) :: r, m => bif Nat.beq m n then some v else getV r m
noncomputable def tabM (T : Tab) : List (MK × Nat × Spec) → Tab
  | [] => T
  | (k, n, sp) :: r => (tabM T r).meth k (nm n) sp
noncomputable def getM : List (MK × Nat × Spec) → MK → Nat → Option Spec
  | [], _, _ => none
  | (k, n, sp) :: r, kd, m => bif decide (kd = k) && Nat.beq m n then some sp else getM r kd m
theorem gvV {T : Tab} {m : Nat} {v : V} : ∀ {l : List (Nat × V)}, getV l m = some v → (tabV T l).gv (nm m) = some v
  | [], h => nomatch h
  | (n, w) :: r, h => by
    unfold getV at h
    cases e : Nat.beq m n with
    | true => rw [e] at h; cases Nat.eq_of_beq_eq_true e; cases h; exact if_pos rfl
    | false => rw [e] at h; exact (if_neg fun q => Nat.ne_of_beq_eq_false e (nm_inj.mp q)).trans (gvV h)
theorem gvM {T : Tab} : ∀ (l : List (MK × Nat × Spec)), (tabM T l).gv = T.gv
  | [] => rfl
  | (_, _, _) :: r => gvM r
theorem gvE {T : Tab} {m : Nat} {v : V} (k : T.gv (nm m) = some v) : ∀ {l : List (Nat × Spec)}, getE l m = none → (tabE T l).gv (nm m) = some v
  | [], _ => k
  | (n, sp') :: r, h => by
    unfold getE at h
    cases e : Nat.beq m n with
    | true => rw [e] at h; cases h
    | false =>
      rw [e] at h
      exact (if_neg fun q => Nat.ne_of_beq_eq_false e (nm_inj.mp q)).trans (gvE k h)
theorem gvT {T : Tab} {m : Nat} {v : V} {vl : List (Nat × V)} {ml : List (MK × Nat × Spec)} {l : List (Nat × Spec)} (h : getE l m = none) (k : getV vl m = some v) : (tabE (tabM (tabV T vl) ml) l).gv (nm m) = some v :=
  gvE (by rw [gvM]; exact gvV k) h
theorem metM {T : Tab} {kd : MK} {m : Nat} {sp : Spec} : ∀ {l : List (MK × Nat × Spec)}, getM l kd m = some sp → HasM (tabM T l) kd (nm m) sp
  | [], h => nomatch h
  | (k, n, sp') :: r, h => by
    unfold getM at h
    cases e : (decide (kd = k) && Nat.beq m n) with
    | true =>
      rw [e] at h
      obtain ⟨e1, e2⟩ := Bool.and_eq_true_iff.mp e
      cases of_decide_eq_true e1
      cases Nat.eq_of_beq_eq_true e2
      cases h
      exact ⟨if_pos ⟨rfl, rfl⟩, if_pos ⟨rfl, rfl⟩⟩
    | false =>
      rw [e] at h
      have ne : ¬ (kd = k ∧ nm m = nm n) := fun q => by
        rw [decide_eq_true q.1, nm_inj.mp q.2, Nat.beq_refl] at e; cases e
      have ih := metM (T := T) h
      exact ⟨(if_neg ne).trans ih.has, (if_neg ne).trans ih.mt⟩
theorem metE {T : Tab} {kd : MK} {m : Str} {sp : Spec} (k : HasM T kd m sp) : ∀ (l : List (Nat × Spec)), HasM (tabE T l) kd m sp
  | [] => k
  | (_, _) :: r => ⟨(metE k r).has, (metE k r).mt⟩
theorem HasM.met {T : Tab} {kd : MK} {m : Nat} {sp : Spec} {ml : List (MK × Nat × Spec)} {l : List (Nat × Spec)} (h : getM ml kd m = some sp) : HasM (tabE (tabM T ml) l) kd (nm m) sp := metE (metM h) l
section
variable {C : Cx} {T : Tab} {K : Nat}
noncomputable def ConstAt (C : Cx) (f : Str) (v : V) : Prop := ∃ u, C.G f = some u ∧ ∀ ρ, VR C ρ v u
theorem ConstAt.glob {n : Nat} {u : Value} (h : C.G (nm n) = some u) : ConstAt C (nm n) (.glob (nm n)) := ⟨u, h, fun _ => h⟩
theorem base_ok (hb : ∀ p ∈ biL, C.G p.1 = some p.2) : TabOk C T0 0 := by
  have g : ∀ i (h : i < biL.length), C.G (biL[i]).1 = some (biL[i]).2 := fun i h => hb _ (List.getElem_mem h)
  have s3 : Str.ofString "range" = (nm 27329802482) := by decide +kernel
  have s4 : Str.ofString "reversed" = (nm 56743180225065714) := by decide +kernel
  have s5 : Str.ofString "enumerate" = (nm 7343549747291846501) := by decide +kernel
  exact .base (by rw [s3]; exact g 7 (by decide)) (by rw [s4]; exact g 8 (by decide)) (by rw [s5]; exact g 9 (by decide))
theorem TabOk.entV {vl : List (Nat × V)} (h : TabOk C (tabV T vl) K) {n : Nat} {v : V} (k : ConstAt C (nm n) v) : TabOk C (tabV T ((n, v) :: vl)) K := by obtain ⟨_, h1, h2⟩ := k; exact h.val h1 h2
theorem TabOk.entM {ml : List (MK × Nat × Spec)} (h : TabOk C (tabM T ml) K) {k : MK} {n : Nat} {sp : Spec} {id : String} (hok : CallOk C K sp (.builtin id))
    (hg : ∀ v H ρ s u pl A (Q : Value × List Value → Shared → Prop) E, kindA v H = some k → Sim C ρ H s → VR C ρ v u → (∀ t, Q (.builtin id, [u]) { s with toks := t }) → wpAny C.M A (getMethod u (nm n) pl) Q E s) : TabOk C (tabM T ((k, n, sp) :: ml)) K := h.meth hok hg
theorem TabOk.entB {l : List (Nat × Spec)} (h : TabOk C (tabE T l) K) {n : Nat} {sp : Spec} {u : Value} (hu : C.G (nm n) = some u) (hc : Callee C u) (hok : CallOk C K sp u) : TabOk C (tabE T ((n, sp) :: l)) K := h.addB hu hc hok
theorem TabOk.ent {l : List (Nat × Spec)} (h : TabOk C (tabE T l) K) {n : Nat} {xs : List Str} {ps : PS} {sp : Spec} (hd : DefAt C (nm n) xs ps) (hc : Ct (tabE T l) xs ps sp) : TabOk C (tabE T ((n, sp) :: l)) (K + 1) := h.addF hd hc
end
end Mine
end
section
namespace Mine
open PySem
noncomputable def Tru (v : V) (q : Bool → Prop) : Prop := match truthyA v with | some b => q b | Option.none => False
noncomputable def SQ (T : Tab) (r : PS) (Q : SPost) (X : XPost) : SPost := fun fl σ H => match fl with | .next => semS T r σ H Q X | f => Q f σ H
noncomputable def RQ (Q : VPost) : SPost := fun fl _ H' => match fl with
  | .ret v => Q v H'
  | .next => Q .none H'
  | .brk => False
noncomputable def LQ (W : Sg → AHeap → Prop) (Q : SPost) : SPost := fun fl σ2 H2 => match fl with
  | .next => W σ2 H2
  | .brk => Q .next σ2 H2
  | .ret v => Q (.ret v) σ2 H2
noncomputable def Rng1 (v : V) (H : AHeap) (q : List Item → (AHeap → Prop) → AHeap → Prop) : Prop := match v with
  | .int j => 0 ≤ j ∧ j ≤ lid ∧ q ((intsFrom 0 j.toNat).map fun i => .one (.int i)) (fun _ => True) H
  | _ => False
noncomputable def Rng2 (u v : V) (H : AHeap) (q : List Item → (AHeap → Prop) → AHeap → Prop) : Prop := match u, v with
  | .int i, .int j => 0 ≤ i ∧ i ≤ lid ∧ 0 ≤ j ∧ j ≤ lid ∧ q ((intsFrom i (j - i).toNat).map fun i => .one (.int i)) (fun _ => True) H
  | _, _ => False
noncomputable def Neg (v : V) (q : V → Prop) : Prop := match v with | .int i => q (.int (-i)) | _ => False
section
variable {T : Tab} {σ : Sg} {H : AHeap} {Q : VPost} {X : XPost} {q : Bool → AHeap → Prop} {P : SPost} {W : Sg → AHeap → Prop}
theorem hit {x : Str} {v : V} : (σ.set x v) x = some v := if_pos rfl
theorem miss {a b : Nat} {v w : V} (k : σ (nm b) = some w) (h : Nat.beq b a = false) : (σ.set (nm a) v) (nm b) = some w := by
  rw [set_nm, if_neg (Nat.ne_of_beq_eq_false h)]; exact k
theorem e_name {x : Str} {v : V} (h : σ x = some v) (k : Q v H) : (sem T (.name x)).ev σ H Q X := by
  show (match σ x with | some v => Q v H | Option.none => False); rw [h]; exact k
theorem e_glob {x : Str} {v : V} (h : T.gv x = some v) (k : Q v H) : (sem T (.glob x)).ev σ H Q X := by
  show (match T.gv x with | some v => Q v H | Option.none => False); rw [h]; exact k
theorem e_none (k : Q .none H) : (sem T .none).ev σ H Q X := k
theorem e_bool {b : Bool} (k : Q (.bool b) H) : (sem T (.bool b)).ev σ H Q X := k
theorem e_int {i : Int} (k : Q (.int i) H) : (sem T (.int i)).ev σ H Q X := k
theorem e_str {x : Str} (k : Q (.str x.cps.toList) H) : (sem T (.str x)).ev σ H Q X := k
theorem e_bin {op : Operator} {l r : PE} (k : (sem T l).ev σ H (fun a H1 => (sem T r).ev σ H1 (fun b H2 => binA op a b H2 Q) X) X) : (sem T (.bin op l r)).ev σ H Q X := k
theorem e_cmp {op : CmpOp} {l r : PE} (k : (sem T l).ev σ H (fun a H1 => (sem T r).ev σ H1 (fun b H2 => cmpA op a b H2 fun c => Q (.bool c) H2) X) X) : (sem T (.cmp1 op l r)).ev σ H Q X := k
theorem t_cmp {op : CmpOp} {l r : PE} (k : (sem T l).ev σ H (fun a H1 => (sem T r).ev σ H1 (fun b H2 => cmpA op a b H2 fun c => q c H2) X) X) : (sem T (.cmp1 op l r)).tt σ H q X := k
theorem t_cmp2 {o1 o2 : CmpOp} {a b c : PE} (k : (sem T a).ev σ H (fun x H1 => (sem T b).ev σ H1 (fun y H2 => cmpA o1 x y H2 fun c1 =>
      if c1 then (sem T c).ev σ H2 (fun z H3 => cmpA o2 y z H3 fun c2 => q c2 H3) X else q false H2) X) X) : (sem T (.cmp2 o1 o2 a b c)).tt σ H q X := k
theorem t_and {l r : PE} (k : (sem T l).tt σ H (fun b H1 => if b then (sem T r).tt σ H1 q X else q false H1) X) : (sem T (.and l r)).tt σ H q X := k
theorem t_or {l r : PE} (k : (sem T l).tt σ H (fun b H1 => if b then q true H1 else (sem T r).tt σ H1 q X) X) : (sem T (.or l r)).tt σ H q X := k
theorem t_not {e : PE} (k : (sem T e).tt σ H (fun b H1 => q (!b) H1) X) : (sem T (.not e)).tt σ H q X := k
theorem e_and {l r : PE} (k : (sem T l).ev σ H (fun v H1 => Tru v fun b => if b then (sem T r).ev σ H1 Q X else Q v H1) X) : (sem T (.and l r)).ev σ H Q X := k
theorem e_or {l r : PE} (k : (sem T l).ev σ H (fun v H1 => Tru v fun b => if b then Q v H1 else (sem T r).ev σ H1 Q X) X) : (sem T (.or l r)).ev σ H Q X := k
theorem e_not {e : PE} (k : (sem T e).ev σ H (fun v H1 => Tru v fun b => Q (.bool !b) H1) X) : (sem T (.not e)).ev σ H Q X := k
theorem e_neg {e : PE} (k : (sem T e).ev σ H (fun v H1 => Neg v fun w => Q w H1) X) : (sem T (.neg e)).ev σ H Q X := k
theorem t_name {x : Str} {v : V} (h : σ x = some v) (k : Tru v fun b => q b H) : (sem T (.name x)).tt σ H q X := by
  show (match σ x with | some v => _ | Option.none => False); rw [h]; exact k
theorem t_sub {o i : PE} (k : (sem T o).ev σ H (fun ov H1 => (sem T i).ev σ H1 (fun iv H2 => subA ov iv H2 fun v => Tru v fun b => q b H2) X) X) : (sem T (.sub o i)).tt σ H q X := k
theorem tru_bool {b : Bool} {r : Bool → Prop} (k : r b) : Tru (.bool b) r := k
theorem e_call {g : Str} {args : PE} {sp : Spec} (h : Has T g sp) (k : (sem T args).el σ H (fun vs H1 => sp vs H1 Q X) X) : (sem T (.call (.glob g) args)).ev σ H Q X := by
  show (match T.gv g with | some v => _ | Option.none => False); rw [h.gv]; show (sem T args).el σ H (fun vs H1 => T.fn g vs H1 Q X) X; rw [h.fn]; exact k
theorem t_call {g : Str} {args : PE} {sp : Spec} (h : Has T g sp) (k : (sem T args).el σ H (fun vs H1 => sp vs H1 (fun v H2 => Tru v fun b => q b H2) X) X) : (sem T (.call (.glob g) args)).tt σ H q X :=
  e_call (Q := fun v H2 => Tru v fun b => q b H2) h k
theorem e_methN {x : Str} {args : PE} {m : Str} {v : V} {kd : MK} {sp : Spec} (hx : σ x = some v) (hk : kindA v H = some kd) (h : HasM T kd m sp) (k : (sem T args).el σ H (fun vs H2 => sp (v :: vs) H2 Q X) X) : (sem T (.meth (.name x) m args)).ev σ H Q X := by
  refine e_name (T := T) (X := X) (Q := fun ov H1 => match kindA ov H1 with
      | some kd => T.has kd m = true ∧ (sem T args).el σ H1 (fun vs H2 => T.mt kd m (ov :: vs) H2 Q X) X
      | Option.none => False) hx ?_
  rw [hk]; exact ⟨h.has, by rw [h.mt]; exact k⟩
theorem e_methS {x : Str} {args : PE} {m : Str} {sp : Spec} (h : HasM T .str m sp) (k : (sem T args).el σ H (fun vs H2 => sp (.str x.cps.toList :: vs) H2 Q X) X) : (sem T (.meth (.str x) m args)).ev σ H Q X :=
  ⟨h.has, by rw [h.mt]; exact k⟩
theorem l0 {q : List V → AHeap → Prop} (k : q [] H) : (sem T .nil).el σ H q X := k
theorem l1 {a : PE} {q : List V → AHeap → Prop} (k : (sem T a).ev σ H (fun v H1 => q [v] H1) X) : (sem T (.cons a .nil)).el σ H q X := k
theorem l2 {a b : PE} {q : List V → AHeap → Prop} (k : (sem T a).ev σ H (fun v H1 => (sem T b).ev σ H1 (fun w H2 => q [v, w] H2) X) X) : (sem T (.cons a (.cons b .nil))).el σ H q X := k
theorem lc {a t : PE} {q : List V → AHeap → Prop} (k : (sem T a).ev σ H (fun v H1 => (sem T t).el σ H1 (fun vs H2 => q (v :: vs) H2) X) X) : (sem T (.cons a t)).el σ H q X := k
theorem e_sub {o i : PE} (k : (sem T o).ev σ H (fun ov H1 => (sem T i).ev σ H1 (fun iv H2 => subA ov iv H2 fun v => Q v H2) X) X) : (sem T (.sub o i)).ev σ H Q X := k
theorem e_slice {o lo hi : PE} (k : (sem T o).ev σ H (fun ov H1 => (sem T lo).ev σ H1 (fun l H2 => (sem T hi).ev σ H2 (fun h H3 => sliceA ov l h H3 Q) X) X) X) : (sem T (.slice o lo hi)).ev σ H Q X := k
theorem e_list {es : PE} (k : (sem T es).el σ H (fun vs H1 => vs.length ≤ lid ∧ Q (.ref H1.length) (H1 ++ [.list vs])) X) : (sem T (.list es)).ev σ H Q X := k
theorem e_tuple {es : PE} (k : (sem T es).el σ H (fun vs H1 => vs.length ≤ lid ∧ Q (.ref H1.length) (H1 ++ [.tuple vs])) X) : (sem T (.tuple es)).ev σ H Q X := k
theorem e_comp0 {elt it : PE} {t : Tgt} (k : (sem T it).it σ H (fun items K H1 =>
      items.length ≤ lid ∧ compGo K (fun x H' => bindA t x H' σ) (fun _ H' q => q true H') (fun σ' H' q => (sem T elt).ev σ' H' q X) (fun acc H' => Q (.ref H'.length) (H' ++ [.list acc])) items [] H1) X) : (sem T (.comp0 elt t it)).ev σ H Q X := k
theorem i_val {e : PE} {q : List Item → (AHeap → Prop) → AHeap → Prop} (k : (sem T e).ev σ H (fun v H1 => itemsA v H1 fun items K => q items K H1) X) : (sem T (.itVal e)).it σ H q X := k
theorem i_rng1 {e : PE} {q : List Item → (AHeap → Prop) → AHeap → Prop} (k : (sem T e).ev σ H (fun v H1 => Rng1 v H1 q) X) : (sem T (.itRange1 e)).it σ H q X := k
theorem i_rng2 {a b : PE} {q : List Item → (AHeap → Prop) → AHeap → Prop} (k : (sem T a).ev σ H (fun u H1 => (sem T b).ev σ H1 (fun v H2 => Rng2 u v H2 q) X) X) : (sem T (.itRange2 a b)).it σ H q X := k
theorem rng1 {j : Int} {q : List Item → (AHeap → Prop) → AHeap → Prop} (h0 : 0 ≤ j) (h1 : j ≤ lid) (k : q ((intsFrom 0 j.toNat).map fun i => .one (.int i)) (fun _ => True) H) : Rng1 (.int j) H q := ⟨h0, h1, k⟩
theorem b_add {a b : Int} (k : Q (.int (a + b)) H) : binA .Add (.int a) (.int b) H Q := .add k
theorem b_sub {a b : Int} (k : Q (.int (a - b)) H) : binA .Sub (.int a) (.int b) H Q := .sub k
theorem b_mul {a b : Int} (h : a.natAbs < 2 ^ 63 ∨ b.natAbs < 2 ^ 63) (k : Q (.int (a * b)) H) : binA .Mult (.int a) (.int b) H Q := .mul h k
theorem b_div {a b : Int} (h : (decide (0 < b) && decide (b < 1073741824)) = true) (k : Q (.int (a / b)) H) : binA .FloorDiv (.int a) (.int b) H Q :=
  have h := Bool.and_eq_true_iff.mp h
  .div (of_decide_eq_true h.1) (of_decide_eq_true h.2) k
theorem b_mod {a b : Int} (h : 0 < b) (k : ∀ m, 0 ≤ m → m < b → Q (.int m) H) : binA .Mod (.int a) (.int b) H Q := .mod h (k _ (Int.emod_nonneg a (Int.ne_of_gt h)) (Int.emod_lt_of_pos a h))
theorem b_cat {t u : Txt} (h : t.length + u.length ≤ lid) (k : Q (.str (t ++ u)) H) : binA .Add (.str t) (.str u) H Q := .cat h k
theorem b_lcat {m n : Nat} {xs ys : List V} (h1 : H[m]? = some (.list xs)) (h2 : H[n]? = some (.list ys)) (h : xs.length + ys.length ≤ lid) (k : Q (.ref H.length) (H ++ [.list (xs ++ ys)])) : binA .Add (.ref m) (.ref n) H Q := .lcat h1 h2 h k
theorem c_lt {a b : Int} {r : Bool → Prop} (k : r (decide (a < b))) : cmpA .Lt (.int a) (.int b) H r := .lt k
theorem c_le {a b : Int} {r : Bool → Prop} (k : r (decide (a ≤ b))) : cmpA .LtE (.int a) (.int b) H r := .le k
theorem c_gt {a b : Int} {r : Bool → Prop} (k : r (decide (b < a))) : cmpA .Gt (.int a) (.int b) H r := .gt k
theorem c_eqi {a b : Int} {r : Bool → Prop} (k : r (decide (a = b))) : cmpA .Eq (.int a) (.int b) H r := .eq rfl rfl (by rw [int_beq]; exact k)
theorem c_nei {a b : Int} {r : Bool → Prop} (k : r (!decide (a = b))) : cmpA .NotEq (.int a) (.int b) H r := .ne rfl rfl (by rw [int_beq]; exact k)
theorem c_eqs {a b : Txt} {r : Bool → Prop} (k : r (decide (a = b))) : cmpA .Eq (.str a) (.str b) H r := .eq rfl rfl (by rw [str_beq]; exact k)
theorem c_nes {a b : Txt} {r : Bool → Prop} (k : r (!decide (a = b))) : cmpA .NotEq (.str a) (.str b) H r := .ne rfl rfl (by rw [str_beq]; exact k)
theorem c_is {a : V} {r : Bool → Prop} (k : r (decide (a = .none))) : cmpA .Is a .none H r := .is k
theorem c_isnot {a : V} {r : Bool → Prop} (k : r (!decide (a = .none))) : cmpA .IsNot a .none H r := .isn k
theorem b_last {n : Nat} {xs : List V} {p : V → Prop} (h : H[n]? = some (.list xs)) (h1 : 0 < xs.length) (hp : p (xs[xs.length - 1]'(Nat.sub_lt h1 Nat.one_pos))) : subA (.ref n) (.int (-1)) H p := by
  have e : (-1 + (xs.length : Int)).toNat = xs.length - 1 := by rw [Int.add_comm]; exact Int.toNat_sub xs.length 1
  exact .list (j := xs.length - 1) h (e ▸ Pl.neg (by decide) (Int.neg_le_neg (Int.ofNat_le.mpr h1))) (List.getElem?_eq_getElem _) hp
theorem b_sign {t : Txt} {k : Int} {p : V → Prop} (h0 : 0 ≤ k) (h1 : k < t.length) (hp : ∀ c ∈ t, p (.str [c])) : subA (.str t) (.int k) H p :=
  have hk : k.toNat < t.length := (Int.toNat_lt h0).mpr h1
  .str (.pos h0 h1) (by rw [List.drop_eq_getElem_cons hk]; exact hp _ (List.getElem_mem _))
theorem b_to {t : Txt} {j : Int} (h0 : 0 ≤ j) (k : Q (.str (t.take j.toNat)) H) : sliceA (.str t) .none (.int j) H Q := .str .none .int (by rw [cut_zero, take_clip _ h0]; exact k)
theorem b_from {t : Txt} {j : Int} (h0 : 0 ≤ j) (k : Q (.str (t.drop j.toNat)) H) : sliceA (.str t) (.int j) .none H Q := .str .int .none (by rw [cut_all, drop_clip _ h0]; exact k)
theorem b_lto {n : Nat} {xs : List V} {j : Int} (h : H[n]? = some (.list xs)) (h0 : 0 ≤ j) (k : Q (.ref H.length) (H ++ [.list (xs.take j.toNat)])) : sliceA (.ref n) .none (.int j) H Q := .list h .none .int (by rw [cut_zero, take_clip _ h0]; exact k)
theorem b_lfrom {n : Nat} {xs : List V} {j : Int} (h : H[n]? = some (.list xs)) (h0 : 0 ≤ j) (k : Q (.ref H.length) (H ++ [.list (xs.drop j.toNat)])) : sliceA (.ref n) (.int j) .none H Q := .list h .int .none (by rw [cut_all, drop_clip _ h0]; exact k)
theorem s_len {t : Txt} (k : Q (.int t.length) H) : spLen [.str t] H Q X := .str k
theorem s_lenl {n : Nat} {xs : List V} (h : H[n]? = some (.list xs)) (k : Q (.int xs.length) H) : spLen [.ref n] H Q X := .list h k
theorem s_append {n : Nat} {v : V} {xs : List V} (h0 : n ≠ 0) (h : H[n]? = some (.list xs)) (hl : xs.length < lid) (k : Q .none (H.set n (.list (xs ++ [v])))) : spAppend [.ref n, v] H Q X := ⟨n, v, xs, rfl, h0, h, hl, k⟩
theorem s_join {n : Nat} {ts : List Txt} (h : H[n]? = some (.list (ts.map .str))) (hl : (ts.map List.length).sum + ts.length ≤ lid) (k : Q (.str ts.flatten) H) : spJoin [.str [], .ref n] H Q X := ⟨n, ts, rfl, h, hl, k⟩
theorem i_list {n : Nat} {xs : List V} {p : List Item → (AHeap → Prop) → Prop} (h : H[n]? = some (.list xs)) (k : p (xs.map .one) (fun H' => H'[n]? = some (.list xs))) : itemsA (.ref n) H p := .list h k
theorem i_str {t : Txt} {p : List Item → (AHeap → Prop) → Prop} (k : p (t.map fun c => .one (.str [c])) (fun _ => True)) : itemsA (.str t) H p := .str k
theorem if_dec {p : Prop} [Decidable p] {A B : Prop} (h1 : p → A) (h0 : ¬ p → B) : if decide p = true then A else B := by
  by_cases h : p
  · rw [if_pos (by simpa using h)]; exact h1 h
  · rw [if_neg (by simpa using h)]; exact h0 h
theorem if_ndec {p : Prop} [Decidable p] {A B : Prop} (h1 : ¬ p → A) (h0 : p → B) : if (!decide p) = true then A else B := by
  by_cases h : p
  · rw [if_neg (by simpa using h)]; exact h0 h
  · rw [if_pos (by simpa using h)]; exact h1 h
theorem if_tt {A B : Prop} (k : A) : if true = true then A else B := k
theorem if_ff {A B : Prop} (k : B) : if false = true then A else B := k
theorem s_asg {x : Str} {e : PE} {b : PS} (k : (sem T e).ev σ H (fun v H1 => semS T b (σ.set x v) H1 P X) X) : semS T (.seq (.assign (.name x) e) b) σ H P X := k
theorem r_ret {e : PE} {b : PS} (k : (sem T e).ev σ H (fun v H1 => P (.ret v) σ H1) X) : semS T (.seq (.ret e) b) σ H P X := k
theorem s_exp {e : PE} {b : PS} (k : (sem T e).ev σ H (fun _ H1 => semS T b σ H1 P X) X) : semS T (.seq (.expr e) b) σ H P X := k
theorem s_ite {c : PE} {a b r : PS} (k : (sem T c).tt σ H (fun t H1 => if t then semS T a σ H1 (SQ T r P X) X else semS T b σ H1 (SQ T r P X) X) X) : semS T (.seq (.ite c a b) r) σ H P X := k
theorem r_for {t : Tgt} {it : PE} {b r : PS} (k : (sem T it).it σ H (fun items K H1 => forGo K (fun x H' σ' => bindA t x H' σ') (fun σ' H' q => semS T b σ' H' q X) (SQ T r P X) items σ H1) X) : semS T (.seq (.for_ t it b) r) σ H P X := k
theorem s_set {o i e : PE} {b : PS} (k : (sem T e).ev σ H (fun v H1 => (sem T o).ev σ H1 (fun ov H2 => (sem T i).ev σ H2 (fun iv H3 => setItemA ov iv v H3 fun H4 => semS T b σ H4 P X) X) X) X) : semS T (.seq (.setItem o i e) b) σ H P X := k
theorem r_un4 {x a b c d : Str} {n : Nat} {u v w z : V} {r : PS} (hx : σ x = some (.ref n)) (hn : H[n]? = some (.tuple [u, v, w, z])) (k : semS T r ((((σ.set a u).set b v).set c w).set d z) H P X) : semS T (.seq (.assign (.tup [a, b, c, d]) (.name x)) r) σ H P X := by
  refine e_name (T := T) (X := X) (Q := fun v H1 => match bindA (.tup [a, b, c, d]) (.one v) H1 σ with | some σ' => semS T r σ' H1 P X | Option.none => False) hx ?_
  rw [bind_tup hn rfl]; exact k
theorem b_att {n k : Nat} {xs : List V} {v : V} {p : V → Prop} (h : H[n]? = some (.tuple xs)) (hv : xs[k]? = some v) (hp : p v) : subA (.ref n) (.int k) H p :=
  .tuple h (.pos (Int.natCast_nonneg k) (Int.ofNat_lt.mpr (List.getElem?_eq_some_iff.mp hv).1)) hv hp
theorem c_ind {n ep : Nat} {es : List (Txt × V)} {t : Txt} {r : Bool → Prop} (h : H[n]? = some (.dict es ep)) (k : r (es.any fun e => e.1 == t)) : cmpA .In (.str t) (.ref n) H r := .inD h k
theorem c_nind {n ep : Nat} {es : List (Txt × V)} {t : Txt} {r : Bool → Prop} (h : H[n]? = some (.dict es ep)) (k : r (!(es.any fun e => e.1 == t))) : cmpA .NotIn (.str t) (.ref n) H r := .ninD h k
theorem b_dget {n ep : Nat} {es : List (Txt × V)} {t : Txt} {e : Txt × V} {p : V → Prop} (h : H[n]? = some (.dict es ep)) (hf : es.find? (fun e => e.1 == t) = some e) (hp : p e.2) : subA (.ref n) (.str t) H p := .dict h hf hp
theorem b_dset {n ep : Nat} {es : List (Txt × V)} {t : Txt} {v : V} {p : AHeap → Prop} (hn : n ≠ 0) (h : H[n]? = some (.dict es ep)) (hl : es.length < lid) (hp : ∀ ep', p (H.set n (.dict (stA es t v) ep'))) : setItemA (.ref n) (.str t) v H p := .dict hn h hl hp
theorem e_dict0 (k : Q (.ref H.length) (H ++ [.dict [] 0])) : (sem T .dict0).ev σ H Q X := k
theorem r_while {c : PE} {b r : PS} (k : ∃ n, whileGo (fun σ' H' q => (sem T c).tt σ' H' q X) (fun σ' H' q => semS T b σ' H' q X) (SQ T r P X) n σ H) : semS T (.seq (.while_ c b) r) σ H P X := k
theorem s_skip (k : P .next σ H) : semS T .skip σ H P X := k
theorem sq_next {r : PS} (k : semS T r σ H P X) : SQ T r P X .next σ H := k
theorem sq_ret {r : PS} {v : V} (k : P (.ret v) σ H) : SQ T r P X (.ret v) σ H := k
theorem rq_ret {v : V} (k : Q v H) : RQ Q (.ret v) σ H := k
theorem lq_next (k : W σ H) : LQ W P .next σ H := k
theorem lq_ret {v : V} (k : P (.ret v) σ H) : LQ W P (.ret v) σ H := k
end
theorem ct1 {T : Tab} {x : Str} {ps : PS} {sp : Spec} (k : ∀ vs H Q X, sp vs H Q X → ∃ a, vs = [a] ∧ semS T ps (Sg.set (fun _ => none) x a) H (RQ Q) X) : Ct T [x] ps sp := fun vs H Q X h => by
  obtain ⟨a, rfl, k⟩ := k vs H Q X h; exact ⟨rfl, k⟩
theorem ct2 {T : Tab} {x y : Str} {ps : PS} {sp : Spec} (k : ∀ vs H Q X, sp vs H Q X → ∃ a b, vs = [a, b] ∧ semS T ps (Sg.set (Sg.set (fun _ => none) x a) y b) H (RQ Q) X) : Ct T [x, y] ps sp := fun vs H Q X h => by
  obtain ⟨a, b, rfl, k⟩ := k vs H Q X h; exact ⟨rfl, k⟩
theorem ct3 {T : Tab} {x y z : Str} {ps : PS} {sp : Spec} (k : ∀ vs H Q X, sp vs H Q X → ∃ a b c, vs = [a, b, c] ∧ semS T ps (Sg.set (Sg.set (Sg.set (fun _ => none) x a) y b) z c) H (RQ Q) X) : Ct T [x, y, z] ps sp := fun vs H Q X h => by
  obtain ⟨a, b, c, rfl, k⟩ := k vs H Q X h; exact ⟨rfl, k⟩
theorem for_inv {T : Tab} {X : XPost} {K : AHeap → Prop} {t : Tgt} {b r : PS} {P : SPost} (I : List Item → Sg → AHeap → Prop)
    (step : ∀ x xs σ H, I (x :: xs) σ H → K H ∧ ∃ σ', bindA t x H σ = some σ' ∧ ∀ W : Sg → AHeap → Prop, (∀ σ2 H2, I xs σ2 H2 → W σ2 H2) → semS T b σ' H (LQ W (SQ T r P X)) X)
    (fin : ∀ σ H, I [] σ H → K H ∧ semS T r σ H P X) {items : List Item} {σ : Sg} {H : AHeap} (h : I items σ H) : forGo K (fun x H' σ' => bindA t x H' σ') (fun σ' H' q => semS T b σ' H' q X) (SQ T r P X) items σ H :=
  for_ind I step fin items σ H h
end Mine
end
section
namespace Mine
open PySem
local macro_rules | `(tactic| walk_at "nm") => `(tactic| (repeat (first | with_reducible exact hit | with_reducible assumption | (with_reducible apply miss; case h => with_unfolding_all rfl))))
local macro_rules | `(tactic| walk_at "ev") => `(tactic| (repeat (first | ((with_reducible first | apply e_name | apply t_name); case h => walk_at "nm") | (with_reducible first | apply e_int | apply e_str | apply e_none | apply e_bool | apply e_bin | apply l1 | apply l2 | apply l0 | apply lc | apply e_sub | apply e_slice | apply e_list | apply e_tuple | apply e_dict0 | apply e_cmp | apply e_and | apply e_not | apply e_or | apply e_neg | apply t_cmp | apply t_cmp2 | apply t_and | apply t_or | apply t_not | apply t_bool | apply t_sub | apply tru_bool | apply e_comp0 | apply e_comp1 | apply i_val | apply i_rng1 | apply i_rng2 | apply b_add | apply b_sub | apply c_lt | apply c_le | apply c_gt | apply c_ge | apply c_eqi | apply c_nei | apply c_eqs | apply c_nes | apply c_is | apply c_isnot | apply s_len | apply if_tt | apply if_ff | apply r_ret | apply s_asg | apply s_exp | apply s_ite | apply s_set | apply s_skip | apply sq_next | apply sq_ret | apply lq_next | apply lq_ret | apply rq_ret | apply i_str) | ((with_reducible first | apply e_call | apply t_call | apply e_glob | apply e_methS); case h => with_reducible assumption) | (with_reducible apply b_div; case h => with_unfolding_all rfl))))
noncomputable def x_is_sign : List Str := [(nm 27881272436)]
noncomputable def b_is_sign : PS := (.seq (.ret (.and (.call (.glob (nm 938756632654307293673)) (.cons (.name (nm 27881272436)) (.cons (.glob (nm 1882739)) .nil))) (.and (.cmp1 .Eq (.call (.glob (nm 1815276)) (.cons (.name (nm 27881272436)) .nil)) (.int 1)) (.cmp1 .In (.name (nm 27881272436)) (.glob (nm 367874058560204)))))) .skip)
noncomputable def x_is_word : List Str := [(nm 27881272436)]
noncomputable def b_is_word_1 : PS := (.seq (.ret (.call (.glob (nm 1783393)) (.cons (.comp0 (.call (.glob (nm 487352597740009)) (.cons (.name (nm 232387827)) .nil)) (.name (nm 232387827)) (.itVal (.name (nm 27881272436)))) .nil))) .skip)
noncomputable def b_is_word : PS := (.seq (.ite (.or (.not (.call (.glob (nm 938756632654307293673)) (.cons (.name (nm 27881272436)) (.cons (.glob (nm 1882739)) .nil)))) (.not (.cmp2 .LtE .LtE (.int 1) (.call (.glob (nm 1815276)) (.cons (.name (nm 27881272436)) .nil)) (.glob (nm 771200664775530178509))))) (.seq (.ret (.bool false)) .skip) .skip) b_is_word_1)
noncomputable def x_checked : List Str := [(nm 31081674743)]
noncomputable def b_checked_4 : PS := (.seq (.ret (.call (.glob (nm 3463330969587)) (.cons (.name (nm 27076163558)) .nil))) .skip)
noncomputable def b_checked_l1_2 : PS := (.seq (.expr (.meth (.name (nm 27076163558)) (nm 3465715398753) (.cons (.name (nm 211597303)) .nil))) .skip)
noncomputable def b_checked_l1_1 : PS := (.seq (.ite (.cmp1 .In (.name (nm 211597303)) (.name (nm 27076163558))) (.seq .raise .skip) .skip) b_checked_l1_2)
noncomputable def b_checked_l1 : PS := (.seq (.ite (.not (.call (.glob (nm 443751708752361)) (.cons (.name (nm 211597303)) .nil))) (.seq .raise .skip) .skip) b_checked_l1_1)
noncomputable def b_checked_3 : PS := (.seq (.for_ (.name (nm 211597303)) (.itVal (.name (nm 31081674743))) b_checked_l1) b_checked_4)
noncomputable def b_checked_2 : PS := (.seq (.assign (.name (nm 27076163558)) (.list .nil)) b_checked_3)
noncomputable def b_checked_1 : PS := (.seq (.ite (.cmp1 .Gt (.call (.glob (nm 1815276)) (.cons (.name (nm 31081674743)) .nil)) (.glob (nm 770486307810356553677))) (.seq .raise .skip) .skip) b_checked_2)
noncomputable def b_checked : PS := (.seq (.ite (.not (.call (.glob (nm 938756632654307293673)) (.cons (.name (nm 31081674743)) (.cons (.glob (nm 245167340)) .nil)))) (.seq .raise .skip) .skip) b_checked_1)
noncomputable def x_law_at : List Str := [(nm 137989276334399845594719), (nm 3702244537951)]
noncomputable def b_law_at : PS := (.seq (.ite (.cmp1 .Lt (.name (nm 3702244537951)) (.call (.glob (nm 1815276)) (.cons (.name (nm 137989276334399845594719)) .nil))) (.seq (.ret (.sub (.name (nm 137989276334399845594719)) (.name (nm 3702244537951)))) .skip) .skip) (.seq (.ret (.int 0)) .skip))
noncomputable def x_law_mixed : List Str := [(nm 7843466381129971295), (nm 3702244537951)]
noncomputable def b_law_mixed_1 : PS := (.seq (.ret (.bin .Mod (.bin .Mult (.name (nm 135526128861644626359903)) (.name (nm 135526128861644626359903))) (.int 2147483629))) .skip)
noncomputable def b_law_mixed : PS := (.seq (.assign (.name (nm 135526128861644626359903)) (.bin .Mod (.bin .Mult (.bin .Add (.bin .Add (.name (nm 7843466381129971295)) (.bin .Mult (.int 7919) (.name (nm 3702244537951)))) (.int 3)) (.int 48271)) (.int 2147483647))) b_law_mixed_1)
noncomputable def x_law_signs : List Str := [(nm 7843466381129971295)]
noncomputable def b_law_signs_2 : PS := (.seq (.ret (.meth (.str ⟨#[]⟩) (nm 232421354) (.cons (.comp0 (.sub (.name (nm 7339670703038821983)) (.bin .Mod (.bin .Add (.bin .FloorDiv (.name (nm 7843466381129971295)) (.int 6)) (.bin .Mult (.bin .Add (.int 1) (.bin .Mod (.bin .FloorDiv (.name (nm 7843466381129971295)) (.int 156)) (.int 25))) (.name (nm 3702244537951)))) (.int 26))) (.name (nm 3702244537951)) (.itRange1 (.name (nm 8781323754941216351)))) .nil))) .skip)
noncomputable def b_law_signs_1 : PS := (.seq (.assign (.name (nm 8781323754941216351)) (.sub (.list (.cons (.int 2) (.cons (.int 1) (.cons (.int 2) (.cons (.int 3) (.cons (.int 2) (.cons (.int 5) .nil))))))) (.bin .Mod (.name (nm 7843466381129971295)) (.int 6)))) b_law_signs_2)
noncomputable def b_law_signs : PS := (.seq (.assign (.name (nm 7339670703038821983)) (.str ⟨#[97, 98, 99, 100, 101, 102, 103, 104, 105, 106, 107, 108, 109, 110, 111, 112, 113, 114, 115, 116, 117, 118, 119, 120, 121, 122]⟩)) b_law_signs_1)
noncomputable def x_law_word : List Str := [(nm 7843466381129971295), (nm 32292397438104887858748106241631)]
noncomputable def b_law_word_1 : PS := (.seq (.ret (.meth (.str ⟨#[]⟩) (nm 232421354) (.cons (.comp0 (.sub (.name (nm 32292397438104887858748106241631)) (.bin .Mod (.bin .FloorDiv (.call (.glob (nm 929683040243566540383)) (.cons (.name (nm 7843466381129971295)) (.cons (.name (nm 3667884799583)) .nil))) (.int 64)) (.call (.glob (nm 1815276)) (.cons (.name (nm 32292397438104887858748106241631)) .nil)))) (.name (nm 3667884799583)) (.itRange1 (.name (nm 7346962664154232415)))) .nil))) .skip)
noncomputable def b_law_word : PS := (.seq (.assign (.name (nm 7346962664154232415)) (.sub (.list (.cons (.int 1) (.cons (.int 2) (.cons (.int 3) (.cons (.int 2) (.cons (.int 4) (.cons (.bin .Add (.int 1) (.bin .Mod (.bin .FloorDiv (.name (nm 7843466381129971295)) (.int 8)) (.int 10))) (.cons (.int 3) (.cons (.int 2) .nil))))))))) (.bin .Mod (.name (nm 7843466381129971295)) (.int 8)))) b_law_word_1)
noncomputable def x_law_any_word : List Str := [(nm 7843466381129971295)]
noncomputable def b_law_any_word_3 : PS := (.seq (.ret (.name (nm 252284354984115859945804035679))) .skip)
noncomputable def b_law_any_word_l1_1 : PS := (.seq (.assign (.name (nm 252284354984187917196244579935)) (.bin .FloorDiv (.name (nm 252284354984187917196244579935)) (.int 26))) .skip)
noncomputable def b_law_any_word_l1 : PS := (.seq (.assign (.name (nm 252284354984115859945804035679)) (.bin .Add (.name (nm 252284354984115859945804035679)) (.sub (.str ⟨#[97, 98, 99, 100, 101, 102, 103, 104, 105, 106, 107, 108, 109, 110, 111, 112, 113, 114, 115, 116, 117, 118, 119, 120, 121, 122]⟩) (.bin .Mod (.name (nm 252284354984187917196244579935)) (.int 26))))) b_law_any_word_l1_1)
noncomputable def b_law_any_word_2 : PS := (.seq (.for_ (.name (nm 3667884799583)) (.itRange1 (.bin .Add (.int 1) (.bin .Mod (.name (nm 7843466381129971295)) (.int 10)))) b_law_any_word_l1) b_law_any_word_3)
noncomputable def b_law_any_word_1 : PS := (.seq (.assign (.name (nm 252284354984187917196244579935)) (.bin .FloorDiv (.name (nm 7843466381129971295)) (.int 10))) b_law_any_word_2)
noncomputable def b_law_any_word : PS := (.seq (.assign (.name (nm 252284354984115859945804035679)) (.str ⟨#[]⟩)) b_law_any_word_1)
noncomputable def x_law_more : List Str := [(nm 32292397438104173501782932616799), (nm 7843466381129971295), (nm 32292397438104887858748106241631)]
noncomputable def b_law_more_4 : PS := (.seq (.ret (.slice (.sub (.bin .Add (.name (nm 7339670703038821983)) (.list (.cons (.slice (.name (nm 57345570095265375)) (.name (nm 15398215025955758113584735)) .none) (.cons (.slice (.name (nm 57345570095265375)) .none (.bin .Add (.name (nm 15398215025955758113584735)) (.int 1))) (.cons (.bin .Add (.slice (.name (nm 57345570095265375)) (.name (nm 15398215025955758113584735)) .none) (.name (nm 1058801290007509759583))) .nil))))) (.bin .Mod (.name (nm 7843466381129971295)) (.int 8))) .none (.int 10))) .skip)
noncomputable def b_law_more_3 : PS := (.seq (.assign (.name (nm 7339670703038821983)) (.list (.cons (.bin .Add (.name (nm 57345570095265375)) (.name (nm 1058801290007509759583))) (.cons (.bin .Add (.name (nm 57345570095265375)) (.name (nm 1058801290007509759583))) (.cons (.bin .Add (.name (nm 1058801290007509759583)) (.name (nm 57345570095265375))) (.cons (.bin .Add (.name (nm 57345570095265375)) (.call (.glob (nm 7270427996206954079)) (.cons (.bin .FloorDiv (.name (nm 7843466381129971295)) (.int 8)) (.cons (.name (nm 32292397438104887858748106241631)) .nil)))) (.cons (.bin .Add (.call (.glob (nm 7270427996206954079)) (.cons (.bin .FloorDiv (.name (nm 7843466381129971295)) (.int 8)) (.cons (.name (nm 32292397438104887858748106241631)) .nil))) (.name (nm 57345570095265375))) .nil))))))) b_law_more_4)
noncomputable def b_law_more_2 : PS := (.seq (.assign (.name (nm 15398215025955758113584735)) (.bin .Mod (.bin .FloorDiv (.name (nm 7843466381129971295)) (.int 1352)) (.call (.glob (nm 1815276)) (.cons (.name (nm 57345570095265375)) .nil)))) b_law_more_3)
noncomputable def b_law_more_1 : PS := (.seq (.assign (.name (nm 1058801290007509759583)) (.sub (.name (nm 32292397438104173501782932616799)) (.bin .Mod (.bin .FloorDiv (.name (nm 7843466381129971295)) (.int 104)) (.call (.glob (nm 1815276)) (.cons (.name (nm 32292397438104173501782932616799)) .nil))))) b_law_more_2)
noncomputable def b_law_more : PS := (.seq (.assign (.name (nm 57345570095265375)) (.sub (.name (nm 32292397438104173501782932616799)) (.bin .Mod (.bin .FloorDiv (.name (nm 7843466381129971295)) (.int 8)) (.call (.glob (nm 1815276)) (.cons (.name (nm 32292397438104173501782932616799)) .nil))))) b_law_more_1)
noncomputable def x_law_chain : List Str := [(nm 137989276334399845594719), (nm 1078262421209535247967), (nm 32292397438104887858748106241631)]
noncomputable def b_law_chain_5 : PS := (.seq (.ret (.bin .Add (.slice (.name (nm 32292397438104173501782932616799)) (.name (nm 7991030221786084959)) .none) (.slice (.name (nm 32292397438104173501782932616799)) .none (.name (nm 7991030221786084959))))) .skip)
noncomputable def b_law_chain_4 : PS := (.seq (.assign (.name (nm 7991030221786084959)) (.bin .Mod (.call (.glob (nm 513532042442335)) (.cons (.name (nm 137989276334399845594719)) (.cons (.bin .Add (.name (nm 1078262421209535247967)) (.int 2)) .nil))) (.call (.glob (nm 1815276)) (.cons (.name (nm 32292397438104173501782932616799)) .nil)))) b_law_chain_5)
noncomputable def b_law_chain_3 : PS := (.seq (.ite (.cmp1 .Eq (.bin .Mod (.bin .FloorDiv (.call (.glob (nm 513532042442335)) (.cons (.name (nm 137989276334399845594719)) (.cons (.name (nm 1078262421209535247967)) .nil))) (.int 280)) (.int 2)) (.int 1)) (.seq (.expr (.meth (.name (nm 32292397438104173501782932616799)) (nm 3465715398753) (.cons (.sub (.name (nm 1068460336826721793631)) (.neg (.int 1))) .nil))) .skip) .skip) b_law_chain_4)
noncomputable def b_law_chain_2 : PS := (.seq (.assign (.name (nm 32292397438104173501782932616799)) (.bin .Add (.list (.cons (.sub (.name (nm 1068460336826721793631)) (.int 0)) .nil)) (.comp0 (.bin .Add (.sub (.name (nm 1068460336826721793631)) (.bin .Sub (.name (nm 3702244537951)) (.int 1))) (.sub (.name (nm 1068460336826721793631)) (.name (nm 3702244537951)))) (.name (nm 3702244537951)) (.itRange2 (.int 1) (.call (.glob (nm 1815276)) (.cons (.name (nm 1068460336826721793631)) .nil)))))) b_law_chain_3)
noncomputable def b_law_chain_l1 : PS := (.seq (.expr (.meth (.name (nm 1068460336826721793631)) (nm 3465715398753) (.cons (.slice (.call (.glob (nm 7270427996206954079)) (.cons (.call (.glob (nm 929683040243566540383)) (.cons (.call (.glob (nm 513532042442335)) (.cons (.name (nm 137989276334399845594719)) (.cons (.bin .Add (.bin .Add (.name (nm 1078262421209535247967)) (.int 2)) (.bin .Mod (.name (nm 3702244537951)) (.int 6))) .nil))) (.cons (.name (nm 3702244537951)) .nil))) (.cons (.name (nm 32292397438104887858748106241631)) .nil))) .none (.int 5)) .nil))) .skip)
noncomputable def b_law_chain_1 : PS := (.seq (.for_ (.name (nm 3702244537951)) (.itRange1 (.bin .Add (.int 2) (.bin .Mod (.bin .FloorDiv (.call (.glob (nm 513532042442335)) (.cons (.name (nm 137989276334399845594719)) (.cons (.name (nm 1078262421209535247967)) .nil))) (.int 40)) (.int 7)))) b_law_chain_l1) b_law_chain_2)
noncomputable def b_law_chain : PS := (.seq (.assign (.name (nm 1068460336826721793631)) (.list .nil)) b_law_chain_1)
noncomputable def x_law_words : List Str := [(nm 137989276334399845594719), (nm 1078262421209535247967)]
noncomputable def b_law_words_5 : PS := (.seq (.ret (.name (nm 32292397438104173501782932616799))) .skip)
noncomputable def b_law_words_l1_3 : PS := (.seq (.ite (.cmp1 .NotIn (.name (nm 252284354984115859945804035679)) (.name (nm 32292397438104173501782932616799))) (.seq (.expr (.meth (.name (nm 32292397438104173501782932616799)) (nm 3465715398753) (.cons (.name (nm 252284354984115859945804035679)) .nil))) .skip) .skip) .skip)
noncomputable def b_law_words_l1_2 : PS := (.seq (.ite (.cmp1 .Eq (.bin .Mod (.bin .FloorDiv (.name (nm 7843466381129971295)) (.int 10)) (.int 4)) (.int 1)) (.seq (.assign (.name (nm 252284354984115859945804035679)) (.call (.glob (nm 1951640654478162685372954207)) (.cons (.bin .Add (.name (nm 57345570095265375)) (.name (nm 3702244537951))) .nil))) .skip) (.seq (.ite (.and (.cmp1 .NotEq (.name (nm 32292397438104173501782932616799)) (.list .nil)) (.cmp1 .Eq (.bin .Mod (.bin .FloorDiv (.call (.glob (nm 929683040243566540383)) (.cons (.name (nm 57345570095265375)) (.cons (.name (nm 3702244537951)) .nil))) (.int 1000)) (.int 2)) (.int 1))) (.seq (.assign (.name (nm 252284354984115859945804035679)) (.call (.glob (nm 7342485246647498335)) (.cons (.name (nm 32292397438104173501782932616799)) (.cons (.call (.glob (nm 929683040243566540383)) (.cons (.name (nm 57345570095265375)) (.cons (.bin .Add (.name (nm 3702244537951)) (.int 20)) .nil))) (.cons (.name (nm 32292397438104887858748106241631)) .nil))))) .skip) .skip) .skip)) b_law_words_l1_3)
noncomputable def b_law_words_l1_1 : PS := (.seq (.assign (.name (nm 252284354984115859945804035679)) (.call (.glob (nm 7270427996206954079)) (.cons (.call (.glob (nm 929683040243566540383)) (.cons (.name (nm 57345570095265375)) (.cons (.name (nm 3702244537951)) .nil))) (.cons (.name (nm 32292397438104887858748106241631)) .nil)))) b_law_words_l1_2)
noncomputable def b_law_words_l1 : PS := (.seq (.assign (.name (nm 57345570095265375)) (.call (.glob (nm 513532042442335)) (.cons (.name (nm 137989276334399845594719)) (.cons (.bin .Add (.bin .Add (.name (nm 1078262421209535247967)) (.int 2)) (.bin .Mod (.name (nm 3702244537951)) (.int 6))) .nil)))) b_law_words_l1_1)
noncomputable def b_law_words_4 : PS := (.seq (.for_ (.name (nm 3702244537951)) (.itRange1 (.sub (.list (.cons (.int 2) (.cons (.int 3) (.cons (.int 4) (.cons (.int 5) (.cons (.int 3) (.cons (.int 2) (.cons (.int 6) (.cons (.int 1) (.cons (.int 0) (.cons (.int 12) .nil))))))))))) (.bin .Mod (.name (nm 7843466381129971295)) (.int 10)))) b_law_words_l1) b_law_words_5)
noncomputable def b_law_words_l2 : PS := (.seq (.ite (.cmp1 .NotIn (.name (nm 252284354984115859945804035679)) (.name (nm 32292397438104173501782932616799))) (.seq (.expr (.meth (.name (nm 32292397438104173501782932616799)) (nm 3465715398753) (.cons (.name (nm 252284354984115859945804035679)) .nil))) .skip) .skip) .skip)
noncomputable def b_law_words_3 : PS := (.seq (.ite (.cmp1 .Eq (.bin .Mod (.bin .FloorDiv (.name (nm 7843466381129971295)) (.int 10)) (.int 4)) (.int 2)) (.seq (.for_ (.name (nm 252284354984115859945804035679)) (.itVal (.call (.glob (nm 1022192038397693425247)) (.cons (.name (nm 137989276334399845594719)) (.cons (.name (nm 1078262421209535247967)) (.cons (.name (nm 32292397438104887858748106241631)) .nil))))) b_law_words_l2) (.seq (.ret (.name (nm 32292397438104173501782932616799))) .skip)) .skip) b_law_words_4)
noncomputable def b_law_words_2 : PS := (.seq (.assign (.name (nm 32292397438104173501782932616799)) (.list .nil)) b_law_words_3)
noncomputable def b_law_words_1 : PS := (.seq (.assign (.name (nm 32292397438104887858748106241631)) (.call (.glob (nm 1068672569199679796831)) (.cons (.call (.glob (nm 513532042442335)) (.cons (.name (nm 137989276334399845594719)) (.cons (.bin .Add (.name (nm 1078262421209535247967)) (.int 1)) .nil))) .nil))) b_law_words_2)
noncomputable def b_law_words : PS := (.seq (.assign (.name (nm 7843466381129971295)) (.call (.glob (nm 513532042442335)) (.cons (.name (nm 137989276334399845594719)) (.cons (.name (nm 1078262421209535247967)) .nil)))) b_law_words_1)
structure Wd (n : Nat) (t : Txt) : Prop where
  pos : 1 ≤ t.length
  le : t.length ≤ n
  abc : ∀ c ∈ t, 97 ≤ c ∧ c ≤ 122
theorem Wd.up {n m : Nat} {t : Txt} (h : Wd n t) (k : n ≤ m) : Wd m t := ⟨h.pos, Nat.le_trans h.le k, h.abc⟩
noncomputable def Ws (H : AHeap) (n : Nat) (ws : List Txt) : Prop := H[n]? = some (.list (ws.map .str))
noncomputable def Scr (H : AHeap) : Prop := ∃ is : List Int, H[0]? = some (.list (is.map .int))
theorem Scr.keep {H H' : AHeap} (h : Scr H) (k : Keep H H') : Scr H' := by obtain ⟨is, e⟩ := h; exact ⟨is, k.get e⟩
structure Cd (ws : List Txt) : Prop where
  le : ws.length ≤ 12
  wd : ∀ w ∈ ws, Wd 10 w
  nd : ws.Nodup
noncomputable def spAt : Spec := fun vs H Q _ => ∃ k : Int, vs = [.ref 0, .int k] ∧ 0 ≤ k ∧ Scr H ∧ ∀ i, Q (.int i) H
noncomputable def spMixed : Spec := fun vs H Q _ => ∃ c k : Int, vs = [.int c, .int k] ∧ ∀ m : Int, 0 ≤ m → m < 2147483629 → Q (.int m) H
noncomputable def spWhole : Spec := fun vs H Q _ => ∃ i : Int, vs = [.int i] ∧ Q (.bool true) H
noncomputable def spSigns : Spec := fun vs H Q _ => ∃ c : Int, vs = [.int c] ∧ ∀ t H', Wd 5 t → Keep H H' → Q (.str t) H'
noncomputable def spWord : Spec := fun vs H Q _ => ∃ (c : Int) (s : Txt), vs = [.int c, .str s] ∧ Wd 5 s ∧ ∀ t H', Wd 10 t → Keep H H' → Q (.str t) H'
noncomputable def spAnyW : Spec := fun vs H Q _ => ∃ c : Int, vs = [.int c] ∧ ∀ t, Wd 10 t → Q (.str t) H
theorem Scr.pos {H : AHeap} (h : Scr H) : H.length ≠ 0 := by obtain ⟨is, e⟩ := h; exact Nat.ne_of_gt (Nat.lt_of_le_of_lt (Nat.zero_le _) (lt_of_get e))
theorem pos_cast {n : Nat} (h : 1 ≤ n) : (0 : Int) < (n : Int) := Int.ofNat_lt.mpr h
theorem toNat_pos1 {j : Int} (h : 1 ≤ j) : 1 ≤ j.toNat := by lia
theorem small63 {i : Int} (h0 : 0 ≤ i) (h1 : i < 9223372036854775808) : i.natAbs < 2 ^ 63 := by lia
theorem wd_of {t : Txt} {j : Int} {m : Nat} (e : t.length = j.toNat) (h0 : 1 ≤ j) (h1 : j ≤ m) (ha : ∀ c ∈ t, 97 ≤ c ∧ c ≤ 122) : Wd m t := ⟨e ▸ toNat_pos1 h0, e ▸ Int.toNat_le.mpr h1, ha⟩
theorem ints_le {j : Int} (h : j ≤ lid) : ((intsFrom 0 j.toNat).map fun i => Item.one (.int i)).length ≤ lid := by rw [List.length_map, intsFrom_len]; exact Int.toNat_le.mpr h
theorem cat_le {a b m n : Nat} (h : a ≤ m) (k : b ≤ n) (e : Nat.ble (m + n) lid = true) : a + b ≤ lid := Nat.le_trans (Nat.add_le_add h k) (Nat.le_of_ble_eq_true e)
section
variable {T : Tab}
theorem ct_law_at (h1 : Has T (nm 1815276) spLen) : Ct T x_law_at b_law_at spAt := by
  refine ct2 fun vs H Q X h => ?_
  obtain ⟨k, rfl, h0, ⟨is, hs⟩, h⟩ := h
  refine ⟨_, _, rfl, ?_⟩
  refine s_ite ?_
  walk_at "ev"
  refine s_lenl hs ?_
  walk_at "ev"
  refine if_dec (fun hk => ?_) fun _ => ?_
  · walk_at "ev"
    refine st_any hs h0 hk fun v hv => ?_
    obtain ⟨i, _, rfl⟩ := List.mem_map.mp hv
    exact h i
  · walk_at "ev"
    exact h 0
theorem ct_law_mixed : Ct T x_law_mixed b_law_mixed spMixed := by
  refine ct2 fun vs H Q X h => ?_
  obtain ⟨c, k, rfl, h⟩ := h
  refine ⟨_, _, rfl, ?_⟩
  refine s_asg ?_
  walk_at "ev"
  refine b_mul (.inl (by decide)) ?_
  walk_at "ev"
  refine b_mul (.inr (by decide)) ?_
  walk_at "ev"
  refine b_mod (by decide) fun m m0 m1 => ?_
  refine r_ret ?_
  walk_at "ev"
  refine b_mul (.inl (small63 m0 (Int.lt_trans m1 (by decide)))) ?_
  walk_at "ev"
  exact b_mod (by decide) fun r r0 r1 => h r r0 r1
noncomputable def inR (lo hi : Int) : V → Bool
  | .int j => decide (lo ≤ j) && decide (j ≤ hi)
  | _ => false
theorem any_int {H : AHeap} {n : Nat} {xs : List V} {k : Int} {p : V → Prop} (lo hi : Int) (h : H[n]? = some (.list xs)) (h0 : 0 ≤ k) (h1 : k < xs.length) (ha : xs.all (inR lo hi) = true) (hp : ∀ j, lo ≤ j → j ≤ hi → p (.int j)) : subA (.ref n) (.int k) H p :=
  st_any h h0 h1 fun v hv => by
    have := List.all_eq_true.mp ha v hv
    cases v <;> first | cases this | skip
    simp only [inR, Bool.and_eq_true, decide_eq_true_eq] at this
    exact hp _ this.1 this.2
theorem comp_rngA {H : AHeap} {σ : Sg} {X : XPost} {y : Str} {elt : PE} {Q : List V → AHeap → Prop} {a : Int} {j : Nat} (P : V → Prop)
    (he : ∀ i : Int, a ≤ i → i < a + j → ∀ H', Keep H H' → ∀ q : VPost, (∀ v H'', P v → Keep H' H'' → q v H'') → (sem T elt).ev (σ.set y (.int i)) H' q X)
    (hQ : ∀ vs H', vs.length = j → (∀ v ∈ vs, P v) → Keep H H' → Q vs H') :
    compGo (fun _ => True) (fun x H' => bindA (.name y) x H' σ) (fun _ H' q => q true H') (fun σ' H' q => (sem T elt).ev σ' H' q X) Q ((intsFrom a j).map fun i => .one (.int i)) [] H := by
  refine comp_map (P := fun _ v => P v) _ _ _ (fun _ _ => trivial) (fun x hx H' k => ?_) fun vs H' ha k => ?_
  · obtain ⟨i, hi, rfl⟩ := List.mem_map.mp hx
    have := intsFrom_mem hi
    exact ⟨_, rfl, fun q hq => he i this.1 this.2 H' k q hq⟩
  · have hl := ha.length
    rw [List.length_map, intsFrom_len] at hl
    exact hQ vs H' hl.symm (fun v hv => by obtain ⟨_, _, h⟩ := ha.right v hv; exact h) k
theorem comp_rng {H : AHeap} {σ : Sg} {X : XPost} {y : Str} {elt : PE} {Q : List V → AHeap → Prop} {j : Nat} (P : V → Prop)
    (he : ∀ i : Int, 0 ≤ i → i < j → ∀ H', Keep H H' → ∀ q : VPost, (∀ v H'', P v → Keep H' H'' → q v H'') → (sem T elt).ev (σ.set y (.int i)) H' q X)
    (hQ : ∀ vs H', vs.length = j → (∀ v ∈ vs, P v) → Keep H H' → Q vs H') :
    compGo (fun _ => True) (fun x H' => bindA (.name y) x H' σ) (fun _ H' q => q true H') (fun σ' H' q => (sem T elt).ev σ' H' q X) Q ((intsFrom 0 j).map fun i => .one (.int i)) [] H :=
  comp_rngA P (fun i i0 i1 => he i i0 (by lia)) hQ
noncomputable def LetV (v : V) : Prop := ∃ c, v = .str [c] ∧ 97 ≤ c ∧ c ≤ 122
theorem txts_let : ∀ (vs : List V), (∀ v ∈ vs, LetV v) → ∃ t : Txt, vs = (t.map fun c => [c]).map .str ∧ t.length = vs.length ∧ ∀ c ∈ t, 97 ≤ c ∧ c ≤ 122
  | [], _ => ⟨[], rfl, rfl, fun _ h => nomatch h⟩
  | v :: r, h => by
    obtain ⟨c, rfl, hc⟩ := h v (.head _)
    obtain ⟨t, e, l, a⟩ := txts_let r fun w hw => h w (.tail _ hw)
    exact ⟨c :: t, by rw [e]; rfl, congrArg (· + 1) l, List.forall_mem_cons.mpr ⟨hc, a⟩⟩
theorem flat_one : ∀ t : Txt, (t.map fun c => [c]).flatten = t
  | [] => rfl
  | c :: r => congrArg (c :: ·) (flat_one r)
theorem sum_one : ∀ t : Txt, ((t.map fun c => [c]).map List.length).sum = t.length
  | [] => rfl
  | c :: r => by simp only [List.map_cons, List.sum_cons, sum_one r, List.length_cons, List.length_nil]; lia
theorem j_let {H : AHeap} {Q : VPost} {X : XPost} {n : Nat} {vs : List V} (h : H[n]? = some (.list vs)) (hl : vs.length ≤ 1000) (hv : ∀ v ∈ vs, LetV v) (k : ∀ t : Txt, t.length = vs.length → (∀ c ∈ t, 97 ≤ c ∧ c ≤ 122) → Q (.str t) H) : spJoin [.str [], .ref n] H Q X := by
  obtain ⟨t, e, l, a⟩ := txts_let vs hv
  rw [e] at h
  refine s_join h (by rw [sum_one, List.length_map, l]; unfold lid; lia) ?_
  rw [flat_one]
  exact k t l a
theorem abc26 : ∀ c ∈ (Str.mk #[97, 98, 99, 100, 101, 102, 103, 104, 105, 106, 107, 108, 109, 110, 111, 112, 113, 114, 115, 116, 117, 118, 119, 120, 121, 122]).cps.toList, 97 ≤ c ∧ c ≤ 122 := by decide
theorem ct_law_signs (h1 : HasM T .str (nm 232421354) spJoin) : Ct T x_law_signs b_law_signs spSigns := by
  refine ct1 fun vs H Q X h => ?_
  obtain ⟨c, rfl, h⟩ := h
  refine ⟨_, rfl, ?_⟩
  refine s_asg ?_
  walk_at "ev"
  refine s_asg ?_
  walk_at "ev"
  refine ⟨by decide, ?_⟩
  walk_at "ev"
  refine b_mod (by decide) fun m m0 m1 => any_int 1 5 get_new m0 m1 rfl fun j j0 j1 => ?_
  refine r_ret ?_
  walk_at "ev"
  have hj : j ≤ lid := Int.le_trans j1 (by decide)
  refine rng1 (Int.le_trans (by decide) j0) hj ⟨ints_le hj, ?_⟩
  refine comp_rng LetV (fun i i0 i1 H' k' q hq => ?_) fun vs H' hl hv k' => ?_
  · walk_at "ev"
    refine b_mod (by decide) fun a a0 a1 => ?_
    walk_at "ev"
    refine b_mul (.inl (small63 (Int.add_nonneg (by decide) a0) (Int.lt_trans (Int.add_lt_add_left a1 1) (by decide)))) ?_
    walk_at "ev"
    refine b_mod (by decide) fun b b0 b1 => ?_
    exact b_sign b0 b1 fun c hc => hq _ _ ⟨c, rfl, abc26 c hc⟩ (Keep.refl _)
  · refine j_let get_new (by rw [hl]; exact Int.toNat_le.mpr (Int.le_trans j1 (by decide))) hv fun t ht ha => ?_
    exact h t _ (wd_of (ht.trans hl) j0 j1 ha) ((Keep.new _ _).trans (k'.trans (Keep.new _ _)))
theorem ct_law_word (h1 : HasM T .str (nm 232421354) spJoin) (h2 : Has T (nm 929683040243566540383) spMixed) (h3 : Has T (nm 1815276) spLen) : Ct T x_law_word b_law_word spWord := by
  refine ct2 fun vs H Q X h => ?_
  obtain ⟨c, s, rfl, hs, h⟩ := h
  have hs1 := hs.pos
  have hs2 := hs.le
  refine ⟨_, _, rfl, ?_⟩
  refine s_asg ?_
  walk_at "ev"
  refine b_mod (by decide) fun a a0 a1 => ?_
  walk_at "ev"
  refine ⟨Nat.le_of_ble_eq_true rfl, ?_⟩
  walk_at "ev"
  refine b_mod (by decide) fun m m0 m1 => any_int 1 10 get_new m0 m1 (by simp [inR]; lia) fun j j0 j1 => ?_
  refine r_ret ?_
  walk_at "ev"
  have hj : j ≤ lid := Int.le_trans j1 (by decide)
  refine rng1 (Int.le_trans (by decide) j0) hj ⟨ints_le hj, ?_⟩
  refine comp_rng LetV (fun i i0 i1 H' k' q hq => ?_) fun vs H' hl hv k' => ?_
  · walk_at "ev"
    refine ⟨_, _, rfl, fun m _ _ => ?_⟩
    walk_at "ev"
    refine b_mod (pos_cast hs1) fun b b0 b1 => ?_
    exact b_sign b0 b1 fun c hc => hq _ _ ⟨c, rfl, hs.abc c hc⟩ (Keep.refl _)
  · refine j_let get_new (by rw [hl]; exact Int.toNat_le.mpr (Int.le_trans j1 (by decide))) hv fun t ht ha => ?_
    exact h t _ (wd_of (ht.trans hl) j0 j1 ha) ((Keep.new _ _).trans (k'.trans (Keep.new _ _)))
theorem ct_law_any_word : Ct T x_law_any_word b_law_any_word spAnyW := by
  refine ct1 fun vs H Q X h => ?_
  obtain ⟨c, rfl, h⟩ := h
  refine ⟨_, rfl, ?_⟩
  refine s_asg ?_
  walk_at "ev"
  refine s_asg ?_
  walk_at "ev"
  refine r_for ?_
  walk_at "ev"
  refine b_mod (by decide) fun m m0 m1 => ?_
  walk_at "ev"
  have hm10 : 1 + m ≤ 10 := Int.add_le_add_left (Int.le_sub_one_of_lt m1) 1
  have hm11 : (1 + m).toNat ≤ 10 := Int.toNat_le.mpr hm10
  refine rng1 (Int.add_nonneg (by decide) m0) (Int.le_trans hm10 (by decide)) ?_
  refine for_inv (fun xs σ H' => H' = H ∧ ∃ (t : Txt) (i : Int), σ (nm 252284354984115859945804035679) = some (.str t) ∧ σ (nm 252284354984187917196244579935) = some (.int i) ∧ t.length + xs.length = (1 + m).toNat ∧ (∀ c ∈ t, 97 ≤ c ∧ c ≤ 122) ∧ ∀ x ∈ xs, ∃ v, x = .one v) ?_ ?_ ⟨rfl, [], _, by walk_at "nm", hit, by rw [List.length_map, intsFrom_len, List.length_nil, Nat.zero_add], (fun _ h => nomatch h), ?_⟩
  · rintro x xs σ H' ⟨rfl, t, i, e1, e2, hl, ha, hx⟩
    obtain ⟨v, rfl⟩ := hx x (.head _)
    rw [List.length_cons] at hl
    refine ⟨trivial, _, rfl, fun W hW => ?_⟩
    refine s_asg ?_
    walk_at "ev"
    refine b_mod (by decide) fun b b0 b1 => b_sign b0 b1 fun c hc => ?_
    refine b_cat (Nat.le_trans (Nat.le_trans (Nat.add_le_add_left (Nat.le_add_left 1 _) _) (Nat.le_of_eq hl)) (Nat.le_trans hm11 (by decide))) ?_
    refine s_asg ?_
    walk_at "ev"
    refine hW _ _ ⟨rfl, t ++ [c], _, by walk_at "nm", hit, by rw [List.length_append, List.length_singleton, Nat.add_right_comm]; exact hl, fun d hd => ?_, fun y hy => hx y (.tail _ hy)⟩
    rcases List.mem_append.mp hd with hd | hd
    · exact ha d hd
    · rw [List.mem_singleton.mp hd]; exact abc26 c hc
  · rintro σ H' ⟨rfl, t, i, e1, e2, hl, ha, hx⟩
    refine ⟨trivial, ?_⟩
    refine r_ret ?_
    walk_at "ev"
    exact h t (wd_of hl (Int.le_add_of_nonneg_right m0) hm10 ha)
  · intro x hx
    obtain ⟨i, _, rfl⟩ := List.mem_map.mp hx
    exact ⟨_, rfl⟩
theorem Wd.cat {a b : Nat} {t u : Txt} (h : Wd a t) (k : Wd b u) : Wd (a + b) (t ++ u) := by
  refine ⟨by rw [List.length_append]; exact Nat.le_trans h.pos (Nat.le_add_right _ _), by rw [List.length_append]; exact Nat.add_le_add h.le k.le, fun c hc => ?_⟩
  rcases List.mem_append.mp hc with hc | hc
  · exact h.abc c hc
  · exact k.abc c hc
theorem Wd.drop {a i : Nat} {t : Txt} (h : Wd a t) (hi : i < t.length) : Wd a (t.drop i) := by
  exact ⟨by rw [List.length_drop]; exact Nat.sub_pos_of_lt hi, by rw [List.length_drop]; exact Nat.le_trans (Nat.sub_le _ _) h.le, fun c hc => h.abc c (List.mem_of_mem_drop hc)⟩
theorem Wd.take {a i : Nat} {t : Txt} (h : Wd a t) (hi : 1 ≤ i) : Wd i (t.take i) := by
  exact ⟨by rw [List.length_take]; exact Nat.le_min.mpr ⟨hi, h.pos⟩, by rw [List.length_take]; exact Nat.min_le_left _ _, fun c hc => h.abc c (List.mem_of_mem_take hc)⟩
noncomputable def WV (n : Nat) (v : V) : Prop := ∃ t, v = .str t ∧ Wd n t
theorem all_nil {P : V → Prop} : ∀ v ∈ ([] : List V), P v := fun _ h => nomatch h
theorem all_cons {P : V → Prop} {a : V} {l : List V} (h : P a) (k : ∀ v ∈ l, P v) : ∀ v ∈ a :: l, P v := fun v hv => by
  cases hv with
  | head => exact h
  | tail _ hv => exact k v hv
theorem all_app {P : V → Prop} {a l : List V} (h : ∀ v ∈ a, P v) (k : ∀ v ∈ l, P v) : ∀ v ∈ a ++ l, P v := fun v hv => (List.mem_append.mp hv).elim (h v) (k v)
theorem all_map {P : V → Prop} {ws : List Txt} (h : ∀ w ∈ ws, P (.str w)) : ∀ v ∈ ws.map V.str, P v := fun v hv => by
  obtain ⟨w, hw, rfl⟩ := List.mem_map.mp hv; exact h w hw
theorem any_wd {H : AHeap} {n : Nat} {ws : List Txt} {k : Int} {p : V → Prop} (h : Ws H n ws) (h0 : 0 ≤ k) (h1 : k < ws.length) (hw : ∀ w ∈ ws, p (.str w)) : subA (.ref n) (.int k) H p :=
  st_any h h0 (by rw [List.length_map]; exact h1) (all_map hw)
theorem len_ws {H : AHeap} {n : Nat} {ws : List Txt} {Q : VPost} {X : XPost} (h : Ws H n ws) (k : Q (.int ws.length) H) : spLen [.ref n] H Q X := s_lenl h (by rw [List.length_map]; exact k)
theorem Ws.keep {H H' : AHeap} {n : Nat} {ws : List Txt} (h : Ws H n ws) (k : Keep H H') : Ws H' n ws := k.get h
noncomputable def spMore : Spec := fun vs H Q _ => ∃ (n : Nat) (c : Int) (s : Txt) (ws : List Txt), vs = [.ref n, .int c, .str s] ∧ Ws H n ws ∧ 1 ≤ ws.length ∧ (∀ w ∈ ws, Wd 10 w) ∧ Wd 5 s ∧ ∀ t H', Wd 10 t → Keep H H' → Q (.str t) H'
theorem ct_law_more (h1 : Has T (nm 7270427996206954079) spWord) (h2 : Has T (nm 1815276) spLen) : Ct T x_law_more b_law_more spMore := by
  refine ct3 fun vs H Q X h => ?_
  obtain ⟨n, c, s, ws, rfl, hn, hne, hw, hs, h⟩ := h
  refine ⟨_, _, _, rfl, ?_⟩
  refine s_asg ?_
  walk_at "ev"
  refine len_ws hn ?_
  refine b_mod (pos_cast hne) fun a a0 a1 => any_wd hn a0 a1 fun one h_one => ?_
  refine s_asg ?_
  walk_at "ev"
  refine len_ws hn ?_
  refine b_mod (pos_cast hne) fun b b0 b1 => any_wd hn b0 b1 fun other h_other => ?_
  replace h_one := hw _ h_one
  replace h_other := hw _ h_other
  have p1 := h_one.pos
  have p2 := h_one.le
  have q2 := h_other.le
  refine s_asg ?_
  walk_at "ev"
  refine b_mod (pos_cast p1) fun i i0 i1 => ?_
  refine s_asg ?_
  walk_at "ev"
  refine b_cat (cat_le p2 q2 rfl) ?_
  walk_at "ev"
  refine b_cat (cat_le p2 q2 rfl) ?_
  walk_at "ev"
  refine b_cat (cat_le q2 p2 rfl) ?_
  walk_at "ev"
  refine ⟨_, _, rfl, hs, fun t1 H1 w1 k1 => ?_⟩
  refine b_cat (cat_le p2 w1.le rfl) ?_
  walk_at "ev"
  refine ⟨_, _, rfl, hs, fun t2 H2 w2 k2 => ?_⟩
  walk_at "ev"
  refine b_cat (cat_le w2.le p2 rfl) ?_
  walk_at "ev"
  refine ⟨Nat.le_of_ble_eq_true rfl, ?_⟩
  refine r_ret ?_
  walk_at "ev"
  refine b_from i0 ?_
  walk_at "ev"
  refine b_to (Int.add_nonneg i0 (by decide)) ?_
  walk_at "ev"
  refine b_from i0 ?_
  walk_at "ev"
  have hd : Wd 10 (one.drop i.toNat) := h_one.drop ((Int.toNat_lt i0).mpr i1)
  refine b_cat (cat_le hd.le q2 rfl) ?_
  walk_at "ev"
  refine ⟨Nat.le_of_ble_eq_true rfl, ?_⟩
  refine b_lcat ((Keep.new _ _).get get_new) get_new (Nat.le_of_ble_eq_true rfl) ?_
  walk_at "ev"
  refine b_mod (by decide) fun m m0 m1 => ?_
  have up : ∀ {a : Nat} {t : Txt}, Wd a t → a ≤ 20 → WV 20 (.str t) := fun h k => ⟨_, rfl, h.up k⟩
  have all : ∀ v ∈ ([.str (one ++ other), .str (one ++ other), .str (other ++ one), .str (one ++ t1), .str (t2 ++ one)] ++ [.str (one.drop i.toNat), .str (one.take (i + 1).toNat), .str (one.drop i.toNat ++ other)] : List V), WV 20 v :=
    all_app (all_cons (up (h_one.cat h_other) (by decide)) <| all_cons (up (h_one.cat h_other) (by decide)) <| all_cons (up (h_other.cat h_one) (by decide)) <| all_cons (up (h_one.cat w1) (by decide)) <| all_cons (up (w2.cat h_one) (by decide)) all_nil)
      (all_cons (up hd (by decide)) <| all_cons (up (h_one.take (toNat_pos1 (Int.le_add_of_nonneg_left i0))) (Int.toNat_le.mpr (Int.le_trans (Int.add_one_le_of_lt i1) (Int.ofNat_le.mpr (Nat.le_trans p2 (by decide)))))) <| all_cons (up (hd.cat h_other) (by decide)) all_nil)
  refine st_any get_new m0 m1 fun v hv => ?_
  obtain ⟨t, rfl, ht⟩ := all v hv
  walk_at "ev"
  refine b_to (by decide) ?_
  exact h _ _ (ht.take (by decide)) (k1.trans (k2.trans ((Keep.new _ _).trans ((Keep.new _ _).trans (Keep.new _ _)))))
noncomputable def pd (w : Txt) : PyData := .str ⟨w.toArray⟩
theorem rdL_str {H : AHeap} {n : Nat} : ∀ ws : List Txt, rdL (rd H n) (ws.map .str) = some (ws.map pd)
  | [] => rfl
  | w :: r => by rw [List.map_cons, List.map_cons, rdL, rdL_str r]; cases n <;> rfl
theorem rd_ws {H : AHeap} {n : Nat} {ws : List Txt} (h : Ws H n ws) : rd H 6 (.ref n) = some (.list (ws.map pd)) := by rw [rd_list h, rdL_str]; rfl
theorem eqv_ws : ∀ ws us : List Txt, PyData.eqv (.list (ws.map pd)) (.list (us.map pd)) = decide (ws = us) := by
  have go : ∀ ws us : List Txt, PyData.eqvAll (ws.map pd) (us.map pd) = decide (ws = us) := by
    intro ws
    induction ws with
    | nil => intro us; cases us <;> rfl
    | cons a r ih =>
      intro us
      cases us with
      | nil => rfl
      | cons b t =>
        show (PyData.eqv (pd a) (pd b) && PyData.eqvAll (r.map pd) (t.map pd)) = _
        rw [ih, show PyData.eqv (pd a) (pd b) = decide (a = b) from str_beq a b, Bool.eq_iff_iff]
        simp
  exact go
theorem c_eqw {H : AHeap} {n m : Nat} {ws us : List Txt} {r : Bool → Prop} (h1 : Ws H n ws) (h2 : Ws H m us) (k : r (decide (ws = us))) : cmpA .Eq (.ref n) (.ref m) H r :=
  .eq (rd_ws h1) (rd_ws h2) (by rw [eqv_ws]; exact k)
theorem c_new {H : AHeap} {n m : Nat} {ws us : List Txt} {r : Bool → Prop} (h1 : Ws H n ws) (h2 : Ws H m us) (k : r (!decide (ws = us))) : cmpA .NotEq (.ref n) (.ref m) H r :=
  .ne (rd_ws h1) (rd_ws h2) (by rw [eqv_ws]; exact k)
theorem any_str (w : Txt) : ∀ ws : List Txt, ((ws.map pd).any fun x => PyData.eqv x (pd w)) = decide (w ∈ ws)
  | [] => rfl
  | a :: r => by
    rw [List.map_cons, List.any_cons, any_str w r, show PyData.eqv (pd a) (pd w) = decide (a = w) from str_beq a w, Bool.eq_iff_iff]
    simp only [Bool.or_eq_true, decide_eq_true_eq, List.mem_cons]
    exact or_congr eq_comm Iff.rfl
theorem c_inw {H : AHeap} {n : Nat} {ws : List Txt} {w : Txt} {r : Bool → Prop} (h : Ws H n ws) (k : r (decide (w ∈ ws))) : cmpA .In (.str w) (.ref n) H r :=
  .inL (d := pd w) (rd_ws h) rfl (by rw [any_str]; exact k)
theorem c_ninw {H : AHeap} {n : Nat} {ws : List Txt} {w : Txt} {r : Bool → Prop} (h : Ws H n ws) (k : r (!decide (w ∈ ws))) : cmpA .NotIn (.str w) (.ref n) H r :=
  .ninL (d := pd w) (rd_ws h) rfl (by rw [any_str]; exact k)
theorem kind_l {H : AHeap} {n : Nat} {xs : List V} (h : H[n]? = some (.list xs)) : kindA (.ref n) H = some .list := by unfold kindA; dsimp only; rw [h]
theorem Ws.push {H : AHeap} {n : Nat} {ws : List Txt} (h : Ws H n ws) (w : Txt) : Ws (H.set n (.list (ws.map .str ++ [.str w]))) n (ws ++ [w]) := by
  unfold Ws
  rw [List.getElem?_set_self (lt_of_get h), List.map_append]; rfl
theorem s_push {n : Nat} {w : Txt} {ws : List Txt} {H : AHeap} {Q : VPost} {X : XPost} (h0 : n ≠ 0) (h1 : Ws H n ws) (h2 : ws.length < lid) (k : Q .none (H.set n (.list (ws.map .str ++ [.str w])))) : spAppend [.ref n, .str w] H Q X :=
  s_append h0 h1 (by rw [List.length_map]; exact h2) k
theorem all_ws {n : Nat} : ∀ xs : List V, (∀ v ∈ xs, WV n v) → ∃ ws : List Txt, xs = ws.map .str ∧ ∀ w ∈ ws, Wd n w
  | [], _ => ⟨[], rfl, fun _ h => nomatch h⟩
  | v :: r, h => by
    obtain ⟨t, rfl, ht⟩ := h v (.head _)
    obtain ⟨ws, rfl, hw⟩ := all_ws r fun w hw => h w (.tail _ hw)
    refine ⟨t :: ws, rfl, fun w hw' => ?_⟩
    cases hw' with
    | head => exact ht
    | tail _ hw' => exact hw w hw'
theorem neg_int {i : Int} {q : V → Prop} (k : q (.int (-i))) : Neg (.int i) q := k
theorem any_last {H : AHeap} {n : Nat} {ws : List Txt} {p : V → Prop} (h : Ws H n ws) (h1 : 1 ≤ ws.length) (hw : ∀ w ∈ ws, p (.str w)) : subA (.ref n) (.int (-1)) H p :=
  b_last h (by rw [List.length_map]; exact h1) (all_map hw _ (List.getElem_mem _))
theorem rng2 {H : AHeap} {i j : Int} {q : List Item → (AHeap → Prop) → AHeap → Prop} (h0 : 0 ≤ i) (h1 : i ≤ lid) (h2 : 0 ≤ j) (h3 : j ≤ lid) (k : q ((intsFrom i (j - i).toNat).map fun i => .one (.int i)) (fun _ => True) H) : Rng2 (.int i) (.int j) H q := ⟨h0, h1, h2, h3, k⟩
noncomputable def spChain : Spec := fun vs H Q _ => ∃ (k : Int) (s : Txt), vs = [.ref 0, .int k, .str s] ∧ 0 ≤ k ∧ Scr H ∧ Wd 5 s ∧
  ∀ ws p H', ws.length ≤ 9 → (∀ w ∈ ws, Wd 10 w) → H.length ≤ p → Ws H' p ws → Keep H H' → Q (.ref p) H'
theorem ct_law_chain (h1 : Has T (nm 513532042442335) spAt) (h2 : Has T (nm 929683040243566540383) spMixed) (h3 : Has T (nm 1815276) spLen) (h4 : HasM T .list (nm 3465715398753) spAppend) (h5 : Has T (nm 7270427996206954079) spWord) : Ct T x_law_chain b_law_chain spChain := by
  refine ct3 fun vs H Q X h => ?_
  obtain ⟨k, s, rfl, k0, hs, hw, h⟩ := h
  have hl0 : H.length ≠ 0 := hs.pos
  refine ⟨_, _, _, rfl, ?_⟩
  refine s_asg ?_
  walk_at "ev"
  refine ⟨Nat.zero_le _, ?_⟩
  have kH : Keep H (H ++ [.list []]) := Keep.new _ _
  have fin : ∀ σ H' ws p, σ (nm 137989276334399845594719) = some (.ref 0) → σ (nm 1078262421209535247967) = some (.int k) → σ (nm 32292397438104173501782932616799) = some (.ref p) → Keep H H' → Ws H' p ws → 1 ≤ ws.length → ws.length ≤ 9 → (∀ w ∈ ws, Wd 10 w) → semS T b_law_chain_4 σ H' (RQ Q) X := by
    intro σ H' ws p e1 e2 e3 kp hp l1 l2 hw
    refine s_asg ?_
    walk_at "ev"
    refine ⟨_, rfl, Int.add_nonneg k0 (by decide), hs.keep kp, fun i => ?_⟩
    walk_at "ev"
    refine len_ws hp ?_
    refine b_mod (pos_cast l1) fun j j0 j1 => ?_
    refine r_ret ?_
    walk_at "ev"
    refine b_lfrom hp j0 ?_
    walk_at "ev"
    refine b_lto ((Keep.new _ _).get hp) j0 ?_
    rw [← List.map_drop, ← List.map_take]
    refine b_lcat ((Keep.new _ _).get get_new) get_new ?_ ?_
    · rw [List.length_map, List.length_map, List.length_drop, List.length_take]; exact Nat.le_trans (Nat.add_le_add (Nat.le_trans (Nat.sub_le _ _) l2) (Nat.le_trans (Nat.min_le_right _ _) l2)) (by decide)
    rw [← List.map_append]
    refine h (ws.drop j.toNat ++ ws.take j.toNat) _ _ ?_ (fun w hw' => ?_) ?_ get_new (kp.trans ((Keep.new _ _).trans ((Keep.new _ _).trans (Keep.new _ _))))
    · rw [List.length_append, Nat.add_comm, ← List.length_append, List.take_append_drop]; exact l2
    · rcases List.mem_append.mp hw' with q | q
      · exact hw w (List.mem_of_mem_drop q)
      · exact hw w (List.mem_of_mem_take q)
    · exact (kp.trans ((Keep.new _ _).trans (Keep.new _ _))).le
  refine r_for ?_
  walk_at "ev"
  refine ⟨_, rfl, k0, hs.keep kH, fun i => ?_⟩
  walk_at "ev"
  refine b_mod (by decide) fun j j0 j1 => ?_
  walk_at "ev"
  have hj8 : 2 + j ≤ 8 := Int.add_le_add_left (Int.le_sub_one_of_lt j1) 2
  have hj9 : (2 + j).toNat ≤ 8 := Int.toNat_le.mpr hj8
  have hj2 : 2 ≤ (2 + j).toNat := (Int.le_toNat (Int.add_nonneg (by decide) j0)).mpr (Int.le_add_of_nonneg_right j0)
  refine rng1 (Int.add_nonneg (by decide) j0) (Int.le_trans hj8 (by decide)) ?_
  refine for_inv (fun xs σ H' => Keep H H' ∧ (∃ rs, Ws H' H.length rs ∧ rs.length + xs.length = (2 + j).toNat ∧ ∀ r ∈ rs, Wd 5 r) ∧ (σ (nm 1068460336826721793631) = some (.ref H.length) ∧ σ (nm 137989276334399845594719) = some (.ref 0) ∧ σ (nm 1078262421209535247967) = some (.int k) ∧ σ (nm 32292397438104887858748106241631) = some (.str s)) ∧ ∀ x ∈ xs, ∃ i : Int, x = .one (.int i) ∧ 0 ≤ i) ?_ ?_ ⟨kH, ⟨[], get_new, by rw [List.length_map, intsFrom_len, List.length_nil, Nat.zero_add], fun _ h => nomatch h⟩, ⟨by walk_at "nm", by walk_at "nm", by walk_at "nm", by walk_at "nm"⟩, ?_⟩
  · rintro x xs σ H' ⟨kp, ⟨rs, hr, hl, hm⟩, ⟨e1, e2, e3, e4⟩, hx⟩
    obtain ⟨i, rfl, i0⟩ := hx x (.head _)
    rw [List.length_cons] at hl
    refine ⟨trivial, _, rfl, fun W hW => ?_⟩
    refine s_exp (e_methN (by walk_at "nm") (kind_l hr) h4 (l1 ?_))
    walk_at "ev"
    refine b_mod (by decide) fun a a0 a1 => ?_
    walk_at "ev"
    refine ⟨_, rfl, Int.add_nonneg (Int.add_nonneg k0 (by decide)) a0, hs.keep kp, fun b => ?_⟩
    walk_at "ev"
    refine ⟨_, _, rfl, fun c _ _ => ?_⟩
    walk_at "ev"
    refine ⟨_, _, rfl, hw, fun t H2 ht k2 => ?_⟩
    walk_at "ev"
    refine b_to (by decide) ?_
    have hr2 : Ws H2 H.length rs := hr.keep k2
    refine s_push hl0 hr2 (Nat.lt_of_lt_of_le (Nat.lt_of_lt_of_le (Nat.lt_of_lt_of_le (Nat.lt_add_of_pos_right (Nat.succ_pos _)) (Nat.le_of_eq hl)) hj9) (by decide)) ?_
    walk_at "ev"
    refine hW _ _ ⟨(kp.trans k2).set (Nat.le_refl _), ⟨_, hr2.push _, by rw [List.length_append, List.length_singleton, Nat.add_right_comm]; exact hl, fun r hr' => ?_⟩, ⟨by walk_at "nm", by walk_at "nm", by walk_at "nm", by walk_at "nm"⟩, fun y hy => hx y (.tail _ hy)⟩
    rcases List.mem_append.mp hr' with hr' | hr'
    · exact hm r hr'
    · rw [List.mem_singleton.mp hr']; exact ht.take (by decide)
  · rintro σ H' ⟨kp, ⟨rs, hr, hl, hm⟩, ⟨e1, e2, e3, e4⟩, hx⟩
    refine ⟨trivial, ?_⟩
    rw [List.length_nil, Nat.add_zero] at hl
    have r8 : rs.length ≤ 8 := hl ▸ hj9
    have r2 : 2 ≤ rs.length := hl ▸ hj2
    have r1 : (1 : Int) ≤ rs.length := Int.ofNat_le.mpr (Nat.le_of_succ_le r2)
    have rI : ((rs.length : Nat) : Int) ≤ lid := Int.ofNat_le.mpr (Nat.le_trans r8 (by decide))
    have rJ : ((rs.length : Int) - 1).toNat ≤ 8 := Int.toNat_le.mpr (Int.le_trans (Int.sub_le_self _ (by decide)) (Int.ofNat_le.mpr r8))
    refine s_asg ?_
    walk_at "ev"
    refine any_wd hr (by decide) (pos_cast (Nat.le_of_succ_le r2)) fun l0 hl0' => ?_
    refine ⟨Nat.le_of_ble_eq_true rfl, ?_⟩
    walk_at "ev"
    have hr2 : Ws (H' ++ [AObj.list [V.str l0]]) H.length rs := hr.keep (Keep.new _ _)
    refine len_ws hr2 ?_
    refine rng2 (by decide) (by decide) (Int.natCast_nonneg _) rI ⟨by rw [List.length_map, intsFrom_len]; exact Nat.le_trans rJ (by decide), ?_⟩
    refine comp_rngA (WV 10) (fun i i0 i1 H2 k2 q hq => ?_) fun vs H2 hvl hv k2 => ?_
    · have hi : i < rs.length := by rw [Int.toNat_of_nonneg (Int.sub_nonneg_of_le r1), Int.add_comm, Int.sub_add_cancel] at i1; exact i1
      walk_at "ev"
      refine any_wd (hr2.keep k2) (Int.sub_nonneg_of_le i0) (Int.lt_of_le_of_lt (Int.sub_le_self _ (by decide)) hi) fun u hu => ?_
      walk_at "ev"
      refine any_wd (hr2.keep k2) (Int.le_trans (by decide) i0) hi fun w hw' => ?_
      have q1 := hm u hu
      have q2 := hm w hw'
      refine b_cat (cat_le q1.le q2.le rfl) ?_
      exact hq _ _ ⟨_, rfl, q1.cat q2⟩ (Keep.refl _)
    · refine b_lcat ((k2.trans (Keep.new _ _)).get get_new) get_new ?_ ?_
      · rw [List.length_singleton, hvl]; exact Nat.le_trans (Nat.add_le_add_left rJ 1) (by decide)
      obtain ⟨ws, hws, hwd⟩ := all_ws ([V.str l0] ++ vs) (all_app (all_cons ⟨_, rfl, (hm l0 hl0').up (by decide)⟩ all_nil) hv)
      have hwl : ws.length = (1 : Nat) + vs.length := by
        have := congrArg List.length hws
        rw [List.length_append, List.length_map, List.length_singleton] at this; exact this.symm
      have hw9 : ws.length ≤ 9 := hwl.symm ▸ hvl.symm ▸ Nat.add_le_add_left rJ 1
      have hw8 : ws.length ≤ 8 := by
        rw [hwl, hvl, Nat.add_comm]
        exact Int.ofNat_le.mp (by rw [Int.natCast_add, Int.toNat_of_nonneg (Int.sub_nonneg_of_le r1)]; exact (Int.sub_add_cancel _ _).symm ▸ Int.ofNat_le.mpr r8)
      have hw1 : 1 ≤ ws.length := hwl.symm ▸ Nat.le_add_right _ _
      rw [hws]
      have kp2 : Keep H' _ := (Keep.new _ _).trans (k2.trans ((Keep.new _ [AObj.list vs]).trans (Keep.new _ [AObj.list (ws.map V.str)])))
      have hp : Ws _ _ ws := get_new (H := H2 ++ [AObj.list vs]) (o := .list (ws.map .str))
      have hpl : H.length ≤ (H2 ++ [AObj.list vs]).length := (kp.trans ((Keep.new _ _).trans (k2.trans (Keep.new _ _)))).le
      refine s_ite ?_
      walk_at "ev"
      refine ⟨_, rfl, k0, hs.keep (kp.trans kp2), fun i => ?_⟩
      walk_at "ev"
      refine b_mod (by decide) fun a a0 a1 => ?_
      walk_at "ev"
      refine if_dec (fun _ => ?_) fun _ => ?_
      · refine s_exp (e_methN (by walk_at "nm") (kind_l hp) h4 (l1 ?_))
        walk_at "ev"
        refine neg_int ?_
        refine any_last (hr.keep kp2) (Nat.le_of_succ_le r2) fun w hw' => ?_
        refine s_push (Nat.ne_of_gt (Nat.lt_of_lt_of_le (Nat.pos_of_ne_zero hl0) hpl)) hp (Nat.lt_of_le_of_lt hw9 (by decide)) ?_
        walk_at "ev"
        refine fin _ _ _ _ (by walk_at "nm") (by walk_at "nm") (by walk_at "nm") ((kp.trans kp2).set hpl) (hp.push w) ?_ ?_ ?_
        · rw [List.length_append, List.length_singleton]; exact Nat.le_add_left _ _
        · rw [List.length_append, List.length_singleton]; exact Nat.succ_le_succ hw8
        · intro u hu
          rcases List.mem_append.mp hu with hu | hu
          · exact hwd u hu
          · rw [List.mem_singleton.mp hu]; exact (hm w hw').up (by decide)
      · walk_at "ev"
        exact fin _ _ ws _ (by walk_at "nm") (by walk_at "nm") (by walk_at "nm") (kp.trans kp2) hp hw1 hw9 hwd
  · intro x hx
    obtain ⟨i, hi, rfl⟩ := List.mem_map.mp hx
    exact ⟨_, rfl, (intsFrom_mem hi).1⟩
end
noncomputable def spWords : Spec := fun vs H Q _ => ∃ k : Int, vs = [.ref 0, .int k] ∧ 0 ≤ k ∧ Scr H ∧ ∀ ws p H', Cd ws → H.length ≤ p → Ws H' p ws → Keep H H' → Q (.ref p) H'
section
variable {T : Tab}
theorem add_word {σ : Sg} {H H0 : AHeap} {P : SPost} {X : XPost} {w : Txt} {q : Nat} {us : List Txt} (h4 : HasM T .list (nm 3465715398753) spAppend) (e1 : σ (nm 252284354984115859945804035679) = some (.str w)) (e2 : σ (nm 32292397438104173501782932616799) = some (.ref q)) (hq : q ≠ 0)
    (hu : Ws H q us) (hl : us.length ≤ 1000) (hn : us.Nodup) (ha : ∀ u ∈ us, Wd 10 u) (hw : Wd 10 w) (kp : Keep H0 H) (hq0 : H0.length ≤ q)
    (k : ∀ H' us', (∀ i, i ≠ q → H'[i]? = H[i]?) → Keep H0 H' → Ws H' q us' → us'.length ≤ us.length + 1 → us'.Nodup → (∀ u ∈ us', Wd 10 u) → P .next σ H') : semS T b_law_words_l2 σ H P X := by
  refine s_ite ?_
  walk_at "ev"
  refine c_ninw hu ?_
  refine if_ndec (fun hnw => ?_) fun _ => ?_
  · refine s_exp (e_methN (by walk_at "nm") (kind_l hu) h4 (l1 ?_))
    walk_at "ev"
    refine s_push hq hu (Nat.lt_of_le_of_lt hl (by decide)) ?_
    walk_at "ev"
    refine k _ _ (fun i hi => List.getElem?_set_ne (Ne.symm hi)) (kp.set hq0) (hu.push w) (by rw [List.length_append]; exact Nat.le_refl _) ?_ ?_
    · rw [List.nodup_append]
      refine ⟨hn, by simp, fun a ha' b hb => ?_⟩
      rw [List.mem_singleton.mp hb]
      exact fun e => hnw (e ▸ ha')
    · intro u hu'
      rcases List.mem_append.mp hu' with hu' | hu'
      · exact ha u hu'
      · rw [List.mem_singleton.mp hu']; exact hw
  · walk_at "ev"
    exact k _ us (fun _ _ => rfl) kp hu (Nat.le_succ _) hn ha
theorem ct_law_words (h1 : Has T (nm 513532042442335) spAt) (h2 : Has T (nm 929683040243566540383) spMixed) (h3 : Has T (nm 1068672569199679796831) spSigns) (h4 : HasM T .list (nm 3465715398753) spAppend) (h5 : Has T (nm 7270427996206954079) spWord) (h6 : Has T (nm 1951640654478162685372954207) spAnyW) (h7 : Has T (nm 7342485246647498335) spMore) (h8 : Has T (nm 1022192038397693425247) spChain) : Ct T x_law_words b_law_words spWords := by
  refine ct2 fun vs H Q X h => ?_
  obtain ⟨k, rfl, k0, hs, h⟩ := h
  have hl0 : H.length ≠ 0 := hs.pos
  refine ⟨_, _, rfl, ?_⟩
  refine s_asg ?_
  walk_at "ev"
  refine ⟨_, rfl, k0, hs, fun cell => ?_⟩
  refine s_asg ?_
  walk_at "ev"
  refine ⟨_, rfl, Int.add_nonneg k0 (by decide), hs, fun c1 => ?_⟩
  walk_at "ev"
  refine ⟨_, rfl, fun s H1 hsg k1 => ?_⟩
  refine s_asg ?_
  walk_at "ev"
  refine ⟨Nat.zero_le _, ?_⟩
  have kH : Keep H (H1 ++ [.list []]) := k1.trans (Keep.new _ _)
  have hq := k1.le
  have hH1 : H1.length ≠ 0 := Nat.ne_of_gt (Nat.lt_of_lt_of_le (Nat.pos_of_ne_zero hl0) hq)
  have fin : ∀ σ H' ws, σ (nm 32292397438104173501782932616799) = some (.ref H1.length) → Keep H H' → Ws H' H1.length ws → ws.length ≤ 12 → ws.Nodup → (∀ w ∈ ws, Wd 10 w) → ∀ (r : PS) (P : SPost), (∀ v, Q v H' → P (.ret v) σ H') → semS T (.seq (.ret (.name (nm 32292397438104173501782932616799))) r) σ H' P X := by
    intro σ H' ws e kp hp hl hn hw r P hP
    walk_at "ev"
    exact hP _ (h ws _ H' ⟨hl, hw, hn⟩ hq hp kp)
  refine s_ite ?_
  walk_at "ev"
  refine b_mod (by decide) fun a a0 a1 => ?_
  walk_at "ev"
  refine if_dec (fun _ => ?_) fun _ => ?_
  · refine r_for ?_
    walk_at "ev"
    refine ⟨_, _, rfl, k0, hs.keep kH, hsg, fun ws p H2 hwl hw hp hpw k2 => ?_⟩
    refine i_list hpw ?_
    have hne : p ≠ H1.length := by rw [List.length_append, List.length_singleton] at hp; exact Nat.ne_of_gt hp
    refine for_inv (fun xs σ H' => Keep H H' ∧ Ws H' p ws ∧ (∃ us, Ws H' H1.length us ∧ us.length + xs.length ≤ 12 ∧ us.Nodup ∧ ∀ u ∈ us, Wd 10 u) ∧ σ (nm 32292397438104173501782932616799) = some (.ref H1.length) ∧ ∀ x ∈ xs, ∃ w, x = .one (.str w) ∧ Wd 10 w) ?_ ?_ ⟨kH.trans k2, hpw, ⟨[], k2.get get_new, by rw [List.length_map, List.length_map, List.length_nil, Nat.zero_add]; exact Nat.le_trans hwl (by decide), List.nodup_nil, fun _ h => nomatch h⟩, by walk_at "nm", ?_⟩
    · rintro x xs σ H' ⟨kp, hpw', ⟨us, hu, hl, hn, ha⟩, e1, hx⟩
      obtain ⟨w, rfl, hw'⟩ := hx x (.head _)
      rw [List.length_cons] at hl
      refine ⟨hpw', _, rfl, fun W hW => ?_⟩
      refine add_word h4 hit (by walk_at "nm") hH1 hu (Nat.le_trans (Nat.le_trans (Nat.le_add_right _ _) hl) (by decide)) hn ha hw' kp hq fun H3 us' ho k3 hu' hl' hn' ha' => ?_
      exact hW _ _ ⟨k3, (ho p hne).trans hpw', ⟨us', hu', Nat.le_trans (Nat.add_le_add_right hl' _) (by rw [Nat.add_right_comm]; exact hl), hn', ha'⟩, by walk_at "nm", fun y hy => hx y (.tail _ hy)⟩
    · rintro σ H' ⟨kp, hpw', ⟨us, hu, hl, hn, ha⟩, e1, hx⟩
      exact ⟨hpw', fin σ H' us e1 kp hu hl hn ha _ _ fun _ h => h⟩
    · intro x hx
      obtain ⟨v, hv, rfl⟩ := List.mem_map.mp hx
      obtain ⟨w, hw', rfl⟩ := List.mem_map.mp hv
      exact ⟨w, rfl, hw w hw'⟩
  · walk_at "ev"
    refine r_for ?_
    walk_at "ev"
    refine ⟨Nat.le_of_ble_eq_true rfl, ?_⟩
    walk_at "ev"
    have kH2 : ∀ l, Keep H (H1 ++ [.list []] ++ [.list l]) := fun l => kH.trans (Keep.new _ _)
    refine b_mod (by decide) fun m m0 m1 => any_int 0 12 get_new m0 m1 rfl fun j j0 j1 => ?_
    refine rng1 j0 (Int.le_trans j1 (by decide)) ?_
    refine for_inv (fun xs σ H' => Keep H H' ∧ (∃ us, Ws H' H1.length us ∧ us.length + xs.length ≤ 12 ∧ us.Nodup ∧ ∀ u ∈ us, Wd 10 u) ∧ (σ (nm 32292397438104173501782932616799) = some (.ref H1.length) ∧ σ (nm 137989276334399845594719) = some (.ref 0) ∧ σ (nm 1078262421209535247967) = some (.int k) ∧ σ (nm 7843466381129971295) = some (.int cell) ∧ σ (nm 32292397438104887858748106241631) = some (.str s)) ∧ ∀ x ∈ xs, ∃ i : Int, x = .one (.int i) ∧ 0 ≤ i) ?_ ?_ ⟨kH2 _, ⟨[], (Keep.new _ _).get get_new, by rw [List.length_map, intsFrom_len, List.length_nil, Nat.zero_add]; exact Int.toNat_le.mpr j1, List.nodup_nil, fun _ h => nomatch h⟩, ⟨by walk_at "nm", by walk_at "nm", by walk_at "nm", by walk_at "nm", by walk_at "nm"⟩, ?_⟩
    · rintro x xs σ H' ⟨kp, ⟨us, hu, hl, hn, ha⟩, ⟨e1, e2, e3, e4, e5⟩, hx⟩
      obtain ⟨i, rfl, i0⟩ := hx x (.head _)
      rw [List.length_cons] at hl
      refine ⟨trivial, _, rfl, fun W hW => ?_⟩
      have step : ∀ σ' H2 w, σ' (nm 252284354984115859945804035679) = some (.str w) → σ' (nm 32292397438104173501782932616799) = some (.ref H1.length) → σ' (nm 137989276334399845594719) = some (.ref 0) → σ' (nm 1078262421209535247967) = some (.int k) → σ' (nm 7843466381129971295) = some (.int cell) → σ' (nm 32292397438104887858748106241631) = some (.str s) → Wd 10 w → Keep H' H2 →
          semS T b_law_words_l1_3 σ' H2 (LQ W (SQ T b_law_words_5 (RQ Q) X)) X := by
        intro σ' H2 w f0 f1 f2 f3 f4 f5 hw' k2
        refine add_word h4 f0 f1 hH1 (hu.keep k2) (Nat.le_trans (Nat.le_trans (Nat.le_add_right _ _) hl) (by decide)) hn ha hw' (kp.trans k2) hq fun H3 us' ho k3 hu' hl' hn' ha' => ?_
        exact hW _ _ ⟨k3, ⟨us', hu', Nat.le_trans (Nat.add_le_add_right hl' _) (by rw [Nat.add_right_comm]; exact hl), hn', ha'⟩, ⟨f1, f2, f3, f4, f5⟩, fun y hy => hx y (.tail _ hy)⟩
      refine s_asg ?_
      walk_at "ev"
      refine b_mod (by decide) fun b b0 b1 => ?_
      walk_at "ev"
      refine ⟨_, rfl, Int.add_nonneg (Int.add_nonneg k0 (by decide)) b0, hs.keep kp, fun one => ?_⟩
      refine s_asg ?_
      walk_at "ev"
      refine ⟨_, _, rfl, fun c _ _ => ?_⟩
      walk_at "ev"
      refine ⟨_, _, rfl, hsg, fun t H2 ht k2 => ?_⟩
      refine s_ite ?_
      walk_at "ev"
      refine b_mod (by decide) fun d d0 d1 => ?_
      walk_at "ev"
      refine if_dec (fun _ => ?_) fun _ => ?_
      · walk_at "ev"
        refine ⟨_, rfl, fun t2 ht2 => ?_⟩
        walk_at "ev"
        exact step _ _ t2 (by walk_at "nm") (by walk_at "nm") (by walk_at "nm") (by walk_at "nm") (by walk_at "nm") (by walk_at "nm") ht2 k2
      · walk_at "ev"
        refine ⟨Nat.zero_le _, ?_⟩
        refine c_new (us := []) (hu.keep (k2.trans (Keep.new _ _))) get_new ?_
        have k3 : Keep H' (H2 ++ [.list []]) := k2.trans (Keep.new _ _)
        have no : ∀ {σ'' : Sg}, σ'' = σ'' → True := fun _ => trivial
        refine if_ndec (fun hne => ?_) fun _ => ?_
        · walk_at "ev"
          refine ⟨_, _, rfl, fun e _ _ => ?_⟩
          walk_at "ev"
          refine b_mod (by decide) fun f f0 f1 => ?_
          walk_at "ev"
          refine if_dec (fun _ => ?_) fun _ => ?_
          · walk_at "ev"
            refine ⟨_, _, rfl, fun g _ _ => ?_⟩
            walk_at "ev"
            refine ⟨_, _, _, us, rfl, hu.keep k3, ?_, ha, hsg, fun t2 H4 ht2 k4 => ?_⟩
            · cases us with
              | nil => exact (hne rfl).elim
              | cons _ _ => simp
            walk_at "ev"
            exact step _ _ t2 (by walk_at "nm") (by walk_at "nm") (by walk_at "nm") (by walk_at "nm") (by walk_at "nm") (by walk_at "nm") ht2 (k3.trans k4)
          · walk_at "ev"
            exact step _ _ t (by walk_at "nm") (by walk_at "nm") (by walk_at "nm") (by walk_at "nm") (by walk_at "nm") (by walk_at "nm") ht k3
        · walk_at "ev"
          exact step _ _ t (by walk_at "nm") (by walk_at "nm") (by walk_at "nm") (by walk_at "nm") (by walk_at "nm") (by walk_at "nm") ht k3
    · rintro σ H' ⟨kp, ⟨us, hu, hl, hn, ha⟩, ⟨e1, e2, e3, e4, e5⟩, hx⟩
      exact ⟨trivial, fin σ H' us e1 kp hu hl hn ha _ _ fun _ h => h⟩
    · intro x hx
      obtain ⟨i, hi, rfl⟩ := List.mem_map.mp hx
      exact ⟨_, rfl, (intsFrom_mem hi).1⟩
theorem if_t {b : Bool} {A B : Prop} (h : b = true) (k : A) : if b = true then A else B := by rw [if_pos h]; exact k
theorem if_f {b : Bool} {A B : Prop} (h : b = false) (k : B) : if b = true then A else B := by rw [if_neg (by rw [h]; decide)]; exact k
theorem c_ins {H : AHeap} {c : Nat} {u : Txt} {r : Bool → Prop} (k : r (decide (c ∈ u))) : cmpA .In (.str [c]) (.str u) H r := .inS k
noncomputable def az : Str := ⟨#[97, 98, 99, 100, 101, 102, 103, 104, 105, 106, 107, 108, 109, 110, 111, 112, 113, 114, 115, 116, 117, 118, 119, 120, 121, 122]⟩
theorem mem26 {c : Nat} (h : 97 ≤ c ∧ c ≤ 122) : c ∈ az.cps.toList := by
  have : ∀ c ∈ List.range 123, 97 ≤ c → c ∈ az.cps.toList := by decide
  exact this c (List.mem_range.mpr (by lia)) h.1
theorem bools_true : ∀ vs : List V, (∀ v ∈ vs, v = .bool true) → vs = (List.replicate vs.length true).map .bool
  | [], _ => rfl
  | v :: r, h => by
    rw [h v (.head _), List.length_cons, List.replicate_succ, List.map_cons, ← bools_true r fun w hw => h w (.tail _ hw)]
theorem all_true : ∀ n : Nat, (List.replicate n true).all id = true
  | 0 => rfl
  | n + 1 => all_true n
theorem s_all {H : AHeap} {Q : VPost} {X : XPost} {n : Nat} {vs : List V} (h : H[n]? = some (.list vs)) (hv : ∀ v ∈ vs, v = .bool true) (k : Q (.bool true) H) : spAll [.ref n] H Q X :=
  ⟨n, List.replicate vs.length true, rfl, by rw [← bools_true vs hv]; exact h, by rw [all_true]; exact k⟩
theorem s_sorted {H : AHeap} {Q : VPost} {X : XPost} {n : Nat} {ws : List Txt} (h : Ws H n ws) (k : ∀ ys : List Txt, ys.Perm ws → ys.Pairwise (fun a b => ¬ b < a) → Q (.ref H.length) (H ++ [.list (ys.map .str)])) : spSorted [.ref n] H Q X := .list h k
noncomputable def spSign : Spec := fun vs H Q _ => ∃ c : Nat, vs = [.str [c]] ∧ (97 ≤ c ∧ c ≤ 122) ∧ Q (.bool true) H
noncomputable def spIsWord : Spec := fun vs H Q _ => ∃ w : Txt, vs = [.str w] ∧ Wd 10 w ∧ ∀ H', Keep H H' → Q (.bool true) H'
noncomputable def spChecked : Spec := fun vs H Q _ => ∃ (n : Nat) (ws : List Txt), vs = [.ref n] ∧ n < H.length ∧ Ws H n ws ∧ Cd ws ∧ 1 ≤ H.length ∧ ∀ ys p H', ys.Perm ws → ys.Pairwise (fun a b => ¬ b < a) → H.length ≤ p → Ws H' p ys → Keep H H' → Q (.ref p) H'
theorem ct_is_sign (h1 : Has T (nm 938756632654307293673) spIsi) (h2 : Has T (nm 1815276) spLen) (g1 : T.gv (nm 1882739) = some (.glob (nm 1882739))) (g2 : T.gv (nm 367874058560204) = some (.str az.cps.toList)) : Ct T x_is_sign b_is_sign spSign := by
  refine ct1 fun vs H Q X h => ?_
  obtain ⟨c, rfl, hc, h⟩ := h
  refine ⟨_, rfl, ?_⟩
  refine r_ret ?_
  walk_at "ev"
  refine IsiA.str ?_
  walk_at "ev"
  refine if_t rfl ?_
  walk_at "ev"
  refine c_ins ?_
  walk_at "ev"
  rw [decide_eq_true (mem26 hc)]
  exact h
theorem ct_is_word (h1 : Has T (nm 938756632654307293673) spIsi) (h2 : Has T (nm 1815276) spLen) (h3 : Has T (nm 1783393) spAll) (h4 : Has T (nm 487352597740009) spSign) (g1 : T.gv (nm 1882739) = some (.glob (nm 1882739))) (g2 : T.gv (nm 771200664775530178509) = some (.int 10)) : Ct T x_is_word b_is_word spIsWord := by
  refine ct1 fun vs H Q X h => ?_
  obtain ⟨w, rfl, hw, h⟩ := h
  have p1 := hw.pos
  have p2 := hw.le
  refine ⟨_, rfl, ?_⟩
  refine s_ite ?_
  walk_at "ev"
  refine IsiA.str ?_
  walk_at "ev"
  refine if_f rfl ?_
  walk_at "ev"
  refine if_t (decide_eq_true (by lia)) ?_
  walk_at "ev"
  refine if_f (by rw [decide_eq_true (by lia)]; rfl) ?_
  walk_at "ev"
  refine r_ret ?_
  walk_at "ev"
  refine ⟨by rw [List.length_map]; unfold lid; lia, ?_⟩
  refine comp_map (P := fun _ v => v = .bool true) _ _ _ (fun _ _ => trivial) (fun x hx H' k' => ?_) fun vs H' ha k' => ?_
  · obtain ⟨c, hc, rfl⟩ := List.mem_map.mp hx
    refine ⟨_, rfl, fun q hq => ?_⟩
    walk_at "ev"
    exact ⟨c, rfl, hw.abc c hc, hq _ _ rfl (Keep.refl _)⟩
  · exact s_all get_new (fun v hv => by obtain ⟨_, _, e⟩ := ha.right v hv; exact e) (h _ (k'.trans (Keep.new _ _)))
theorem ct_checked (h1 : Has T (nm 938756632654307293673) spIsi) (h2 : Has T (nm 1815276) spLen) (h3 : Has T (nm 443751708752361) spIsWord) (h4 : HasM T .list (nm 3465715398753) spAppend) (h5 : Has T (nm 3463330969587) spSorted) (g1 : T.gv (nm 245167340) = some (.glob (nm 245167340))) (g2 : T.gv (nm 770486307810356553677) = some (.int 12)) : Ct T x_checked b_checked spChecked := by
  refine ct1 fun vs H Q X h => ?_
  obtain ⟨n, ws, rfl, hnl, hn, hc, hl1, h⟩ := h
  have p1 := hc.le
  refine ⟨_, rfl, ?_⟩
  refine s_ite ?_
  walk_at "ev"
  refine IsiA.list hn ?_
  walk_at "ev"
  refine if_f rfl ?_
  walk_at "ev"
  refine s_ite ?_
  walk_at "ev"
  refine len_ws hn ?_
  walk_at "ev"
  refine if_f (decide_eq_false (by lia)) ?_
  walk_at "ev"
  refine s_asg ?_
  walk_at "ev"
  refine ⟨Nat.zero_le _, ?_⟩
  refine r_for ?_
  walk_at "ev"
  have kH : Keep H (H ++ [.list []]) := Keep.new _ _
  refine i_list (hn.keep kH) ?_
  refine for_inv (fun xs σ H' => Keep H H' ∧ (∃ us rs, ws = us ++ rs ∧ xs = rs.map (fun w => .one (.str w)) ∧ Ws H' H.length us) ∧ σ (nm 27076163558) = some (.ref H.length)) ?_ ?_ ⟨kH, ⟨[], ws, rfl, List.map_map, get_new⟩, by walk_at "nm"⟩
  · rintro x xs σ H' ⟨kp, ⟨us, rs, e, ex, hu⟩, e1⟩
    cases rs with
    | nil => cases ex
    | cons w rs =>
      obtain ⟨rfl, rfl⟩ := List.cons.inj ex
      have hw : Wd 10 w := hc.wd w (by rw [e]; simp)
      have hnw : ¬ w ∈ us := by
        have := hc.nd
        rw [e, List.nodup_append] at this
        exact fun hm => this.2.2 w hm w (.head _) rfl
      have hul : us.length ≤ 12 := by rw [e, List.length_append] at p1; lia
      refine ⟨hn.keep kp, _, rfl, fun W hW => ?_⟩
      refine s_ite ?_
      walk_at "ev"
      refine ⟨w, rfl, hw, fun H2 k2 => ?_⟩
      walk_at "ev"
      refine if_f rfl ?_
      walk_at "ev"
      refine s_ite ?_
      walk_at "ev"
      refine c_inw (hu.keep k2) ?_
      refine if_f (decide_eq_false hnw) ?_
      walk_at "ev"
      refine s_exp (e_methN (by walk_at "nm") (kind_l (hu.keep k2)) h4 (l1 ?_))
      walk_at "ev"
      refine s_push (by lia) (hu.keep k2) (by unfold lid; lia) ?_
      walk_at "ev"
      exact hW _ _ ⟨(kp.trans k2).set (Nat.le_refl _), ⟨us ++ [w], rs, by rw [e, List.append_assoc]; rfl, rfl, (Ws.keep hu k2).push w⟩, by walk_at "nm"⟩
  · rintro σ H' ⟨kp, ⟨us, rs, e, ex, hu⟩, e1⟩
    refine ⟨hn.keep kp, ?_⟩
    cases rs with
    | cons _ _ => cases ex
    | nil =>
      rw [List.append_nil] at e
      subst e
      refine r_ret ?_
      walk_at "ev"
      refine s_sorted hu fun ys hp hs => ?_
      exact h ys _ _ hp hs kp.le get_new (kp.trans (Keep.new _ _))
end
noncomputable def x_left_of : List Str := [(nm 245248756), (nm 30815173231)]
noncomputable def b_left_of : PS := (.seq (.ite (.cmp1 .NotEq (.slice (.name (nm 245248756)) .none (.call (.glob (nm 1815276)) (.cons (.name (nm 30815173231)) .nil))) (.name (nm 30815173231))) (.seq (.ret .none) .skip) .skip) (.seq (.ret (.slice (.name (nm 245248756)) (.call (.glob (nm 1815276)) (.cons (.name (nm 30815173231)) .nil)) .none)) .skip))
noncomputable def x_stepped : List Str := [(nm 245166834), (nm 211597303)]
noncomputable def b_stepped_4 : PS := (.seq (.ret .none) .skip)
noncomputable def b_stepped_3 : PS := (.seq (.ite (.cmp1 .IsNot (.name (nm 3465736516322)) .none) (.seq (.ret (.tuple (.cons (.name (nm 3465736516322)) (.cons (.bool true) .nil)))) .skip) .skip) b_stepped_4)
noncomputable def b_stepped_2 : PS := (.seq (.assign (.name (nm 3465736516322)) (.call (.glob (nm 452440421413612)) (.cons (.name (nm 211597303)) (.cons (.name (nm 245166834)) .nil)))) b_stepped_3)
noncomputable def b_stepped_1 : PS := (.seq (.ite (.cmp1 .IsNot (.name (nm 31379420275)) .none) (.seq (.ret (.tuple (.cons (.name (nm 31379420275)) (.cons (.bool false) .nil)))) .skip) .skip) b_stepped_2)
noncomputable def b_stepped : PS := (.seq (.assign (.name (nm 31379420275)) (.call (.glob (nm 452440421413612)) (.cons (.name (nm 245166834)) (.cons (.name (nm 211597303)) .nil)))) b_stepped_1)
noncomputable def x_begun : List Str := [(nm 31081674743)]
noncomputable def b_begun_2 : PS := (.seq (.ret (.name (nm 27076163558))) .skip)
noncomputable def b_begun_l2_1 : PS := (.seq (.ite (.and (.cmp1 .NotEq (.name (nm 1668975)) (.name (nm 30815173231))) (.cmp1 .IsNot (.name (nm 245166834)) .none)) (.seq (.expr (.meth (.name (nm 27076163558)) (nm 3465715398753) (.cons (.tuple (.cons (.call (.glob (nm 1815276)) (.cons (.name (nm 1668975)) .nil)) (.cons (.list (.cons (.name (nm 1668975)) .nil)) (.cons (.list (.cons (.name (nm 30815173231)) .nil)) (.cons (.name (nm 245166834)) .nil))))) .nil))) .skip) .skip) .skip)
noncomputable def b_begun_l2 : PS := (.seq (.assign (.name (nm 245166834)) (.call (.glob (nm 452440421413612)) (.cons (.name (nm 1668975)) (.cons (.name (nm 30815173231)) .nil)))) b_begun_l2_1)
noncomputable def b_begun_l1 : PS := (.seq (.for_ (.name (nm 30815173231)) (.itVal (.name (nm 31081674743))) b_begun_l2) .skip)
noncomputable def b_begun_1 : PS := (.seq (.for_ (.name (nm 1668975)) (.itVal (.name (nm 31081674743))) b_begun_l1) b_begun_2)
noncomputable def b_begun : PS := (.seq (.assign (.name (nm 27076163558)) (.list .nil)) b_begun_1)
noncomputable def x_gone_on : List Str := [(nm 27356854899), (nm 211597303)]
noncomputable def b_gone_on_4 : PS := (.seq (.ret (.tuple (.cons (.name (nm 3604769125100)) (.cons (.name (nm 1668975)) (.cons (.bin .Add (.name (nm 30815173231)) (.list (.cons (.name (nm 211597303)) .nil))) (.cons (.sub (.name (nm 236550771)) (.int 0)) .nil)))))) .skip)
noncomputable def b_gone_on_3 : PS := (.seq (.ite (.sub (.name (nm 236550771)) (.int 1)) (.seq (.ret (.tuple (.cons (.bin .Add (.name (nm 3604769125100)) (.call (.glob (nm 1815276)) (.cons (.sub (.name (nm 236550771)) (.int 0)) .nil))) (.cons (.bin .Add (.name (nm 30815173231)) (.list (.cons (.name (nm 211597303)) .nil))) (.cons (.name (nm 1668975)) (.cons (.sub (.name (nm 236550771)) (.int 0)) .nil)))))) .skip) .skip) b_gone_on_4)
noncomputable def b_gone_on_2 : PS := (.seq (.ite (.cmp1 .Is (.name (nm 236550771)) .none) (.seq (.ret .none) .skip) .skip) b_gone_on_3)
noncomputable def b_gone_on_1 : PS := (.seq (.assign (.name (nm 236550771)) (.call (.glob (nm 443305286007411)) (.cons (.name (nm 245166834)) (.cons (.name (nm 211597303)) .nil)))) b_gone_on_2)
noncomputable def b_gone_on : PS := (.seq (.assign (.tup [(nm 3604769125100), (nm 1668975), (nm 30815173231), (nm 245166834)]) (.name (nm 27356854899))) b_gone_on_1)
noncomputable def x_kept_better : List Str := [(nm 245166818), (nm 27356854899)]
noncomputable def b_kept_better_2 : PS := (.seq (.ret (.bool true)) .skip)
noncomputable def b_kept_better_1 : PS := (.seq (.setItem (.name (nm 245166818)) (.sub (.name (nm 27356854899)) (.int 3)) (.name (nm 27356854899))) b_kept_better_2)
noncomputable def b_kept_better : PS := (.seq (.ite (.and (.cmp1 .In (.sub (.name (nm 27356854899)) (.int 3)) (.name (nm 245166818))) (.cmp1 .LtE (.sub (.sub (.name (nm 245166818)) (.sub (.name (nm 27356854899)) (.int 3))) (.int 0)) (.sub (.name (nm 27356854899)) (.int 0)))) (.seq (.ret (.bool false)) .skip) .skip) b_kept_better_1)
noncomputable def x_led : List Str := [(nm 31081674743)]
noncomputable def b_led_4 : PS := (.seq (.ret (.name (nm 245166818))) .skip)
noncomputable def b_led_l3_1 : PS := (.seq (.ite (.and (.cmp1 .IsNot (.name (nm 27356854899)) .none) (.call (.glob (nm 135527429768205915927275)) (.cons (.name (nm 245166818)) (.cons (.name (nm 27356854899)) .nil)))) (.seq (.assign (.name (nm 4116153104873)) (.bool true)) .skip) .skip) .skip)
noncomputable def b_led_l3 : PS := (.seq (.assign (.name (nm 27356854899)) (.call (.glob (nm 487624762177511)) (.cons (.sub (.name (nm 245166818)) (.name (nm 245166834))) (.cons (.name (nm 211597303)) .nil)))) b_led_l3_1)
noncomputable def b_led_l2 : PS := (.seq (.for_ (.name (nm 211597303)) (.itVal (.name (nm 31081674743))) b_led_l3) .skip)
noncomputable def b_led_l1_1 : PS := (.seq (.for_ (.name (nm 245166834)) (.itVal (.call (.glob (nm 3463330969587)) (.cons (.name (nm 245166818)) .nil))) b_led_l2) .skip)
noncomputable def b_led_l1 : PS := (.seq (.assign (.name (nm 4116153104873)) (.bool false)) b_led_l1_1)
noncomputable def b_led_3 : PS := (.seq (.while_ (.name (nm 4116153104873)) b_led_l1) b_led_4)
noncomputable def b_led_2 : PS := (.seq (.assign (.name (nm 4116153104873)) (.bool true)) b_led_3)
noncomputable def b_led_l4 : PS := (.seq (.expr (.call (.glob (nm 135527429768205915927275)) (.cons (.name (nm 245166818)) (.cons (.name (nm 27356854899)) .nil)))) .skip)
noncomputable def b_led_1 : PS := (.seq (.for_ (.name (nm 27356854899)) (.itVal (.call (.glob (nm 29774967522)) (.cons (.name (nm 31081674743)) .nil))) b_led_l4) b_led_2)
noncomputable def b_led : PS := (.seq (.assign (.name (nm 245166818)) .dict0) b_led_1)
noncomputable def stp (r w : Txt) : Option (Txt × Bool) := if r.take w.length = w then some (r.drop w.length, false) else if w.take r.length = r then some (w.drop r.length, true) else none
structure Gd (ws : List Txt) (r : Txt) (l : Nat) (p q : List Txt) : Prop where
  eq : p.flatten = q.flatten ++ r
  len : l = p.flatten.length
  ne : ∃ a p' b q', p = a :: p' ∧ q = b :: q' ∧ a ≠ b
  inp : ∀ w ∈ p, w ∈ ws
  inq : ∀ w ∈ q, w ∈ ws
  last : ∃ p0 w, p = p0 ++ [w] ∧ p0.flatten.length ≤ q.flatten.length
theorem app_of_take {r w : Txt} (h : r.take w.length = w) : r = w ++ r.drop w.length := by
  conv => lhs; rw [← List.take_append_drop w.length r, h]
theorem cut_app {x y a b : Txt} (h : x ++ a = y ++ b) (hl : y.length ≤ x.length) : x.take y.length = y ∧ x.drop y.length ++ a = b := by
  have h1 : x.take y.length = y := by
    have := congrArg (List.take y.length) h
    rwa [List.take_append_of_le_length hl, List.take_left] at this
  refine ⟨h1, ?_⟩
  rw [app_of_take h1, List.append_assoc] at h
  exact List.append_cancel_left h
theorem Gd.suf {ws : List Txt} {r : Txt} {l : Nat} {p q : List Txt} (g : Gd ws r l p q) : ∃ w ∈ ws, ∃ k, k ≤ w.length ∧ r = w.drop k := by
  obtain ⟨p0, w, e, h⟩ := g.last
  have h1 := g.eq
  rw [e, List.flatten_append, List.flatten_cons, List.flatten_nil, List.append_nil] at h1
  have h2 := (cut_app h1.symm h).2
  refine ⟨w, g.inp w (by rw [e]; exact List.mem_append_right _ (.head _)), (q.flatten.drop p0.flatten.length).length, ?_, ?_⟩
  · rw [← h2, List.length_append]; exact Nat.le_add_right _ _
  · rw [← h2, List.drop_left]
theorem flat_one1 (w : Txt) : [w].flatten = w := by rw [List.flatten_cons, List.flatten_nil, List.append_nil]
theorem Gd.begin {ws : List Txt} {w u : Txt} (hw : w ∈ ws) (hu : u ∈ ws) (hne : w ≠ u) (h : w.take u.length = u) : Gd ws (w.drop u.length) w.length [w] [u] :=
  ⟨by rw [flat_one1, flat_one1]; exact app_of_take h, by rw [flat_one1], ⟨w, [], u, [], rfl, rfl, hne⟩, fun x hx => by rw [List.mem_singleton.mp hx]; exact hw, fun x hx => by rw [List.mem_singleton.mp hx]; exact hu, [], w, rfl, Nat.zero_le _⟩
theorem in_snoc {ws q : List Txt} {w : Txt} (h : ∀ u ∈ q, u ∈ ws) (hw : w ∈ ws) : ∀ u ∈ q ++ [w], u ∈ ws := fun u hu => (List.mem_append.mp hu).elim (h u) fun hu => by rw [List.mem_singleton.mp hu]; exact hw
theorem Gd.short {ws : List Txt} {r w : Txt} {l : Nat} {p q : List Txt} (g : Gd ws r l p q) (hw : w ∈ ws) (h : r.take w.length = w) : Gd ws (r.drop w.length) l p (q ++ [w]) := by
  obtain ⟨p0, z, e, hle⟩ := g.last
  refine ⟨?_, g.len, ?_, g.inp, in_snoc g.inq hw, p0, z, e, ?_⟩
  · rw [List.flatten_append, flat_one1, List.append_assoc, g.eq, ← app_of_take h]
  · obtain ⟨a, p', b, q', e1, e2, hne⟩ := g.ne
    exact ⟨a, p', b, q' ++ [w], e1, by rw [e2]; rfl, hne⟩
  · rw [List.flatten_append, List.length_append]; exact Nat.le_trans hle (Nat.le_add_right _ _)
theorem Gd.long {ws : List Txt} {r w : Txt} {l : Nat} {p q : List Txt} (g : Gd ws r l p q) (hw : w ∈ ws) (h : w.take r.length = r) : Gd ws (w.drop r.length) (l + (w.drop r.length).length) (q ++ [w]) p := by
  have e : (q ++ [w]).flatten = p.flatten ++ w.drop r.length := by
    rw [List.flatten_append, g.eq, List.append_assoc, ← app_of_take h, flat_one1]
  refine ⟨e, by rw [e, List.length_append, ← g.len], ?_, in_snoc g.inq hw, g.inp, q, w, rfl, ?_⟩
  · obtain ⟨a, p', b, q', e1, e2, hne⟩ := g.ne
    exact ⟨b, q' ++ [w], a, p', by rw [e2]; rfl, e1, hne.symm⟩
  · rw [g.eq, List.length_append]; exact Nat.le_add_right _ _
noncomputable def Le (f : Txt → Option Nat) (r : Txt) (n : Nat) : Prop := ∃ l, f r = some l ∧ l ≤ n
structure Shut (ws : List Txt) (f : Txt → Option Nat) : Prop where
  beg : ∀ w ∈ ws, ∀ u ∈ ws, w ≠ u → w.take u.length = u → Le f (w.drop u.length) w.length
  stp : ∀ r l, f r = some l → ∀ w ∈ ws, ∀ r' b, stp r w = some (r', b) → Le f r' (l + if b then r'.length else 0)
theorem Le.mono {f : Txt → Option Nat} {r : Txt} {n m : Nat} (h : Le f r n) (k : n ≤ m) : Le f r m := by obtain ⟨l, e, x⟩ := h; exact ⟨l, e, Nat.le_trans x k⟩
theorem Shut.step {ws : List Txt} {f : Txt → Option Nat} (S : Shut ws f) {r : Txt} {n : Nat} (h : Le f r n) {w : Txt} (hw : w ∈ ws) {r' : Txt} {b : Bool} (e : Mine.stp r w = some (r', b)) : Le f r' (n + if b then r'.length else 0) :=
  by obtain ⟨l, e1, x⟩ := h; exact (S.stp r l e1 w hw r' b e).mono (by lia)
noncomputable def Kx (d : Nat) (H H' : AHeap) : Prop := H.length ≤ H'.length ∧ ∀ i o, i ≠ d → H[i]? = some o → H'[i]? = some o
theorem Kx.of {d : Nat} {H H' : AHeap} (k : Keep H H') : Kx d H H' := ⟨k.le, fun _ _ _ e => k.get e⟩
theorem Kx.trans {d : Nat} {H H1 H2 : AHeap} (a : Kx d H H1) (b : Kx d H1 H2) : Kx d H H2 := ⟨Nat.le_trans a.1 b.1, fun i o h e => b.2 i o h (a.2 i o h e)⟩
theorem Kx.set {d : Nat} {H H' : AHeap} (k : Kx d H H') (o : AObj) : Kx d H (H'.set d o) := ⟨by rw [List.length_set]; exact k.1, fun i x h e => by rw [List.getElem?_set_ne (Ne.symm h)]; exact k.2 i x h e⟩
theorem Kx.refl (d : Nat) (H : AHeap) : Kx d H H := ⟨Nat.le_refl _, fun _ _ _ e => e⟩
structure StP (P : Nat → Prop) (H : AHeap) (n l : Nat) (p q : List Txt) (r : Txt) : Prop where
  ex : ∃ a b, P n ∧ P a ∧ P b ∧ H[n]? = some (.tuple [.int l, .ref a, .ref b, .str r]) ∧ Ws H a p ∧ Ws H b q
abbrev St (d : Nat) := StP (· ≠ d)
theorem StP.kp {P : Nat → Prop} {H H' : AHeap} {n l : Nat} {p q : List Txt} {r : Txt} (h : StP P H n l p q r) (k : ∀ i o, P i → H[i]? = some o → H'[i]? = some o) : StP P H' n l p q r :=
  by obtain ⟨a, b, h1, h2, h3, h4, h5, h6⟩ := h.ex; exact ⟨a, b, h1, h2, h3, k _ _ h1 h4, k _ _ h2 h5, k _ _ h3 h6⟩
theorem St.kx {d : Nat} {H H' : AHeap} {n l : Nat} {p q : List Txt} {r : Txt} (h : St d H n l p q r) (k : Kx d H H') : St d H' n l p q r := h.kp k.2
section
variable {T : Tab}
noncomputable def spLeft : Spec := fun vs H Q _ => ∃ t u : Txt, vs = [.str t, .str u] ∧ Q (if t.take u.length = u then .str (t.drop u.length) else .none) H
theorem ct_left_of (h1 : Has T (nm 1815276) spLen) : Ct T x_left_of b_left_of spLeft := by
  refine ct2 fun vs H Q X h => ?_
  obtain ⟨t, u, rfl, h⟩ := h
  refine ⟨_, _, rfl, ?_⟩
  refine s_ite ?_
  walk_at "ev"
  refine b_to (Int.natCast_nonneg _) ?_
  walk_at "ev"
  rw [show ((u.length : Nat) : Int).toNat = u.length from rfl]
  refine if_ndec (fun e => ?_) fun e => ?_
  · walk_at "ev"
    rw [if_neg e] at h; exact h
  · walk_at "ev"
    refine b_from (Int.natCast_nonneg _) ?_
    rw [if_pos e] at h; exact h
noncomputable def StepQ (o : Option (Txt × Bool)) (H : AHeap) (Q : VPost) : Prop := match o with
  | some (r, b) => Q (.ref H.length) (H ++ [.tuple [.str r, .bool b]])
  | none => Q .none H
noncomputable def spStepped : Spec := fun vs H Q _ => ∃ r w : Txt, vs = [.str r, .str w] ∧ StepQ (stp r w) H Q
theorem ct_stepped (h1 : Has T (nm 452440421413612) spLeft) : Ct T x_stepped b_stepped spStepped := by
  refine ct2 fun vs H Q X h => ?_
  obtain ⟨r, w, rfl, h⟩ := h
  refine ⟨_, _, rfl, ?_⟩
  unfold stp at h
  refine s_asg ?_
  walk_at "ev"
  refine ⟨r, w, rfl, ?_⟩
  by_cases e : r.take w.length = w
  · rw [if_pos e] at h ⊢
    refine s_ite ?_
    walk_at "ev"
    refine if_t rfl ?_
    walk_at "ev"
    exact ⟨Nat.le_of_ble_eq_true rfl, h⟩
  · rw [if_neg e] at h ⊢
    refine s_ite ?_
    walk_at "ev"
    refine if_f rfl ?_
    walk_at "ev"
    refine s_asg ?_
    walk_at "ev"
    refine ⟨w, r, rfl, ?_⟩
    by_cases e2 : w.take r.length = r
    · rw [if_pos e2] at h ⊢
      refine s_ite ?_
      walk_at "ev"
      refine if_t rfl ?_
      walk_at "ev"
      exact ⟨Nat.le_of_ble_eq_true rfl, h⟩
    · rw [if_neg e2] at h ⊢
      refine s_ite ?_
      walk_at "ev"
      refine if_f rfl ?_
      walk_at "ev"
      refine r_ret ?_
      walk_at "ev"
      exact h
noncomputable def GoneQ (P : Nat → Prop) (o : Option (Txt × Bool)) (l : Nat) (p q : List Txt) (w : Txt) (H : AHeap) (Q : VPost) : Prop := match o with
  | none => Q .none H
  | some (r, false) => ∀ n H', Keep H H' → StP P H' n l p (q ++ [w]) r → Q (.ref n) H'
  | some (r, true) => ∀ n H', Keep H H' → StP P H' n (l + r.length) (q ++ [w]) p r → Q (.ref n) H'
noncomputable def spGone : Spec := fun vs H Q _ => ∃ (P : Nat → Prop) (n l : Nat) (p q : List Txt) (r w : Txt), vs = [.ref n, .str w] ∧ (∀ i, H.length ≤ i → P i) ∧ StP P H n l p q r ∧ p.length ≤ 1000 ∧ q.length ≤ 1000 ∧ GoneQ P (stp r w) l p q w H Q
theorem ct_gone_on (h1 : Has T (nm 443305286007411) spStepped) (h2 : Has T (nm 1815276) spLen) : Ct T x_gone_on b_gone_on spGone := by
  refine ct2 fun vs H Q X h => ?_
  obtain ⟨P, n, l, p, q, r, w, rfl, hd, ⟨a, b, hn, ha, hb, e1, e2, e3⟩, hp, hq, h⟩ := h
  refine ⟨_, _, rfl, ?_⟩
  refine r_un4 (by walk_at "nm") e1 ?_
  refine s_asg ?_
  walk_at "ev"
  refine ⟨r, w, rfl, ?_⟩
  unfold StepQ
  cases hs : stp r w with
  | none =>
    rw [hs] at h
    dsimp only
    refine s_ite ?_
    walk_at "ev"
    refine if_t rfl ?_
    walk_at "ev"
    exact h
  | some x =>
    obtain ⟨r', t⟩ := x
    rw [hs] at h
    dsimp only
    have k1 : Keep H (H ++ [.tuple [.str r', .bool t]]) := Keep.new _ _
    have g1 : (H ++ [AObj.tuple [V.str r', V.bool t]])[H.length]? = some (.tuple [.str r', .bool t]) := get_new
    generalize H ++ [AObj.tuple [V.str r', V.bool t]] = H1 at k1 g1
    have hl := k1.le
    refine s_ite ?_
    walk_at "ev"
    refine if_f rfl ?_
    walk_at "ev"
    refine s_ite ?_
    walk_at "ev"
    refine b_att (k := 1) g1 rfl ?_
    cases t with
    | true =>
      walk_at "ev"
      refine b_att (k := 0) g1 rfl ?_
      walk_at "ev"
      refine ⟨Nat.le_of_ble_eq_true rfl, ?_⟩
      refine b_lcat ((Keep.new _ _).get (k1.get e3)) get_new (by rw [List.length_map]; exact Nat.le_trans (Nat.succ_le_succ hq) (by decide)) ?_
      walk_at "ev"
      refine b_att (k := 0) ((Keep.new _ _).get ((Keep.new _ _).get g1)) rfl ?_
      refine ⟨Nat.le_of_ble_eq_true rfl, ?_⟩
      have k2 : Keep H1 (H1 ++ [AObj.list [V.str w]] ++ [AObj.list (q.map V.str ++ [V.str w])]) := (Keep.new _ _).trans (Keep.new _ _)
      refine h _ _ (k1.trans (k2.trans (Keep.new _ _))) ⟨_, a, ?_, ?_, ha, get_new, ?_, ?_⟩
      · exact hd _ (Nat.le_trans hl k2.le)
      · exact hd _ (Nat.le_trans hl (Keep.new _ _).le)
      · unfold Ws
        rw [List.map_append]; exact (Keep.new _ _).get get_new
      · exact (k1.trans (k2.trans (Keep.new _ _))).get e2
    | false =>
      walk_at "ev"
      refine r_ret ?_
      walk_at "ev"
      refine ⟨Nat.le_of_ble_eq_true rfl, ?_⟩
      refine b_lcat ((Keep.new _ _).get (k1.get e3)) get_new (by rw [List.length_map]; exact Nat.le_trans (Nat.succ_le_succ hq) (by decide)) ?_
      walk_at "ev"
      refine b_att (k := 0) ((Keep.new _ _).get ((Keep.new _ _).get g1)) rfl ?_
      refine ⟨Nat.le_of_ble_eq_true rfl, ?_⟩
      have k2 : Keep H1 (H1 ++ [AObj.list [V.str w]] ++ [AObj.list (q.map V.str ++ [V.str w])]) := (Keep.new _ _).trans (Keep.new _ _)
      refine h _ _ (k1.trans (k2.trans (Keep.new _ _))) ⟨a, _, ?_, ha, ?_, get_new, ?_, ?_⟩
      · exact hd _ (Nat.le_trans hl k2.le)
      · exact hd _ (Nat.le_trans hl (Keep.new _ _).le)
      · exact (k1.trans (k2.trans (Keep.new _ _))).get e2
      · unfold Ws
        rw [List.map_append]; exact (Keep.new _ _).get get_new
abbrev Bst := List (Txt × (Nat × List Txt × List Txt))
noncomputable def EQ (d : Nat) (H : AHeap) (b : Txt × (Nat × List Txt × List Txt)) (e : Txt × V) : Prop := e.1 = b.1 ∧ ∃ n, e.2 = .ref n ∧ St d H n b.2.1 b.2.2.1 b.2.2.2 b.1
noncomputable def DB (d : Nat) (H : AHeap) (B : Bst) : Prop := ∃ es ep, H[d]? = some (.dict es ep) ∧ All2 (EQ d H) B es
noncomputable def stB (B : Bst) (r : Txt) (x : Nat × List Txt × List Txt) : Bst := if B.any (fun b => decide (b.1 = r)) then B.map (fun b => if b.1 = r then (b.1, x) else b) else B ++ [(r, x)]
noncomputable def lenB (B : Bst) (r : Txt) : Option Nat := (B.find? fun b => b.1 == r).map (·.2.1)
theorem EQ.kx {d : Nat} {H H' : AHeap} {b : Txt × (Nat × List Txt × List Txt)} {e : Txt × V} (h : EQ d H b e) (k : Kx d H H') : EQ d H' b e := by obtain ⟨h1, n, h2, h3⟩ := h; exact ⟨h1, n, h2, h3.kx k⟩
theorem DB.keep {d : Nat} {H H' : AHeap} {B : Bst} (h : DB d H B) (k : Keep H H') : DB d H' B := by obtain ⟨es, ep, h1, h2⟩ := h; exact ⟨es, ep, k.get h1, h2.mono fun _ _ x => x.kx (.of k)⟩
theorem eq_find {d : Nat} {H : AHeap} {r : Txt} {B : Bst} {es : List (Txt × V)} (h : All2 (EQ d H) B es) : (B.find? (fun b => b.1 == r) = none ∧ es.find? (fun e => e.1 == r) = none) ∨ ∃ b e, B.find? (fun b => b.1 == r) = some b ∧ es.find? (fun e => e.1 == r) = some e ∧ EQ d H b e := by
  induction h with
  | nil => exact .inl ⟨rfl, rfl⟩
  | @cons b e B es hb _ ih =>
    rw [List.find?_cons, List.find?_cons, hb.1]
    cases b.1 == r with
    | true => exact .inr ⟨b, e, rfl, rfl, hb⟩
    | false => exact ih
theorem eq_any {d : Nat} {H : AHeap} {r : Txt} {B : Bst} {es : List (Txt × V)} (h : All2 (EQ d H) B es) : (es.any fun e => e.1 == r) = (lenB B r).isSome := by
  unfold lenB
  rw [Option.isSome_map]
  induction h with
  | nil => rfl
  | @cons b e B es hb _ ih =>
    rw [List.any_cons, List.find?_cons, hb.1]
    cases b.1 == r with
    | true => rfl
    | false => rw [Bool.false_or]; exact ih
theorem DB.set {d : Nat} {H : AHeap} {B : Bst} {es : List (Txt × V)} {r : Txt} {n : Nat} {x : Nat × List Txt × List Txt} (hd : d < H.length) (h : All2 (EQ d H) B es) (hs : St d H n x.1 x.2.1 x.2.2 r) (ep : Nat) : DB d (H.set d (.dict (stA es r (.ref n)) ep)) (stB B r x) := by
  have k : Kx d H (H.set d (.dict (stA es r (.ref n)) ep)) := (Kx.refl d H).set _
  refine ⟨_, ep, List.getElem?_set_self hd, ?_⟩
  have ha : (es.any fun e => decide (e.1 = r)) = B.any fun b => decide (b.1 = r) := by
    clear k
    induction h with
    | nil => rfl
    | cons hb _ ih => rw [List.any_cons, List.any_cons, ih, hb.1]
  generalize hH : H.set d (.dict (stA es r (.ref n)) ep) = H' at k
  clear hH
  unfold stA stB
  rw [ha]
  split
  · rename_i hh
    clear hh ha
    induction h with
    | nil => exact .nil
    | @cons b e B es hb _ ih =>
      rw [List.map_cons, List.map_cons]
      refine .cons ?_ ih
      rw [hb.1]
      by_cases q : b.1 = r
      · rw [if_pos q, if_pos q]; exact ⟨rfl, n, rfl, q ▸ hs.kx k⟩
      · rw [if_neg q, if_neg q]; exact hb.kx k
  · exact (h.mono fun _ _ z => z.kx k).append (.cons ⟨rfl, n, rfl, hs.kx k⟩ .nil)
noncomputable def worse (B : Bst) (r : Txt) (l : Nat) : Prop := ∃ m, lenB B r = some m ∧ m ≤ l
noncomputable def spKept : Spec := fun vs H Q _ => ∃ (d n l : Nat) (p q : List Txt) (r : Txt) (B : Bst), vs = [.ref d, .ref n] ∧ d ≠ 0 ∧ DB d H B ∧ B.length < lid ∧ St d H n l p q r ∧
  (worse B r l → Q (.bool false) H) ∧ (¬ worse B r l → ∀ H', Kx d H H' → H'.length = H.length → DB d H' (stB B r (l, p, q)) → Q (.bool true) H')
theorem ct_kept_better : Ct T x_kept_better b_kept_better spKept := by
  refine ct2 fun vs H Q X h => ?_
  obtain ⟨d, n, l, p, q, r, B, rfl, hd, ⟨es, ep, e1, hB⟩, hl, hs, h1, h2⟩ := h
  obtain ⟨a, b, hn, ha, hb, e2, e3, e4⟩ := hs.ex
  have hel : es.length = B.length := hB.length.symm
  refine ⟨_, _, rfl, ?_⟩
  have no : ¬ worse B r l → semS T b_kept_better_1 (Sg.set (Sg.set (fun _ => none) (nm 245166818) (.ref d)) (nm 27356854899) (.ref n)) H (RQ Q) X := by
    intro hw
    refine s_set ?_
    walk_at "ev"
    refine b_att (k := 3) e2 rfl ?_
    refine b_dset hd e1 (by lia) fun ep' => ?_
    refine r_ret ?_
    walk_at "ev"
    exact h2 hw _ ((Kx.refl d H).set _) (List.length_set ..) (DB.set (x := (l, p, q)) (lt_of_get e1) hB hs ep')
  refine s_ite ?_
  walk_at "ev"
  refine b_att (k := 3) e2 rfl ?_
  walk_at "ev"
  refine c_ind e1 ?_
  rw [eq_any hB]
  rcases eq_find (r := r) hB with ⟨f1, f2⟩ | ⟨x, e, f1, f2, hx, m, hm, hst⟩
  · have e0 : lenB B r = none := by unfold lenB; rw [f1]; rfl
    rw [e0]
    refine if_f rfl ?_
    walk_at "ev"
    exact no fun ⟨m, q1, _⟩ => by rw [e0] at q1; cases q1
  · have e0 : lenB B r = some x.2.1 := by unfold lenB; rw [f1]; rfl
    obtain ⟨a', b', _, _, _, e5, _, _⟩ := hst.ex
    rw [e0]
    refine if_t rfl ?_
    walk_at "ev"
    refine b_att (k := 3) e2 rfl ?_
    refine b_dget e1 f2 ?_
    rw [hm]
    walk_at "ev"
    refine b_att (k := 0) e5 rfl ?_
    walk_at "ev"
    refine b_att (k := 0) e2 rfl ?_
    walk_at "ev"
    refine if_dec (fun hle => ?_) fun hle => ?_
    · walk_at "ev"
      exact h1 ⟨x.2.1, e0, by lia⟩
    · walk_at "ev"
      exact no fun ⟨m, q1, q2⟩ => by rw [e0] at q1; cases q1; lia
noncomputable def SF (o : Nat) (H : AHeap) (n : Nat) (w u : Txt) : Prop := ∃ a b, o < n ∧ o < a ∧ o < b ∧ H[n]? = some (.tuple [.int w.length, .ref a, .ref b, .str (w.drop u.length)]) ∧ Ws H a [w] ∧ Ws H b [u]
theorem SF.kx {o : Nat} {H H' : AHeap} {n : Nat} {w u : Txt} (h : SF o H n w u) (k : Kx o H H') : SF o H' n w u :=
  by obtain ⟨a, b, h1, h2, h3, h4, h5, h6⟩ := h; exact ⟨a, b, h1, h2, h3, k.2 _ _ (Nat.ne_of_gt h1) h4, k.2 _ _ (Nat.ne_of_gt h2) h5, k.2 _ _ (Nat.ne_of_gt h3) h6⟩
theorem SF.st {o d : Nat} {H : AHeap} {n : Nat} {w u : Txt} (h : SF o H n w u) (hd : d ≤ o) : St d H n w.length [w] [u] (w.drop u.length) :=
  by obtain ⟨a, b, h1, h2, h3, h4, h5, h6⟩ := h; exact ⟨a, b, Nat.ne_of_gt (Nat.lt_of_le_of_lt hd h1), Nat.ne_of_gt (Nat.lt_of_le_of_lt hd h2), Nat.ne_of_gt (Nat.lt_of_le_of_lt hd h3), h4, h5, h6⟩
noncomputable def Beg (ws : List Txt) (w u : Txt) : Prop := w ∈ ws ∧ u ∈ ws ∧ w ≠ u ∧ w.take u.length = u
structure BgI (o : Nat) (ws : List Txt) (done : Txt → Txt → Prop) (m : Nat) (H : AHeap) : Prop where
  ex : ∃ ns : List Nat, H[o]? = some (.list (ns.map .ref)) ∧ ns.length ≤ m ∧ (∀ n ∈ ns, ∃ w u, Beg ws w u ∧ SF o H n w u) ∧ ∀ w u, done w u → Beg ws w u → ∃ n ∈ ns, SF o H n w u
noncomputable def spBegun : Spec := fun vs H Q _ => ∃ (n : Nat) (ws : List Txt), vs = [.ref n] ∧ n < H.length ∧ Ws H n ws ∧ ws.length ≤ 12 ∧ ∀ o H', H.length ≤ o → Keep H H' → BgI o ws (fun _ _ => True) 144 H' → Q (.ref o) H'
theorem ct_begun (h1 : Has T (nm 452440421413612) spLeft) (h2 : Has T (nm 1815276) spLen) (h4 : HasM T .list (nm 3465715398753) spAppend) : Ct T x_begun b_begun spBegun := by
  refine ct1 fun vs H Q X h => ?_
  obtain ⟨n, ws, rfl, hn, hw, hl, h⟩ := h
  refine ⟨_, rfl, ?_⟩
  refine s_asg ?_
  walk_at "ev"
  refine ⟨Nat.zero_le _, ?_⟩
  have k0 : Keep H (H ++ [.list []]) := Keep.new _ _
  refine r_for ?_
  walk_at "ev"
  refine i_list (hw.keep k0) ?_
  refine for_inv (fun xs σ H' => Keep H H' ∧ (∃ us rs, ws = us ++ rs ∧ xs = rs.map (fun w => .one (.str w)) ∧ BgI H.length ws (fun w u => w ∈ us) (us.length * 12) H') ∧ (σ (nm 27076163558) = some (.ref H.length) ∧ σ (nm 31081674743) = some (.ref n))) ?_ ?_
    ⟨k0, ⟨[], ws, rfl, List.map_map, ⟨[], get_new, Nat.zero_le _, (fun _ h => nomatch h), fun _ _ h => nomatch h⟩⟩, ⟨by walk_at "nm", by walk_at "nm"⟩⟩
  · rintro x xs σ H' ⟨kp, ⟨us, rs, e, ex, hI⟩, ⟨s1, s2⟩⟩
    cases rs with
    | nil => cases ex
    | cons w rs =>
      obtain ⟨rfl, rfl⟩ := List.cons.inj ex
      refine ⟨hw.keep kp, _, rfl, fun W hW => ?_⟩
      refine r_for ?_
      walk_at "ev"
      refine i_list (hw.keep kp) ?_
      refine for_inv (fun xs σ H' => Keep H H' ∧ (∃ vs rs, ws = vs ++ rs ∧ xs = rs.map (fun w => .one (.str w)) ∧ BgI H.length ws (fun a b => a ∈ us ∨ (a = w ∧ b ∈ vs)) (us.length * 12 + vs.length) H') ∧ (σ (nm 27076163558) = some (.ref H.length) ∧ σ (nm 31081674743) = some (.ref n) ∧ σ (nm 1668975) = some (.str w))) ?_ ?_
        ⟨kp, ⟨[], ws, rfl, List.map_map, ?_⟩, ⟨by walk_at "nm", by walk_at "nm", by walk_at "nm"⟩⟩
      · rintro x xs σ H' ⟨kp, ⟨vs, rs', e', ex', ⟨ns, i1, i2, i3, i4⟩⟩, ⟨s1, s2, s3⟩⟩
        cases rs' with
        | nil => cases ex'
        | cons u rs' =>
          obtain ⟨rfl, rfl⟩ := List.cons.inj ex'
          have hvl : us.length < 12 ∧ vs.length < 12 := by
            have a1 := hl; have a2 := hl
            rw [e, List.length_append, List.length_cons] at a1; rw [e', List.length_append, List.length_cons] at a2; lia
          have hww : ws = (vs ++ [u]) ++ rs' := by rw [e', List.append_assoc]; rfl
          refine ⟨hw.keep kp, _, rfl, fun W' hW' => ?_⟩
          refine s_asg ?_
          walk_at "ev"
          refine ⟨w, u, rfl, ?_⟩
          have skip : ¬ Beg ws w u → ∀ σ', σ' (nm 27076163558) = some (.ref H.length) → σ' (nm 31081674743) = some (.ref n) → σ' (nm 1668975) = some (.str w) → W' σ' H' := by
            intro hnb σ' t1 t2 t3
            refine hW' _ _ ⟨kp, ⟨vs ++ [u], rs', hww, rfl, ⟨ns, i1, by rw [List.length_append]; exact Nat.le_trans i2 (Nat.add_le_add_left (Nat.le_add_right _ _) _), i3, fun a b hd hb => ?_⟩⟩, ⟨t1, t2, t3⟩⟩
            rcases hd with hd | ⟨rfl, hd⟩
            · exact i4 a b (.inl hd) hb
            · rcases List.mem_append.mp hd with hd | hd
              · exact i4 a b (.inr ⟨rfl, hd⟩) hb
              · rw [List.mem_singleton.mp hd] at hb; exact (hnb hb).elim
          refine s_ite ?_
          walk_at "ev"
          refine if_ndec (fun hne => ?_) fun heq => ?_
          · by_cases hpre : w.take u.length = u
            · rw [if_pos hpre]
              walk_at "ev"
              refine if_t rfl ?_
              refine s_exp (e_methN (by walk_at "nm") (kind_l i1) h4 (l1 ?_))
              walk_at "ev"
              refine ⟨Nat.le_of_ble_eq_true rfl, ?_⟩
              walk_at "ev"
              refine ⟨Nat.le_of_ble_eq_true rfl, ?_⟩
              walk_at "ev"
              refine ⟨Nat.le_of_ble_eq_true rfl, ?_⟩
              have k2 : Keep H' (H' ++ [AObj.list [V.str w]] ++ [AObj.list [V.str u]]) := (Keep.new _ _).trans (Keep.new _ _)
              have ga : Ws (H' ++ [AObj.list [V.str w]] ++ [AObj.list [V.str u]]) H'.length [w] := (Keep.new _ _).get get_new
              have gb : Ws (H' ++ [AObj.list [V.str w]] ++ [AObj.list [V.str u]]) (H' ++ [AObj.list [V.str w]]).length [u] := get_new
              generalize hB : (H' ++ [AObj.list [V.str w]]).length = B at gb ⊢
              have hB' : H'.length < B := by rw [← hB, List.length_append, List.length_singleton]; exact Nat.lt_succ_self _
              generalize H' ++ [AObj.list [V.str w]] ++ [AObj.list [V.str u]] = H2 at k2 ga gb
              have hHl := lt_of_get i1
              have h2l := k2.le
              have k3 : Keep H2 (H2 ++ [.tuple [.int w.length, .ref H'.length, .ref B, .str (w.drop u.length)]]) := Keep.new _ _
              have hsf : SF H.length (H2 ++ [.tuple [.int w.length, .ref H'.length, .ref B, .str (w.drop u.length)]]) H2.length w u := ⟨H'.length, B, Nat.lt_of_lt_of_le hHl h2l, hHl, Nat.lt_trans hHl hB', get_new, k3.get ga, k3.get gb⟩
              have i1' := k3.get (k2.get i1)
              refine s_append (Nat.ne_of_gt (Nat.lt_of_le_of_lt (Nat.zero_le _) hn)) i1' (by rw [List.length_map]; exact Nat.lt_of_le_of_lt (Nat.le_trans i2 (Nat.add_le_add (Nat.mul_le_mul_right 12 (Nat.le_of_lt hvl.1)) (Nat.le_of_lt hvl.2))) (by decide)) ?_
              walk_at "ev"
              have kx : Kx H.length (H2 ++ [.tuple [.int w.length, .ref H'.length, .ref B, .str (w.drop u.length)]]) _ := (Kx.refl _ _).set (.list (ns.map .ref ++ [.ref H2.length]))
              have kx2 := (Kx.of (k2.trans k3)).trans kx
              refine hW' _ _ ⟨(kp.trans (k2.trans k3)).set (Nat.le_refl _), ⟨vs ++ [u], rs', hww, rfl, ⟨ns ++ [H2.length], ?_, by rw [List.length_append, List.length_append, List.length_singleton, List.length_singleton]; exact Nat.succ_le_succ i2, fun m hm => ?_, fun a b hd hb => ?_⟩⟩, ⟨by walk_at "nm", by walk_at "nm", by walk_at "nm"⟩⟩
              · rw [List.getElem?_set_self (lt_of_get i1'), List.map_append]; rfl
              · rcases List.mem_append.mp hm with hm | hm
                · obtain ⟨a, b, q1, q2⟩ := i3 m hm
                  exact ⟨a, b, q1, q2.kx kx2⟩
                · rw [List.mem_singleton.mp hm]
                  exact ⟨w, u, ⟨by rw [e]; simp, by rw [e']; simp, hne, hpre⟩, hsf.kx kx⟩
              · have old : (a ∈ us ∨ (a = w ∧ b ∈ vs)) → ∃ m ∈ ns ++ [H2.length], SF H.length _ m a b := fun z => by
                  obtain ⟨m, q1, q2⟩ := i4 a b z hb
                  exact ⟨m, List.mem_append_left _ q1, q2.kx kx2⟩
                rcases hd with hd | ⟨rfl, hd⟩
                · exact old (.inl hd)
                · rcases List.mem_append.mp hd with hd | hd
                  · exact old (.inr ⟨rfl, hd⟩)
                  · rw [List.mem_singleton.mp hd]
                    exact ⟨H2.length, by simp, hsf.kx kx⟩
            · rw [if_neg hpre]
              walk_at "ev"
              refine if_f rfl ?_
              walk_at "ev"
              exact skip (fun z => hpre z.2.2.2) _ (by walk_at "nm") (by walk_at "nm") (by walk_at "nm")
          · walk_at "ev"
            exact skip (fun z => z.2.2.1 heq) _ (by walk_at "nm") (by walk_at "nm") (by walk_at "nm")
      · rintro σ H' ⟨kp, ⟨vs, rs', e', ex', hI⟩, ⟨s1, s2, s3⟩⟩
        refine ⟨hw.keep kp, ?_⟩
        cases rs' with
        | cons _ _ => cases ex'
        | nil =>
          rw [List.append_nil] at e'
          obtain ⟨ns, i1, i2, i3, i4⟩ := hI.ex
          walk_at "ev"
          refine hW _ _ ⟨kp, ⟨us ++ [w], rs, by rw [e, List.append_assoc]; rfl, rfl, ⟨ns, i1, ?_, i3, fun a b hd hb => ?_⟩⟩, ⟨s1, s2⟩⟩
          · rw [List.length_append, List.length_singleton, Nat.succ_mul]; rw [← e'] at i2; exact Nat.le_trans i2 (Nat.add_le_add_left hl _)
          · rcases List.mem_append.mp hd with hd | hd
            · exact i4 a b (.inl hd) hb
            · exact i4 a b (.inr ⟨List.mem_singleton.mp hd, e' ▸ hb.2.1⟩) hb
      · obtain ⟨ns, i1, i2, i3, i4⟩ := hI.ex
        exact ⟨ns, i1, i2, i3, fun a b hd hb => hd.elim (fun z => i4 a b z hb) fun z => nomatch z.2⟩
  · rintro σ H' ⟨kp, ⟨us, rs, e, ex, hI⟩, ⟨s1, s2⟩⟩
    refine ⟨hw.keep kp, ?_⟩
    cases rs with
    | cons _ _ => cases ex
    | nil =>
      rw [List.append_nil] at e
      subst e
      obtain ⟨ns, i1, i2, i3, i4⟩ := hI.ex
      refine r_ret ?_
      walk_at "ev"
      exact h _ _ (Nat.le_refl _) kp ⟨ns, i1, Nat.le_trans i2 (Nat.mul_le_mul_right 12 hl), i3, fun a b _ hb => i4 a b hb.1 hb⟩
end
theorem nodup_le : ∀ {l m : List Txt}, l.Nodup → (∀ x ∈ l, x ∈ m) → l.length ≤ m.length
  | [], _, _, _ => Nat.zero_le _
  | a :: l, m, hn, hs => by
    obtain ⟨h1, h2⟩ := List.nodup_cons.mp hn
    have ha := hs a (.head _)
    have := nodup_le (m := m.erase a) h2 fun x hx => (List.mem_erase_of_ne (fun e : x = a => h1 (by rw [← e]; exact hx))).mpr (hs x (.tail _ hx))
    rw [List.length_erase_of_mem ha] at this
    have hp : 0 < m.length := List.length_pos_of_mem ha
    rw [List.length_cons]; lia
noncomputable def sufs (ws : List Txt) : List Txt := ws.flatMap fun w => (List.range (w.length + 1)).map fun k => w.drop k
theorem mem_sufs {ws : List Txt} {r : Txt} (h : ∃ w ∈ ws, ∃ k, k ≤ w.length ∧ r = w.drop k) : r ∈ sufs ws := by
  obtain ⟨w, hw, k, hk, rfl⟩ := h
  exact List.mem_flatMap.mpr ⟨w, hw, List.mem_map.mpr ⟨k, List.mem_range.mpr (by lia), rfl⟩⟩
structure BI (ws : List Txt) (B : Bst) : Prop where
  gd : ∀ b ∈ B, Gd ws b.1 b.2.1 b.2.2.1 b.2.2.2
  nd : (B.map (·.1)).Nodup
  ch : ∀ b ∈ B, ∃ ch : List Txt, ch.Nodup ∧ (∀ c ∈ ch, c ∈ sufs ws) ∧ (∀ c ∈ ch, Le (lenB B) c b.2.1) ∧ b.2.2.1.length + b.2.2.2.length ≤ ch.length + 1
noncomputable def Imp (B B' : Bst) : Prop := ∀ r n, Le (lenB B) r n → Le (lenB B') r n
theorem BI.len {ws : List Txt} {B : Bst} (h : BI ws B) : B.length ≤ (sufs ws).length := by
  have := nodup_le h.nd (m := sufs ws) fun x hx => by
    obtain ⟨b, hb, rfl⟩ := List.mem_map.mp hx
    exact mem_sufs (h.gd b hb).suf
  rwa [List.length_map] at this
theorem lenB_mem {B : Bst} {r : Txt} {m : Nat} (h : lenB B r = some m) : ∃ b ∈ B, b.1 = r ∧ b.2.1 = m := by
  unfold lenB at h
  obtain ⟨b, hb, rfl⟩ := Option.map_eq_some_iff.mp h
  exact ⟨b, List.mem_of_find?_eq_some hb, by simpa using List.find?_some hb, rfl⟩
theorem lenB_of : ∀ {B : Bst}, (B.map (·.1)).Nodup → ∀ b ∈ B, B.find? (fun x => x.1 == b.1) = some b
  | [], _, _, h => nomatch h
  | a :: B, hn, b, h => by
    obtain ⟨h1, h2⟩ := List.nodup_cons.mp hn
    rw [List.find?_cons]
    cases h with
    | head => rw [beq_self_eq_true]
    | tail _ h =>
      have : (a.1 == b.1) = false := by
        simp only [beq_eq_false_iff_ne]
        exact fun e => h1 (List.mem_map.mpr ⟨b, h, e.symm⟩)
      rw [this]
      exact lenB_of h2 b h
theorem lenB_st {B : Bst} {r r' : Txt} {x : Nat × List Txt × List Txt} : lenB (stB B r x) r' = if r' = r then some x.1 else lenB B r' := by
  unfold stB lenB
  split
  · rename_i hh
    induction B with
    | nil => cases hh
    | cons a B ih =>
      rw [List.map_cons, List.find?_cons, List.find?_cons]
      by_cases q : a.1 = r
      · rw [if_pos q]
        by_cases q2 : r' = r
        · rw [if_pos q2, q2, q, beq_self_eq_true]; rfl
        · have e : (a.1 == r') = false := by rw [q]; simpa using fun z : r = r' => q2 z.symm
          rw [if_neg q2]
          simp only [e]
          by_cases hB : (B.any fun b => decide (b.1 = r)) = true
          · have := ih hB
            rwa [if_neg q2] at this
          · have e2 : B.map (fun b => if b.1 = r then (b.1, x) else b) = B := by
              refine List.map_congr_left (g := id) (fun b hb => ?_) |>.trans (List.map_id B)
              rw [if_neg fun z => hB (List.any_eq_true.mpr ⟨b, hb, decide_eq_true z⟩)]; rfl
            rw [e2]
      · rw [if_neg q]
        have hB : (B.any fun b => decide (b.1 = r)) = true := by
          rw [List.any_cons, decide_eq_false q, Bool.false_or] at hh; exact hh
        cases e : a.1 == r' with
        | true =>
          have : ¬ r' = r := fun z => q (by rw [← z]; simpa using e)
          rw [if_neg this]
        | false => exact ih hB
  · rename_i hh
    rw [List.find?_append, List.find?_cons, List.find?_nil]
    by_cases q : r' = r
    · rw [if_pos q, q, beq_self_eq_true]
      have : B.find? (fun b => b.1 == r) = none := by
        rw [List.find?_eq_none]
        intro b hb z
        exact hh (List.any_eq_true.mpr ⟨b, hb, decide_eq_true (by simpa using z)⟩)
      rw [this]; rfl
    · have e : (r == r') = false := by simpa using fun z : r = r' => q z.symm
      rw [if_neg q, e]
      simp
theorem stB_mem {B : Bst} {r : Txt} {x : Nat × List Txt × List Txt} {b : Txt × (Nat × List Txt × List Txt)} (h : b ∈ stB B r x) : (b ∈ B ∧ b.1 ≠ r) ∨ b = (r, x) := by
  unfold stB at h
  split at h
  · obtain ⟨a, ha, rfl⟩ := List.mem_map.mp h
    by_cases q : a.1 = r
    · rw [if_pos q, q]; exact .inr rfl
    · rw [if_neg q]; exact .inl ⟨ha, q⟩
  · rename_i hh
    rcases List.mem_append.mp h with h | h
    · exact .inl ⟨h, fun z => hh (List.any_eq_true.mpr ⟨b, h, decide_eq_true z⟩)⟩
    · exact .inr (List.mem_singleton.mp h)
theorem stB_keys {B : Bst} {r : Txt} {x : Nat × List Txt × List Txt} (h : (B.map (·.1)).Nodup) : ((stB B r x).map (·.1)).Nodup := by
  unfold stB
  split
  · have : (B.map (fun b => if b.1 = r then (b.1, x) else b)).map (·.1) = B.map (·.1) := by
      rw [List.map_map]
      exact List.map_congr_left fun b _ => by show (if b.1 = r then (b.1, x) else b).1 = b.1; split <;> rfl
    rw [this]; exact h
  · rename_i hh
    rw [List.map_append, List.nodup_append]
    refine ⟨h, by simp, fun a ha b hb e => ?_⟩
    obtain ⟨c, hc, rfl⟩ := List.mem_map.mp ha
    simp at hb
    exact hh (List.any_eq_true.mpr ⟨c, hc, decide_eq_true (e.trans hb)⟩)
theorem Imp.st {B : Bst} {r : Txt} {l : Nat} {p q : List Txt} (h : ¬ worse B r l) : Imp B (stB B r (l, p, q)) := by
  rintro r' n ⟨m, e, hm⟩
  by_cases z : r' = r
  · refine ⟨l, by rw [lenB_st, if_pos z], ?_⟩
    have : ¬ m ≤ l := fun y => h ⟨m, z ▸ e, y⟩
    lia
  · exact ⟨m, by rw [lenB_st, if_neg z]; exact e, hm⟩
theorem Imp.refl (B : Bst) : Imp B B := fun _ _ h => h
theorem Imp.trans {A B C : Bst} (h : Imp A B) (k : Imp B C) : Imp A C := fun r n x => k r n (h r n x)
theorem BI.st {ws : List Txt} {B : Bst} {r : Txt} {l : Nat} {p q : List Txt} (h : BI ws B) (g : Gd ws r l p q) (hw : ¬ worse B r l) (hc : ∃ ch : List Txt, ch.Nodup ∧ (∀ c ∈ ch, c ∈ sufs ws) ∧ (∀ c ∈ ch, c = r ∨ Le (lenB B) c l) ∧ p.length + q.length ≤ ch.length + 1) : BI ws (stB B r (l, p, q)) := by
  refine ⟨fun b hb => ?_, stB_keys h.nd, fun b hb => ?_⟩
  · rcases stB_mem hb with ⟨hb, _⟩ | rfl
    · exact h.gd b hb
    · exact g
  · rcases stB_mem hb with ⟨hb, _⟩ | rfl
    · obtain ⟨ch, c1, c2, c3, c4⟩ := h.ch b hb
      exact ⟨ch, c1, c2, fun c hc => Imp.st hw _ _ (c3 c hc), c4⟩
    · obtain ⟨ch, c1, c2, c3, c4⟩ := hc
      refine ⟨ch, c1, c2, fun c hc => ?_, c4⟩
      rcases c3 c hc with rfl | z
      · exact ⟨l, by rw [lenB_st, if_pos rfl], Nat.le_refl _⟩
      · exact Imp.st hw _ _ z
theorem BI.chain {ws : List Txt} {B : Bst} (h : BI ws B) {b : Txt × (Nat × List Txt × List Txt)} (hb : b ∈ B) {r : Txt} {l : Nat} (hr : r ∈ sufs ws) (hl : b.2.1 ≤ l) (hw : ¬ worse B r l) {m : Nat} (hm : m ≤ b.2.2.1.length + b.2.2.2.length + 1) : ∃ ch : List Txt, ch.Nodup ∧ (∀ c ∈ ch, c ∈ sufs ws) ∧ (∀ c ∈ ch, c = r ∨ Le (lenB B) c l) ∧ m ≤ ch.length + 1 := by
  obtain ⟨ch, c1, c2, c3, c4⟩ := h.ch b hb
  refine ⟨r :: ch, List.nodup_cons.mpr ⟨fun z => ?_, c1⟩, fun c hc => ?_, fun c hc => ?_, by rw [List.length_cons]; lia⟩
  · obtain ⟨x, e, hx⟩ := c3 r z
    exact hw ⟨x, e, by lia⟩
  · cases hc with
    | head => exact hr
    | tail _ hc => exact c2 c hc
  · cases hc with
    | head => exact .inl rfl
    | tail _ hc => exact .inr ((c3 c hc).mono hl)
theorem BI.rows {ws : List Txt} {B : Bst} (h : BI ws B) {b : Txt × (Nat × List Txt × List Txt)} (hb : b ∈ B) : b.2.2.1.length + b.2.2.2.length ≤ (sufs ws).length + 1 := by
  obtain ⟨ch, c1, c2, c3, c4⟩ := h.ch b hb
  have := nodup_le c1 c2
  lia
noncomputable def mu (S K : Nat) (B : Bst) : Nat := (S - B.length) * K + (B.map (·.2.1)).sum
theorem sum_rep {B : Bst} {r : Txt} {x : Nat × List Txt × List Txt} (hle : ∀ b ∈ B, b.1 = r → x.1 < b.2.1) : ((B.map fun b => if b.1 = r then (b.1, x) else b).map (·.2.1)).sum ≤ (B.map (·.2.1)).sum ∧ ((B.any fun b => decide (b.1 = r)) = true → ((B.map fun b => if b.1 = r then (b.1, x) else b).map (·.2.1)).sum < (B.map (·.2.1)).sum) := by
  induction B with
  | nil => exact ⟨Nat.le_refl _, fun h => nomatch h⟩
  | cons a B ih =>
    obtain ⟨h1, h2⟩ := ih fun b hb => hle b (.tail _ hb)
    simp only [List.map_cons, List.sum_cons, List.any_cons, Bool.or_eq_true, decide_eq_true_eq]
    by_cases q : a.1 = r
    · have := hle a (.head _) q
      rw [if_pos q]
      exact ⟨Nat.add_le_add (Nat.le_of_lt this) h1, fun _ => Nat.add_lt_add_of_lt_of_le this h1⟩
    · rw [if_neg q]
      exact ⟨Nat.add_le_add_left h1 _, fun z => Nat.add_lt_add_left (h2 (z.resolve_left q)) _⟩
theorem mu_st {ws : List Txt} {B : Bst} {r : Txt} {l K : Nat} {p q : List Txt} (h : BI ws B) (h' : BI ws (stB B r (l, p, q))) (hw : ¬ worse B r l) (hl : l < K) : mu (sufs ws).length K (stB B r (l, p, q)) < mu (sufs ws).length K B := by
  have h2 := h'.len
  unfold mu
  unfold stB at h2 ⊢
  split
  · rename_i hh
    have hle : ∀ b ∈ B, b.1 = r → l < b.2.1 := fun b hb e => by
      have : lenB B r = some b.2.1 := by unfold lenB; rw [← e, lenB_of h.nd b hb]; rfl
      exact Nat.lt_of_not_le fun z => hw ⟨_, this, z⟩
    have := (sum_rep (x := (l, p, q)) hle).2 hh
    rw [List.length_map]
    exact Nat.add_lt_add_left this _
  · rename_i hh
    rw [if_neg hh, List.length_append, List.length_singleton] at h2
    rw [List.length_append, List.length_singleton, List.map_append, List.sum_append]
    have e : (sufs ws).length - B.length = ((sufs ws).length - (B.length + 1)) + 1 := (Nat.succ_pred_eq_of_pos (Nat.sub_pos_of_lt h2)).symm
    rw [e, Nat.succ_mul, List.map_cons, List.map_nil, List.sum_cons, List.sum_nil, Nat.add_zero, Nat.add_assoc]
    exact Nat.add_lt_add_left (by rw [Nat.add_comm]; exact Nat.add_lt_add_right hl _) _
theorem SF.inj {o : Nat} {H : AHeap} {n : Nat} {w u w' u' : Txt} (h : SF o H n w u) (k : SF o H n w' u') : w = w' ∧ u = u' := by
  obtain ⟨a, b, _, _, _, h4, h5, h6⟩ := h
  obtain ⟨a', b', _, _, _, k4, k5, k6⟩ := k
  rw [h4] at k4
  simp only [Option.some.injEq, AObj.tuple.injEq, List.cons.injEq, V.ref.injEq] at k4
  obtain ⟨_, rfl, rfl, _⟩ := k4
  unfold Ws at h5 h6 k5 k6
  rw [h5] at k5; rw [h6] at k6
  simp at k5 k6
  exact ⟨k5, k6⟩
theorem sufs_len : ∀ ws : List Txt, (∀ w ∈ ws, w.length ≤ 10) → (sufs ws).length ≤ 11 * ws.length
  | [], _ => Nat.le_refl _
  | w :: r, h => by
    have h1 := sufs_len r fun u hu => h u (.tail _ hu)
    have h2 := h w (.head _)
    unfold sufs at *
    rw [List.flatMap_cons, List.length_append, List.length_map, List.length_range, List.length_cons, Nat.mul_succ, Nat.add_comm]; exact Nat.add_le_add h1 (Nat.succ_le_succ h2)
theorem flat_le : ∀ ws : List Txt, (∀ w ∈ ws, w.length ≤ 10) → ws.flatten.length ≤ 10 * ws.length
  | [], _ => Nat.le_refl _
  | w :: r, h => by
    have h1 := flat_le r fun u hu => h u (.tail _ hu)
    have h2 := h w (.head _)
    rw [List.flatten_cons, List.length_append, List.length_cons, Nat.mul_succ, Nat.add_comm]; exact Nat.add_le_add h1 h2
theorem eq_keys {d : Nat} {H : AHeap} {B : Bst} {es : List (Txt × V)} (h : All2 (EQ d H) B es) : es.map (·.1) = B.map (·.1) := by
  induction h with
  | nil => rfl
  | cons hb _ ih => rw [List.map_cons, List.map_cons, ih, hb.1]
theorem s_sortedD {H : AHeap} {Q : VPost} {X : XPost} {n ep : Nat} {es : List (Txt × V)} (h : H[n]? = some (.dict es ep)) (k : ∀ ys : List Txt, ys.Perm (es.map (·.1)) → Q (.ref H.length) (H ++ [.list (ys.map .str)])) : spSorted [.ref n] H Q X := .dict h fun ys hp _ => k ys hp
section
variable {T : Tab}
noncomputable def Tried (B : Bst) (r w : Txt) : Prop := ∀ l, lenB B r = some l → ∀ r' b, stp r w = some (r', b) → Le (lenB B) r' (l + if b then r'.length else 0)
noncomputable def spLed : Spec := fun vs H Q _ => ∃ (n : Nat) (ws : List Txt), vs = [.ref n] ∧ n < H.length ∧ Ws H n ws ∧ ws.length ≤ 12 ∧ (∀ w ∈ ws, Wd 10 w) ∧ ∀ d H' B, H.length ≤ d → Keep H H' → DB d H' B → BI ws B → Shut ws (lenB B) → Q (.ref d) H'
theorem ct_led (h1 : Has T (nm 29774967522) spBegun) (h2 : Has T (nm 135527429768205915927275) spKept) (h3 : Has T (nm 487624762177511) spGone) (h4 : Has T (nm 3463330969587) spSorted) : Ct T x_led b_led spLed := by
  refine ct1 fun vs H Q X h => ?_
  obtain ⟨n, ws, rfl, hn, hw, hl, hwd, h⟩ := h
  have hS := sufs_len ws fun w hw => (hwd w hw).le
  refine ⟨_, rfl, ?_⟩
  refine s_asg ?_
  walk_at "ev"
  have k0 : Keep H (H ++ [.dict [] 0]) := Keep.new _ _
  have g0 : (H ++ [AObj.dict [] 0])[H.length]? = some (.dict [] 0) := get_new
  have hd0 : H.length < (H ++ [AObj.dict [] 0]).length := lt_of_get g0
  generalize H ++ [AObj.dict [] 0] = H1 at k0 g0 hd0
  refine r_for ?_
  walk_at "ev"
  refine ⟨n, ws, rfl, Nat.lt_of_lt_of_le hn k0.le, hw.keep k0, hl, fun o H2 ho k2 hBg => ?_⟩
  obtain ⟨ns, i1, i2, i3, i4⟩ := hBg.ex
  refine i_list i1 ?_
  have hH0 : H.length ≠ 0 := Nat.ne_of_gt (Nat.lt_of_le_of_lt (Nat.zero_le _) hn)
  have hS132 : (sufs ws).length ≤ 132 := Nat.le_trans hS (Nat.mul_le_mul_left 11 hl)
  have hSL : ∀ {x : Nat}, x ≤ (sufs ws).length → x < lid := fun h => Nat.lt_of_le_of_lt (Nat.le_trans h hS132) (by decide)
  have hod : o ≠ H.length := Nat.ne_of_gt (Nat.lt_of_lt_of_le hd0 ho)
  have hnd : n ≠ H.length := Nat.ne_of_lt hn
  have hd2 : H.length < H2.length := Nat.lt_of_lt_of_le hd0 k2.le
  have K2 : ∀ {H'}, Kx H.length H2 H' → Keep H H' := fun {H'} k => ⟨Nat.le_trans (Nat.le_of_lt hd2) k.1, fun i hi => by
    have e := (k0.trans k2).old i hi
    rw [List.getElem?_eq_getElem hi] at e ⊢
    exact k.2 i _ (Nat.ne_of_lt hi) e⟩
  have hw2 := (hw.keep k0).keep k2
  refine for_inv (fun xs σ H' => Kx H.length H2 H' ∧ (∃ ms rs B, ns = ms ++ rs ∧ xs = rs.map (fun m => .one (.ref m)) ∧ DB H.length H' B ∧ BI ws B ∧ ∀ m ∈ ms, ∀ w u, SF o H2 m w u → Le (lenB B) (w.drop u.length) w.length) ∧ (σ (nm 245166818) = some (.ref H.length) ∧ σ (nm 31081674743) = some (.ref n))) ?_ ?_
    ⟨Kx.refl _ _, ⟨[], ns, [], rfl, List.map_map, ⟨[], 0, k2.get g0, .nil⟩, ⟨(fun _ h => nomatch h), List.nodup_nil, fun _ h => nomatch h⟩, fun _ h => nomatch h⟩, ⟨by walk_at "nm", by walk_at "nm"⟩⟩
  · rintro x xs σ H' ⟨kx, ⟨ms, rs, B, e, ex, hB, hI, hD⟩, ⟨s1, s2⟩⟩
    cases rs with
    | nil => cases ex
    | cons m rs =>
      obtain ⟨rfl, rfl⟩ := List.cons.inj ex
      obtain ⟨w, u, hb, hsf⟩ := i3 m (by rw [e]; simp)
      refine ⟨kx.2 _ _ hod i1, _, rfl, fun W hW => ?_⟩
      refine s_exp ?_
      walk_at "ev"
      have hBl := hI.len
      refine ⟨H.length, m, w.length, [w], [u], w.drop u.length, B, rfl, hH0, hB, hSL hBl, (hsf.st (Nat.le_of_lt (Nat.lt_of_lt_of_le hd0 ho))).kx kx, fun hwo => ?_, fun hwo H3 k3 hl3 hB3 => ?_⟩
      · walk_at "ev"
        refine hW _ _ ⟨kx, ⟨ms ++ [m], rs, B, by rw [e, List.append_assoc]; rfl, rfl, hB, hI, fun m' hm w' u' hs' => ?_⟩, ⟨by walk_at "nm", by walk_at "nm"⟩⟩
        rcases List.mem_append.mp hm with hm | hm
        · exact hD m' hm w' u' hs'
        · rw [List.mem_singleton.mp hm] at hs'
          obtain ⟨rfl, rfl⟩ := hsf.inj hs'
          exact hwo
      · walk_at "ev"
        have hg := Gd.begin hb.1 hb.2.1 hb.2.2.1 hb.2.2.2
        have hI3 := hI.st hg hwo ⟨[w.drop u.length], by simp, by simpa using mem_sufs hg.suf, by simp, by simp⟩
        refine hW _ _ ⟨kx.trans k3, ⟨ms ++ [m], rs, _, by rw [e, List.append_assoc]; rfl, rfl, hB3, hI3, fun m' hm w' u' hs' => ?_⟩, ⟨by walk_at "nm", by walk_at "nm"⟩⟩
        rcases List.mem_append.mp hm with hm | hm
        · exact Imp.st hwo _ _ (hD m' hm w' u' hs')
        · rw [List.mem_singleton.mp hm] at hs'
          obtain ⟨rfl, rfl⟩ := hsf.inj hs'
          exact ⟨_, by rw [lenB_st, if_pos rfl], Nat.le_refl _⟩
  · rintro σ H' ⟨kx, ⟨ms, rs, B, e, ex, hB, hI, hD⟩, ⟨s1, s2⟩⟩
    refine ⟨kx.2 _ _ hod i1, ?_⟩
    cases rs with
    | cons _ _ => cases ex
    | nil =>
      rw [List.append_nil] at e
      subst e
      have hbeg : ∀ w u, Beg ws w u → Le (lenB B) (w.drop u.length) w.length := fun w u hb => by
        obtain ⟨m, hm, hs⟩ := i4 w u trivial hb
        exact hD m hm w u hs
      clear hD
      refine s_asg ?_
      walk_at "ev"
      have hK : ∀ {r : Txt} {l : Nat} {p q : List Txt}, Gd ws r l p q → p.length + q.length ≤ (sufs ws).length + 2 → l < 10 * ((sufs ws).length + 2) + 1 := fun {r l p q} g hpq => by
        have := flat_le p fun w hw => (hwd w (g.inp w hw)).le
        rw [g.len]; lia
      refine r_while ⟨_, while_ind (fun m σ H' => Kx H.length H2 H' ∧ (∃ B, DB H.length H' B ∧ BI ws B ∧ (∀ w u, Beg ws w u → Le (lenB B) (w.drop u.length) w.length) ∧ ((σ (nm 4116153104873) = some (.bool true) ∧ mu (sufs ws).length (10 * ((sufs ws).length + 2) + 1) B + 1 ≤ m) ∨ (σ (nm 4116153104873) = some (.bool false) ∧ Shut ws (lenB B)))) ∧ (σ (nm 245166818) = some (.ref H.length) ∧ σ (nm 31081674743) = some (.ref n))) ?_ (mu (sufs ws).length (10 * ((sufs ws).length + 2) + 1) B + 1) _ _ ⟨kx, ⟨B, hB, hI, hbeg, .inl ⟨by walk_at "nm", Nat.le_refl _⟩⟩, ⟨by walk_at "nm", by walk_at "nm"⟩⟩⟩
      clear hB hI hbeg kx s1 s2
      rintro m σ H' ⟨kx, ⟨B, hB, hI, hbeg, hor⟩, ⟨s1, s2⟩⟩ W hW
      rcases hor with ⟨s3, hmu⟩ | ⟨s3, hsh⟩
      case inr =>
        walk_at "ev"
        refine r_ret ?_
        walk_at "ev"
        exact h _ _ _ (Nat.le_refl _) (K2 kx) hB hI hsh
      walk_at "ev"
      refine s_asg ?_
      walk_at "ev"
      obtain ⟨es, ep, g1, g2⟩ := hB
      have hBl := hI.len
      have hel : es.length = B.length := g2.length.symm
      refine r_for ?_
      walk_at "ev"
      refine s_sortedD g1 fun ys hp => ?_
      have hys : ∀ r, r ∈ ys ↔ r ∈ B.map (·.1) := fun r => by
        rw [hp.mem_iff]
        rw [eq_keys g2]
      clear hp
      have kH : Keep H' (H' ++ [.list (ys.map .str)]) := Keep.new _ _
      have gL : Ws (H' ++ [.list (ys.map .str)]) H'.length ys := get_new
      have hLd : H'.length ≠ H.length := Nat.ne_of_gt (lt_of_get g1)
      have hB' : DB H.length (H' ++ [.list (ys.map .str)]) B := DB.keep ⟨es, ep, g1, g2⟩ kH
      clear g1 g2 hel
      have kx' : Kx H.length H2 (H' ++ [.list (ys.map .str)]) := kx.trans (.of kH)
      generalize H'.length = L at gL hLd
      generalize H' ++ [AObj.list (ys.map .str)] = H3 at kH gL hB' kx'
      refine i_list gL ?_
      refine for_inv (fun xs σ H'' => Kx H.length H2 H'' ∧ Ws H'' L ys ∧ (∃ us rs B', ys = us ++ rs ∧ xs = rs.map (fun w => .one (.str w)) ∧ DB H.length H'' B' ∧ BI ws B' ∧ Imp B B' ∧ ((σ (nm 4116153104873) = some (.bool true) ∧ mu (sufs ws).length (10 * ((sufs ws).length + 2) + 1) B' < mu (sufs ws).length (10 * ((sufs ws).length + 2) + 1) B) ∨ (σ (nm 4116153104873) = some (.bool false) ∧ B' = B ∧ ∀ r ∈ us, ∀ w ∈ ws, Tried B r w))) ∧ (σ (nm 245166818) = some (.ref H.length) ∧ σ (nm 31081674743) = some (.ref n))) ?_ ?_
        ⟨kx', gL, ⟨[], ys, B, rfl, List.map_map, hB', hI, Imp.refl B, .inr ⟨by walk_at "nm", rfl, fun _ h => nomatch h⟩⟩, ⟨by walk_at "nm", by walk_at "nm"⟩⟩
      · clear kx' gL hB' kH
        rintro x xs σ H'' ⟨kx, gL, ⟨us, rs, B', e, ex, hB, hI', hImp, hor⟩, ⟨s1, s2⟩⟩
        cases rs with
        | nil => cases ex
        | cons r rs =>
          obtain ⟨rfl, rfl⟩ := List.cons.inj ex
          have hr : ∃ l, lenB B r = some l := by
            obtain ⟨b, hb, e1⟩ := List.mem_map.mp ((hys r).mp (by rw [e]; simp))
            exact ⟨b.2.1, by unfold lenB; rw [← e1, lenB_of hI.nd b hb]; rfl⟩
          refine ⟨gL, _, rfl, fun W' hW' => ?_⟩
          refine r_for ?_
          walk_at "ev"
          refine i_list (kx.2 _ _ hnd hw2) ?_
          refine for_inv (fun xs σ H'' => Kx H.length H2 H'' ∧ Ws H'' L ys ∧ (∃ vs rs B', ws = vs ++ rs ∧ xs = rs.map (fun w => .one (.str w)) ∧ DB H.length H'' B' ∧ BI ws B' ∧ Imp B B' ∧ ((σ (nm 4116153104873) = some (.bool true) ∧ mu (sufs ws).length (10 * ((sufs ws).length + 2) + 1) B' < mu (sufs ws).length (10 * ((sufs ws).length + 2) + 1) B) ∨ (σ (nm 4116153104873) = some (.bool false) ∧ B' = B ∧ (∀ r ∈ us, ∀ w ∈ ws, Tried B r w) ∧ ∀ w ∈ vs, Tried B r w))) ∧ (σ (nm 245166818) = some (.ref H.length) ∧ σ (nm 31081674743) = some (.ref n) ∧ σ (nm 245166834) = some (.str r))) ?_ ?_
            ⟨kx, gL, ⟨[], ws, B', rfl, List.map_map, hB, hI', hImp, ?_⟩, ⟨by walk_at "nm", by walk_at "nm", by walk_at "nm"⟩⟩
          · clear hor hImp hB gL kx s1 s2 hI' B'
            rintro x xs σ H'' ⟨kx, gL, ⟨vs, rs', B', e', ex', hB, hI', hImp, hor⟩, ⟨s1, s2, s3⟩⟩
            cases rs' with
            | nil => cases ex'
            | cons w rs' =>
              obtain ⟨rfl, rfl⟩ := List.cons.inj ex'
              have hww : ws = (vs ++ [w]) ++ rs' := by rw [e', List.append_assoc]; rfl
              have hwm : w ∈ ws := by rw [e']; simp
              refine ⟨kx.2 _ _ hnd hw2, _, rfl, fun W2 hW2 => ?_⟩
              obtain ⟨l0, hl0⟩ := hr
              obtain ⟨l, hlr, hll⟩ := hImp r l0 ⟨l0, hl0, Nat.le_refl _⟩
              obtain ⟨es, ep, g1, g2⟩ := hB
              have hdl := lt_of_get g1
              rcases eq_find (r := r) g2 with ⟨f1, f2⟩ | ⟨b, e3, f1, f2, hb1, m3, hm3, hst⟩
              · unfold lenB at hlr; rw [f1] at hlr; cases hlr
              have hbm : b ∈ B' := List.mem_of_find?_eq_some f1
              have hbr : b.1 = r := by simpa using List.find?_some f1
              have hbl : b.2.1 = l := by unfold lenB at hlr; rw [f1] at hlr; exact Option.some.inj hlr
              have hrows := hI'.rows hbm
              have hgd := hI'.gd b hbm
              have hB0 : DB H.length H'' B' := ⟨es, ep, g1, g2⟩
              have hBl' := hI'.len
              -- what follows when nothing new was found
              have same : ∀ σ' H4, Keep H'' H4 → Tried B' r w → σ' (nm 4116153104873) = σ (nm 4116153104873) → σ' (nm 245166818) = some (.ref H.length) → σ' (nm 31081674743) = some (.ref n) → σ' (nm 245166834) = some (.str r) → W2 σ' H4 := by
                intro σ' H4 k4 ht t0 t1 t2 t3
                refine hW2 _ _ ⟨kx.trans (.of k4), gL.keep k4, ⟨vs ++ [w], rs', B', hww, rfl, hB0.keep k4, hI', hImp, ?_⟩, ⟨t1, t2, t3⟩⟩
                rw [t0]
                rcases hor with z | ⟨z1, z2, z3, z4⟩
                · exact .inl z
                · refine .inr ⟨z1, z2, z3, fun u hu => ?_⟩
                  rcases List.mem_append.mp hu with hu | hu
                  · exact z4 u hu
                  · rw [List.mem_singleton.mp hu, ← z2]; exact ht
              have fin : ∀ n4 H4 l' p' q' r', Keep H'' H4 → St H.length H4 n4 l' p' q' r' → Gd ws r' l' p' q' → l ≤ l' → p'.length + q'.length ≤ b.2.2.1.length + b.2.2.2.length + 1 → (Le (lenB B') r' l' → Tried B' r w) → semS T b_led_l3_1 ((σ.set (nm 211597303) (.str w)).set (nm 27356854899) (.ref n4)) H4 (LQ W2 (SQ T .skip (LQ W' (SQ T .skip (fun fl σ2 H2 => match fl with
                  | .next => W σ2 H2
                  | .brk => SQ T b_led_4 (RQ Q) X .next σ2 H2
                  | .ret v => SQ T b_led_4 (RQ Q) X (.ret v) σ2 H2) X)) X)) X := by
                intro n4 H4 l' p' q' r' k4 hs4 hg4 hle hpq htr
                refine s_ite ?_
                walk_at "ev"
                refine if_t rfl ?_
                walk_at "ev"
                refine ⟨H.length, n4, l', p', q', r', B', rfl, hH0, hB0.keep k4, hSL hBl', hs4, fun hwo => ?_, fun hwo H5 k5 hl5 hB5 => ?_⟩
                · walk_at "ev"
                  exact same _ _ k4 (htr hwo) (by show (Sg.set (Sg.set σ _ _) _ _) _ = _; rw [set_nm, set_nm]; rfl) (by walk_at "nm") (by walk_at "nm") (by walk_at "nm")
                · walk_at "ev"
                  have hch := hI'.chain hbm (mem_sufs hg4.suf) (hbl.symm ▸ hle) hwo hpq
                  have hI5 := hI'.st hg4 hwo hch
                  have hm5 := mu_st hI' hI5 hwo (hK hg4 (by lia))
                  refine hW2 _ _ ⟨(kx.trans (.of k4)).trans k5, k5.2 _ _ hLd (gL.keep k4), ⟨vs ++ [w], rs', _, hww, rfl, hB5, hI5, hImp.trans (Imp.st hwo), .inl ⟨by walk_at "nm", ?_⟩⟩, ⟨by walk_at "nm", by walk_at "nm", by walk_at "nm"⟩⟩
                  rcases hor with ⟨_, z⟩ | ⟨_, z, _⟩
                  · lia
                  · rw [← z]; exact hm5
              refine s_asg ?_
              walk_at "ev"
              refine b_dget g1 f2 ?_
              rw [hm3]
              walk_at "ev"
              rw [hbr] at hst hgd
              rw [hbl] at hst hgd
              refine ⟨(· ≠ H.length), m3, l, b.2.2.1, b.2.2.2, r, w, rfl, fun i hi => Nat.ne_of_gt (Nat.lt_of_lt_of_le hdl hi), hst, by lia, by lia, ?_⟩
              unfold GoneQ
              have try1 : ∀ r' t, stp r w = some (r', t) → Le (lenB B') r' (l + if t then r'.length else 0) → Tried B' r w := by
                intro r' t hs hle l2 hl2 r2 t2 hs2
                rw [hlr] at hl2; cases hl2
                rw [hs] at hs2; cases hs2
                exact hle
              cases hs : stp r w with
              | none =>
                dsimp only
                refine s_ite ?_
                walk_at "ev"
                refine if_f rfl ?_
                walk_at "ev"
                exact same _ _ (Keep.refl _) (fun _ _ r2 t2 hs2 => by rw [hs] at hs2; cases hs2) (by show (Sg.set (Sg.set σ _ _) _ _) _ = _; rw [set_nm, set_nm]; rfl) (by walk_at "nm") (by walk_at "nm") (by walk_at "nm")
              | some z =>
                obtain ⟨r', t⟩ := z
                have hs' := hs
                unfold stp at hs'
                cases t with
                | false =>
                  dsimp only
                  intro n4 H4 k4 hs4
                  have hpre : r.take w.length = w ∧ r' = r.drop w.length := by
                    split at hs'
                    · rename_i q; cases hs'; exact ⟨q, rfl⟩
                    · split at hs' <;> cases hs'
                  refine fin n4 H4 l _ _ r' k4 hs4 (hpre.2 ▸ hgd.short hwm hpre.1) (Nat.le_refl _) (by rw [List.length_append, List.length_singleton]; exact Nat.le_refl _) fun hle => try1 r' false hs (hle.mono (by simp))
                | true =>
                  dsimp only
                  intro n4 H4 k4 hs4
                  have hpre : w.take r.length = r ∧ r' = w.drop r.length := by
                    split at hs'
                    · cases hs'
                    · split at hs'
                      · rename_i q; cases hs'; exact ⟨q, rfl⟩
                      · cases hs'
                  refine fin n4 H4 (l + r'.length) _ _ r' k4 hs4 (by rw [hpre.2]; exact hgd.long hwm hpre.1) (Nat.le_add_right _ _) (by rw [List.length_append, List.length_singleton]; lia) fun hle => try1 r' true hs (hle.mono (by simp))
          · rintro σ H'' ⟨kx, gL, ⟨vs, rs', B', e', ex', hB, hI', hImp, hor⟩, ⟨s1, s2, s3⟩⟩
            refine ⟨kx.2 _ _ hnd hw2, ?_⟩
            cases rs' with
            | cons _ _ => cases ex'
            | nil =>
              rw [List.append_nil] at e'
              walk_at "ev"
              refine hW' _ _ ⟨kx, gL, ⟨us ++ [r], rs, B', by rw [e, List.append_assoc]; rfl, rfl, hB, hI', hImp, ?_⟩, ⟨s1, s2⟩⟩
              rcases hor with z | ⟨z1, z2, z3, z4⟩
              · exact .inl z
              · refine .inr ⟨z1, z2, fun r2 hr2 w2 hw2' => ?_⟩
                rcases List.mem_append.mp hr2 with hr2 | hr2
                · exact z3 r2 hr2 w2 hw2'
                · rw [List.mem_singleton.mp hr2]; exact z4 w2 (e' ▸ hw2')
          · rcases hor with ⟨z, y⟩ | ⟨z1, z2, z3⟩
            · exact .inl ⟨by walk_at "nm", y⟩
            · exact .inr ⟨by walk_at "nm", z2, z3, fun _ h => nomatch h⟩
      · rintro σ H'' ⟨kx, gL, ⟨us, rs, B', e, ex, hB, hI', hImp, hor⟩, ⟨s1, s2⟩⟩
        refine ⟨gL, ?_⟩
        cases rs with
        | cons _ _ => cases ex
        | nil =>
          rw [List.append_nil] at e
          subst e
          obtain ⟨m', rfl⟩ := Nat.exists_eq_succ_of_ne_zero (n := m) fun z => absurd hmu (by rw [z]; exact Nat.not_succ_le_zero _)
          walk_at "ev"
          refine hW m' _ _ rfl ⟨kx, ⟨B', hB, hI', fun w u hb => hImp _ _ (hbeg w u hb), ?_⟩, ⟨s1, s2⟩⟩
          rcases hor with ⟨z, y⟩ | ⟨z1, z2, z3⟩
          · exact .inl ⟨z, Nat.le_trans y (Nat.le_of_succ_le_succ hmu)⟩
          · refine .inr ⟨z1, z2 ▸ ⟨fun w hw u hu hne hp => hbeg w u ⟨hw, hu, hne, hp⟩, fun r l hl w hw r' b hs => ?_⟩⟩
            obtain ⟨x, hx, hx1, _⟩ := lenB_mem hl
            exact z3 r ((hys r).mpr (List.mem_map.mpr ⟨x, hx, hx1⟩)) w hw l hl r' b hs
end
noncomputable def x_least : List Str := [(nm 31081674743)]
noncomputable def b_least_1 : PS := (.seq (.ret (.call (.glob (nm 244905188)) (.cons (.comp0 (.tuple (.cons (.name (nm 245166834)) (.cons (.sub (.sub (.name (nm 245166818)) (.name (nm 245166834))) (.int 0)) .nil))) (.name (nm 245166834)) (.itVal (.name (nm 245166818)))) .nil))) .skip)
noncomputable def b_least : PS := (.seq (.assign (.name (nm 245166818)) (.call (.glob (nm 1651436)) (.cons (.call (.glob (nm 443303916565603)) (.cons (.name (nm 31081674743)) .nil)) .nil))) b_least_1)
section
variable {K : AHeap → Prop} {bind : Item → AHeap → Option Sg} {test : Sg → AHeap → (Bool → AHeap → Prop) → Prop} {elt : Sg → AHeap → VPost → Prop} {Q : List V → AHeap → Prop}
theorem comp_inv (I : List Item → List V → AHeap → Prop)
    (step : ∀ x xs acc H, I (x :: xs) acc H → K H ∧ ∃ σ, bind x H = some σ ∧ ∀ W : List V → AHeap → Prop, (∀ acc' H', I xs acc' H' → W acc' H') → test σ H fun b H1 => if b then elt σ H1 fun v H2 => W (acc ++ [v]) H2 else W acc H1)
    (fin : ∀ acc H, I [] acc H → K H ∧ Q acc H) : ∀ items acc H, I items acc H → compGo K bind test elt Q items acc H
  | [], acc, H, h => fin acc H h
  | x :: xs, acc, H, h => by
    obtain ⟨hK, σ, hb, hs⟩ := step x xs acc H h
    refine ⟨hK, ?_⟩
    rw [hb]
    exact hs (fun acc H => compGo K bind test elt Q xs acc H) fun acc' H' hi => comp_inv I step fin xs acc' H' hi
end
noncomputable def ofB (B : Bst) : List (Txt × V) := B.map fun b => (b.1, .int b.2.1)
section
variable {T : Tab}
noncomputable def spLeast : Spec := fun vs H Q _ => ∃ (n : Nat) (ws : List Txt), vs = [.ref n] ∧ n < H.length ∧ Ws H n ws ∧ Cd ws ∧ ∀ d H' ys B ep, H.length ≤ d → Keep H H' → ys.Perm ws → H'[d]? = some (.dict (ofB B) ep) → BI ys B → Shut ys (lenB B) → Q (.ref d) H'
theorem ct_least (h1 : Has T (nm 1651436) spLed) (h2 : Has T (nm 443303916565603) spChecked) (h3 : Has T (nm 244905188) spDict) : Ct T x_least b_least spLeast := by
  refine ct1 fun vs H Q X h => ?_
  obtain ⟨n, ws, rfl, hn, hw, hc, h⟩ := h
  refine ⟨_, rfl, ?_⟩
  refine s_asg ?_
  walk_at "ev"
  refine ⟨n, ws, rfl, hn, hw, hc, Nat.lt_of_le_of_lt (Nat.zero_le _) hn, fun ys p1 H1 hp hs hp1 hy k1 => ?_⟩
  have hyw : ∀ w ∈ ys, Wd 10 w := fun w h => hc.wd w (hp.mem_iff.mp h)
  have hyl : ys.length ≤ 12 := by rw [hp.length_eq]; exact hc.le
  walk_at "ev"
  refine ⟨p1, ys, rfl, lt_of_get hy, hy, hyl, hyw, fun d H2 B hd k2 hB hI hS => ?_⟩
  obtain ⟨es, ep, g1, g2⟩ := hB
  replace k1 := k1.trans k2
  have hBl : B.length ≤ 132 := by
    have h1 := hI.len
    have h2 := sufs_len ys fun w h => (hyw w h).le
    lia
  have hk := eq_keys g2
  refine r_ret ?_
  walk_at "ev"
  refine .dict g1 ⟨by rw [List.length_map, ← List.length_map (f := fun e : Txt × V => e.1), hk, List.length_map]; unfold lid; lia, ?_⟩
  have hks : (es.map fun e => Item.one (.str e.1)) = B.map fun b => .one (.str b.1) := by
    have := congrArg (List.map fun t => Item.one (.str t)) hk
    rw [List.map_map, List.map_map] at this
    exact this
  rw [hks]
  refine comp_inv (fun xs acc H' => Keep H2 H' ∧ ∃ bd br rs, B = bd ++ br ∧ xs = br.map (fun b => .one (.str b.1)) ∧ acc = rs.map .ref ∧ All2 (fun r (e : Txt × V) => H'[r]? = some (.tuple [.str e.1, e.2])) rs (ofB bd)) ?_ ?_ _ _ _ ⟨Keep.refl _, [], B, [], rfl, rfl, rfl, .nil⟩
  · rintro x xs acc H' ⟨kp, bd, br, rs, e, ex, ea, ha⟩
    cases br with
    | nil => cases ex
    | cons b br =>
      obtain ⟨rfl, rfl⟩ := List.cons.inj ex
      refine ⟨kp.get g1, _, rfl, fun W hW => ?_⟩
      have hbm : b ∈ B := by rw [e]; exact List.mem_append_right _ (.head _)
      refine if_tt ?_
      walk_at "ev"
      rcases eq_find (r := b.1) g2 with ⟨f1, f2⟩ | ⟨x, e', f1, f2, hx, m, hm, hst⟩
      · rw [lenB_of hI.nd b hbm] at f1; cases f1
      rw [lenB_of hI.nd b hbm] at f1
      cases f1
      obtain ⟨a, b', hma, had, hbd, t1, _, _⟩ := hst.ex
      refine b_dget (kp.get g1) f2 ?_
      rw [hm]
      walk_at "ev"
      refine b_att (k := 0) (kp.get t1) rfl ?_
      refine ⟨Nat.le_of_ble_eq_true rfl, ?_⟩
      refine hW _ _ ⟨kp.trans (Keep.new _ _), bd ++ [b], br, rs ++ [H'.length], by rw [e, List.append_assoc]; rfl, rfl, by rw [ea, List.map_append]; rfl, ?_⟩
      unfold ofB
      rw [List.map_append]
      exact (ha.mono fun _ _ z => (Keep.new _ _).get z).append (.cons get_new .nil)
  · rintro acc H' ⟨kp, bd, br, rs, e, ex, ea, ha⟩
    refine ⟨kp.get g1, ?_⟩
    cases br with
    | cons _ _ => cases ex
    | nil =>
      rw [List.append_nil] at e
      subst e ea
      refine .pairs get_new (ha.mono fun _ _ z => (Keep.new _ _).get z) ?_ fun ep' => ?_
      · unfold ofB; rw [List.map_map]; exact hI.nd
      · exact h _ _ ys B ep' (k1.trans (kp.trans (Keep.new _ _))).le (k1.trans (kp.trans ((Keep.new _ _).trans (Keep.new _ _)))) hp get_new hI hS
end
theorem stp_short {c w : Txt} (h : c.take w.length = w) : stp c w = some (c.drop w.length, false) := if_pos h
theorem stp_long {c w : Txt} (hl : c.length < w.length) (h : w.take c.length = c) : stp c w = some (w.drop c.length, true) := by
  unfold stp
  rw [if_neg fun q => ?_, if_pos h]
  have := congrArg List.length q
  rw [List.length_take] at this
  exact absurd (Nat.lt_of_lt_of_le hl (this ▸ Nat.min_le_right _ _)) (Nat.lt_irrefl _)
theorem flat_nil {ws : List Txt} (hpos : ∀ w ∈ ws, w ≠ []) {X : List Txt} (hX : ∀ w ∈ X, w ∈ ws) (h : X.flatten = []) : X = [] := by
  cases X with
  | nil => rfl
  | cons w X =>
    rw [List.flatten_cons] at h
    exact (hpos w (hX w (.head _)) (List.append_eq_nil_iff.mp h).1).elim
theorem snoc_of {X : List Txt} (h : X ≠ []) : ∃ X0 w, X = X0 ++ [w] := ⟨X.dropLast, X.getLast h, (List.dropLast_concat_getLast h).symm⟩
structure RunA (ws : List Txt) (f : Txt → Option Nat) (c : Txt) (L : Nat) (X Y : List Txt) (r : Txt) : Prop where
  le : Le f c L
  inX : ∀ w ∈ X, w ∈ ws
  inY : ∀ w ∈ Y, w ∈ ws
  eq : c ++ X.flatten = Y.flatten ++ r
  last : ∀ X0 w, X = X0 ++ [w] → c.length + X0.flatten.length ≤ Y.flatten.length
structure RunB (ws : List Txt) (f : Txt → Option Nat) (c : Txt) (L : Nat) (X Y : List Txt) (r : Txt) : Prop where
  le : Le f c L
  inX : ∀ w ∈ X, w ∈ ws
  inY : ∀ w ∈ Y, w ∈ ws
  eq : X.flatten = c ++ (Y.flatten ++ r)
  last : ∀ X0 w, X = X0 ++ [w] → X0.flatten.length ≤ c.length + Y.flatten.length
theorem Shut.reach {ws : List Txt} {f : Txt → Option Nat} (S : Shut ws f) (hpos : ∀ w ∈ ws, w ≠ []) : ∀ (n : Nat) (c : Txt) (L : Nat) (X Y : List Txt) (r : Txt), X.length + Y.length ≤ n →
    (RunA ws f c L X Y r → Le f r (L + X.flatten.length)) ∧ (RunB ws f c L X Y r → ∀ N, L + X.flatten.length ≤ N + c.length → Le f r N)
  | n, c, L, X, Y, r, hn => by
    constructor
    · intro R
      cases Y with
      | nil =>
        have e := R.eq
        rw [List.flatten_nil, List.nil_append] at e
        by_cases hX : X = []
        · subst hX
          rw [List.flatten_nil, List.append_nil] at e
          rw [← e]; exact R.le.mono (Nat.le_add_right _ _)
        · obtain ⟨X0, z, rfl⟩ := snoc_of hX
          have h0 := R.last X0 z rfl
          rw [List.flatten_nil, List.length_nil, Nat.le_zero, Nat.add_eq_zero_iff] at h0
          have hc := List.length_eq_zero_iff.mp h0.1
          have hX0 := flat_nil hpos (fun w h => R.inX w (List.mem_append_left _ h)) (List.length_eq_zero_iff.mp h0.2)
          subst hc hX0
          have hz := R.inX z (.head _)
          rw [List.nil_append, List.nil_append, flat_one1] at e
          have := S.step R.le hz (stp_long (c := []) (List.length_pos_iff.mpr (hpos z hz)) rfl)
          rw [← e, List.nil_append, flat_one1]
          exact this
      | cons w Y =>
        cases n with
        | zero => rw [List.length_cons] at hn; exact absurd hn (Nat.not_succ_le_zero _)
        | succ n =>
        have hw := R.inY w (.head _)
        have e := R.eq
        rw [List.flatten_cons, List.append_assoc] at e
        have hn' : X.length + Y.length ≤ n := by rw [List.length_cons] at hn; exact Nat.le_of_succ_le_succ hn
        by_cases hl : w.length ≤ c.length
        · obtain ⟨h1, h2⟩ := cut_app e hl
          refine (S.reach hpos n _ _ X Y r hn').1 ⟨S.step R.le hw (stp_short h1), R.inX, fun u hu => R.inY u (.tail _ hu), h2, fun X0 z hz => ?_⟩
          have := R.last X0 z hz
          rw [List.flatten_cons, List.length_append] at this
          rw [List.length_drop]; lia
        · obtain ⟨h1, h2⟩ := cut_app e.symm (by lia : c.length ≤ w.length)
          refine (S.reach hpos n _ _ X Y r hn').2 ⟨S.step R.le hw (stp_long (by lia) h1), R.inX, fun u hu => R.inY u (.tail _ hu), h2.symm, fun X0 z hz => ?_⟩ _ (by rw [if_pos rfl]; lia)
          have := R.last X0 z hz
          rw [List.flatten_cons, List.length_append] at this
          rw [List.length_drop]; lia
    · intro R N hN
      cases X with
      | nil =>
        have e := R.eq
        rw [List.flatten_nil] at e
        obtain ⟨h1, h2⟩ := List.append_eq_nil_iff.mp e.symm
        obtain ⟨_, h3⟩ := List.append_eq_nil_iff.mp h2
        rw [h3]
        rw [h1] at hN
        exact (h1 ▸ R.le).mono (by rw [List.flatten_nil, List.length_nil] at hN; exact hN)
      | cons w X =>
        cases n with
        | zero => rw [List.length_cons, Nat.add_right_comm] at hn; exact absurd hn (Nat.not_succ_le_zero _)
        | succ n =>
        have hw := R.inX w (.head _)
        have e := R.eq
        rw [List.flatten_cons] at e
        have hn' : X.length + Y.length ≤ n := by rw [List.length_cons, Nat.add_right_comm] at hn; exact Nat.le_of_succ_le_succ hn
        rw [List.flatten_cons, List.length_append] at hN
        by_cases hl : w.length ≤ c.length
        · obtain ⟨h1, h2⟩ := cut_app e.symm hl
          refine (S.reach hpos n _ _ X Y r hn').2 ⟨S.step R.le hw (stp_short h1), fun u hu => R.inX u (.tail _ hu), R.inY, h2.symm, fun X0 z hz => ?_⟩ N (by rw [List.length_drop, if_neg (by decide)]; lia)
          have := R.last (w :: X0) z (by rw [hz]; rfl)
          rw [List.flatten_cons, List.length_append] at this
          rw [List.length_drop]; lia
        · obtain ⟨h1, h2⟩ := cut_app e (by lia : c.length ≤ w.length)
          refine ((S.reach hpos n _ _ X Y r hn').1 ⟨S.step R.le hw (stp_long (by lia) h1), fun u hu => R.inX u (.tail _ hu), R.inY, h2, fun X0 z hz => ?_⟩).mono (by rw [List.length_drop, if_pos rfl]; lia)
          have := R.last (w :: X0) z (by rw [hz]; rfl)
          rw [List.flatten_cons, List.length_append] at this
          rw [List.length_drop]; lia
theorem Shut.gd {ws : List Txt} {f : Txt → Option Nat} (S : Shut ws f) (hpos : ∀ w ∈ ws, w ≠ []) {r : Txt} {l : Nat} {p q : List Txt} (g : Gd ws r l p q) : Le f r l := by
  obtain ⟨a, p', b, q', rfl, rfl, hne⟩ := g.ne
  have e := g.eq
  rw [List.flatten_cons, List.flatten_cons, List.append_assoc] at e
  have ha := g.inp a (.head _)
  have hb := g.inq b (.head _)
  have hl := g.len
  rw [List.flatten_cons, List.length_append] at hl
  have last : ∀ X0 z, p' = X0 ++ [z] → a.length + X0.flatten.length ≤ b.length + q'.flatten.length := fun X0 z hz => by
    obtain ⟨p0, w, e1, h1⟩ := g.last
    rw [hz, ← List.cons_append] at e1
    have := (List.append_inj' e1 rfl).1
    rw [← this, List.flatten_cons, List.flatten_cons, List.length_append, List.length_append] at h1
    exact h1
  by_cases h : b.length ≤ a.length
  · obtain ⟨h1, h2⟩ := cut_app e h
    rw [hl]
    refine (S.reach hpos _ _ _ p' q' r (Nat.le_refl _)).1 ⟨S.beg a ha b hb hne h1, fun u hu => g.inp u (.tail _ hu), fun u hu => g.inq u (.tail _ hu), h2, fun X0 z hz => ?_⟩
    have := last X0 z hz
    rw [List.length_drop]; lia
  · obtain ⟨h1, h2⟩ := cut_app e.symm (by lia : a.length ≤ b.length)
    refine (S.reach hpos _ _ _ p' q' r (Nat.le_refl _)).2 ⟨S.beg b hb a ha hne.symm h1, fun u hu => g.inp u (.tail _ hu), fun u hu => g.inq u (.tail _ hu), h2.symm, fun X0 z hz => ?_⟩ l (by rw [List.length_drop]; lia)
    have := last X0 z hz
    rw [List.length_drop]; lia
theorem Gd.mem {ws us : List Txt} {r : Txt} {l : Nat} {p q : List Txt} (g : Gd ws r l p q) (h : ∀ w ∈ ws, w ∈ us) : Gd us r l p q := ⟨g.eq, g.len, g.ne, fun w hw => h w (g.inp w hw), fun w hw => h w (g.inq w hw), g.last⟩
theorem BI.found {ws : List Txt} {B : Bst} (I : BI ws B) {r : Txt} {l : Nat} (h : lenB B r = some l) : ∃ p q, Gd ws r l p q := by
  obtain ⟨b, hb, rfl, rfl⟩ := lenB_mem h
  exact ⟨_, _, I.gd b hb⟩
theorem least_one {ws us : List Txt} {B C : Bst} (hpos : ∀ w ∈ us, w ≠ []) (hm : ∀ w, w ∈ ws ↔ w ∈ us) (hB : BI ws B) (sB : Shut ws (lenB B)) (hC : BI us C) (sC : Shut us (lenB C)) (r : Txt) : lenB B r = lenB C r := by
  have go1 : ∀ l, lenB B r = some l → Le (lenB C) r l := fun l h => let ⟨_, _, g⟩ := hB.found h; sC.gd hpos (g.mem fun w => (hm w).mp)
  have go2 : ∀ l, lenB C r = some l → Le (lenB B) r l := fun l h => let ⟨_, _, g⟩ := hC.found h; sB.gd (fun w hw => hpos w ((hm w).mp hw)) (g.mem fun w => (hm w).mpr)
  cases e : lenB B r with
  | none =>
    cases e2 : lenB C r with
    | none => rfl
    | some l => obtain ⟨m, e3, _⟩ := go2 l e2; rw [e] at e3; cases e3
  | some l =>
    obtain ⟨m, e3, h3⟩ := go1 l e
    obtain ⟨k, e4, h4⟩ := go2 m e3
    rw [e] at e4; cases e4
    rw [e3, Nat.le_antisymm h3 h4]
noncomputable def x_shared : List Str := [(nm 245248756), (nm 30815173231)]
noncomputable def b_shared : PS := (.seq (.assign (.name (nm 255570157)) (.int 0)) (.seq (.while_ (.and (.cmp1 .Lt (.name (nm 255570157)) (.call (.glob (nm 1815789)) (.cons (.call (.glob (nm 1815276)) (.cons (.name (nm 245248756)) .nil)) (.cons (.call (.glob (nm 1815276)) (.cons (.name (nm 30815173231)) .nil)) .nil)))) (.cmp1 .Eq (.sub (.name (nm 245248756)) (.name (nm 255570157))) (.sub (.name (nm 30815173231)) (.name (nm 255570157))))) (.seq (.assign (.name (nm 255570157)) (.bin .Add (.name (nm 255570157)) (.int 1))) .skip)) (.seq (.ret (.name (nm 255570157))) .skip)))
noncomputable def x_height_by : List Str := [(nm 245166834), (nm 31081674743), (nm 27076163558)]
noncomputable def b_height_by : PS := (.seq (.assign (.name (nm 245166818)) (.int 0)) (.seq (.for_ (.name (nm 211597303)) (.itVal (.name (nm 31081674743))) (.seq (.assign (.name (nm 236550771)) (.call (.glob (nm 443305286007411)) (.cons (.name (nm 245166834)) (.cons (.name (nm 211597303)) .nil)))) (.seq (.ite (.cmp1 .Is (.name (nm 236550771)) .none) (.seq (.assign (.name (nm 245166818)) (.call (.glob (nm 1978605)) (.cons (.name (nm 245166818)) (.cons (.call (.glob (nm 3463326495859)) (.cons (.name (nm 245166834)) (.cons (.name (nm 211597303)) .nil))) .nil)))) .skip) (.seq (.ite (.sub (.name (nm 236550771)) (.int 1)) (.seq (.assign (.name (nm 245166818)) (.call (.glob (nm 1978605)) (.cons (.name (nm 245166818)) (.cons (.bin .Add (.call (.glob (nm 1815276)) (.cons (.name (nm 245166834)) .nil)) (.sub (.name (nm 27076163558)) (.sub (.name (nm 236550771)) (.int 0)))) .nil)))) .skip) (.seq (.assign (.name (nm 245166818)) (.call (.glob (nm 1978605)) (.cons (.name (nm 245166818)) (.cons (.bin .Add (.call (.glob (nm 1815276)) (.cons (.name (nm 211597303)) .nil)) (.sub (.name (nm 27076163558)) (.sub (.name (nm 236550771)) (.int 0)))) .nil)))) .skip)) .skip)) .skip))) (.seq (.ret (.name (nm 245166818))) .skip)))
noncomputable def x_is_settled : List Str := [(nm 245166834), (nm 31081674743), (nm 27076163558)]
noncomputable def b_is_settled : PS := (.seq (.assign (.name (nm 31106628211)) (.comp0 (.call (.glob (nm 443305286007411)) (.cons (.name (nm 245166834)) (.cons (.name (nm 211597303)) .nil))) (.name (nm 211597303)) (.itVal (.name (nm 31081674743))))) (.seq (.ret (.call (.glob (nm 1783393)) (.cons (.comp0 (.or (.cmp1 .Is (.name (nm 236550771)) .none) (.cmp1 .In (.sub (.name (nm 236550771)) (.int 0)) (.name (nm 27076163558)))) (.name (nm 236550771)) (.itVal (.name (nm 31106628211)))) .nil))) .skip))
noncomputable def x_settled : List Str := [(nm 31081674743)]
noncomputable def b_settled_4 : PS := (.seq (.ret (.name (nm 27076163558))) .skip)
noncomputable def b_settled_l2 : PS := (.seq (.ite (.and (.cmp1 .NotIn (.name (nm 245166834)) (.name (nm 27076163558))) (.call (.glob (nm 929676333464757467625)) (.cons (.name (nm 245166834)) (.cons (.name (nm 31081674743)) (.cons (.name (nm 27076163558)) .nil))))) (.seq (.setItem (.name (nm 27076163558)) (.name (nm 245166834)) (.call (.glob (nm 8774559802307801832)) (.cons (.name (nm 245166834)) (.cons (.name (nm 31081674743)) (.cons (.name (nm 27076163558)) .nil))))) (.seq (.assign (.name (nm 4116153104873)) (.bool true)) .skip)) .skip) .skip)
noncomputable def b_settled_l1_1 : PS := (.seq (.for_ (.name (nm 245166834)) (.itVal (.name (nm 31115244274))) b_settled_l2) .skip)
noncomputable def b_settled_l1 : PS := (.seq (.assign (.name (nm 4116153104873)) (.bool false)) b_settled_l1_1)
noncomputable def b_settled_3 : PS := (.seq (.while_ (.name (nm 4116153104873)) b_settled_l1) b_settled_4)
noncomputable def b_settled_2 : PS := (.seq (.assign (.name (nm 4116153104873)) (.bool true)) b_settled_3)
noncomputable def b_settled_1 : PS := (.seq (.assign (.name (nm 27076163558)) .dict0) b_settled_2)
noncomputable def b_settled : PS := (.seq (.assign (.name (nm 31115244274)) (.call (.glob (nm 3463330969587)) (.cons (.call (.glob (nm 1651436)) (.cons (.name (nm 31081674743)) .nil)) .nil))) b_settled_1)
noncomputable def x_heights : List Str := [(nm 31081674743)]
noncomputable def b_heights : PS := (.seq (.assign (.name (nm 1817583)) (.call (.glob (nm 443303916565603)) (.cons (.name (nm 31081674743)) .nil))) (.seq (.assign (.name (nm 27076163558)) (.call (.glob (nm 443304220898035)) (.cons (.name (nm 1817583)) .nil))) (.seq (.ret (.call (.glob (nm 244905188)) (.cons (.comp0 (.tuple (.cons (.name (nm 245166834)) (.cons (.meth (.name (nm 27076163558)) (nm 1913575) (.cons (.name (nm 245166834)) (.cons .none .nil))) .nil))) (.name (nm 245166834)) (.itVal (.call (.glob (nm 1651436)) (.cons (.name (nm 1817583)) .nil)))) .nil))) .skip)))
noncomputable def x_law_shared : List Str := [(nm 57345570095265375), (nm 1058801290007509759583)]
noncomputable def b_law_shared : PS := (.seq (.assign (.name (nm 8781323754941216351)) (.int 0)) (.seq (.while_ (.and (.cmp1 .Lt (.name (nm 8781323754941216351)) (.call (.glob (nm 1815789)) (.cons (.call (.glob (nm 1815276)) (.cons (.name (nm 57345570095265375)) .nil)) (.cons (.call (.glob (nm 1815276)) (.cons (.name (nm 1058801290007509759583)) .nil)) .nil)))) (.cmp1 .Eq (.sub (.name (nm 57345570095265375)) (.name (nm 8781323754941216351))) (.sub (.name (nm 1058801290007509759583)) (.name (nm 8781323754941216351))))) (.seq (.assign (.name (nm 8781323754941216351)) (.bin .Add (.name (nm 8781323754941216351)) (.int 1))) .skip)) (.seq (.ret (.name (nm 8781323754941216351))) .skip)))
noncomputable def shr : Txt → Txt → Nat
  | a :: x, b :: y => if a = b then shr x y + 1 else 0
  | _, _ => 0
theorem shr_eq {t u : Txt} {i : Nat} (h1 : i < t.length) (h2 : i < u.length) (e : t[i] = u[i]) : shr (t.drop i) (u.drop i) = shr (t.drop (i + 1)) (u.drop (i + 1)) + 1 := by
  rw [List.drop_eq_getElem_cons h1, List.drop_eq_getElem_cons h2, shr, if_pos e]
theorem shr_ne {t u : Txt} {i : Nat} (h1 : i < t.length) (h2 : i < u.length) (e : t[i] ≠ u[i]) : shr (t.drop i) (u.drop i) = 0 := by
  rw [List.drop_eq_getElem_cons h1, List.drop_eq_getElem_cons h2, shr, if_neg e]
theorem shr_out {t u : Txt} {i : Nat} (h : ¬ (i < t.length ∧ i < u.length)) : shr (t.drop i) (u.drop i) = 0 := by
  by_cases h1 : i < t.length
  · rw [List.drop_of_length_le (l := u) (by lia)]
    cases t.drop i <;> rfl
  · rw [List.drop_of_length_le (l := t) (by lia)]; rfl
theorem one_at {t : Txt} {i : Nat} (h : i < t.length) : (t.drop i).take 1 = [t[i]] := by rw [List.drop_eq_getElem_cons h]; rfl
theorem min_lt {i a b : Int} (h : i < if b < a then b else a) : i < a ∧ i < b := by
  split at h
  · exact ⟨Int.lt_trans h ‹_›, h⟩
  · exact ⟨h, Int.lt_of_lt_of_le h (Int.not_lt.mp ‹_›)⟩
noncomputable def Mx (f : Txt → Nat) (ws : List Txt) : Nat := ws.foldl (fun b w => max b (f w)) 0
theorem mx_snoc (f : Txt → Nat) (ws : List Txt) (w : Txt) : Mx f (ws ++ [w]) = max (Mx f ws) (f w) := by unfold Mx; rw [List.foldl_append]; rfl
theorem mx_le {f : Txt → Nat} {m : Nat} : ∀ (ws : List Txt) (a : Nat), ws.foldl (fun b w => max b (f w)) a ≤ m ↔ a ≤ m ∧ ∀ w ∈ ws, f w ≤ m
  | [], a => ⟨fun h => ⟨h, fun _ h => nomatch h⟩, fun h => h.1⟩
  | w :: ws, a => by
    rw [List.foldl_cons, mx_le ws, Nat.max_le, List.forall_mem_cons, and_assoc]
theorem mx_mem {f : Txt → Nat} {ws us : List Txt} (h : ∀ w, w ∈ ws ↔ w ∈ us) : Mx f ws = Mx f us :=
  Nat.le_antisymm ((mx_le ws 0).mpr ⟨Nat.zero_le _, fun w hw => ((mx_le us 0).mp (Nat.le_refl _)).2 w ((h w).mp hw)⟩) ((mx_le us 0).mpr ⟨Nat.zero_le _, fun w hw => ((mx_le ws 0).mp (Nat.le_refl _)).2 w ((h w).mpr hw)⟩)
theorem mx_congr {f g : Txt → Nat} : ∀ {ws : List Txt}, (∀ w ∈ ws, f w = g w) → Mx f ws = Mx g ws := by
  have go : ∀ (ws : List Txt) (a : Nat), (∀ w ∈ ws, f w = g w) → ws.foldl (fun b w => max b (f w)) a = ws.foldl (fun b w => max b (g w)) a := by
    intro ws
    induction ws with
    | nil => intro a _; rfl
    | cons w ws ih => intro a h; rw [List.foldl_cons, List.foldl_cons, h w (.head _)]; exact ih _ fun u hu => h u (.tail _ hu)
  exact fun {ws} h => go ws 0 h
noncomputable def one (v : Txt → Option Nat) (r w : Txt) : Nat := match stp r w with
  | none => shr r w
  | some (r', b) => (if b then r.length else w.length) + (v r').getD 0
noncomputable def hgt (v : Txt → Option Nat) (ws : List Txt) (r : Txt) : Nat := Mx (one v r) ws
theorem one_congr {v v' : Txt → Option Nat} {r w : Txt} (h : ∀ r' b, stp r w = some (r', b) → v r' = v' r') : one v r w = one v' r w := by
  unfold one
  cases e : stp r w with
  | none => rfl
  | some z => obtain ⟨r', b⟩ := z; dsimp only; rw [h r' b e]
theorem hgt_congr {v v' : Txt → Option Nat} {ws : List Txt} {r : Txt} (h : ∀ w ∈ ws, ∀ r' b, stp r w = some (r', b) → v r' = v' r') : hgt v ws r = hgt v' ws r := mx_congr fun w hw => one_congr (h w hw)
abbrev Tbl := List (Txt × Nat)
noncomputable def val (F : Tbl) (r : Txt) : Option Nat := (F.find? fun e => e.1 == r).map (·.2)
noncomputable def ofT (F : Tbl) : List (Txt × V) := F.map fun e => (e.1, .int e.2)
theorem ofT_find (F : Tbl) (r : Txt) : ((ofT F).find? fun e => e.1 == r).map (·.2) = (val F r).map fun (l : Nat) => V.int l := by
  unfold ofT val
  rw [List.find?_map]
  induction F with
  | nil => rfl
  | cons b B ih =>
    rw [List.find?_cons, List.find?_cons]
    show Option.map _ (Option.map _ (match b.1 == r with | true => some b | false => _)) = _
    cases b.1 == r with
    | true => rfl
    | false => exact ih
theorem ofT_any (F : Tbl) (r : Txt) : ((ofT F).any fun e => e.1 == r) = (val F r).isSome := by
  induction F with
  | nil => rfl
  | cons b F ih =>
    show ((b.1 == r) || (ofT F).any fun e => e.1 == r) = _
    unfold val
    rw [List.find?_cons]
    cases b.1 == r with
    | true => rfl
    | false => exact ih
structure DH (H : AHeap) (d : Nat) (F : Tbl) : Prop where
  ex : ∃ ep, H[d]? = some (.dict (ofT F) ep)
theorem DH.keep {H H' : AHeap} {d : Nat} {F : Tbl} (h : DH H d F) (k : Keep H H') : DH H' d F := by obtain ⟨ep, e⟩ := h.ex; exact ⟨ep, k.get e⟩
theorem DH.get {H : AHeap} {d n : Nat} {F : Tbl} {r : Txt} {p : V → Prop} (h : DH H d F) (hr : val F r = some n) (k : p (.int n)) : subA (.ref d) (.str r) H p := by
  obtain ⟨ep, e⟩ := h.ex
  have := ofT_find F r
  rw [hr] at this
  obtain ⟨x, hx, ev⟩ := Option.map_eq_some_iff.mp this
  exact b_dget e hx (by rw [ev]; exact k)
theorem DH.in {H : AHeap} {d : Nat} {F : Tbl} {r : Txt} {q : Bool → Prop} (h : DH H d F) (k : q (val F r).isSome) : cmpA .In (.str r) (.ref d) H q := by
  obtain ⟨ep, e⟩ := h.ex
  exact c_ind e (by rw [ofT_any]; exact k)
theorem DH.nin {H : AHeap} {d : Nat} {F : Tbl} {r : Txt} {q : Bool → Prop} (h : DH H d F) (k : q (!(val F r).isSome)) : cmpA .NotIn (.str r) (.ref d) H q := by
  obtain ⟨ep, e⟩ := h.ex
  exact c_nind e (by rw [ofT_any]; exact k)
noncomputable def Sd (F : Tbl) (ws : List Txt) (r : Txt) : Prop := ∀ w ∈ ws, ∀ r' b, stp r w = some (r', b) → (val F r').isSome = true
theorem max_if (a b : Nat) : (if ((b : Nat) : Int) > ((a : Nat) : Int) then ((b : Nat) : Int) else ((a : Nat) : Int)) = ((max a b : Nat) : Int) := by split <;> lia
section
variable {T : Tab}
noncomputable def spShr : Spec := fun vs H Q _ => ∃ t u : Txt, vs = [.str t, .str u] ∧ Q (.int (shr t u)) H
theorem ct_shared (h1 : Has T (nm 1815276) spLen) (h2 : Has T (nm 1815789) spMin) : Ct T x_shared b_shared spShr := by
  refine ct2 fun vs H Q X h => ?_
  obtain ⟨t, u, rfl, h⟩ := h
  refine ⟨_, _, rfl, ?_⟩
  refine s_asg ?_
  walk_at "ev"
  refine r_while ⟨_, while_ind (fun m σ H' => H' = H ∧ (∃ i : Nat, i + m = t.length ∧ shr t u = i + shr (t.drop i) (u.drop i) ∧ σ (nm 255570157) = some (.int i)) ∧ σ (nm 245248756) = some (.str t) ∧ σ (nm 30815173231) = some (.str u)) ?_ t.length _ _ ⟨rfl, ⟨0, Nat.zero_add _, (Nat.zero_add _).symm, hit⟩, by walk_at "nm", by walk_at "nm"⟩⟩
  rintro m σ H' ⟨rfl, ⟨i, hi, hs, s1⟩, s2, s3⟩ W hW
  walk_at "ev"
  refine ⟨_, _, rfl, ?_⟩
  walk_at "ev"
  refine if_dec (fun hlt => ?_) fun hge => ?_
  · obtain ⟨l1, l2⟩ := min_lt hlt
    have l1' : i < t.length := Int.ofNat_lt.mp l1
    have l2' : i < u.length := Int.ofNat_lt.mp l2
    walk_at "ev"
    refine .str (.pos (Int.natCast_nonneg _) l1) ?_
    walk_at "ev"
    refine .str (.pos (Int.natCast_nonneg _) l2) ?_
    walk_at "ev"
    rw [Int.toNat_natCast, one_at l1', one_at l2']
    refine if_dec (fun e => ?_) fun e => ?_
    · walk_at "ev"
      exact hW (m - 1) _ _ (by lia) ⟨rfl, ⟨i + 1, by lia, by rw [hs, shr_eq l1' l2' (List.cons.inj e).1]; lia, hit⟩, by walk_at "nm", by walk_at "nm"⟩
    · walk_at "ev"
      rw [hs, shr_ne l1' l2' fun z => e (by rw [z]), Nat.add_zero] at h
      exact h
  · walk_at "ev"
    have : shr (t.drop i) (u.drop i) = 0 := shr_out fun z => hge (by split <;> lia)
    rw [hs, this, Nat.add_zero] at h
    exact h
theorem ct_law_shared (h1 : Has T (nm 1815276) spLen) (h2 : Has T (nm 1815789) spMin) : Ct T x_law_shared b_law_shared spShr := by
  refine ct2 fun vs H Q X h => ?_
  obtain ⟨t, u, rfl, h⟩ := h
  refine ⟨_, _, rfl, ?_⟩
  refine s_asg ?_
  walk_at "ev"
  refine r_while ⟨_, while_ind (fun m σ H' => H' = H ∧ (∃ i : Nat, i + m = t.length ∧ shr t u = i + shr (t.drop i) (u.drop i) ∧ σ (nm 8781323754941216351) = some (.int i)) ∧ σ (nm 57345570095265375) = some (.str t) ∧ σ (nm 1058801290007509759583) = some (.str u)) ?_ t.length _ _ ⟨rfl, ⟨0, Nat.zero_add _, (Nat.zero_add _).symm, hit⟩, by walk_at "nm", by walk_at "nm"⟩⟩
  rintro m σ H' ⟨rfl, ⟨i, hi, hs, s1⟩, s2, s3⟩ W hW
  walk_at "ev"
  refine ⟨_, _, rfl, ?_⟩
  walk_at "ev"
  refine if_dec (fun hlt => ?_) fun hge => ?_
  · obtain ⟨l1, l2⟩ := min_lt hlt
    have l1' : i < t.length := Int.ofNat_lt.mp l1
    have l2' : i < u.length := Int.ofNat_lt.mp l2
    walk_at "ev"
    refine .str (.pos (Int.natCast_nonneg _) l1) ?_
    walk_at "ev"
    refine .str (.pos (Int.natCast_nonneg _) l2) ?_
    walk_at "ev"
    rw [Int.toNat_natCast, one_at l1', one_at l2']
    refine if_dec (fun e => ?_) fun e => ?_
    · walk_at "ev"
      exact hW (m - 1) _ _ (by lia) ⟨rfl, ⟨i + 1, by lia, by rw [hs, shr_eq l1' l2' (List.cons.inj e).1]; lia, hit⟩, by walk_at "nm", by walk_at "nm"⟩
    · walk_at "ev"
      rw [hs, shr_ne l1' l2' fun z => e (by rw [z]), Nat.add_zero] at h
      exact h
  · walk_at "ev"
    have : shr (t.drop i) (u.drop i) = 0 := shr_out fun z => hge (by split <;> lia)
    rw [hs, this, Nat.add_zero] at h
    exact h
noncomputable def spHb : Spec := fun vs H Q _ => ∃ (r : Txt) (n d : Nat) (ws : List Txt) (F : Tbl), vs = [.str r, .ref n, .ref d] ∧ Ws H n ws ∧ DH H d F ∧ Sd F ws r ∧ ∀ H', Keep H H' → Q (.int (hgt (val F) ws r)) H'
theorem ct_height_by (h1 : Has T (nm 443305286007411) spStepped) (h2 : Has T (nm 1815276) spLen) (h3 : Has T (nm 1978605) spMax) (h4 : Has T (nm 3463326495859) spShr) : Ct T x_height_by b_height_by spHb := by
  refine ct3 fun vs H Q X h => ?_
  obtain ⟨r, n, d, ws, F, rfl, hn, hd, hs, h⟩ := h
  refine ⟨_, _, _, rfl, ?_⟩
  refine s_asg ?_
  walk_at "ev"
  refine r_for ?_
  walk_at "ev"
  refine i_list hn ?_
  refine for_inv (fun xs σ H' => Keep H H' ∧ (∃ us rs, ws = us ++ rs ∧ xs = rs.map (fun w => .one (.str w)) ∧ σ (nm 245166818) = some (.int (Mx (one (val F) r) us))) ∧ (σ (nm 245166834) = some (.str r) ∧ σ (nm 27076163558) = some (.ref d))) ?_ ?_ ⟨Keep.refl _, ⟨[], ws, rfl, List.map_map, hit⟩, ⟨by walk_at "nm", by walk_at "nm"⟩⟩
  · rintro x xs σ H' ⟨kp, ⟨us, rs, e, ex, s0⟩, ⟨s1, s2⟩⟩
    cases rs with
    | nil => cases ex
    | cons w rs =>
    obtain ⟨rfl, rfl⟩ := List.cons.inj ex
    have hw : w ∈ ws := by rw [e]; simp
    refine ⟨kp.get hn, _, rfl, fun W hW => ?_⟩
    have next : ∀ σ' H2, Keep H' H2 → σ' (nm 245166818) = some (.int (max (Mx (one (val F) r) us) (one (val F) r w) : Nat)) → σ' (nm 245166834) = some (.str r) → σ' (nm 27076163558) = some (.ref d) → W σ' H2 := fun σ' H2 k2 e1 e2 e3 => hW _ _ ⟨kp.trans k2, ⟨us ++ [w], rs, by rw [e, List.append_assoc]; rfl, rfl, by rw [mx_snoc]; exact e1⟩, ⟨e2, e3⟩⟩
    refine s_asg ?_
    walk_at "ev"
    refine ⟨r, w, rfl, ?_⟩
    unfold StepQ
    cases hst : stp r w with
    | none =>
      have e1 : one (val F) r w = shr r w := by unfold one; rw [hst]
      rw [e1] at next
      dsimp only
      refine s_ite ?_
      walk_at "ev"
      refine if_t rfl ?_
      walk_at "ev"
      refine ⟨r, w, rfl, ?_⟩
      refine ⟨_, _, rfl, ?_⟩
      rw [max_if]
      walk_at "ev"
      exact next _ _ (Keep.refl _) hit (by walk_at "nm") (by walk_at "nm")
    | some z =>
      obtain ⟨r', t⟩ := z
      obtain ⟨m, hm⟩ := Option.isSome_iff_exists.mp (hs w hw r' t hst)
      have e1 : one (val F) r w = (if t then r.length else w.length) + m := by unfold one; rw [hst]; dsimp only; rw [hm]; rfl
      rw [e1] at next
      dsimp only
      have k1 : Keep H' (H' ++ [.tuple [.str r', .bool t]]) := Keep.new _ _
      have g1 : (H' ++ [AObj.tuple [V.str r', V.bool t]])[H'.length]? = some (.tuple [.str r', .bool t]) := get_new
      generalize H' ++ [AObj.tuple [V.str r', V.bool t]] = H1 at k1 g1
      have hf := hd.keep (kp.trans k1)
      refine s_ite ?_
      walk_at "ev"
      refine if_f rfl ?_
      walk_at "ev"
      refine b_att (k := 1) g1 rfl ?_
      cases t with
      | true =>
        walk_at "ev"
        refine b_att (k := 0) g1 rfl ?_
        refine hf.get hm ?_
        walk_at "ev"
        refine ⟨_, _, rfl, ?_⟩
        rw [← Int.natCast_add, max_if]
        walk_at "ev"
        exact next _ _ k1 hit (by walk_at "nm") (by walk_at "nm")
      | false =>
        walk_at "ev"
        refine b_att (k := 0) g1 rfl ?_
        refine hf.get hm ?_
        walk_at "ev"
        refine ⟨_, _, rfl, ?_⟩
        rw [← Int.natCast_add, max_if]
        walk_at "ev"
        exact next _ _ k1 hit (by walk_at "nm") (by walk_at "nm")
  · rintro σ H' ⟨kp, ⟨us, rs, e, ex, s0⟩, _⟩
    refine ⟨kp.get hn, ?_⟩
    cases rs with
    | cons _ _ => cases ex
    | nil =>
    rw [List.append_nil] at e
    subst e
    walk_at "ev"
    exact h _ kp
noncomputable def SR (H : AHeap) (o : Option (Txt × Bool)) (v : V) : Prop := match o with
  | none => v = .none
  | some (r, b) => ∃ a, v = .ref a ∧ H[a]? = some (.tuple [.str r, .bool b])
theorem SR.keep {H H' : AHeap} (k : Keep H H') : ∀ {o : Option (Txt × Bool)} {v : V}, SR H o v → SR H' o v
  | none, _, h => h
  | some (_, _), _, ⟨a, e, g⟩ => ⟨a, e, k.get g⟩
noncomputable def ok1 (F : Tbl) (o : Option (Txt × Bool)) : Bool := match o with
  | none => true
  | some (r, _) => (val F r).isSome
theorem ok1_all {F : Tbl} {ws : List Txt} {r : Txt} : ((ws.map fun w => ok1 F (stp r w)).all id = true) ↔ Sd F ws r := by
  rw [List.all_eq_true]
  constructor
  · intro h w hw r' b e
    have := h _ (List.mem_map.mpr ⟨w, hw, rfl⟩)
    rw [e] at this
    exact this
  · intro h x hx
    obtain ⟨w, hw, rfl⟩ := List.mem_map.mp hx
    cases e : stp r w with
    | none => rfl
    | some z => exact h w hw z.1 z.2 e
noncomputable def spIss : Spec := fun vs H Q _ => ∃ (r : Txt) (n d : Nat) (ws : List Txt) (F : Tbl), vs = [.str r, .ref n, .ref d] ∧ Ws H n ws ∧ ws.length ≤ 12 ∧ DH H d F ∧ ∀ b H', Keep H H' → (b = true ↔ Sd F ws r) → Q (.bool b) H'
theorem ct_is_settled (h1 : Has T (nm 443305286007411) spStepped) (h2 : Has T (nm 1783393) spAll) : Ct T x_is_settled b_is_settled spIss := by
  refine ct3 fun vs H Q X h => ?_
  obtain ⟨r, n, d, ws, F, rfl, hn, hl, hd, h⟩ := h
  have hl' : ws.length ≤ lid := Nat.le_trans hl (by decide)
  refine ⟨_, _, _, rfl, ?_⟩
  refine s_asg ?_
  walk_at "ev"
  refine i_list hn ⟨by rw [List.length_map, List.length_map]; exact hl', ?_⟩
  refine comp_inv (fun xs acc H' => Keep H H' ∧ ∃ us rs, ws = us ++ rs ∧ xs = rs.map (fun w => .one (.str w)) ∧ All2 (fun w v => SR H' (stp r w) v) us acc) ?_ ?_ _ _ _ ⟨Keep.refl _, [], ws, rfl, List.map_map, .nil⟩
  · rintro x xs acc H' ⟨kp, us, rs, e, ex, ha⟩
    cases rs with
    | nil => cases ex
    | cons w rs =>
      obtain ⟨rfl, rfl⟩ := List.cons.inj ex
      refine ⟨kp.get hn, _, rfl, fun W hW => ?_⟩
      have next : ∀ v H2, Keep H' H2 → SR H2 (stp r w) v → W (acc ++ [v]) H2 := fun v H2 k2 hv => hW _ _ ⟨kp.trans k2, us ++ [w], rs, by rw [e, List.append_assoc]; rfl, rfl, (ha.mono fun _ _ z => z.keep k2).append (.cons hv .nil)⟩
      refine if_tt ?_
      walk_at "ev"
      refine ⟨r, w, rfl, ?_⟩
      unfold StepQ
      cases hst : stp r w with
      | none => exact next _ _ (Keep.refl _) (by rw [hst]; rfl)
      | some z => exact next _ _ (Keep.new _ _) (by rw [hst]; exact ⟨_, rfl, get_new⟩)
  · rintro acc H' ⟨kp, us, rs, e, ex, ha⟩
    refine ⟨kp.get hn, ?_⟩
    cases rs with
    | cons _ _ => cases ex
    | nil =>
    rw [List.append_nil] at e
    subst e
    have k1 : Keep H' (H' ++ [.list acc]) := Keep.new _ _
    have g1 : (H' ++ [AObj.list acc])[H'.length]? = some (.list acc) := get_new
    replace ha := ha.mono fun _ _ z => SR.keep k1 z
    have hd1 := hd.keep (kp.trans k1)
    have hal := ha.length
    replace kp := kp.trans k1
    generalize H' ++ [AObj.list acc] = H1 at g1 ha hd1 kp
    generalize H'.length = a at g1
    clear k1
    refine r_ret ?_
    walk_at "ev"
    refine i_list g1 ⟨by rw [List.length_map, ← hal]; exact hl', ?_⟩
    refine comp_inv (fun xs bs H2 => Keep H1 H2 ∧ ∃ us rs ys, ws = us ++ rs ∧ xs = ys.map .one ∧ All2 (fun w v => SR H1 (stp r w) v) rs ys ∧ bs = (us.map fun w => ok1 F (stp r w)).map .bool) ?_ ?_ _ _ _ ⟨Keep.refl _, [], ws, acc, rfl, rfl, ha, rfl⟩
    · rintro x xs bs H2 ⟨k2, us, rs, ys, e, ex, hr, eb⟩
      cases hr with
      | nil => cases ex
      | @cons w v rs ys hv hr =>
      obtain ⟨rfl, rfl⟩ := List.cons.inj ex
      refine ⟨k2.get g1, _, rfl, fun W hW => ?_⟩
      have next : W (bs ++ [.bool (ok1 F (stp r w))]) H2 := hW _ _ ⟨k2, us ++ [w], rs, ys, by rw [e, List.append_assoc]; rfl, rfl, hr, by rw [eb, List.map_append, List.map_append]; rfl⟩
      refine if_tt ?_
      cases hst : stp r w with
      | none =>
        rw [hst] at hv next
        cases hv
        walk_at "ev"
        refine if_t rfl ?_
        exact next
      | some z =>
        rw [hst] at hv next
        obtain ⟨a', rfl, g2⟩ := hv
        walk_at "ev"
        refine if_f rfl ?_
        walk_at "ev"
        refine b_att (k := 0) (k2.get g2) rfl ?_
        refine (hd1.keep k2).in ?_
        exact next
    · rintro bs H2 ⟨k2, us, rs, ys, e, ex, hr, rfl⟩
      refine ⟨k2.get g1, ?_⟩
      cases hr with
      | cons _ _ => cases ex
      | nil =>
      rw [List.append_nil] at e
      subst e
      walk_at "ev"
      refine ⟨_, _, rfl, get_new, ?_⟩
      exact h _ _ (kp.trans (k2.trans (Keep.new _ _))) ok1_all
end
inductive Stl (ws : List Txt) : Txt → Prop
  | mk {r : Txt} : (∀ w ∈ ws, ∀ r' b, stp r w = some (r', b) → Stl ws r') → Stl ws r
noncomputable def Met (ws : List Txt) (r : Txt) : Prop := ∃ l p q, Gd ws r l p q
theorem Met.step {ws : List Txt} {r w r' : Txt} {b : Bool} (h : Met ws r) (hw : w ∈ ws) (e : stp r w = some (r', b)) : Met ws r' := by
  obtain ⟨l, p, q, g⟩ := h
  unfold stp at e
  split at e
  · rename_i hh; cases e; exact ⟨_, _, _, g.short hw hh⟩
  · split at e
    · rename_i hh; cases e; exact ⟨_, _, _, g.long hw hh⟩
    · cases e
theorem val_mem {F : Tbl} {r : Txt} {n : Nat} (h : val F r = some n) : ∃ e ∈ F, e.1 = r ∧ e.2 = n := by
  unfold val at h
  obtain ⟨e, he, hn⟩ := Option.map_eq_some_iff.mp h
  exact ⟨e, List.mem_of_find?_eq_some he, by simpa using List.find?_some he, hn⟩
theorem val_key {F : Tbl} {e : Txt × Nat} (h : e ∈ F) : (val F e.1).isSome = true := by
  unfold val
  rw [Option.isSome_map, List.find?_isSome]
  exact ⟨e, h, beq_self_eq_true _⟩
theorem val_app {F G : Tbl} {r : Txt} (h : (val F r).isSome = true) : val (F ++ G) r = val F r := by
  unfold val at *
  rw [List.find?_append]
  cases e : F.find? (fun e => e.1 == r) with
  | none => rw [e] at h; cases h
  | some x => rfl
theorem wd_ne {n : Nat} {w : Txt} (h : Wd n w) : w ≠ [] := fun e => by have := h.pos; rw [e] at this; cases this
theorem Kx.keep {d : Nat} {H H1 H2 : AHeap} (k : Keep H H1) (x : Kx d H1 H2) (hd : H.length ≤ d) : Keep H H2 := ⟨Nat.le_trans k.le x.1, fun i hi => by
  have e := k.old i hi
  rw [List.getElem?_eq_getElem hi] at e ⊢
  exact x.2 i _ (Nat.ne_of_lt (Nat.lt_of_lt_of_le hi hd)) e⟩
theorem DH.set {H : AHeap} {d : Nat} {F : Tbl} {r : Txt} {i : Nat} {p : AHeap → Prop} (hd : d ≠ 0) (h : DH H d F) (hl : F.length < lid) (hr : (val F r).isSome = false) (k : ∀ H', Kx d H H' → DH H' d (F ++ [(r, i)]) → p H') : setItemA (.ref d) (.str r) (.int i) H p := by
  obtain ⟨ep, e⟩ := h.ex
  refine b_dset hd e (by unfold ofT; rw [List.length_map]; exact hl) fun ep' => k _ ((Kx.refl d H).set _) ⟨ep', ?_⟩
  rw [List.getElem?_set_self (lt_of_get e)]
  unfold stA
  rw [if_neg fun z => ?_]
  · unfold ofT; rw [List.map_append]; rfl
  · rw [← ofT_any] at hr
    obtain ⟨x, hx, hz⟩ := List.any_eq_true.mp z
    have := List.any_eq_false.mp hr x hx
    exact this (beq_iff_eq.mpr (of_decide_eq_true hz))
structure FG (ws ys : List Txt) (F : Tbl) : Prop where
  nd : (F.map (·.1)).Nodup
  sub : ∀ e ∈ F, e.1 ∈ ys
  stl : ∀ e ∈ F, Stl ws e.1
  vl : ∀ e ∈ F, Sd F ws e.1 ∧ e.2 = hgt (val F) ws e.1
theorem FG.len {ws ys : List Txt} {F : Tbl} (h : FG ws ys F) : F.length ≤ ys.length := by
  have := nodup_le h.nd (m := ys) fun x hx => by obtain ⟨e, he, rfl⟩ := List.mem_map.mp hx; exact h.sub e he
  rwa [List.length_map] at this
theorem FG.key {ws ys : List Txt} {F : Tbl} (h : FG ws ys F) {r : Txt} (hr : (val F r).isSome = true) : Stl ws r := by
  obtain ⟨n, hn⟩ := Option.isSome_iff_exists.mp hr
  obtain ⟨e, he, rfl, _⟩ := val_mem hn
  exact h.stl e he
theorem FG.push {ws ys : List Txt} {F : Tbl} {r : Txt} (h : FG ws ys F) (h1 : (val F r).isSome = false) (h2 : r ∈ ys) (h3 : Sd F ws r) : FG ws ys (F ++ [(r, hgt (val F) ws r)]) := by
  have up : ∀ x, Sd F ws x → Sd (F ++ [(r, hgt (val F) ws r)]) ws x := fun x hx w hw r' b e => by rw [val_app (hx w hw r' b e)]; exact hx w hw r' b e
  have eq : ∀ x, Sd F ws x → hgt (val F) ws x = hgt (val (F ++ [(r, hgt (val F) ws r)])) ws x := fun x hx => hgt_congr fun w hw r' b e => (val_app (hx w hw r' b e)).symm
  refine ⟨?_, fun x hx => ?_, fun x hx => ?_, fun x hx => ?_⟩
  · rw [List.map_append, List.nodup_append]
    refine ⟨h.nd, List.nodup_cons.mpr ⟨fun z => (nomatch z), List.nodup_nil⟩, fun a ha b hb e => ?_⟩
    obtain ⟨y, hy, rfl⟩ := List.mem_map.mp ha
    have hb : b = r := List.mem_singleton.mp hb
    have := val_key hy
    rw [e, hb, h1] at this; cases this
  · rcases List.mem_append.mp hx with hx | hx
    · exact h.sub x hx
    · rw [List.mem_singleton.mp hx]; exact h2
  · rcases List.mem_append.mp hx with hx | hx
    · exact h.stl x hx
    · rw [List.mem_singleton.mp hx]; exact .mk fun w hw r' b e => h.key (h3 w hw r' b e)
  · rcases List.mem_append.mp hx with hx | hx
    · obtain ⟨a, b⟩ := h.vl x hx
      exact ⟨up _ a, by rw [← eq _ a]; exact b⟩
    · rw [List.mem_singleton.mp hx]
      exact ⟨up _ h3, eq _ h3⟩
structure Tb (ws : List Txt) (F : Tbl) : Prop where
  stl : ∀ r, Met ws r → ((val F r).isSome = true ↔ Stl ws r)
  vl : ∀ r n, val F r = some n → Sd F ws r ∧ n = hgt (val F) ws r
section
variable {T : Tab}
noncomputable def spSettled : Spec := fun vs H Q _ => ∃ (n : Nat) (ws : List Txt), vs = [.ref n] ∧ n < H.length ∧ Ws H n ws ∧ ws.length ≤ 12 ∧ (∀ w ∈ ws, Wd 10 w) ∧ ∀ d H' F, H.length ≤ d → Keep H H' → DH H' d F → Tb ws F → Q (.ref d) H'
theorem ct_settled (h1 : Has T (nm 1651436) spLed) (h2 : Has T (nm 3463330969587) spSorted) (h3 : Has T (nm 929676333464757467625) spIss) (h4 : Has T (nm 8774559802307801832) spHb) : Ct T x_settled b_settled spSettled := by
  refine ct1 fun vs H Q X h => ?_
  obtain ⟨n, ws, rfl, hn, hw, hl, hwd, h⟩ := h
  have hpos : ∀ w ∈ ws, w ≠ [] := fun w hw => wd_ne (hwd w hw)
  refine ⟨_, rfl, ?_⟩
  refine s_asg ?_
  walk_at "ev"
  refine ⟨n, ws, rfl, hn, hw, hl, hwd, fun d0 H1 B hd0 k1 hB hI hS => ?_⟩
  obtain ⟨es, ep, g1, g2⟩ := hB
  have hBl := hI.len
  have hSl := sufs_len ws fun w hw => (hwd w hw).le
  refine s_sortedD g1 fun ys hp => ?_
  rw [eq_keys g2] at hp
  have hyl : ys.length ≤ 132 := by rw [hp.length_eq, List.length_map]; exact Nat.le_trans hBl (Nat.le_trans hSl (Nat.mul_le_mul_left 11 hl))
  have mk : ∀ {r l}, Le (lenB B) r l → r ∈ ys := fun {r l} h => by
    obtain ⟨m, e, _⟩ := h
    obtain ⟨b, hb, e1, _⟩ := lenB_mem e
    exact hp.mem_iff.mpr (List.mem_map.mpr ⟨b, hb, e1⟩)
  have hcl : ∀ r ∈ ys, ∀ w ∈ ws, ∀ r' b, stp r w = some (r', b) → r' ∈ ys := fun r hr w hw r' b e => by
    obtain ⟨x, hx, rfl⟩ := List.mem_map.mp (hp.mem_iff.mp hr)
    exact mk (hS.stp x.1 x.2.1 (by unfold lenB; rw [lenB_of hI.nd x hx]; rfl) w hw r' b e)
  have hR : ∀ r, Met ws r → r ∈ ys := fun r hr => by
    obtain ⟨l, p, q, g⟩ := hr
    exact mk (hS.gd hpos g)
  clear hp mk hS g2 g1 hBl hI hSl
  have k2 : Keep H (H1 ++ [.list (ys.map .str)]) := k1.trans (Keep.new _ _)
  have gL : Ws (H1 ++ [.list (ys.map .str)]) H1.length ys := get_new
  have hL := k1.le
  generalize H1 ++ [AObj.list (ys.map .str)] = H2 at k2 gL
  generalize H1.length = L at gL hL
  refine s_asg ?_
  walk_at "ev"
  have hLd := lt_of_get gL
  have k3 : Keep H2 (H2 ++ [.dict [] 0]) := Keep.new _ _
  have g3 : DH (H2 ++ [.dict [] 0]) H2.length [] := ⟨0, get_new⟩
  have hd2 := k2.le
  replace gL := gL.keep k3
  replace k2 := k2.trans k3
  generalize H2 ++ [AObj.dict [] 0] = H3 at k2 gL g3
  generalize H2.length = d at g3 hLd hd2
  clear k3 k1
  have hd0 : d ≠ 0 := Nat.ne_of_gt (Nat.lt_of_le_of_lt (Nat.zero_le _) hLd)
  have hnd : n ≠ d := Nat.ne_of_lt (Nat.lt_of_lt_of_le hn hd2)
  have hw3 := hw.keep k2
  have hLn : L ≠ d := Nat.ne_of_lt hLd
  refine s_asg ?_
  walk_at "ev"
  refine r_while ⟨_, while_ind (fun m σ H' => Kx d H3 H' ∧ (∃ F, DH H' d F ∧ FG ws ys F ∧ ((σ (nm 4116153104873) = some (.bool true) ∧ ys.length + 1 ≤ F.length + m) ∨ (σ (nm 4116153104873) = some (.bool false) ∧ ∀ r ∈ ys, Sd F ws r → (val F r).isSome = true))) ∧ (σ (nm 31115244274) = some (.ref L) ∧ σ (nm 27076163558) = some (.ref d) ∧ σ (nm 31081674743) = some (.ref n))) ?_ (ys.length + 1) _ _
    ⟨Kx.refl _ _, ⟨[], g3, ⟨List.nodup_nil, (fun _ h => nomatch h), (fun _ h => nomatch h), fun _ h => nomatch h⟩, .inl ⟨by walk_at "nm", Nat.le_of_eq (Nat.zero_add _).symm⟩⟩, ⟨by walk_at "nm", by walk_at "nm", by walk_at "nm"⟩⟩⟩
  rintro m σ H' ⟨kx, ⟨F, hF, hG, hor⟩, ⟨s1, s2, s3⟩⟩ W hW
  have hFl := hG.len
  rcases hor with ⟨s4, hm⟩ | ⟨s4, hcF⟩
  case inr =>
    walk_at "ev"
    refine r_ret ?_
    walk_at "ev"
    refine h _ _ F hd2 (Kx.keep k2 kx hd2) hF ⟨fun r hr => ⟨hG.key, fun hs => ?_⟩, fun r v hv => ?_⟩
    · have : ∀ r, Stl ws r → r ∈ ys → (val F r).isSome = true := fun r hs => by
        induction hs with
        | mk _ ih => exact fun hr => hcF _ hr fun w hw r' b e => ih w hw r' b e (hcl _ hr w hw r' b e)
      exact this r hs (hR r hr)
    · obtain ⟨e, he, rfl, rfl⟩ := val_mem hv
      exact hG.vl e he
  walk_at "ev"
  refine s_asg ?_
  walk_at "ev"
  refine r_for ?_
  walk_at "ev"
  refine i_list (kx.2 _ _ hLn gL) ?_
  refine for_inv (fun xs σ H' => Kx d H3 H' ∧ (∃ us rs F', ys = us ++ rs ∧ xs = rs.map (fun w => .one (.str w)) ∧ DH H' d F' ∧ FG ws ys F' ∧ ((σ (nm 4116153104873) = some (.bool true) ∧ F.length < F'.length) ∨ (σ (nm 4116153104873) = some (.bool false) ∧ F' = F ∧ ∀ r ∈ us, Sd F ws r → (val F r).isSome = true))) ∧ (σ (nm 31115244274) = some (.ref L) ∧ σ (nm 27076163558) = some (.ref d) ∧ σ (nm 31081674743) = some (.ref n))) ?_ ?_
    ⟨kx, ⟨[], ys, F, rfl, List.map_map, hF, hG, .inr ⟨by walk_at "nm", rfl, fun _ h => nomatch h⟩⟩, ⟨by walk_at "nm", by walk_at "nm", by walk_at "nm"⟩⟩
  · clear hF hG kx s1 s2 s3 s4 hW hm
    rintro x xs σ H' ⟨kx, ⟨us, rs, F', e, ex, hF, hG, hor⟩, ⟨s1, s2, s3⟩⟩
    cases rs with
    | nil => cases ex
    | cons r rs =>
    obtain ⟨rfl, rfl⟩ := List.cons.inj ex
    refine ⟨kx.2 _ _ hLn gL, _, rfl, fun W2 hW2 => ?_⟩
    have hrs : ys = (us ++ [r]) ++ rs := by rw [e, List.append_assoc]; rfl
    have hry : r ∈ ys := by rw [e]; exact List.mem_append_right _ (.head _)
    -- nothing new
    have same : ∀ σ' H4, Keep H' H4 → (Sd F' ws r → (val F' r).isSome = true) → σ' (nm 4116153104873) = σ (nm 4116153104873) → σ' (nm 31115244274) = some (.ref L) → σ' (nm 27076163558) = some (.ref d) → σ' (nm 31081674743) = some (.ref n) → W2 σ' H4 := by
      intro σ' H4 k4 ht t0 t1 t2 t3
      refine hW2 _ _ ⟨kx.trans (.of k4), ⟨us ++ [r], rs, F', hrs, rfl, hF.keep k4, hG, ?_⟩, ⟨t1, t2, t3⟩⟩
      rw [t0]
      rcases hor with z | ⟨z1, z2, z3⟩
      · exact .inl z
      · refine .inr ⟨z1, z2, fun x hx => ?_⟩
        rcases List.mem_append.mp hx with hx | hx
        · exact z3 x hx
        · rw [List.mem_singleton.mp hx, ← z2]; exact ht
    refine s_ite ?_
    walk_at "ev"
    refine hF.nin ?_
    cases hnot : (val F' r).isSome with
    | false =>
      refine if_t rfl ?_
      walk_at "ev"
      refine ⟨r, n, d, ws, F', rfl, kx.2 _ _ hnd hw3, hl, hF, fun b H4 k4 hb => ?_⟩
      walk_at "ev"
      cases b with
      | false =>
        walk_at "ev"
        exact same _ _ k4 (fun z => nomatch hb.mpr z) (by rw [set_nm]; rfl) (by walk_at "nm") (by walk_at "nm") (by walk_at "nm")
      | true =>
        have hF4 := hF.keep k4
        walk_at "ev"
        refine ⟨r, n, d, ws, F', rfl, (kx.trans (.of k4)).2 _ _ hnd hw3, hF4, hb.mp rfl, fun H5 k5 => ?_⟩
        walk_at "ev"
        have hFl' := hG.len
        refine (hF4.keep k5).set hd0 (Nat.lt_of_le_of_lt (Nat.le_trans hFl' hyl) (by decide)) hnot fun H6 k6 hF6 => ?_
        walk_at "ev"
        refine hW2 _ _ ⟨((kx.trans (.of k4)).trans (.of k5)).trans k6, ⟨us ++ [r], rs, _, hrs, rfl, hF6, hG.push hnot hry (hb.mp rfl), .inl ⟨by walk_at "nm", ?_⟩⟩, ⟨by walk_at "nm", by walk_at "nm", by walk_at "nm"⟩⟩
        rw [List.length_append, List.length_singleton]
        rcases hor with ⟨_, z⟩ | ⟨_, z, _⟩
        · exact Nat.lt_succ_of_lt z
        · rw [z]; exact Nat.lt_succ_self _
    | true =>
      refine if_f rfl ?_
      walk_at "ev"
      exact same _ _ (Keep.refl _) (fun _ => hnot) (by rw [set_nm]; rfl) (by walk_at "nm") (by walk_at "nm") (by walk_at "nm")
  · rintro σ H' ⟨kx, ⟨us, rs, F', e, ex, hF, hG, hor⟩, ⟨s1, s2, s3⟩⟩
    refine ⟨kx.2 _ _ hLn gL, ?_⟩
    cases rs with
    | cons _ _ => cases ex
    | nil =>
    rw [List.append_nil] at e
    subst e
    obtain ⟨m', rfl⟩ := Nat.exists_eq_succ_of_ne_zero (n := m) fun z => absurd (Nat.le_trans hm (by rw [z]; exact hFl)) (Nat.not_succ_le_self _)
    walk_at "ev"
    refine hW m' _ _ rfl ⟨kx, ⟨F', hF, hG, ?_⟩, ⟨s1, s2, s3⟩⟩
    rcases hor with ⟨z, y⟩ | ⟨z1, z2, z3⟩
    · exact .inl ⟨z, Nat.le_trans hm (Nat.le_trans (Nat.le_of_eq (Nat.succ_add_eq_add_succ _ _).symm) (Nat.add_le_add_right y _))⟩
    · exact .inr ⟨z1, z2 ▸ z3⟩
noncomputable def vO : Option Nat → V
  | none => .none
  | some n => .int n
noncomputable def hts (B : Bst) (F : Tbl) : List (Txt × V) := B.map fun b => (b.1, vO (val F b.1))
theorem kind_d {H : AHeap} {n ep : Nat} {es : List (Txt × V)} (h : H[n]? = some (.dict es ep)) : kindA (.ref n) H = some .dict := by unfold kindA; dsimp only; rw [h]
noncomputable def spHts : Spec := fun vs H Q _ => ∃ (n : Nat) (ws : List Txt), vs = [.ref n] ∧ n < H.length ∧ Ws H n ws ∧ Cd ws ∧ ∀ d H' ys B F ep, H.length ≤ d → Keep H H' → ys.Perm ws → H'[d]? = some (.dict (hts B F) ep) → BI ys B → Shut ys (lenB B) → Tb ys F → Q (.ref d) H'
theorem ct_heights (h1 : Has T (nm 1651436) spLed) (h2 : Has T (nm 443303916565603) spChecked) (h3 : Has T (nm 244905188) spDict) (h4 : Has T (nm 443304220898035) spSettled) (h5 : HasM T .dict (nm 1913575) spGet) : Ct T x_heights b_heights spHts := by
  refine ct1 fun vs H Q X h => ?_
  obtain ⟨n, ws, rfl, hn, hw, hc, h⟩ := h
  refine ⟨_, rfl, ?_⟩
  refine s_asg ?_
  walk_at "ev"
  refine ⟨n, ws, rfl, hn, hw, hc, Nat.lt_of_le_of_lt (Nat.zero_le _) hn, fun ys p1 H1 hp hs hp1 hy k1 => ?_⟩
  have hyw : ∀ w ∈ ys, Wd 10 w := fun w h => hc.wd w (hp.mem_iff.mp h)
  have hyl : ys.length ≤ 12 := by rw [hp.length_eq]; exact hc.le
  refine s_asg ?_
  walk_at "ev"
  refine ⟨p1, ys, rfl, lt_of_get hy, hy, hyl, hyw, fun t H2 F ht k2 hF hT => ?_⟩
  obtain ⟨ept, gt⟩ := hF.ex
  replace k1 := k1.trans k2
  replace hy := hy.keep k2
  walk_at "ev"
  refine ⟨p1, ys, rfl, lt_of_get hy, hy, hyl, hyw, fun d H3 B hd k3 hB hI hS => ?_⟩
  obtain ⟨es, ep, g1, g2⟩ := hB
  replace gt := k3.get gt
  replace k1 := k1.trans k3
  have hBl : B.length ≤ 132 := by
    have h1 := hI.len
    have h2 := sufs_len ys fun w h => (hyw w h).le
    lia
  have hk := eq_keys g2
  refine .dict g1 ⟨by rw [List.length_map, ← List.length_map (f := fun e : Txt × V => e.1), hk, List.length_map]; unfold lid; lia, ?_⟩
  have hks : (es.map fun e => Item.one (.str e.1)) = B.map fun b => .one (.str b.1) := by
    have := congrArg (List.map fun t => Item.one (.str t)) hk
    rw [List.map_map, List.map_map] at this
    exact this
  rw [hks]
  refine comp_inv (fun xs acc H' => Keep H3 H' ∧ ∃ bd br rs, B = bd ++ br ∧ xs = br.map (fun b => .one (.str b.1)) ∧ acc = rs.map .ref ∧ All2 (fun r (e : Txt × V) => H'[r]? = some (.tuple [.str e.1, e.2])) rs (hts bd F)) ?_ ?_ _ _ _ ⟨Keep.refl _, [], B, [], rfl, rfl, rfl, .nil⟩
  · rintro x xs acc H' ⟨kp, bd, br, rs, e, ex, ea, ha⟩
    cases br with
    | nil => cases ex
    | cons b br =>
      obtain ⟨rfl, rfl⟩ := List.cons.inj ex
      refine ⟨kp.get g1, _, rfl, fun W hW => ?_⟩
      refine if_tt ?_
      walk_at "ev"
      refine e_methN (by walk_at "nm") (kind_d (kp.get gt)) h5 (l2 ?_)
      walk_at "ev"
      refine ⟨t, ept, _, b.1, rfl, kp.get gt, ?_⟩
      have ev : (((ofT F).find? fun e => e.1 == b.1).map (·.2)).getD .none = vO (val F b.1) := by
        rw [ofT_find]; cases val F b.1 <;> rfl
      rw [ev]
      refine ⟨Nat.le_of_ble_eq_true rfl, ?_⟩
      refine hW _ _ ⟨kp.trans (Keep.new _ _), bd ++ [b], br, rs ++ [H'.length], by rw [e, List.append_assoc]; rfl, rfl, by rw [ea, List.map_append]; rfl, ?_⟩
      unfold hts
      rw [List.map_append]
      exact (ha.mono fun _ _ z => (Keep.new _ _).get z).append (.cons get_new .nil)
  · rintro acc H' ⟨kp, bd, br, rs, e, ex, ea, ha⟩
    refine ⟨kp.get g1, ?_⟩
    cases br with
    | cons _ _ => cases ex
    | nil =>
      rw [List.append_nil] at e
      subst e ea
      refine .pairs get_new (ha.mono fun _ _ z => (Keep.new _ _).get z) ?_ fun ep' => ?_
      · unfold hts; rw [List.map_map]; exact hI.nd
      · exact h _ _ ys B F ep' (k1.trans (kp.trans (Keep.new _ _))).le (k1.trans (kp.trans ((Keep.new _ _).trans (Keep.new _ _)))) hp get_new hI hS hT
end
noncomputable def x_law_whole : List Str := [(nm 930329895887808525919)]
noncomputable def b_law_whole : PS := (.seq (.ret (.and (.call (.glob (nm 938756632654307293673)) (.cons (.name (nm 930329895887808525919)) (.cons (.glob (nm 1914729)) .nil))) (.not (.call (.glob (nm 938756632654307293673)) (.cons (.name (nm 930329895887808525919)) (.cons (.glob (nm 228325346)) .nil)))))) .skip)
noncomputable def x_law_step : List Str := [(nm 8423868298503419487), (nm 252284354984115859945804035679)]
noncomputable def b_law_step_2 : PS := (.seq (.ret .none) .skip)
noncomputable def b_law_step_1 : PS := (.seq (.ite (.cmp1 .Eq (.slice (.name (nm 252284354984115859945804035679)) .none (.call (.glob (nm 1815276)) (.cons (.name (nm 8423868298503419487)) .nil))) (.name (nm 8423868298503419487))) (.seq (.ret (.tuple (.cons (.slice (.name (nm 252284354984115859945804035679)) (.call (.glob (nm 1815276)) (.cons (.name (nm 8423868298503419487)) .nil)) .none) (.cons (.bool true) .nil)))) .skip) .skip) b_law_step_2)
noncomputable def b_law_step : PS := (.seq (.ite (.cmp1 .Eq (.slice (.name (nm 8423868298503419487)) .none (.call (.glob (nm 1815276)) (.cons (.name (nm 252284354984115859945804035679)) .nil))) (.name (nm 252284354984115859945804035679))) (.seq (.ret (.tuple (.cons (.slice (.name (nm 8423868298503419487)) (.call (.glob (nm 1815276)) (.cons (.name (nm 252284354984115859945804035679)) .nil)) .none) (.cons (.bool false) .nil)))) .skip) .skip) b_law_step_1)
noncomputable def x_law_height : List Str := [(nm 32292397438104173501782932616799), (nm 8423868298503419487), (nm 930329895887808525919)]
noncomputable def b_law_height_2 : PS := (.seq (.ret (.name (nm 8423867748747605599))) .skip)
noncomputable def b_law_height_l1_1 : PS := (.seq (.ite (.cmp1 .Is (.name (nm 252284354984973254577658295903)) .none) (.seq (.assign (.name (nm 8423867748747605599)) (.call (.glob (nm 1978605)) (.cons (.name (nm 8423867748747605599)) (.cons (.call (.glob (nm 118998992280703227950687)) (.cons (.name (nm 8423868298503419487)) (.cons (.name (nm 252284354984115859945804035679)) .nil))) .nil)))) .skip) (.seq (.ite (.cmp1 .NotIn (.sub (.name (nm 252284354984973254577658295903)) (.int 0)) (.name (nm 930329895887808525919))) (.seq (.ret (.neg (.int 1))) .skip) (.seq (.ite (.cmp1 .Is (.sub (.name (nm 930329895887808525919)) (.sub (.name (nm 252284354984973254577658295903)) (.int 0))) .none) (.seq (.ret .none) .skip) (.seq (.ite (.sub (.name (nm 252284354984973254577658295903)) (.int 1)) (.seq (.assign (.name (nm 8423867748747605599)) (.call (.glob (nm 1978605)) (.cons (.name (nm 8423867748747605599)) (.cons (.bin .Add (.call (.glob (nm 1815276)) (.cons (.name (nm 8423868298503419487)) .nil)) (.sub (.name (nm 930329895887808525919)) (.sub (.name (nm 252284354984973254577658295903)) (.int 0)))) .nil)))) .skip) (.seq (.assign (.name (nm 8423867748747605599)) (.call (.glob (nm 1978605)) (.cons (.name (nm 8423867748747605599)) (.cons (.bin .Add (.call (.glob (nm 1815276)) (.cons (.name (nm 252284354984115859945804035679)) .nil)) (.sub (.name (nm 930329895887808525919)) (.sub (.name (nm 252284354984973254577658295903)) (.int 0)))) .nil)))) .skip)) .skip)) .skip)) .skip)) .skip)
noncomputable def b_law_height_l1 : PS := (.seq (.assign (.name (nm 252284354984973254577658295903)) (.call (.glob (nm 8127822628061214303)) (.cons (.name (nm 8423868298503419487)) (.cons (.name (nm 252284354984115859945804035679)) .nil)))) b_law_height_l1_1)
noncomputable def b_law_height_1 : PS := (.seq (.for_ (.name (nm 252284354984115859945804035679)) (.itVal (.name (nm 32292397438104173501782932616799))) b_law_height_l1) b_law_height_2)
noncomputable def b_law_height : PS := (.seq (.assign (.name (nm 8423867748747605599)) (.int 0)) b_law_height_1)
noncomputable def x_law : List Str := [(nm 137989276334399845594719)]
noncomputable def b_law_8 : PS := (.seq (.ret (.and (.cmp1 .Eq (.call (.glob (nm 509789213455080)) (.cons (.name (nm 118997990761571808736863)) .nil)) (.name (nm 8422179208124986975))) (.cmp1 .Eq (.name (nm 118997990761571808736863)) (.name (nm 32292397438104173501782932616799))))) .skip)
noncomputable def b_law_7 : PS := (.seq (.expr (.meth (.name (nm 930329895887808525919)) (nm 30806734435) .nil)) b_law_8)
noncomputable def b_law_6 : PS := (.seq (.assign (.name (nm 8422179208124986975)) (.call (.glob (nm 244905188)) (.cons (.name (nm 930329895887808525919)) .nil))) b_law_7)
noncomputable def b_law_l1_2 : PS := (.seq (.ite (.and (.cmp1 .IsNot (.name (nm 57375978463721055)) .none) (.or (.not (.call (.glob (nm 939405744834656892511)) (.cons (.sub (.name (nm 930329895887808525919)) (.name (nm 8423868298503419487))) .nil))) (.cmp1 .NotEq (.sub (.name (nm 930329895887808525919)) (.name (nm 8423868298503419487))) (.name (nm 57375978463721055))))) (.seq (.ret (.bool false)) .skip) .skip) .skip)
noncomputable def b_law_l1_1 : PS := (.seq (.ite (.and (.cmp1 .Is (.name (nm 57375978463721055)) .none) (.cmp1 .IsNot (.sub (.name (nm 930329895887808525919)) (.name (nm 8423868298503419487))) .none)) (.seq (.ret (.bool false)) .skip) .skip) b_law_l1_2)
noncomputable def b_law_l1 : PS := (.seq (.assign (.name (nm 57375978463721055)) (.call (.glob (nm 137915340184785486640735)) (.cons (.name (nm 32292397438104173501782932616799)) (.cons (.name (nm 8423868298503419487)) (.cons (.name (nm 930329895887808525919)) .nil))))) b_law_l1_1)
noncomputable def b_law_5 : PS := (.seq (.for_ (.name (nm 8423868298503419487)) (.itVal (.name (nm 930329895887808525919))) b_law_l1) b_law_6)
noncomputable def b_law_4 : PS := (.seq (.ite (.or (.not (.call (.glob (nm 938756632654307293673)) (.cons (.name (nm 930329895887808525919)) (.cons (.glob (nm 244905188)) .nil)))) (.or (.cmp1 .NotEq (.call (.glob (nm 3463330969587)) (.cons (.name (nm 930329895887808525919)) .nil)) (.call (.glob (nm 3463330969587)) (.cons (.name (nm 1069111652536802637407)) .nil))) (.cmp1 .NotEq (.name (nm 118997990761571808736863)) (.name (nm 32292397438104173501782932616799))))) (.seq (.ret (.bool false)) .skip) .skip) b_law_5)
noncomputable def b_law_3 : PS := (.seq (.assign (.name (nm 930329895887808525919)) (.call (.glob (nm 509789213455080)) (.cons (.name (nm 118997990761571808736863)) .nil))) b_law_4)
noncomputable def b_law_2 : PS := (.seq (.assign (.name (nm 1069111652536802637407)) (.call (.glob (nm 31381287660)) (.cons (.call (.glob (nm 245167340)) (.cons (.name (nm 32292397438104173501782932616799)) .nil)) .nil))) b_law_3)
noncomputable def b_law_1 : PS := (.seq (.assign (.name (nm 118997990761571808736863)) (.call (.glob (nm 245167340)) (.cons (.name (nm 32292397438104173501782932616799)) .nil))) b_law_2)
noncomputable def b_law : PS := (.seq (.assign (.name (nm 32292397438104173501782932616799)) (.call (.glob (nm 1067958212234506171999)) (.cons (.name (nm 137989276334399845594719)) (.cons (.int 0) .nil)))) b_law_1)
theorem Stl.mem {ws us : List Txt} (h : ∀ w ∈ us, w ∈ ws) {r : Txt} (k : Stl ws r) : Stl us r := by
  induction k with
  | mk _ ih => exact .mk fun w hw r' b e => ih w (h w hw) r' b e
theorem Met.mem {ws us : List Txt} (h : ∀ w ∈ ws, w ∈ us) {r : Txt} (k : Met ws r) : Met us r := by
  obtain ⟨l, p, q, g⟩ := k
  exact ⟨l, p, q, g.mem h⟩
theorem tb_one {ws us : List Txt} {F G : Tbl} (hm : ∀ w, w ∈ ws ↔ w ∈ us) (hF : Tb ws F) (hG : Tb us G) : ∀ r, Met ws r → val F r = val G r := by
  have go : ∀ r, Stl ws r → Met ws r → val F r = val G r := by
    intro r hs
    induction hs with
    | @mk r hst ih =>
      intro hl
      have hs : Stl ws r := .mk hst
      obtain ⟨n, hn⟩ := Option.isSome_iff_exists.mp ((hF.stl r hl).mpr hs)
      obtain ⟨m, hm'⟩ := Option.isSome_iff_exists.mp ((hG.stl r (hl.mem fun w => (hm w).mp)).mpr (hs.mem fun w => (hm w).mpr))
      rw [hn, hm', (hF.vl r n hn).2, (hG.vl r m hm').2]
      refine congrArg some ?_
      exact (hgt_congr fun w hw r' b e => ih w hw r' b e (hl.step hw e)).trans (mx_mem hm)
  intro r hl
  cases hv : (val F r).isSome with
  | true => exact go r ((hF.stl r hl).mp hv) hl
  | false =>
    cases hv' : (val G r).isSome with
    | true =>
      have := ((hG.stl r (hl.mem fun w => (hm w).mp)).mp hv').mem fun w => (hm w).mp
      rw [(hF.stl r hl).mpr this] at hv; cases hv
    | false =>
      rw [Option.isSome_eq_false_iff, Option.isNone_iff_eq_none] at hv hv'
      rw [hv, hv']
theorem key_len {B : Bst} {r : Txt} (hn : (B.map (·.1)).Nodup) : r ∈ B.map (·.1) ↔ ∃ l, lenB B r = some l := by
  constructor
  · intro h
    obtain ⟨b, hb, rfl⟩ := List.mem_map.mp h
    exact ⟨b.2.1, by unfold lenB; rw [lenB_of hn b hb]; rfl⟩
  · rintro ⟨l, hl⟩
    obtain ⟨b, hb, e, _⟩ := lenB_mem hl
    exact List.mem_map.mpr ⟨b, hb, e⟩
theorem keys_perm {B C : Bst} (h : ∀ r, lenB B r = lenB C r) (nB : (B.map (·.1)).Nodup) (nC : (C.map (·.1)).Nodup) : (B.map (·.1)).Perm (C.map (·.1)) :=
  (List.perm_ext_iff_of_nodup nB nC).mpr fun r => by rw [key_len nB, key_len nC, h]
theorem hts_keys (B : Bst) (F : Tbl) : (hts B F).map (·.1) = B.map (·.1) := by unfold hts; rw [List.map_map]; rfl
theorem hts_find {B : Bst} (F : Tbl) {r : Txt} (h : r ∈ B.map (·.1)) : (hts B F).find? (fun e => e.1 == r) = some (r, vO (val F r)) := by
  induction B with
  | nil => cases h
  | cons b B ih =>
    show List.find? _ ((b.1, vO (val F b.1)) :: hts B F) = _
    rw [List.find?_cons]
    cases he : b.1 == r with
    | true =>
      have := beq_iff_eq.mp he
      rw [this]
    | false =>
      rcases List.mem_cons.mp h with h | h
      · rw [h, beq_self_eq_true] at he; cases he
      · exact ih h
theorem hts_any {B : Bst} {F : Tbl} {r : Txt} (h : r ∈ B.map (·.1)) : ((hts B F).any fun e => e.1 == r) = true :=
  List.any_eq_true.mpr ⟨_, List.mem_of_find?_eq_some (hts_find F h), beq_self_eq_true _⟩
theorem rd_vO (H : AHeap) (o : Option Nat) : ∃ d, rd H 0 (vO o) = some d := by cases o <;> exact ⟨_, rfl⟩
theorem same_hts {H : AHeap} {B C : Bst} {F G : Tbl} (h : (B.map (·.1)).Perm (C.map (·.1))) (hv : ∀ r ∈ B.map (·.1), val F r = val G r) : SameD H (hts B F) (hts C G) := by
  refine ⟨?_, fun e he => ?_⟩
  · have := h.length_eq
    unfold hts
    rw [List.length_map, List.length_map] at this ⊢
    exact this
  · obtain ⟨b, hb, rfl⟩ := List.mem_map.mp he
    have hbk : b.1 ∈ B.map (·.1) := List.mem_map.mpr ⟨b, hb, rfl⟩
    obtain ⟨d, hd⟩ := rd_vO H (val F b.1)
    exact ⟨_, d, hts_find G (h.mem_iff.mp hbk), hd, by rw [← hv b.1 hbk]; exact hd⟩
theorem sort_one {xs ys ws us : List Txt} (h1 : xs.Perm ws) (h2 : ys.Perm us) (h : ws.Perm us) (s1 : xs.Pairwise fun a b => ¬ b < a) (s2 : ys.Pairwise fun a b => ¬ b < a) : xs = ys :=
  List.Perm.eq_of_pairwise (fun a b _ _ p q => List.le_antisymm p q) s1 s2 (h1.trans (h.trans h2.symm))
section
variable {T : Tab}
theorem ct_law_step (h1 : Has T (nm 1815276) spLen) : Ct T x_law_step b_law_step spStepped := by
  refine ct2 fun vs H Q X h => ?_
  obtain ⟨r, w, rfl, h⟩ := h
  refine ⟨_, _, rfl, ?_⟩
  unfold stp at h
  refine s_ite ?_
  walk_at "ev"
  refine b_to (Int.natCast_nonneg _) ?_
  walk_at "ev"
  rw [Int.toNat_natCast]
  refine if_dec (fun e => ?_) fun e => ?_
  · rw [if_pos e] at h
    walk_at "ev"
    refine b_from (Int.natCast_nonneg _) ?_
    walk_at "ev"
    exact ⟨Nat.le_of_ble_eq_true rfl, h⟩
  · rw [if_neg e] at h
    walk_at "ev"
    refine s_ite ?_
    walk_at "ev"
    refine b_to (Int.natCast_nonneg _) ?_
    walk_at "ev"
    rw [Int.toNat_natCast]
    refine if_dec (fun e => ?_) fun e => ?_
    · rw [if_pos e] at h
      walk_at "ev"
      refine b_from (Int.natCast_nonneg _) ?_
      walk_at "ev"
      exact ⟨Nat.le_of_ble_eq_true rfl, h⟩
    · rw [if_neg e] at h
      walk_at "ev"
      refine r_ret ?_
      walk_at "ev"
      exact h
theorem ct_law_whole (h1 : Has T (nm 938756632654307293673) spIsi) (g1 : T.gv (nm 1914729) = some (.glob (nm 1914729))) (g2 : T.gv (nm 228325346) = some (.glob (nm 228325346))) : Ct T x_law_whole b_law_whole spWhole := by
  refine ct1 fun vs H Q X h => ?_
  obtain ⟨i, rfl, h⟩ := h
  refine ⟨_, rfl, ?_⟩
  refine r_ret ?_
  walk_at "ev"
  refine IsiA.int ?_
  walk_at "ev"
  refine IsiA.bool ?_
  walk_at "ev"
  exact h
noncomputable def spLH : Spec := fun vs H Q _ => ∃ (n d ep : Nat) (r : Txt) (ws : List Txt) (B : Bst) (F : Tbl), vs = [.ref n, .str r, .ref d] ∧ Ws H n ws ∧ H[d]? = some (.dict (hts B F) ep) ∧ (∀ w ∈ ws, ∀ r' b, stp r w = some (r', b) → r' ∈ B.map (·.1)) ∧
  (Sd F ws r → ∀ H', Keep H H' → Q (.int (hgt (val F) ws r)) H') ∧ (¬ Sd F ws r → ∀ H', Keep H H' → Q .none H')
theorem ct_law_height (h1 : Has T (nm 8127822628061214303) spStepped) (h2 : Has T (nm 1815276) spLen) (h3 : Has T (nm 1978605) spMax) (h4 : Has T (nm 118998992280703227950687) spShr) : Ct T x_law_height b_law_height spLH := by
  refine ct3 fun vs H Q X h => ?_
  obtain ⟨n, d, ep, r, ws, B, F, rfl, hn, hd, hcl, hy, hno⟩ := h
  refine ⟨_, _, _, rfl, ?_⟩
  refine s_asg ?_
  walk_at "ev"
  refine r_for ?_
  walk_at "ev"
  refine i_list hn ?_
  refine for_inv (fun xs σ H' => Keep H H' ∧ (∃ us rs, ws = us ++ rs ∧ xs = rs.map (fun w => .one (.str w)) ∧ Sd F us r ∧ σ (nm 8423867748747605599) = some (.int (Mx (one (val F) r) us))) ∧ (σ (nm 8423868298503419487) = some (.str r) ∧ σ (nm 930329895887808525919) = some (.ref d))) ?_ ?_ ⟨Keep.refl _, ⟨[], ws, rfl, List.map_map, (fun _ h => nomatch h), hit⟩, ⟨by walk_at "nm", by walk_at "nm"⟩⟩
  · rintro x xs σ H' ⟨kp, ⟨us, rs, e, ex, hS, s0⟩, ⟨s1, s2⟩⟩
    cases rs with
    | nil => cases ex
    | cons w rs =>
    obtain ⟨rfl, rfl⟩ := List.cons.inj ex
    have hw : w ∈ ws := by rw [e]; simp
    refine ⟨kp.get hn, _, rfl, fun W hW => ?_⟩
    have next : ∀ σ' H2, Keep H' H2 → (∀ r' b, stp r w = some (r', b) → (val F r').isSome = true) → σ' (nm 8423867748747605599) = some (.int (max (Mx (one (val F) r) us) (one (val F) r w) : Nat)) → σ' (nm 8423868298503419487) = some (.str r) → σ' (nm 930329895887808525919) = some (.ref d) → W σ' H2 := fun σ' H2 k2 hs e1 e2 e3 => hW _ _ ⟨kp.trans k2, ⟨us ++ [w], rs, by rw [e, List.append_assoc]; rfl, rfl, fun u hu => by
      rcases List.mem_append.mp hu with hu | hu
      · exact hS u hu
      · rw [List.mem_singleton.mp hu]; exact hs, by rw [mx_snoc]; exact e1⟩, ⟨e2, e3⟩⟩
    refine s_asg ?_
    walk_at "ev"
    refine ⟨r, w, rfl, ?_⟩
    unfold StepQ
    cases hst : stp r w with
    | none =>
      have e1 : one (val F) r w = shr r w := by unfold one; rw [hst]
      rw [e1] at next
      dsimp only
      refine s_ite ?_
      walk_at "ev"
      refine if_t rfl ?_
      walk_at "ev"
      refine ⟨r, w, rfl, ?_⟩
      refine ⟨_, _, rfl, ?_⟩
      rw [max_if]
      walk_at "ev"
      exact next _ _ (Keep.refl _) (fun _ _ z => by rw [hst] at z; cases z) hit (by walk_at "nm") (by walk_at "nm")
    | some z =>
      obtain ⟨r', t⟩ := z
      have hk := hcl w hw r' t hst
      dsimp only
      have k1 : Keep H' (H' ++ [.tuple [.str r', .bool t]]) := Keep.new _ _
      have g1 : (H' ++ [AObj.tuple [V.str r', V.bool t]])[H'.length]? = some (.tuple [.str r', .bool t]) := get_new
      generalize H' ++ [AObj.tuple [V.str r', V.bool t]] = H1 at k1 g1
      have hf := (kp.trans k1).get hd
      refine s_ite ?_
      walk_at "ev"
      refine if_f rfl ?_
      walk_at "ev"
      refine b_att (k := 0) g1 rfl ?_
      walk_at "ev"
      refine c_nind hf ?_
      rw [hts_any hk]
      refine if_f rfl ?_
      walk_at "ev"
      refine b_att (k := 0) g1 rfl ?_
      refine b_dget hf (hts_find F hk) ?_
      cases hv : val F r' with
      | none =>
        walk_at "ev"
        refine if_t rfl ?_
        walk_at "ev"
        exact hno (fun hs => by have := hs w hw r' t hst; rw [hv] at this; cases this) _ (kp.trans k1)
      | some m =>
        have e1 : one (val F) r w = (if t then r.length else w.length) + m := by unfold one; rw [hst]; dsimp only; rw [hv]; rfl
        rw [e1] at next
        have hsome : ∀ r'' b, stp r w = some (r'', b) → (val F r'').isSome = true := fun r'' b z => by rw [hst] at z; cases z; rw [hv]; rfl
        walk_at "ev"
        refine if_f rfl ?_
        walk_at "ev"
        refine b_att (k := 1) g1 rfl ?_
        cases t with
        | true =>
          walk_at "ev"
          refine b_att (k := 0) g1 rfl ?_
          refine b_dget hf (hts_find F hk) ?_
          rw [hv]
          walk_at "ev"
          refine b_add ?_
          refine ⟨_, _, rfl, ?_⟩
          rw [← Int.natCast_add, max_if]
          walk_at "ev"
          exact next _ _ k1 hsome hit (by walk_at "nm") (by walk_at "nm")
        | false =>
          walk_at "ev"
          refine b_att (k := 0) g1 rfl ?_
          refine b_dget hf (hts_find F hk) ?_
          rw [hv]
          walk_at "ev"
          refine b_add ?_
          refine ⟨_, _, rfl, ?_⟩
          rw [← Int.natCast_add, max_if]
          walk_at "ev"
          exact next _ _ k1 hsome hit (by walk_at "nm") (by walk_at "nm")
  · rintro σ H' ⟨kp, ⟨us, rs, e, ex, hS, s0⟩, _⟩
    refine ⟨kp.get hn, ?_⟩
    cases rs with
    | cons _ _ => cases ex
    | nil =>
    rw [List.append_nil] at e
    subst e
    refine r_ret ?_
    walk_at "ev"
    exact hy hS _ kp
theorem ct_law10 (h1 : Has T (nm 1067958212234506171999) spWords) (h2 : Has T (nm 245167340) spList) (h3 : Has T (nm 31381287660) spLeast) (h4 : Has T (nm 509789213455080) spHts) (h5 : Has T (nm 938756632654307293673) spIsi) (h6 : Has T (nm 3463330969587) spSorted) (h7 : Has T (nm 137915340184785486640735) spLH) (h8 : Has T (nm 939405744834656892511) spWhole) (h9 : Has T (nm 244905188) spDict) (h10 : HasM T .dict (nm 30806734435) spClearD) : Ct T x_law b_law spLaw := by
  have g1 := h9.gv
  refine ct1 fun vs H Q X h => ?_
  obtain ⟨rfl, hs, h⟩ := h
  replace hs : Scr H := hs
  refine ⟨_, rfl, ?_⟩
  refine s_asg ?_
  walk_at "ev"
  refine ⟨0, rfl, by decide, hs, fun ws n H1 hc _ hw _ => ?_⟩
  clear hs
  have hpos : ∀ w ∈ ws, w ≠ [] := fun w hw => wd_ne (hc.wd w hw)
  refine s_asg ?_
  walk_at "ev"
  refine ⟨n, _, rfl, hw, ?_⟩
  have k1 : Keep H1 (H1 ++ [AObj.list (ws.map .str)]) := Keep.new _ _
  have hh : Ws (H1 ++ [AObj.list (ws.map .str)]) H1.length ws := get_new
  replace hw := hw.keep k1
  generalize H1 ++ [AObj.list (ws.map .str)] = H2 at k1 hh hw
  generalize H1.length = hd at hh
  clear k1
  refine s_asg ?_
  walk_at "ev"
  refine ⟨n, _, rfl, hw, ?_⟩
  have k2 : Keep H2 (H2 ++ [AObj.list (ws.map .str)]) := Keep.new _ _
  have hh2 : Ws (H2 ++ [AObj.list (ws.map .str)]) H2.length ws := get_new
  replace hw := hw.keep k2
  replace hh := hh.keep k2
  generalize H2 ++ [AObj.list (ws.map .str)] = H3 at k2 hh2 hh hw
  generalize H2.length = c at hh2
  clear k2
  refine ⟨c, ws, rfl, lt_of_get hh2, hh2, hc, fun d0 H4 ys0 B0 ep0 hd0 k4 hp0 g0 hI0 hS0 => ?_⟩
  replace hw := hw.keep k4
  replace hh := hh.keep k4
  clear k4 hh2
  refine s_asg ?_
  walk_at "ev"
  refine ⟨hd, ws, rfl, lt_of_get hh, hh, hc, fun d H5 ys B F ep hdl k5 hp g hI hS hT => ?_⟩
  have hd1 : d ≠ 0 := fun z => by have := lt_of_get hh; rw [z] at hdl; exact absurd (Nat.lt_of_lt_of_le this hdl) (Nat.not_lt_zero _)
  have hwd : n ≠ d := fun z => by have := lt_of_get hw; rw [z] at this; exact absurd hdl (Nat.not_le.mpr this)
  have hhd : hd ≠ d := fun z => by have := lt_of_get hh; rw [z] at this; exact absurd hdl (Nat.not_le.mpr this)
  replace hw := hw.keep k5
  replace hh := hh.keep k5
  replace g0 := k5.get g0
  clear k5 hdl
  have hmem : ∀ w, w ∈ ys ↔ w ∈ ws := fun w => hp.mem_iff
  have hposY : ∀ w ∈ ys, w ≠ [] := fun w hw => hpos w ((hmem w).mp hw)
  have hkp : (B.map (·.1)).Perm (B0.map (·.1)) := keys_perm (least_one (fun w hw => hpos w (hp0.mem_iff.mp hw)) (fun w => hp.mem_iff.trans hp0.mem_iff.symm) hI hS hI0 hS0) hI.nd hI0.nd
  have hlk : ∀ r ∈ B.map (·.1), Met ys r := fun r hr => by
    obtain ⟨b, hb, rfl⟩ := List.mem_map.mp hr
    exact ⟨_, _, _, hI.gd b hb⟩
  have hcl : ∀ r ∈ B.map (·.1), ∀ w ∈ ws, ∀ r' b, stp r w = some (r', b) → r' ∈ B.map (·.1) := fun r hr w hw r' b e => by
    obtain ⟨l, hl⟩ := (key_len hI.nd).mp hr
    obtain ⟨m, hm, _⟩ := hS.stp r l hl w ((hmem w).mpr hw) r' b e
    exact (key_len hI.nd).mpr ⟨m, hm⟩
  refine s_ite ?_
  walk_at "ev"
  refine IsiA.dict g ?_
  walk_at "ev"
  refine if_f rfl ?_
  walk_at "ev"
  refine .dict g fun zs pz sz => ?_
  rw [hts_keys] at pz
  have k6 : Keep H5 (H5 ++ [AObj.list (zs.map .str)]) := Keep.new _ _
  have g6 : Ws (H5 ++ [AObj.list (zs.map .str)]) H5.length zs := get_new
  replace hw := hw.keep k6
  replace hh := hh.keep k6
  replace g0 := k6.get g0
  replace g := k6.get g
  generalize H5 ++ [AObj.list (zs.map .str)] = H6 at k6 g6 hw hh g0 g
  generalize H5.length = z6 at g6
  clear k6
  walk_at "ev"
  refine .dict g0 fun us pu su => ?_
  have ek : (ofB B0).map (·.1) = B0.map (·.1) := by unfold ofB; rw [List.map_map]; rfl
  rw [ek] at pu
  obtain rfl := sort_one pz pu hkp sz su
  have k7 : Keep H6 (H6 ++ [AObj.list (zs.map .str)]) := Keep.new _ _
  replace hw := hw.keep k7
  replace hh := hh.keep k7
  replace g := k7.get g
  replace g6 := g6.keep k7
  refine c_new g6 get_new ?_
  rw [decide_eq_true rfl]
  refine if_f rfl ?_
  clear g6 g0
  generalize H6 ++ [AObj.list (zs.map .str)] = H7 at k7 hw hh g
  walk_at "ev"
  refine c_new hh hw ?_
  rw [decide_eq_true rfl]
  refine if_f rfl ?_
  clear k7
  walk_at "ev"
  refine r_for ?_
  walk_at "ev"
  refine .dict g ?_
  have hks : ((hts B F).map fun e => Item.one (.str e.1)) = B.map fun b => .one (.str b.1) := by unfold hts; rw [List.map_map]; rfl
  rw [hks]
  refine for_inv (fun xs σ H' => Keep H7 H' ∧ (∀ x ∈ xs, ∃ r ∈ B.map (·.1), x = .one (.str r)) ∧ (σ (nm 32292397438104173501782932616799) = some (.ref n) ∧ σ (nm 118997990761571808736863) = some (.ref hd) ∧ σ (nm 930329895887808525919) = some (.ref d))) ?_ ?_ ⟨Keep.refl _, fun x hx => ?_, ⟨by walk_at "nm", by walk_at "nm", by walk_at "nm"⟩⟩
  · rintro x xs σ H' ⟨kp, hx, ⟨s1, s2, s3⟩⟩
    obtain ⟨r, hr, rfl⟩ := hx x (.head _)
    refine ⟨kp.get g, _, rfl, fun W hW => ?_⟩
    have next : ∀ σ' H2, Keep H' H2 → σ' (nm 32292397438104173501782932616799) = some (.ref n) → σ' (nm 118997990761571808736863) = some (.ref hd) → σ' (nm 930329895887808525919) = some (.ref d) → W σ' H2 := fun σ' H2 k2 t1 t2 t3 => hW _ _ ⟨kp.trans k2, fun y hy => hx y (.tail _ hy), ⟨t1, t2, t3⟩⟩
    have hSw : ∀ {G : Tbl}, Sd G ys r ↔ Sd G ws r := fun {G} => ⟨fun h w hw => h w ((hmem w).mpr hw), fun h w hw => h w ((hmem w).mp hw)⟩
    refine s_asg ?_
    walk_at "ev"
    refine ⟨n, d, ep, r, ws, B, F, rfl, hw.keep kp, kp.get g, hcl r hr, fun hSd H2 k2 => ?_, fun hSd H2 k2 => ?_⟩
    · have hst : Stl ys r := .mk fun w hw r' b e => (hT.stl r' ((hlk r hr).step hw e)).mp (hSw.mpr hSd w hw r' b e)
      obtain ⟨m, hm⟩ := Option.isSome_iff_exists.mp ((hT.stl r (hlk r hr)).mpr hst)
      have hv : m = hgt (val F) ws r := (hT.vl r m hm).2.trans (mx_mem hmem)
      have hg2 := (kp.trans k2).get g
      rw [← hv]
      refine s_ite ?_
      walk_at "ev"
      refine if_f rfl ?_
      refine if_ff ?_
      walk_at "ev"
      refine s_ite ?_
      walk_at "ev"
      refine if_t rfl ?_
      walk_at "ev"
      refine b_dget hg2 (hts_find F hr) ?_
      rw [hm]
      walk_at "ev"
      refine ⟨_, rfl, ?_⟩
      walk_at "ev"
      refine if_f rfl ?_
      walk_at "ev"
      refine b_dget hg2 (hts_find F hr) ?_
      rw [hm]
      walk_at "ev"
      refine c_nei ?_
      refine if_f (by rw [decide_eq_true rfl]; rfl) ?_
      walk_at "ev"
      exact next _ _ k2 (by walk_at "nm") (by walk_at "nm") (by walk_at "nm")
    · have hv : val F r = none := by
        cases hv : val F r with
        | none => rfl
        | some m => exact absurd (hSw.mp (hT.vl r m hv).1) hSd
      have hg2 := (kp.trans k2).get g
      refine s_ite ?_
      walk_at "ev"
      refine if_t rfl ?_
      walk_at "ev"
      refine b_dget hg2 (hts_find F hr) ?_
      rw [hv]
      walk_at "ev"
      refine if_f rfl ?_
      walk_at "ev"
      refine s_ite ?_
      walk_at "ev"
      refine if_f rfl ?_
      refine if_ff ?_
      walk_at "ev"
      exact next _ _ k2 (by walk_at "nm") (by walk_at "nm") (by walk_at "nm")
  · rintro σ H' ⟨kp, _, ⟨s1, s2, s3⟩⟩
    refine ⟨kp.get g, ?_⟩
    replace hw := hw.keep kp
    replace hh := hh.keep kp
    replace g := kp.get g
    clear kp
    refine s_asg ?_
    walk_at "ev"
    refine .copy g fun ep' => ?_
    have k8 : Keep H' (H' ++ [AObj.dict (hts B F) ep']) := Keep.new _ _
    have g8 : (H' ++ [AObj.dict (hts B F) ep'])[H'.length]? = some (.dict (hts B F) ep') := get_new
    have h8d : H'.length ≠ d := Nat.ne_of_gt (lt_of_get g)
    generalize H' ++ [AObj.dict (hts B F) ep'] = H8 at k8 g8
    generalize H'.length = L8 at g8 h8d
    replace hw := hw.keep k8
    replace hh := hh.keep k8
    replace g := k8.get g
    clear k8
    refine s_exp (e_methN (by walk_at "nm") (kind_d g) h10 (l0 ?_))
    refine ⟨d, _, _, rfl, hd1, g, fun ep9 => ?_⟩
    have kx : Kx d H8 (H8.set d (.dict [] ep9)) := (Kx.refl d H8).set _
    generalize H8.set d (.dict [] ep9) = H9 at kx
    replace hw : Ws H9 n ws := kx.2 n _ hwd hw
    replace hh : Ws H9 hd ws := kx.2 hd _ hhd hh
    replace g8 := kx.2 L8 _ h8d g8
    refine r_ret ?_
    walk_at "ev"
    refine ⟨hd, ws, rfl, lt_of_get hh, hh, hc, fun d2 H10 ys2 B2 F2 ep2 _ k10 hp2 g10 hI2 hS2 hT2 => ?_⟩
    replace hw := hw.keep k10
    replace hh := hh.keep k10
    have hm2 : ∀ w, w ∈ ys2 ↔ w ∈ ys := fun w => hp2.mem_iff.trans hp.mem_iff.symm
    walk_at "ev"
    refine .eqD g10 (k10.get g8) (same_hts (keys_perm (least_one hposY hm2 hI2 hS2 hI hS) hI2.nd hI.nd) fun r hr => tb_one hm2 hT2 hT r ?_) ?_
    · obtain ⟨b, hb, rfl⟩ := List.mem_map.mp hr
      exact ⟨_, _, _, hI2.gd b hb⟩
    walk_at "ev"
    refine c_eqw hh hw ?_
    rw [decide_eq_true rfl]
    walk_at "ev"
    exact h _
  · obtain ⟨b, hb, rfl⟩ := List.mem_map.mp hx
    exact ⟨b.1, List.mem_map.mpr ⟨b, hb, rfl⟩, rfl⟩
end
end Mine
end
section
namespace Mine
open PySem PyProof.Rows PySem.W
section
variable {prog : Program} {w : World} {s : Shared} {p : Program} {loose : List Str} {mean : ExcName → Option Value} {mg mb : Str → Option Value} (T : Top p loose mean mg mb s.heap)
theorem constI {x : Str} {i : Int} (h : valOf p x = some (.int i)) : ConstAt (cxOf prog w s T) x (.int i) := by
  obtain ⟨v, h1, h2⟩ := T.const x _ h
  have h3 := h2 s.heap
  cases h3
  exact ⟨_, by show gOf mg mb x = _; unfold gOf; rw [h1], fun ρ => ⟨_, rfl⟩⟩
theorem constS {x w' : Str} (h : valOf p x = some (.str w')) (ok : okT w'.cps.toList = true) : ConstAt (cxOf prog w s T) x (.str w'.cps.toList) := by
  obtain ⟨v, h1, h2⟩ := T.const x _ h
  have h3 := h2 s.heap
  cases h3
  exact ⟨_, by show gOf mg mb x = _; unfold gOf; rw [h1], fun ρ => ⟨ok, _, rfl⟩⟩
end
end Mine
end
section
namespace Mine
open PySem PyProof.Rows
theorem walk10 {C : Cx} (hb : ∀ p ∈ biL, C.G p.1 = some p.2) (c1 : ConstAt C (nm 367874058560204) (.str az.cps.toList)) (c2 : ConstAt C (nm 771200664775530178509) (.int 10)) (c3 : ConstAt C (nm 770486307810356553677) (.int 12))
    (d1 : DefAt C (nm 487352597740009) x_is_sign b_is_sign) (d2 : DefAt C (nm 443751708752361) x_is_word b_is_word) (d3 : DefAt C (nm 443303916565603) x_checked b_checked) (d4 : DefAt C (nm 452440421413612) x_left_of b_left_of) (d5 : DefAt C (nm 3463326495859) x_shared b_shared) (d6 : DefAt C (nm 443305286007411) x_stepped b_stepped) (d7 : DefAt C (nm 29774967522) x_begun b_begun) (d8 : DefAt C (nm 487624762177511) x_gone_on b_gone_on) (d9 : DefAt C (nm 135527429768205915927275) x_kept_better b_kept_better) (d10 : DefAt C (nm 1651436) x_led b_led) (d11 : DefAt C (nm 31381287660) x_least b_least) (d12 : DefAt C (nm 8774559802307801832) x_height_by b_height_by) (d13 : DefAt C (nm 929676333464757467625) x_is_settled b_is_settled) (d14 : DefAt C (nm 443304220898035) x_settled b_settled) (d15 : DefAt C (nm 509789213455080) x_heights b_heights) (d16 : DefAt C (nm 513532042442335) x_law_at b_law_at) (d17 : DefAt C (nm 929683040243566540383) x_law_mixed b_law_mixed) (d18 : DefAt C (nm 1068672569199679796831) x_law_signs b_law_signs) (d19 : DefAt C (nm 7270427996206954079) x_law_word b_law_word) (d20 : DefAt C (nm 1951640654478162685372954207) x_law_any_word b_law_any_word) (d21 : DefAt C (nm 7342485246647498335) x_law_more b_law_more) (d22 : DefAt C (nm 1022192038397693425247) x_law_chain b_law_chain) (d23 : DefAt C (nm 1067958212234506171999) x_law_words b_law_words) (d24 : DefAt C (nm 939405744834656892511) x_law_whole b_law_whole) (d25 : DefAt C (nm 8127822628061214303) x_law_step b_law_step) (d26 : DefAt C (nm 118998992280703227950687) x_law_shared b_law_shared) (d27 : DefAt C (nm 137915340184785486640735) x_law_height b_law_height) : ∃ T, TabOk C T 27 ∧ Ct T x_law b_law spLaw := by
  have g : ∀ i (h : i < biL.length), C.G (biL[i]).1 = some (biL[i]).2 := fun i h => hb _ (List.getElem_mem h)
  have t : TabOk C (tabV T0 []) 0 := base_ok hb
  replace t := ((t.entV c1).entV c2).entV c3
  replace t := t.entV (ConstAt.glob (n := 1882739) (g 14 (by decide)))
  replace t := t.entV (ConstAt.glob (n := 1914729) (g 13 (by decide)))
  replace t := t.entV (ConstAt.glob (n := 228325346) (g 15 (by decide)))
  replace t : TabOk C (tabM (tabV T0 _) []) 0 := t
  replace t := t.entM (k := .str) (n := 232421354) ok_join get_join
  replace t := t.entM (k := .list) (n := 3465715398753) ok_append get_append
  replace t := t.entM (k := .dict) (n := 1913575) ok_get get_get
  replace t := t.entM (k := .dict) (n := 30806734435) ok_clearD get_clearD
  replace t : TabOk C (tabE (tabM (tabV T0 _) _) []) 0 := t
  replace t := t.entB (n := 1815276) (g 0 (by decide)) (.inl ⟨_, rfl⟩) (ok_len)
  replace t := t.entB (n := 938756632654307293673) (g 1 (by decide)) (.inl ⟨_, rfl⟩) (ok_isi (g 14 (by decide)) (g 11 (by decide)) (g 12 (by decide)) (g 10 (by decide)) (g 13 (by decide)) (g 15 (by decide)))
  replace t := t.entB (n := 1815789) (g 2 (by decide)) (.inl ⟨_, rfl⟩) (ok_min)
  replace t := t.entB (n := 1978605) (g 3 (by decide)) (.inl ⟨_, rfl⟩) (ok_max)
  replace t := t.entB (n := 1783393) (g 5 (by decide)) (.inl ⟨_, rfl⟩) (ok_all)
  replace t := t.entB (n := 3463330969587) (g 6 (by decide)) (.inl ⟨_, rfl⟩) (ok_sorted)
  replace t := t.entB (n := 245167340) (g 11 (by decide)) (.inr (.inl ⟨_, rfl⟩)) (ok_list_call)
  replace t := t.entB (n := 244905188) (g 10 (by decide)) (.inr (.inl ⟨_, rfl⟩)) (ok_dict)
  replace t := t.ent d1 (ct_is_sign (.ent rfl) (.ent rfl) (gvT rfl rfl) (gvT rfl rfl))
  replace t := t.ent d2 (ct_is_word (.ent rfl) (.ent rfl) (.ent rfl) (.ent rfl) (gvT rfl rfl) (gvT rfl rfl))
  replace t := t.ent d3 (ct_checked (.ent rfl) (.ent rfl) (.ent rfl) (.met rfl) (.ent rfl) (Has.ent (sp := spList) rfl).gv (gvT rfl rfl))
  replace t := t.ent d4 (ct_left_of (.ent rfl))
  replace t := t.ent d5 (ct_shared (.ent rfl) (.ent rfl))
  replace t := t.ent d6 (ct_stepped (.ent rfl))
  replace t := t.ent d7 (ct_begun (.ent rfl) (.ent rfl) (.met rfl))
  replace t := t.ent d8 (ct_gone_on (.ent rfl) (.ent rfl))
  replace t := t.ent d9 (ct_kept_better)
  replace t := t.ent d10 (ct_led (.ent rfl) (.ent rfl) (.ent rfl) (.ent rfl))
  replace t := t.ent d11 (ct_least (.ent rfl) (.ent rfl) (.ent rfl))
  replace t := t.ent d12 (ct_height_by (.ent rfl) (.ent rfl) (.ent rfl) (.ent rfl))
  replace t := t.ent d13 (ct_is_settled (.ent rfl) (.ent rfl))
  replace t := t.ent d14 (ct_settled (.ent rfl) (.ent rfl) (.ent rfl) (.ent rfl))
  replace t := t.ent d15 (ct_heights (.ent rfl) (.ent rfl) (.ent rfl) (.ent rfl) (.met rfl))
  replace t := t.ent d16 (ct_law_at (.ent rfl))
  replace t := t.ent d17 (ct_law_mixed)
  replace t := t.ent d18 (ct_law_signs (.met rfl))
  replace t := t.ent d19 (ct_law_word (.met rfl) (.ent rfl) (.ent rfl))
  replace t := t.ent d20 (ct_law_any_word)
  replace t := t.ent d21 (ct_law_more (.ent rfl) (.ent rfl))
  replace t := t.ent d22 (ct_law_chain (.ent rfl) (.ent rfl) (.ent rfl) (.met rfl) (.ent rfl))
  replace t := t.ent d23 (ct_law_words (.ent rfl) (.ent rfl) (.ent rfl) (.met rfl) (.ent rfl) (.ent rfl) (.ent rfl) (.ent rfl))
  replace t := t.ent d24 (ct_law_whole (.ent rfl) (gvT rfl rfl) (gvT rfl rfl))
  replace t := t.ent d25 (ct_law_step (.ent rfl))
  replace t := t.ent d26 (ct_law_shared (.ent rfl) (.ent rfl))
  replace t := t.ent d27 (ct_law_height (.ent rfl) (.ent rfl) (.ent rfl) (.ent rfl))
  exact ⟨_, t, ct_law10 (.ent rfl) (.ent rfl) (.ent rfl) (.ent rfl) (.ent rfl) (.ent rfl) (.ent rfl) (.ent rfl) (.ent rfl) (.met rfl)⟩
end Mine
end
open PySem PySem.W PyProof.Rows Mine
theorem Mine.hd0 : ∀ w, Lk PySem.Challenge.rw_uf020005_10.row.prog 4062 (lkA PySem.Challenge.rw_uf020005_10.row.prog (Hook.obs Hook.none)) w = some ((true, true), Hook.val Hook.none w) := by
  intro w
  kernel_rfl
set_option maxHeartbeats 8000000 in
theorem PySem.Challenge.cw_uf020005_10_holds : PySem.Challenge.rw_uf020005_10.Holds := by
  w_on
  refine holds_law said_well fun said => ?_
  refine holds_open (q := qv) (loose := lv) (Xt := xt) (XP := XL qv []) (Yf := Hook.obs Hook.none) (Ya := Hook.val Hook.none) (YP := Hook.says Hook.none) (N := 4062) (left_tree hd0 hd2 hd1) (Hook.of Hook.none) (Hook.keeps Hook.none) (fun s e => xl_of s (Bool.and_eq_true_iff.mp e).1) XL.keeps (by rfl) (by rfl) (by rfl) (fun s e => recFacts_of (Bool.and_eq_true_iff.mp e).2) (by rfl) said (by decide +kernel) ⟨rfl, rfl, rfl, rfl, rfl, by decide +kernel⟩ ?hw ?hc
  case hw => w_witness2
  intro w s₀ s₁ mg mb G Y fa o pm cd doc dV kV ho hd hcd hD hmg hg args vals as hpre hlay hrd hwl hlo
  have hlo' := hlo
  refine Ground.open G ?_
  intro T B D TE TW
  clear B D TE TW hD hcd hd ho Y G
  wrow_args hpre hlay hrd hwl hlo
  refine enter_call ?_
  rename_i ns _ _ _ _ _ as1 as2 l vs as3 hL ra w1 r0 hI _ hc1 _
  have hl : l ≠ sysModules := by
    have : l ∈ as1 := by cases r0 <;> simp
    exact fun q => by have := hlo' l (List.mem_append_left _ this); rw [q] at this; cases this
  have hb := bi_of (prog := Challenge.rw_uf020005_10.row.prog) (w := w) T (by decide +kernel)
  obtain ⟨Tb, hT, hct⟩ := walk10 hb (constS (w' := az) T (by kernel_rfl) (by decide +kernel)) (constI T (by kernel_rfl)) (constI T (by kernel_rfl)) (defAt_of T (by kernel_rfl)).1 (defAt_of T (by kernel_rfl)).1 (defAt_of T (by kernel_rfl)).1 (defAt_of T (by kernel_rfl)).1 (defAt_of T (by kernel_rfl)).1 (defAt_of T (by kernel_rfl)).1 (defAt_of T (by kernel_rfl)).1 (defAt_of T (by kernel_rfl)).1 (defAt_of T (by kernel_rfl)).1 (defAt_of T (by kernel_rfl)).1 (defAt_of T (by kernel_rfl)).1 (defAt_of T (by kernel_rfl)).1 (defAt_of T (by kernel_rfl)).1 (defAt_of T (by kernel_rfl)).1 (defAt_of T (by kernel_rfl)).1 (defAt_of T (by kernel_rfl)).1 (defAt_of T (by kernel_rfl)).1 (defAt_of T (by kernel_rfl)).1 (defAt_of T (by kernel_rfl)).1 (defAt_of T (by kernel_rfl)).1 (defAt_of T (by kernel_rfl)).1 (defAt_of T (by kernel_rfl)).1 (defAt_of T (by kernel_rfl)).1 (defAt_of T (by kernel_rfl)).1 (defAt_of T (by kernel_rfl)).1 (defAt_of T (by kernel_rfl)).1 (defAt_of T (by kernel_rfl)).1
  exact law_done T hT (by decide) (f := nm 1962220) (by kernel_rfl) hct hmg w1 hL hI (by omega) hl hg (fun _ => rfl) (by kernel_rfl)
