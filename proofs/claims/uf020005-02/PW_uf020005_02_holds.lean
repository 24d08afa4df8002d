import PyProof.Rows.All
import PyProof.ListNew
import PyProof.WalksMore
import PyProof.AttrMissHeap
import KE.KDictOf
import PyProof.Conv_int_bool
import PyProof.ObjNew
import PyProof.StrCalls
import PyProof.RaisesMany
import Open.Tree
import Wide.All
import Open.Line
import Wide.FinOn
import PySem.Challenge.RW_uf020005_02
set_option Elab.async false
set_option autoImplicit false
set_option linter.unusedVariables false
set_option linter.unusedSimpArgs false
set_option maxRecDepth 100000
section
namespace Mine
open PySem PySem.Calls PyProof.Rows PySem.W
noncomputable def ofL : List Obj → Nat → BT → BT
  | [], _, t => t
  | o :: r, i, t => ofL r (i + 1) (t.ins i o)
theorem ins_some (o : Obj) : ∀ (t : BT) (n : Nat), (∀ i, i < n → (t.get i).isSome = true) → ((t.ins n o).get n).isSome = true
  | .nil, n, h => by
    cases n with
    | zero => rfl
    | succ n => have := h 0 (Nat.succ_pos n); cases this
  | .node v l r, n, h => by
    rw [BT.ins_node]
    by_cases h0 : n = 0
    · rw [if_pos h0, h0]; rfl
    · rw [if_neg h0]
      by_cases h1 : n % 2 = 1
      · rw [if_pos h1, BT.get_node, if_neg h0, if_pos h1]
        refine ins_some o l (n / 2) fun i hi => ?_
        have := h (2 * i + 1) (by lia)
        rwa [BT.get_node, if_neg (by lia), if_pos (by lia), show (2 * i + 1) / 2 = i by lia] at this
      · rw [if_neg h1, BT.get_node, if_neg h0, if_neg h1]
        refine ins_some o r (n / 2 - 1) fun i hi => ?_
        have := h (2 * i + 2) (by lia)
        rwa [BT.get_node, if_neg (by lia), if_neg (by lia), show (2 * i + 2) / 2 - 1 = i by lia] at this
theorem ofL_abs (life : Life) : ∀ (r : List Obj) (n : Nat) (t : BT) (h : Heap), (∀ i, i < n → (t.get i).isSome = true) → absHeap t n life = h → absHeap (ofL r n t) (n + r.length) life = ⟨h.objs ++ r.toArray, life⟩
  | [], n, t, h, _, e => by
    subst e
    show absHeap t n life = _
    rw [show ([] : List Obj).toArray = #[] from rfl, Array.append_empty]
    rfl
  | o :: r, n, t, h, hi, e => by
    have hs := ins_some o t n hi
    have := ofL_abs life r (n + 1) (t.ins n o) (h.push o) (fun i hlt => by
      rw [BT.get_ins o t n hs]
      by_cases q : i = n
      · rw [if_pos q]; rfl
      · rw [if_neg q]; exact hi i (by lia)) (by rw [absHeap_ins hs, e])
    show absHeap (ofL r (n + 1) (t.ins n o)) (n + (r.length + 1)) life = _
    rw [show n + (r.length + 1) = n + 1 + r.length by lia, this]
    show Heap.mk (h.objs.push o ++ r.toArray) life = _
    congr 1
    apply Array.ext'
    simp
noncomputable def treeOf (s : Shared) : SharedT := ⟨ofL s.heap.objs.toList 0 .nil, s.heap.objs.size, s.heap.life, s.gens, s.drawn, s.toks, s.os⟩
theorem treeOf_abs (s : Shared) : (treeOf s).abs = s := by
  obtain ⟨⟨objs, life⟩, gens, drawn, toks, os⟩ := s
  have := ofL_abs life objs.toList 0 .nil ⟨#[], life⟩ (fun i h => absurd h (Nat.not_lt_zero i)) rfl
  rw [Nat.zero_add, Array.length_toList] at this
  show Shared.mk (absHeap (ofL objs.toList 0 .nil) objs.size life) gens drawn toks os = _
  rw [this]
  congr 2
  apply Array.ext'
  simp
noncomputable def topRunT (tb : String → Option Builtin) (p : Program) (w : World) (n₀ : Nat) (ann : Option Value) : Nat → SharedT → Thread → Option SharedT
  | 0, _, _ => none
  | n + 1, s, t => match through t with
    | true => some s
    | false => match stepOk n₀ ann t with
      | false => none
      | true => match stepT (denote tb) p w s t with
        | some (s', t') => topRunT tb p w n₀ ann n s' t'
        | none => none
theorem topRunT_of {tb : String → Option Builtin} {p : Program} {w : World} {n₀ : Nat} {ann : Option Value} : ∀ {n : Nat} {s s' : SharedT} {t : Thread}, topRunT tb p w n₀ ann n s t = some s' → topRun tb p w n₀ ann n s.abs t = some s'.abs
  | 0, _, _, _, h => by cases h
  | n + 1, s, s', t, h => by
    unfold topRunT at h
    unfold topRun
    cases ht : through t with
    | true => rw [ht] at h; cases h; rfl
    | false =>
      rw [ht] at h
      cases hk : stepOk n₀ ann t with
      | false => rw [hk] at h; cases h
      | true =>
        rw [hk] at h
        cases hs : stepT (denote tb) p w s t with
        | none => rw [hs] at h; cases h
        | some r => obtain ⟨s₂, t₂⟩ := r; rw [hs] at h; dsimp only; rw [stepT_spec hs]; exact topRunT_of h
noncomputable def Lk {β : Type} (p : Program) (N : Nat) (f : Shared → Shared → β) (w : World) : Option β :=
  (fencedOpening treeTable p w N).bind fun s₀ => (topRunT treeTable p w s₀.heap.objs.size (s₀.heap.nsMap mainGlobals "__annotations__") N (treeOf s₀) (topStub p)).map fun s => f s₀ s.abs
noncomputable def lkA {α : Type} (p : Program) (Yf : Shared → α) (s₀ s : Shared) : (Bool × Bool) × α :=
  ((s₀.heap.isNs mainGlobals && s₀.gens.size == 0, staticsOk (importedModules p.main.body) s₀.heap s.heap && namesBound p s.heap && gensDone s && laidKept s₀.heap s.heap), Yf s)
theorem left_tree {p q : Program} {loose : List Str} {Xt : Shared → Bool} {α : Type} {Yf : Shared → α} {Ya : World → α} {N : Nat} {g0 : Bool}
    (h1 : ∀ w, Lk p N (lkA p Yf) w = some ((true, true), Ya w))
    (h2 : ∀ w, Lk p N (fun _ s => (openSeen q loose (importedModules p.main.body) Xt g0 s).2) w = some (openGood q loose).2)
    (h3 : ∀ w, Lk p N (fun _ s => (openSeen q loose (importedModules p.main.body) Xt g0 s).1) w = some (openGood q loose).1) : LeftO p q loose Xt Yf Ya N g0 := fun w => by
  have k1 := h1 w
  have k2 := h2 w
  have k3 := h3 w
  unfold Lk at k1 k2 k3
  obtain ⟨s₀, e, e'⟩ := Option.bind_eq_some_iff.mp k1
  obtain ⟨s, r, e3⟩ := Option.map_eq_some_iff.mp e'
  rw [e, Option.bind_some, r, Option.map_some] at k2 k3
  injection k2 with k2
  injection k3 with k3
  unfold lkA at e3
  obtain ⟨e4, e5⟩ := Prod.mk.inj e3
  obtain ⟨e1, l1⟩ := Prod.mk.inj e4
  have r := topRunT_of r
  rw [treeOf_abs] at r
  have t : topFrom treeTable p w N s₀ = some s.abs := by
    unfold topFrom
    rw [e1]
    dsimp only
    rw [r]
    show (match staticsOk (importedModules p.main.body) s₀.heap s.abs.heap && namesBound p s.abs.heap && gensDone s.abs && laidKept s₀.heap s.abs.heap with | true => _ | false => _) = _
    rw [l1]
  unfold openEnds
  rw [e]
  show (topFrom treeTable p w N s₀).map _ = _
  rw [t]
  exact congrArg some (Prod.ext (Prod.ext k3 k2) e5)
end Mine
end
section
namespace Mine
open PySem PySem.Calls PyProof.Rows PySem.W
noncomputable def qv : Program := view PySem.Challenge.rw_uf020005_02.row.prog [2, 3, 4, 5, 6, 7, 8, 9, 10, 11, 13, 14, 15, 16, 17, 18, 23, 24, 25, 31, 32, 33, 38, 40, 42, 45, 47, 49, 50, 51, 52, 53, 54, 55, 56, 57, 58, 59, 60, 61, 62, 63, 64]
noncomputable def lv : List Str := ["_wall", "left_of", "shared", "words_at", "stepped", "begun", "gone_on", "kept_better", "height_by", "is_settled", "settled", "apart", "shown", "rung", "unsettled_next"]
noncomputable def xt : Shared → Bool := fun s => xlAt qv [] s && recOk (RowW.records (OpenRow.toRowW PySem.Challenge.rw_uf020005_02.row)) s
set_option maxHeartbeats 8000000 in
theorem said_well : PySem.Challenge.rw_uf020005_02.wellSaid = true := by
  unfold OpenLaw.wellSaid OpenRow.wellSaid OpenRow.partSaid looksOpen
  repeat' with_reducible refine look_both ?_ ?_
  all_goals decide +kernel
theorem hd2 : ∀ w, Lk PySem.Challenge.rw_uf020005_02.row.prog 7890 (fun _ s => (openSeen qv lv (importedModules PySem.Challenge.rw_uf020005_02.row.prog.main.body) xt true s).2) w = some (openGood qv lv).2 := by
  intro w
  kernel_rfl
theorem hd1 : ∀ w, Lk PySem.Challenge.rw_uf020005_02.row.prog 7890 (fun _ s => (openSeen qv lv (importedModules PySem.Challenge.rw_uf020005_02.row.prog.main.body) xt true s).1) w = some (openGood qv lv).1 := by
  intro w
  kernel_rfl
end Mine
end
section
namespace Mine
open PySem
abbrev Txt := List Nat
inductive V where
  | none
  | bool (b : Bool)
  | int (i : Int)
  | str (t : Txt)
  | ref (n : Nat)
  | glob (g : Str)
  | exc (a : Nat)
  deriving DecidableEq
set_option genSizeOf false in
inductive AObj where
  | list (xs : List V)
  | tuple (xs : List V)
  | dict (es : List (Txt × V)) (ep : Nat)
abbrev AHeap := List AObj
abbrev Sg := Str → Option V
noncomputable def Sg.set (σ : Sg) (x : Str) (v : V) : Sg := fun y => if y = x then some v else σ y
noncomputable def Sg.sets (σ : Sg) : List (Str × V) → Sg
  | [] => σ
  | (x, v) :: r => (σ.set x v).sets r
set_option genSizeOf false in
inductive Tgt where
  | name (x : Str)
  | tup (xs : List Str)
set_option genSizeOf false in
set_option genInjectivity false in
inductive PE where
  | name (x : Str)
  | glob (x : Str)
  | none
  | bool (b : Bool)
  | int (i : Int)
  | str (x : Str)
  | bin (op : Operator) (l r : PE)
  | cmp1 (op : CmpOp) (l r : PE)
  | cmp2 (o1 o2 : CmpOp) (a b c : PE)
  | and (l r : PE)
  | or (l r : PE)
  | not (e : PE)
  | neg (e : PE)
  | ite (c a b : PE)
  | call (f : PE) (args : PE)
  | meth (o : PE) (m : Str) (args : PE)
  | sortLen (e : PE)
  | sub (o i : PE)
  | slice (o lo hi : PE)
  | list (es : PE)
  | tuple (es : PE)
  | dict0
  | comp0 (elt : PE) (t : Tgt) (it : PE)
  | comp1 (elt : PE) (t : Tgt) (it : PE) (cond : PE)
  | nil
  | cons (h t : PE)
  | itVal (e : PE)
  | itRange1 (hi : PE)
  | itRange2 (lo hi : PE)
  | itRev (e : PE)
set_option genSizeOf false in
set_option genInjectivity false in
inductive PS where
  | skip
  | seq (a b : PS)
  | assign (t : Tgt) (e : PE)
  | setItem (o i e : PE)
  | expr (e : PE)
  | ite (c : PE) (a b : PS)
  | for_ (t : Tgt) (it : PE) (body : PS)
  | while_ (c : PE) (body : PS)
  | ret (e : PE)
  | raise (c : Str) (e : PE)
  | tryr (b : PS) (c x : Str) (h : PE)
  | brk
  | stuck (e : PE)
set_option genSizeOf false in
inductive Fl where
  | next | brk | ret (v : V)
set_option genSizeOf false in
inductive Item where
  | one (v : V)
abbrev VPost := V → AHeap → Prop
abbrev XPost := Str → AHeap → Prop
abbrev Spec := List V → AHeap → VPost → XPost → Prop
inductive MK where
  | str | list | dict
  deriving DecidableEq
noncomputable def kindA (v : V) (H : AHeap) : Option MK := match v with
  | .str _ => some .str
  | .ref n => (match H[n]? with
    | some (.list _) => some .list
    | some (.dict _ _) => some .dict
    | _ => none)
  | _ => none
set_option genSizeOf false in
set_option genInjectivity false in
structure Tab where
  gv : Str → Option V
  fn : Str → Spec
  has : MK → Str → Bool
  mt : MK → Str → Spec
  srt : Spec
  /-- own exception classes that may be raised; which clause takes which; what a handler's expression does -/
  cls : Str → Bool
  cat : Str → Str → Bool
  hev : Str → Nat → PE → Sg → AHeap → VPost → Prop
noncomputable def truthyA : V → Option Bool
  | .none => some false
  | .bool b => some b
  | .int i => some (i != 0)
  | .str t => some (!t.isEmpty)
  | _ => Option.none
abbrev lid : Nat := 1000000
noncomputable def okT (t : Txt) : Bool := decide (t.length ≤ lid) && t.all fun c => decide (c < 1114112)
noncomputable def rdL (f : V → Option PyData) : List V → Option (List PyData)
  | [] => some []
  | v :: r => (f v).bind fun d => (rdL f r).map fun ds => d :: ds
noncomputable def rdO (f : V → Option PyData) : AObj → Option PyData
  | .list xs => (rdL f xs).map .list
  | .tuple xs => (rdL f xs).map .tuple
  | .dict _ _ => none
noncomputable def rdV (f : Nat → Option PyData) : V → Option PyData
  | .none => some .none
  | .bool b => some (.bool b)
  | .int i => some (.int i)
  | .str t => some (.str ⟨t.toArray⟩)
  | .ref a => f a
  | .glob _ => none
  | .exc _ => none
noncomputable def rd (H : AHeap) : Nat → V → Option PyData
  | 0, v => rdV (fun _ => none) v
  | n + 1, v => rdV (fun a => H[a]?.bind (rdO (rd H n))) v
noncomputable def SameD (H : AHeap) (es fs : List (Txt × V)) : Prop := es.length = fs.length ∧ ∀ e ∈ es, ∃ f d, fs.find? (fun x => x.1 == e.1) = some f ∧ rd H 0 e.2 = some d ∧ rd H 0 f.2 = some d
inductive CmpA (H : AHeap) (q : Bool → Prop) : CmpOp → V → V → Prop
  | eq {a b x y} : rd H 6 a = some x → rd H 6 b = some y → q (PyData.eqv x y) → CmpA H q .Eq a b
  | ne {a b x y} : rd H 6 a = some x → rd H 6 b = some y → q (!PyData.eqv x y) → CmpA H q .NotEq a b
  | is {a} : q (decide (a = .none)) → CmpA H q .Is a .none
  | isn {a} : q (!decide (a = .none)) → CmpA H q .IsNot a .none
  | lt {i j} : q (decide (i < j)) → CmpA H q .Lt (.int i) (.int j)
  | le {i j} : q (decide (i ≤ j)) → CmpA H q .LtE (.int i) (.int j)
  | gt {i j} : q (decide (i > j)) → CmpA H q .Gt (.int i) (.int j)
  | ge {i j} : q (decide (i ≥ j)) → CmpA H q .GtE (.int i) (.int j)
  | inS {c u} : q (decide (c ∈ u)) → CmpA H q .In (.str [c]) (.str u)
  | inL {a n ds d} : rd H 6 (.ref n) = some (.list ds) → rd H 6 a = some d → q (ds.any fun x => PyData.eqv x d) → CmpA H q .In a (.ref n)
  | inD {k n es ep} : H[n]? = some (.dict es ep) → q (es.any fun e => e.1 == k) → CmpA H q .In (.str k) (.ref n)
  | ninS {c u} : q (!decide (c ∈ u)) → CmpA H q .NotIn (.str [c]) (.str u)
  | ninL {a n ds d} : rd H 6 (.ref n) = some (.list ds) → rd H 6 a = some d → q (!(ds.any fun x => PyData.eqv x d)) → CmpA H q .NotIn a (.ref n)
  | ninD {k n es ep} : H[n]? = some (.dict es ep) → q (!(es.any fun e => e.1 == k)) → CmpA H q .NotIn (.str k) (.ref n)
  | eqL {n m xs} : H[n]? = some (.list xs) → H[m]? = some (.list xs) → q true → CmpA H q .Eq (.ref n) (.ref m)
  | eqD {n m es fs ep ep'} : H[n]? = some (.dict es ep) → H[m]? = some (.dict fs ep') → SameD H es fs → q true → CmpA H q .Eq (.ref n) (.ref m)
  | neD {n m es fs ep ep'} : H[n]? = some (.dict es ep) → H[m]? = some (.dict fs ep') → SameD H es fs → q false → CmpA H q .NotEq (.ref n) (.ref m)
abbrev cmpA (op : CmpOp) (a b : V) (H : AHeap) (q : Bool → Prop) : Prop := CmpA H q op a b
inductive BinA (H : AHeap) (Q : VPost) : Operator → V → V → Prop
  | add {i j} : Q (.int (i + j)) H → BinA H Q .Add (.int i) (.int j)
  | sub {i j} : Q (.int (i - j)) H → BinA H Q .Sub (.int i) (.int j)
  | mul {i j} : (i.natAbs < 2 ^ 63 ∨ j.natAbs < 2 ^ 63) → Q (.int (i * j)) H → BinA H Q .Mult (.int i) (.int j)
  | div {i j} : 0 < j → j < 1073741824 → Q (.int (i / j)) H → BinA H Q .FloorDiv (.int i) (.int j)
  | mod {i j} : 0 < j → Q (.int (i % j)) H → BinA H Q .Mod (.int i) (.int j)
  | pow : Q (.int (10 ^ 20)) H → BinA H Q .Pow (.int 10) (.int 20)
  | cat {t u} : t.length + u.length ≤ lid → Q (.str (t ++ u)) H → BinA H Q .Add (.str t) (.str u)
  | lcat {m n xs ys} : H[m]? = some (.list xs) → H[n]? = some (.list ys) → xs.length + ys.length ≤ lid → Q (.ref H.length) (H ++ [.list (xs ++ ys)]) → BinA H Q .Add (.ref m) (.ref n)
abbrev binA (op : Operator) (a b : V) (H : AHeap) (Q : VPost) : Prop := BinA H Q op a b
inductive Pl (n : Nat) : Int → Nat → Prop
  | pos {k : Int} : 0 ≤ k → k < n → Pl n k k.toNat
  | neg {k : Int} : k < 0 → -(n : Int) ≤ k → Pl n k (k + n).toNat
inductive SubA (H : AHeap) (q : V → Prop) : V → V → Prop
  | str {t k j} : Pl t.length k j → q (.str ((t.drop j).take 1)) → SubA H q (.str t) (.int k)
  | list {n k xs j v} : H[n]? = some (.list xs) → Pl xs.length k j → xs[j]? = some v → q v → SubA H q (.ref n) (.int k)
  | tuple {n k xs j v} : H[n]? = some (.tuple xs) → Pl xs.length k j → xs[j]? = some v → q v → SubA H q (.ref n) (.int k)
  | dict {n k es ep e} : H[n]? = some (.dict es ep) → es.find? (fun e => e.1 == k) = some e → q e.2 → SubA H q (.ref n) (.str k)
abbrev subA (o i : V) (H : AHeap) (q : V → Prop) : Prop := SubA H q o i
noncomputable def cut {α : Type} (xs : List α) (lo hi : Nat) : List α := (xs.take hi).drop lo
inductive Bd (n d : Nat) : V → Nat → Prop
  | none : Bd n d .none d
  | int {i} : Bd n d (.int i) (clipAt n i)
inductive SliceA (H : AHeap) (Q : VPost) : V → V → V → Prop
  | str {t l h i j} : Bd t.length 0 l i → Bd t.length t.length h j → Q (.str (cut t i j)) H → SliceA H Q (.str t) l h
  | list {n xs l h i j} : H[n]? = some (.list xs) → Bd xs.length 0 l i → Bd xs.length xs.length h j → Q (.ref H.length) (H ++ [.list (cut xs i j)]) → SliceA H Q (.ref n) l h
abbrev sliceA (o lo hi : V) (H : AHeap) (Q : VPost) : Prop := SliceA H Q o lo hi
inductive ItemsA (H : AHeap) (q : List Item → (AHeap → Prop) → Prop) : V → Prop
  | str {t} : q (t.map fun c => .one (.str [c])) (fun _ => True) → ItemsA H q (.str t)
  | list {n xs} : H[n]? = some (.list xs) → q (xs.map .one) (fun H' => H'[n]? = some (.list xs)) → ItemsA H q (.ref n)
  | tuple {n xs} : H[n]? = some (.tuple xs) → q (xs.map .one) (fun H' => H'[n]? = some (.tuple xs)) → ItemsA H q (.ref n)
abbrev itemsA (v : V) (H : AHeap) (q : List Item → (AHeap → Prop) → Prop) : Prop := ItemsA H q v
noncomputable def bindA (t : Tgt) (x : Item) (H : AHeap) (σ : Sg) : Option Sg := match x with
  | .one v => (match t with
    | .name y => some (σ.set y v)
    | .tup ys => (match v with
      | .ref n => (match H[n]? with
        | some (.tuple vs) => if ys.length = vs.length then some (σ.sets (ys.zip vs)) else Option.none
        | _ => Option.none)
      | _ => Option.none))
noncomputable def intsFrom (a : Int) (n : Nat) : List Int := (List.range n).map fun i => a + (i : Nat)
noncomputable def compGo (K : AHeap → Prop) (bind : Item → AHeap → Option Sg) (test : Sg → AHeap → (Bool → AHeap → Prop) → Prop) (elt : Sg → AHeap → VPost → Prop) (Q : List V → AHeap → Prop) : List Item → List V → AHeap → Prop
  | [], acc, H => K H ∧ Q acc H
  | x :: xs, acc, H => K H ∧ match bind x H with
    | some σ => test σ H fun b H1 => if b then elt σ H1 fun v H2 => compGo K bind test elt Q xs (acc ++ [v]) H2 else compGo K bind test elt Q xs acc H1
    | Option.none => False
set_option genSizeOf false in
set_option genInjectivity false in
structure Me where
  ev : Sg → AHeap → VPost → XPost → Prop
  tt : Sg → AHeap → (Bool → AHeap → Prop) → XPost → Prop
  el : Sg → AHeap → (List V → AHeap → Prop) → XPost → Prop
  it : Sg → AHeap → (List Item → (AHeap → Prop) → AHeap → Prop) → XPost → Prop
noncomputable def Me.ofEv (ev : Sg → AHeap → VPost → XPost → Prop) : Me where
  ev := ev
  tt := fun σ H q X => ev σ H (fun v H1 => match truthyA v with | some b => q b H1 | Option.none => False) X
  el := fun _ _ _ _ => False
  it := fun _ _ _ _ => False
noncomputable def Me.ofEl (el : Sg → AHeap → (List V → AHeap → Prop) → XPost → Prop) : Me := ⟨fun _ _ _ _ => False, fun _ _ _ _ => False, el, fun _ _ _ _ => False⟩
noncomputable def Me.ofIt (i : Sg → AHeap → (List Item → (AHeap → Prop) → AHeap → Prop) → XPost → Prop) : Me := ⟨fun _ _ _ _ => False, fun _ _ _ _ => False, fun _ _ _ _ => False, i⟩
noncomputable def sem (T : Tab) : PE → Me
  | .name x => .ofEv fun σ H Q _ => match σ x with | some v => Q v H | Option.none => False
  | .glob g => .ofEv fun _ H Q _ => match T.gv g with | some v => Q v H | Option.none => False
  | .none => .ofEv fun _ H Q _ => Q .none H
  | .bool b => .ofEv fun _ H Q _ => Q (.bool b) H
  | .int i => .ofEv fun _ H Q _ => Q (.int i) H
  | .str x => .ofEv fun _ H Q _ => Q (.str x.cps.toList) H
  | .bin op l r => .ofEv fun σ H Q X => (sem T l).ev σ H (fun a H1 => (sem T r).ev σ H1 (fun b H2 => binA op a b H2 Q) X) X
  | .cmp1 op l r =>
    let go := fun (σ : Sg) (H : AHeap) (q : Bool → AHeap → Prop) (X : XPost) => (sem T l).ev σ H (fun a H1 => (sem T r).ev σ H1 (fun b H2 => cmpA op a b H2 fun c => q c H2) X) X
    { Me.ofEv (fun σ H Q X => go σ H (fun c H2 => Q (.bool c) H2) X) with tt := go }
  | .cmp2 o1 o2 a b c =>
    let go := fun (σ : Sg) (H : AHeap) (q : Bool → AHeap → Prop) (X : XPost) => (sem T a).ev σ H (fun x H1 => (sem T b).ev σ H1 (fun y H2 => cmpA o1 x y H2 fun c1 =>
      if c1 then (sem T c).ev σ H2 (fun z H3 => cmpA o2 y z H3 fun c2 => q c2 H3) X else q false H2) X) X
    { Me.ofEv (fun σ H Q X => go σ H (fun c H2 => Q (.bool c) H2) X) with tt := go }
  | .and l r =>
    { Me.ofEv (fun σ H Q X => (sem T l).ev σ H (fun v H1 => match truthyA v with | some b => if b then (sem T r).ev σ H1 Q X else Q v H1 | Option.none => False) X) with
      tt := fun σ H q X => (sem T l).tt σ H (fun b H1 => if b then (sem T r).tt σ H1 q X else q false H1) X }
  | .or l r =>
    { Me.ofEv (fun σ H Q X => (sem T l).ev σ H (fun v H1 => match truthyA v with | some b => if b then Q v H1 else (sem T r).ev σ H1 Q X | Option.none => False) X) with
      tt := fun σ H q X => (sem T l).tt σ H (fun b H1 => if b then q true H1 else (sem T r).tt σ H1 q X) X }
  | .not e =>
    { Me.ofEv (fun σ H Q X => (sem T e).ev σ H (fun v H1 => match truthyA v with | some b => Q (.bool !b) H1 | Option.none => False) X) with
      tt := fun σ H q X => (sem T e).tt σ H (fun b H1 => q (!b) H1) X }
  | .neg e => .ofEv fun σ H Q X => (sem T e).ev σ H (fun v H1 => match v with | .int i => Q (.int (-i)) H1 | _ => False) X
  | .ite c a b =>
    { Me.ofEv (fun σ H Q X => (sem T c).tt σ H (fun t H1 => if t then (sem T a).ev σ H1 Q X else (sem T b).ev σ H1 Q X) X) with
      tt := fun σ H q X => (sem T c).tt σ H (fun t H1 => if t then (sem T a).tt σ H1 q X else (sem T b).tt σ H1 q X) X }
  | .call f args => .ofEv fun σ H Q X => (sem T f).ev σ H (fun fv H1 => match fv with
      | .glob g => (sem T args).el σ H1 (fun vs H2 => T.fn g vs H2 Q X) X
      | _ => False) X
  | .meth o m args => .ofEv fun σ H Q X => (sem T o).ev σ H (fun ov H1 => match kindA ov H1 with
      | some kd => T.has kd m = true ∧ (sem T args).el σ H1 (fun vs H2 => T.mt kd m (ov :: vs) H2 Q X) X
      | Option.none => False) X
  | .sortLen e => .ofEv fun σ H Q X => (sem T e).ev σ H (fun v H1 => T.srt [v] H1 Q X) X
  | .sub o i => .ofEv fun σ H Q X => (sem T o).ev σ H (fun ov H1 => (sem T i).ev σ H1 (fun iv H2 => subA ov iv H2 fun v => Q v H2) X) X
  | .slice o lo hi => .ofEv fun σ H Q X => (sem T o).ev σ H (fun ov H1 => (sem T lo).ev σ H1 (fun l H2 => (sem T hi).ev σ H2 (fun h H3 => sliceA ov l h H3 Q) X) X) X
  | .list es => .ofEv fun σ H Q X => (sem T es).el σ H (fun vs H1 => vs.length ≤ lid ∧ Q (.ref H1.length) (H1 ++ [.list vs])) X
  | .tuple es => .ofEv fun σ H Q X => (sem T es).el σ H (fun vs H1 => vs.length ≤ lid ∧ Q (.ref H1.length) (H1 ++ [.tuple vs])) X
  | .dict0 => .ofEv fun _ H Q _ => Q (.ref H.length) (H ++ [.dict [] 0])
  | .comp0 elt t it => .ofEv fun σ H Q X => (sem T it).it σ H (fun items K H1 =>
      items.length ≤ lid ∧ compGo K (fun x H' => bindA t x H' σ) (fun _ H' q => q true H') (fun σ' H' q => (sem T elt).ev σ' H' q fun _ _ => False) (fun acc H' => Q (.ref H'.length) (H' ++ [.list acc])) items [] H1) X
  | .comp1 elt t it cond => .ofEv fun σ H Q X => (sem T it).it σ H (fun items K H1 =>
      items.length ≤ lid ∧ compGo K (fun x H' => bindA t x H' σ) (fun σ' H' q => (sem T cond).tt σ' H' q fun _ _ => False) (fun σ' H' q => (sem T elt).ev σ' H' q fun _ _ => False) (fun acc H' => Q (.ref H'.length) (H' ++ [.list acc])) items [] H1) X
  | .nil => .ofEl fun _ H q _ => q [] H
  | .cons h t => .ofEl fun σ H q X => (sem T h).ev σ H (fun v H1 => (sem T t).el σ H1 (fun vs H2 => q (v :: vs) H2) X) X
  | .itVal e => .ofIt (fun σ H q X => (sem T e).ev σ H (fun v H1 => itemsA v H1 fun items K => q items K H1) X)
  | .itRange1 e => .ofIt (fun σ H q X => (sem T e).ev σ H (fun v H1 => match v with
      | .int j => 0 ≤ j ∧ j ≤ lid ∧ q ((intsFrom 0 j.toNat).map fun i => .one (.int i)) (fun _ => True) H1
      | _ => False) X)
  | .itRange2 a b => .ofIt (fun σ H q X => (sem T a).ev σ H (fun u H1 => (sem T b).ev σ H1 (fun v H2 => match u, v with
      | .int i, .int j => 0 ≤ i ∧ i ≤ lid ∧ 0 ≤ j ∧ j ≤ lid ∧ q ((intsFrom i (j - i).toNat).map fun i => .one (.int i)) (fun _ => True) H2
      | _, _ => False) X) X)
  | .itRev e => .ofIt (fun σ H q X => (sem T e).ev σ H (fun v H1 => match v with
      | .int j => 0 ≤ j ∧ j ≤ lid ∧ q ((intsFrom 0 j.toNat).reverse.map fun i => .one (.int i)) (fun _ => True) H1
      | _ => False) X)
abbrev SPost := Fl → Sg → AHeap → Prop
noncomputable def forGo (K : AHeap → Prop) (bind : Item → AHeap → Sg → Option Sg) (body : Sg → AHeap → SPost → Prop) (Q : SPost) : List Item → Sg → AHeap → Prop
  | [], σ, H => K H ∧ Q .next σ H
  | x :: xs, σ, H => K H ∧ match bind x H σ with
    | some σ' => body σ' H fun fl σ2 H2 => match fl with
      | .next => forGo K bind body Q xs σ2 H2
      | .brk => Q .next σ2 H2
      | .ret v => Q (.ret v) σ2 H2
    | Option.none => False
noncomputable def whileGo (test : Sg → AHeap → (Bool → AHeap → Prop) → Prop) (body : Sg → AHeap → SPost → Prop) (Q : SPost) : Nat → Sg → AHeap → Prop
  | 0, _, _ => False
  | n + 1, σ, H => test σ H fun b H1 => if b then body σ H1 fun fl σ2 H2 => match fl with
      | .next => whileGo test body Q n σ2 H2
      | .brk => Q .next σ2 H2
      | .ret v => Q (.ret v) σ2 H2
    else Q .next σ H1
noncomputable def stA (es : List (Txt × V)) (k : Txt) (v : V) : List (Txt × V) := if es.any (fun e => decide (e.1 = k)) then es.map (fun e => if e.1 = k then (e.1, v) else e) else es ++ [(k, v)]
inductive SetA (v : V) (H : AHeap) (q : AHeap → Prop) : V → V → Prop
  | dict {n es ep k} : n ≠ 0 → H[n]? = some (.dict es ep) → es.length < lid → (∀ ep, q (H.set n (.dict (stA es k v) ep))) → SetA v H q (.ref n) (.str k)
abbrev setItemA (o i v : V) (H : AHeap) (q : AHeap → Prop) : Prop := SetA v H q o i
noncomputable def semS (T : Tab) : PS → Sg → AHeap → SPost → XPost → Prop
  | .skip, σ, H, Q, _ => Q .next σ H
  | .seq a b, σ, H, Q, X => semS T a σ H (fun fl σ1 H1 => match fl with | .next => semS T b σ1 H1 Q X | f => Q f σ1 H1) X
  | .assign t e, σ, H, Q, X => (sem T e).ev σ H (fun v H1 => match bindA t (.one v) H1 σ with | some σ' => Q .next σ' H1 | Option.none => False) X
  | .setItem o i e, σ, H, Q, X => (sem T e).ev σ H (fun v H1 => (sem T o).ev σ H1 (fun ov H2 => (sem T i).ev σ H2 (fun iv H3 => setItemA ov iv v H3 fun H4 => Q .next σ H4) X) X) X
  | .expr e, σ, H, Q, X => (sem T e).ev σ H (fun _ H1 => Q .next σ H1) X
  | .ite c a b, σ, H, Q, X => (sem T c).tt σ H (fun t H1 => if t then semS T a σ H1 Q X else semS T b σ H1 Q X) X
  | .for_ t it body, σ, H, Q, X => (sem T it).it σ H (fun items K H1 => forGo K (fun x H' σ' => bindA t x H' σ') (fun σ' H' q => semS T body σ' H' q X) Q items σ H1) X
  | .while_ c body, σ, H, Q, X => ∃ n, whileGo (fun σ' H' q => (sem T c).tt σ' H' q fun _ _ => False) (fun σ' H' q => semS T body σ' H' q fun _ _ => False) Q n σ H
  | .ret e, σ, H, Q, X => (sem T e).ev σ H (fun v H1 => Q (.ret v) σ H1) X
  | .raise c e, σ, H, _, X => T.cls c = true ∧ (sem T e).ev σ H (fun _ H1 => X c H1) X
  | .tryr b c x h, σ, H, Q, X => semS T b σ H Q (fun k H1 => T.cat k c = true ∧ ∀ a, T.hev k a h (Sg.set (fun _ => none) x (.exc a)) H1 fun v H2 => Q (.ret v) (fun _ => none) H2)
  | .brk, σ, H, Q, _ => Q .brk σ H
  | .stuck e, σ, H, _, X => (sem T e).ev σ H (fun _ _ => False) X
end Mine
end
section
namespace Mine
open PySem
abbrev Kd := Str → Option NameKind
set_option genSizeOf false in
set_option genInjectivity false in
inductive Vw where
  | name (x : Str) (p : Pos)
  | attr (o : Expr) (a : Str) (p : Pos)
  | call (f : Expr) (a : List Expr) (k : List Keyword) (p : Pos)
  | slice (a b c : Option Expr) (p : Pos)
  | sub (o i : Expr) (p : Pos)
  | tup (es : List Expr) (c : Nat) (p : Pos)
  | star
  | set
  | comp
  | other
noncomputable def vw : Expr → Vw
  | .Name x p => .name x p
  | .Attribute o a p => .attr o a p
  | .Call f a k p => .call f a k p
  | .Slice a b c p => .slice a b c p
  | .Subscript o i p => .sub o i p
  | .Tuple es c p => .tup es c p
  | .Starred .. => .star
  | .Set .. => .set
  | .ListComp .. => .comp
  | .SetComp .. => .comp
  | .DictComp .. => .comp
  | _ => .other
inductive VwIs : Expr → Vw → Prop
  | name {x p} : VwIs (.Name x p) (.name x p)
  | attr {o a p} : VwIs (.Attribute o a p) (.attr o a p)
  | call {f a k p} : VwIs (.Call f a k p) (.call f a k p)
  | slice {a b c p} : VwIs (.Slice a b c p) (.slice a b c p)
  | sub {o i p} : VwIs (.Subscript o i p) (.sub o i p)
  | tup {es c p} : VwIs (.Tuple es c p) (.tup es c p)
  | star {e} : VwIs e .star
  | set {e} : VwIs e .set
  | comp {e} : VwIs e .comp
  | other {e} : VwIs e .other
theorem vw_is (e : Expr) : VwIs e (vw e) := by
  cases e <;> constructor
noncomputable def asName (e : Expr) : Option (Str × Pos) := match vw e with
  | .name x p => some (x, p)
  | _ => none
noncomputable def asAttr (e : Expr) : Option (Expr × Str × Pos) := match vw e with
  | .attr o a p => some (o, a, p)
  | _ => none
noncomputable def asCall (e : Expr) : Option (Expr × List Expr × List Keyword × Pos) := match vw e with
  | .call f a k p => some (f, a, k, p)
  | _ => none
noncomputable def asSlice (e : Expr) : Option (Option Expr × Option Expr × Option Expr × Pos) := match vw e with
  | .slice a b c p => some (a, b, c, p)
  | _ => none
noncomputable def asSub (e : Expr) : Option (Expr × Expr × Pos) := match vw e with
  | .sub o i p => some (o, i, p)
  | _ => none
noncomputable def asTup (e : Expr) : Option (List Expr × Nat × Pos) := match vw e with
  | .tup es c p => some (es, c, p)
  | _ => none
noncomputable def isStar (e : Expr) : Bool := match vw e with
  | .star => true
  | _ => false
noncomputable def isSet (e : Expr) : Bool := match vw e with
  | .set => true
  | _ => false
noncomputable def isComp (e : Expr) : Bool := match vw e with
  | .comp => true
  | _ => false
section
variable {e f a b o i : Expr} {as : List Expr} {ks : List Keyword} {x y z : Option Expr} {p : Pos} {n : Str} {c : Nat}
theorem no_some {α : Type} {a : α} {P : Prop} (h : (none : Option α) = some a) : P := nomatch h
theorem asName_is (h : asName e = some (n, p)) : e = .Name n p := by
  have k := vw_is e
  unfold asName at h
  generalize vw e = v at h k
  cases k <;> first | exact no_some h | (cases h; rfl)
theorem asAttr_is (h : asAttr e = some (o, n, p)) : e = .Attribute o n p := by
  have k := vw_is e
  unfold asAttr at h
  generalize vw e = v at h k
  cases k <;> first | exact no_some h | (cases h; rfl)
theorem asCall_is (h : asCall e = some (f, as, ks, p)) : e = .Call f as ks p := by
  have k := vw_is e
  unfold asCall at h
  generalize vw e = v at h k
  cases k <;> first | exact no_some h | (cases h; rfl)
theorem asSlice_is (h : asSlice e = some (x, y, z, p)) : e = .Slice x y z p := by
  have k := vw_is e
  unfold asSlice at h
  generalize vw e = v at h k
  cases k <;> first | exact no_some h | (cases h; rfl)
theorem asSub_is (h : asSub e = some (o, i, p)) : e = .Subscript o i p := by
  have k := vw_is e
  unfold asSub at h
  generalize vw e = v at h k
  cases k <;> first | exact no_some h | (cases h; rfl)
theorem asTup_is (h : asTup e = some (as, c, p)) : e = .Tuple as c p := by
  have k := vw_is e
  unfold asTup at h
  generalize vw e = v at h k
  cases k <;> first | exact no_some h | (cases h; rfl)
end
noncomputable def asCall1 (e : Expr) : Option (Expr × Expr × Pos) := match asCall e with
  | some (f, as, ks, p) => (match as with
    | [] => none
    | a :: r => if r.isEmpty && ks.isEmpty then some (f, a, p) else none)
  | none => none
noncomputable def asCall2 (e : Expr) : Option (Expr × Expr × Expr × Pos) := match asCall e with
  | some (f, as, ks, p) => (match as with
    | [] => none
    | a :: r => (match r with
      | [] => none
      | b :: r => if r.isEmpty && ks.isEmpty then some (f, a, b, p) else none))
  | none => none
section
variable {e f a b : Expr} {p : Pos}
theorem asCall1_is (h : asCall1 e = some (f, a, p)) : e = .Call f [a] [] p := by
  unfold asCall1 at h
  cases q : asCall e with
  | none => rw [q] at h; exact no_some h
  | some v =>
    obtain ⟨f', as, ks, p'⟩ := v
    rw [q] at h
    have := asCall_is q
    cases as with
    | nil => exact no_some h
    | cons a' r =>
      cases r with
      | cons _ _ => exact no_some h
      | nil =>
        cases ks with
        | cons _ _ => exact no_some h
        | nil => cases h; exact this
theorem asCall2_is (h : asCall2 e = some (f, a, b, p)) : e = .Call f [a, b] [] p := by
  unfold asCall2 at h
  cases q : asCall e with
  | none => rw [q] at h; exact no_some h
  | some v =>
    obtain ⟨f', as, ks, p'⟩ := v
    rw [q] at h
    have := asCall_is q
    cases as with
    | nil => exact no_some h
    | cons a' r =>
      cases r with
      | nil => exact no_some h
      | cons b' r =>
        cases r with
        | cons _ _ => exact no_some h
        | nil =>
          cases ks with
          | cons _ _ => exact no_some h
          | nil => cases h; exact this
end
noncomputable def tgtNames : List Expr → Option (List Str)
  | [] => some []
  | e :: r => match asName e with
    | some (x, _) => (tgtNames r).map (x :: ·)
    | none => none
noncomputable def dot0 : Str := Str.ofString ".0"
noncomputable def stored (k : Kd) (x : Str) : Bool := (k x == some .local || k x == some .cell) && x != dot0
noncomputable def trT (k : Kd) (e : Expr) : Option Tgt := match asName e with
  | some (x, _) => if stored k x then some (.name x) else none
  | none => (match asTup e with
    | some (es, _) => (match tgtNames es with
      | some xs => if xs.all (stored k) && decide xs.Nodup then some (.tup xs) else none
      | none => none)
    | none => none)
noncomputable def inner (sc : Scope) (k : Kd) : Kd := fun x => (sc.names.map fun p => if p.2 == .free && k p.1 == some .cell then (p.1, NameKind.cell) else (p.1, p.2)).lookup x
noncomputable def scOk (sc : Scope) (k : Kd) : Bool := sc.kind == .function && sc.names.all fun p => match p.2 with
  | .local => sc.names.lookup p.1 == some .local
  | .cell => false
  | .free => k p.1 == some .cell
  | _ => true
noncomputable def Tgt.names : Tgt → List Str
  | .name x => [x]
  | .tup xs => xs
noncomputable def onlyHere (sc : Scope) (t : Tgt) : Bool := (t.names.all fun x => sc.names.lookup x == some .local) && sc.names.all fun p => p.2 != .local || p.1 == dot0 || t.names.contains p.1
noncomputable def isG (k : Kd) (x : Str) (n : String) : Bool := x == Str.ofString n && k x == some .globalImplicit
noncomputable def trBool (op : BoolOp) : List PE → Option PE
  | [] => none
  | [e] => some e
  | e :: r => (trBool op r).map fun x => match op with | .And => .and e x | .Or => .or e x
noncomputable def trL (f : Expr → Option PE) : List Expr → Option PE
  | [] => some .nil
  | e :: r => (f e).bind fun a => (trL f r).map fun b => .cons a b
noncomputable def trLs (f : Expr → Option PE) : List Expr → Option (List PE)
  | [] => some []
  | e :: r => (f e).bind fun a => (trLs f r).map fun b => a :: b
noncomputable def trO (f : Expr → Option PE) : Option Expr → Option PE
  | none => some .none
  | some e => f e
noncomputable def bnd2 (a b : Option PE) (f : PE → PE → PE) : Option PE := a.bind fun x => b.map fun y => f x y
noncomputable def bnd3 (a b c : Option PE) (f : PE → PE → PE → PE) : Option PE := a.bind fun x => b.bind fun y => c.map fun z => f x y z
noncomputable def isGE (k : Kd) (e : Expr) (n : String) : Bool := match asName e with
  | some (g, _) => isG k g n
  | none => false
noncomputable def trI (k : Kd) (f : Expr → Option PE) (e : Expr) : Option PE := if isSet e then none else match asCall1 e with
  | some (g, a, _) =>
    if isGE k g "range" then (f a).map .itRange1
    else if isGE k g "reversed" then (match asCall1 a with
      | some (h, b, _) => if isGE k h "range" then (f b).map .itRev else none
      | none => none)
    else (f e).map .itVal
  | none => (match asCall2 e with
    | some (g, a, b, _) => if isGE k g "range" then bnd2 (f a) (f b) .itRange2 else (f e).map .itVal
    | none => (f e).map .itVal)
noncomputable def callArgs (o : Expr) : Bool := match asCall o with
  | some (_, as, _) => !as.isEmpty
  | none => true
noncomputable def trSrt (k : Kd) (f : Expr → Option PE) (fn : Expr) (args : List Expr) (kw : Keyword) (kr : List Keyword) : Option PE := match args with
  | [] => none
  | a :: r => (match asName fn with
    | none => none
    | some (g, _) => (match kw.arg with
      | none => none
      | some x => (match asName kw.value with
        | none => none
        | some (y, _) => if r.isEmpty && kr.isEmpty && (isG k g "sorted" && (x == Str.ofString "key" && isG k y "len")) then (f a).map .sortLen else none)))
noncomputable def trCall (k : Kd) (f : Expr → Option PE) (fn : Expr) (args : List Expr) (kws : List Keyword) (pos : Pos) : Option PE := match kws with
  | [] => if decide (args.length < 20) then (match asAttr fn with
    | some (o, m, apos) => if apos.endLine == pos.line && callArgs o then bnd2 (f o) (trL f args) fun a b => .meth a m b else none
    | none => if (asName fn).isSome || (asSub fn).isSome then bnd2 (f fn) (trL f args) .call else none) else none
  | kw :: kr => trSrt k f fn args kw kr
noncomputable def trSub (f : Expr → Option PE) (o i : Expr) : Option PE := match asSlice i with
  | some (lo, hi, st, _) => if st.isNone then bnd3 (f o) (trO f lo) (trO f hi) .slice else none
  | none => bnd2 (f o) (f i) .sub
noncomputable def trIfs (f' : Expr → Option PE) (e' : PE) (t' : Tgt) (it' : PE) : List Expr → Option PE
  | [] => some (.comp0 e' t' it')
  | c :: r => if r.isEmpty then (f' c).map fun c' => .comp1 e' t' it' c' else none
noncomputable def trComp (k : Kd) (f f' : Expr → Option PE) (elt : Expr) (gens : List Comprehension) (sc : Scope) : Option PE := match gens with
  | [] => none
  | g :: r => if scOk sc k && g.is_async == 0 && r.isEmpty then (trT (inner sc k) g.target).bind fun t' => (trI k f g.iter).bind fun it' => (f' elt).bind fun e' => if onlyHere sc t' then trIfs f' e' t' it' g.ifs else none else none
noncomputable def trConst : Const → Option PE
  | .none => some .none
  | .bool b => some (.bool b)
  | .int i => some (.int i)
  | .str s => if okT s.cps.toList then some (.str s) else none
  | _ => none
noncomputable def trName (k : Kd) (x : Str) : Option PE := if x == Str.ofString "__debug__" then none else match k x with
  | some .local | some .cell => some (.name x)
  | some .globalImplicit => some (.glob x)
  | _ => none
noncomputable def trUn (f : Expr → Option PE) (op : UnaryOp) (x : Expr) : Option PE := match op with
  | .Not => (f x).map .not
  | .USub => (f x).map .neg
  | _ => none
noncomputable def trCmp2 (f : Expr → Option PE) (a : Expr) (o1 : CmpOp) (b : Expr) (ops : List CmpOp) (cs : List Expr) : Option PE := match ops with
  | [] => if cs.isEmpty then bnd2 (f a) (f b) (.cmp1 o1) else none
  | o2 :: os => (match cs with
    | [] => none
    | c :: r => if isSet c || !os.isEmpty || !r.isEmpty then none else bnd3 (f a) (f b) (f c) (.cmp2 o1 o2))
noncomputable def trCmp (f : Expr → Option PE) (a : Expr) (ops : List CmpOp) (cs : List Expr) : Option PE := match ops with
  | [] => none
  | o :: os => (match cs with
    | [] => none
    | b :: r => if isSet b then none else trCmp2 f a o b os r)
noncomputable def trDict (ks : List (Option Expr)) (vs : List Expr) : Option PE := if ks.isEmpty && vs.isEmpty then some .dict0 else none
noncomputable def trE : Nat → Kd → Expr → Option PE
  | 0, _, _ => none
  | n + 1, k, e => match e with
    | .Name x _ => trName k x
    | .Constant c _ _ => trConst c
    | .BinOp l op r _ => bnd2 (trE n k l) (trE n k r) (.bin op)
    | .UnaryOp op x _ => trUn (trE n k) op x
    | .BoolOp op vs _ => (trLs (trE n k) vs).bind (trBool op)
    | .Compare l ops cs _ => trCmp (trE n k) l ops cs
    | .IfExp c a b _ => bnd3 (trE n k c) (trE n k a) (trE n k b) .ite
    | .Call f args kws pos => trCall k (trE n k) f args kws pos
    | .Subscript o i _ => trSub (trE n k) o i
    | .List es _ => (trL (trE n k) es).map .list
    | .Tuple es _ _ => (trL (trE n k) es).map .tuple
    | .Dict ks vs _ => trDict ks vs
    | .ListComp elt gens sc _ => trComp k (trE n k) (trE n (inner sc k)) elt gens sc
    | _ => none
noncomputable def oneTup (e : Expr) : Bool := match asTup e with
  | some (vs, _) => vs.all (constantsAlone 8)
  | none => false
noncomputable def trAsg (v : Expr) (v' : PE) : Tgt → Option PS
  | .name x => some (.assign (.name x) v')
  | .tup xs => if isComp v || oneTup v then none else some (.assign (.tup xs) v')
noncomputable def trAssign (k : Kd) (f : Expr → Option PE) (ts : List Expr) (v : Expr) : Option PS := match ts with
  | [] => none
  | t :: r => if r.isEmpty then (if (asAttr t).isSome then (f v).map .stuck else match asSub t with
    | some (o, i, _) => if isComp v || (asSlice i).isSome then none else (f v).bind fun a => (f o).bind fun b => (f i).map fun c => .setItem b c a
    | none => (trT k t).bind fun t' => (f v).bind fun v' => trAsg v v' t') else none
noncomputable def trRet (f : Expr → Option PE) : Option Expr → Option PS
  | some e => (f e).map .ret
  | none => some (.ret .none)
noncomputable def isG0 (k : Kd) (c : Str) : Bool := k c == some .globalImplicit && !(c == Str.ofString "__debug__")
noncomputable def trRaise (k : Kd) (f : Expr → Option PE) (e cause : Option Expr) : Option PS := match e with
  | none => none
  | some e => if cause.isSome then none else (match asCall1 e with
    | some (g, a, _) => (match asName g with
      | some (c, _) => if isG0 k c then (f a).map (.raise c) else none
      | none => none)
    | none => none)
noncomputable def asRet (st : Stmt) : Option (Expr × Pos) := match st with
  | .Return (some e) p => some (e, p)
  | _ => none
theorem asRet_is {st : Stmt} {e : Expr} {p : Pos} (h : asRet st = some (e, p)) : st = .Return (some e) p := by
  unfold asRet at h
  split at h
  · cases h; rfl
  · cases h
noncomputable def trHand (k : Kd) (f : Expr → Option PE) (b : Option PS) (t : Option Expr) (x : Option Str) (h : Expr) : Option PS := match t with
  | none => none
  | some t => (match x with
    | none => none
    | some x => (match asName t with
      | none => none
      | some (c, _) => if isG0 k c && (k x == some .local && x != dot0) then b.bind fun b' => (f h).map fun h' => .tryr b' c x h' else none))
noncomputable def trTry (k : Kd) (f : Expr → Option PE) (b : Option PS) (hs : List ExceptHandler) (els fin : List Stmt) : Option PS := match hs with
  | [] => none
  | .ExceptHandler t x hb _ :: hr => (match hb with
    | [] => none
    | h1 :: hbr => if hr.isEmpty && hbr.isEmpty && els.isEmpty && fin.isEmpty then (match asRet h1 with
        | none => none
        | some (h, _) => trHand k f b t x h) else none)
noncomputable def tr1 (k : Kd) (f : Expr → Option PE) (b : List Stmt → Option PS) (st : Stmt) : Option PS := match st with
  | .Assign ts v _ => trAssign k f ts v
  | .Expr e _ => if isComp e then none else (f e).map .expr
  | .If c x y _ => (f c).bind fun c' => (b x).bind fun a' => (b y).map fun b' => .ite c' a' b'
  | .For t it body els _ => if els.isEmpty then (trT k t).bind fun t' => (trI k f it).bind fun it' => (b body).map fun b' => .for_ t' it' b' else none
  | .While c body els _ => if els.isEmpty then (f c).bind fun c' => (b body).map fun b' => .while_ c' b' else none
  | .Return e _ => trRet f e
  | .Raise e c _ => trRaise k f e c
  | .Try body hs els fin _ => trTry k f (b body) hs els fin
  | .Break _ => some .brk
  | .Pass _ => some .skip
  | _ => none
noncomputable def stuckHd : PS → Bool
  | .stuck _ => true
  | _ => false
noncomputable def trS : Nat → Kd → List Stmt → Option PS
  | 0, _, _ => none
  | n + 1, k, l => match l with
    | [] => some .skip
    | st :: rest => (tr1 k (trE 60 k) (trS n k) st).bind fun a => if stuckHd a then some (.seq a .skip) else (trS n k rest).map fun b => .seq a b
end Mine
end
section
namespace Mine
open PySem
inductive All2 {α β : Type} (R : α → β → Prop) : List α → List β → Prop
  | nil : All2 R [] []
  | cons {a b as bs} : R a b → All2 R as bs → All2 R (a :: as) (b :: bs)
namespace All2
variable {α β : Type} {R S : α → β → Prop}
theorem length {as : List α} {bs : List β} (h : All2 R as bs) : as.length = bs.length := by
  induction h with
  | nil => rfl
  | cons _ _ ih => exact congrArg (· + 1) ih
theorem mono (f : ∀ a b, R a b → S a b) {as : List α} {bs : List β} (h : All2 R as bs) : All2 S as bs := by
  induction h with
  | nil => exact .nil
  | cons h _ ih => exact .cons (f _ _ h) ih
theorem append {as : List α} {bs : List β} {cs : List α} {ds : List β} (h : All2 R as bs) (k : All2 R cs ds) : All2 R (as ++ cs) (bs ++ ds) := by
  induction h with
  | nil => exact k
  | cons h _ ih => exact .cons h ih
theorem get {as : List α} {bs : List β} (h : All2 R as bs) : ∀ (i : Nat) (a : α), as[i]? = some a → ∃ b, bs[i]? = some b ∧ R a b := by
  induction h with
  | nil => intro i a e; cases e
  | cons h _ ih =>
    intro i a e
    cases i with
    | zero => cases e; exact ⟨_, rfl, h⟩
    | succ i => exact ih i a e
theorem take {as : List α} {bs : List β} (h : All2 R as bs) : ∀ n, All2 R (as.take n) (bs.take n) := by
  induction h with
  | nil => intro n; rw [List.take_nil, List.take_nil]; exact .nil
  | cons h _ ih =>
    intro n
    cases n with
    | zero => exact .nil
    | succ n => exact .cons h (ih n)
theorem drop {as : List α} {bs : List β} (h : All2 R as bs) : ∀ n, All2 R (as.drop n) (bs.drop n) := by
  induction h with
  | nil => intro n; rw [List.drop_nil, List.drop_nil]; exact .nil
  | cons h r ih =>
    intro n
    cases n with
    | zero => exact .cons h r
    | succ n => exact ih n
theorem set {as : List α} {bs : List β} (h : All2 R as bs) {a : α} {b : β} (k : R a b) : ∀ n, All2 R (as.set n a) (bs.set n b) := by
  induction h with
  | nil => intro n; exact .nil
  | cons h r ih =>
    intro n
    cases n with
    | zero => exact .cons k r
    | succ n => exact .cons h (ih n)
theorem replicate {a : α} {b : β} (h : R a b) : ∀ n, All2 R (List.replicate n a) (List.replicate n b)
  | 0 => .nil
  | n + 1 => .cons h (replicate h n)
theorem reverse {as : List α} {bs : List β} (h : All2 R as bs) : All2 R as.reverse bs.reverse := by
  induction h with
  | nil => exact .nil
  | cons h _ ih => rw [List.reverse_cons, List.reverse_cons]; exact ih.append (.cons h .nil)
theorem left {as : List α} {bs : List β} (h : All2 R as bs) : ∀ a ∈ as, ∃ b ∈ bs, R a b := by
  induction h with
  | nil => intro a h; cases h
  | cons h _ ih =>
    intro a m
    cases m with
    | head => exact ⟨_, .head _, h⟩
    | tail _ m => obtain ⟨b, hb, k⟩ := ih a m; exact ⟨b, .tail _ hb, k⟩
theorem right {as : List α} {bs : List β} (h : All2 R as bs) : ∀ b ∈ bs, ∃ a ∈ as, R a b := by
  induction h with
  | nil => intro a h; cases h
  | cons h _ ih =>
    intro a m
    cases m with
    | head => exact ⟨_, .head _, h⟩
    | tail _ m => obtain ⟨b, hb, k⟩ := ih a m; exact ⟨b, .tail _ hb, k⟩
end All2
set_option genSizeOf false in
set_option genInjectivity false in
structure Cx where
  prog : Program
  w : World
  base : Heap
  os : OsState
  G : Str → Option Value
  mg : Str → Option Value
  mb : Str → Option Value
  hg : base.Ns mainGlobals mg
  hb : base.Ns builtinsNs mb
  lim : base.NoLimit
  hN : ∀ x, G x ≠ some .none
  hG : ∀ x v, G x = some v → mg x = some v ∨ (mg x = none ∧ mb x = some v)
  frs : List Env
  calm : Prop
noncomputable def Cx.at (C : Cx) (fs : List Env) : Cx := { C with frs := fs }
variable (C : Cx)
noncomputable def VR (ρ : List Addr) : V → Value → Prop
  | .none, u => u = .none
  | .bool b, u => u = .bool b
  | .int i, u => ∃ t, u = .int i t
  | .str x, u => okT x = true ∧ ∃ t, u = .str ⟨x.toArray⟩ t
  | .ref n, u => ∃ a, u = .ref a ∧ ρ[n]? = some a
  | .glob g, u => C.G g = some u
  | .exc a, u => u = .ref a
noncomputable def ER (ρ : List Addr) (e : Txt × V) (d : DictEntry) : Prop :=
  VR C ρ (.str e.1) d.key ∧ d.hash = PyData.keyHash C.w.params ⟨e.1.toArray⟩ ∧ VR C ρ e.2 d.val
noncomputable def OR (ρ : List Addr) (h : Heap) (a : Addr) : AObj → Prop
  | .list xs => ∃ us n, h.get? a = some ⟨.type "list", none, .seq us n, #[]⟩ ∧ All2 (VR C ρ) xs us.toList ∧ xs.length ≤ lid
  | .tuple xs => ∃ us n, h.get? a = some ⟨.type "tuple", none, .seq us n, #[]⟩ ∧ All2 (VR C ρ) xs us.toList ∧ xs.length ≤ lid
  | .dict es n => ∃ ds, h.get? a = some ⟨.type "dict", none, .dict ds n, #[]⟩ ∧ All2 (ER C ρ) es ds.toList ∧ (es.map (·.1)).Nodup ∧ es.length ≤ lid
theorem VR.ext {ρ ρ' : List Addr} (l : List Addr) (e : ρ' = ρ ++ l) : ∀ {v : V} {u : Value}, VR C ρ v u → VR C ρ' v u
  | .none, _, h => h
  | .bool _, _, h => h
  | .int _, _, h => h
  | .str _, _, h => h
  | .ref n, _, ⟨a, e1, e2⟩ => ⟨a, e1, by
      rw [e, List.getElem?_append_left]
      · exact e2
      · exact (List.getElem?_eq_some_iff.mp e2).1⟩
  | .glob _, _, h => h
  | .exc _, _, h => h
theorem ER.ext {ρ ρ' : List Addr} (l : List Addr) (e : ρ' = ρ ++ l) {p : Txt × V} {d : DictEntry} (h : ER C ρ p d) : ER C ρ' p d := ⟨h.1.ext C l e, h.2.1, h.2.2.ext C l e⟩
theorem OR.alive {ρ : List Addr} {h : Heap} {a : Addr} : ∀ {o : AObj}, OR C ρ h a o → ∃ ob, h.get? a = some ob
  | .list _, ⟨_, _, e, _⟩ => ⟨_, e⟩
  | .tuple _, ⟨_, _, e, _⟩ => ⟨_, e⟩
  | .dict _ _, ⟨_, e, _⟩ => ⟨_, e⟩
theorem OR.keep {ρ ρ' : List Addr} {h h' : Heap} {a : Addr} (l : List Addr) (e : ρ' = ρ ++ l) (k : ∀ o, h.get? a = some o → h'.get? a = some o) : ∀ {o : AObj}, OR C ρ h a o → OR C ρ' h' a o
  | .list _, ⟨us, n, x, y, z⟩ => ⟨us, n, k _ x, y.mono fun _ _ q => q.ext C l e, z⟩
  | .tuple _, ⟨us, n, x, y, z⟩ => ⟨us, n, k _ x, y.mono fun _ _ q => q.ext C l e, z⟩
  | .dict _ _, ⟨us, x, y, z⟩ => ⟨us, k _ x, y.mono fun _ _ q => q.ext C l e, z⟩
noncomputable def IsNs (o : Obj) : Prop := ∃ es ep, o.data = .dict es ep
noncomputable def FrsOk (ρ : List Addr) (h : Heap) : Prop := ∀ env ∈ C.frs, env.scope.kind ≠ .module ∧ ∃ L o, env.frame = some L ∧ C.base.get? L = none ∧ L ∉ ρ ∧ h.get? L = some o ∧ IsNs o
theorem FrsOk.to {ρ ρ' : List Addr} {h h' : Heap} (x : FrsOk C ρ h) (k : ∀ b o, C.base.get? b = none → b ∉ ρ → IsNs o → h.get? b = some o → b ∉ ρ' ∧ ∃ o', h'.get? b = some o' ∧ IsNs o') : FrsOk C ρ' h' := fun env he => by
  obtain ⟨h1, L, o, h2, h3, h4, h5, h6⟩ := x env he
  obtain ⟨k1, o', k2, k3⟩ := k L o h3 h4 h6 h5
  exact ⟨h1, L, o', h2, h3, k1, k2, k3⟩
structure Sim (ρ : List Addr) (H : AHeap) (s : Shared) : Prop where
  len : ρ.length = H.length
  nodup : ρ.Nodup
  obj : ∀ (i : Nat) a o, ρ[i]? = some a → H[i]? = some o → OR C ρ s.heap a o
  stays : ∀ b o, C.base.get? b = some o → s.heap.get? b = some o
  fresh : ∀ (i : Nat) a, ρ[i]? = some a → i ≠ 0 → C.base.get? a = none
  sm : sysModules ∉ ρ
  gens : s.gens = #[]
  os : s.os = C.os
  frs : FrsOk C ρ s.heap
noncomputable def Same (o : Obj) (r : Option Obj) : Prop := r = some o ∨ (IsNs o ∧ ∃ sl, r = some { o with slots := sl })
theorem Same.trans {o : Obj} {r r' : Option Obj} (h : Same o r) (k : ∀ o', r = some o' → Same o' r') : Same o r' := by
  rcases h with h | ⟨hc, sl, h⟩
  · exact k o h
  · rcases k _ h with k | ⟨_, sl', k⟩
    · exact .inr ⟨hc, sl, k⟩
    · exact .inr ⟨hc, sl', k⟩
theorem Same.eq {o : Obj} {r : Option Obj} (h : Same o r) (hc : ¬ IsNs o) : r = some o := h.elim id fun z => (hc z.1).elim
theorem Same.isNs {o : Obj} {r : Option Obj} (h : Same o r) (hc : IsNs o) : ∃ o', r = some o' ∧ IsNs o' := by
  rcases h with h | ⟨_, sl, h⟩
  · exact ⟨o, h, hc⟩
  · exact ⟨_, h, hc⟩
theorem Same.ns {h h' : Heap} {a : Addr} {m : Str → Option Value} (hn : h.Ns a m) (k : ∀ o, h.get? a = some o → Same o (h'.get? a)) : h'.Ns a m := by
  obtain ⟨o, es, ep, ho, hd, r⟩ := hn
  rcases k o ho with q | ⟨_, sl, q⟩
  · exact ⟨o, es, ep, q, hd, r⟩
  · exact ⟨_, es, ep, q, hd, r⟩
theorem Same.cell {h h' : Heap} {a : Addr} {ov : Option Value} (hn : h.IsCell a ov) (k : ∀ o, h.get? a = some o → Same o (h'.get? a)) : h'.IsCell a ov := by
  obtain ⟨o, ho, hd⟩ := hn
  rcases k o ho with q | ⟨_, sl, q⟩
  · exact ⟨o, q, hd⟩
  · exact ⟨_, q, hd⟩
theorem Same.live {o : Obj} {r : Option Obj} (h : Same o r) : ∃ o', r = some o' := h.elim (fun z => ⟨_, z⟩) fun z => let ⟨_, _, q⟩ := z; ⟨_, q⟩
structure StepG (ex : Addr → Prop) (ρ : List Addr) (s : Shared) (ρ' : List Addr) (s' : Shared) : Prop where
  ext : ∃ l, ρ' = ρ ++ l ∧ ∀ a ∈ l, s.heap.get? a = none
  keep : ∀ b o, b ∉ ρ → ¬ ex b → s.heap.get? b = some o → Same o (s'.heap.get? b)
  live : ∀ b o, s.heap.get? b = some o → ∃ o', s'.heap.get? b = some o'
abbrev Step := StepG fun _ => False
variable {C}
theorem StepG.refl {ex : Addr → Prop} (ρ : List Addr) (s : Shared) : StepG ex ρ s ρ s := ⟨⟨[], by simp, fun _ h => nomatch h⟩, fun _ _ _ _ e => .inl e, fun _ o e => ⟨o, e⟩⟩
theorem StepG.mono {ex ex' : Addr → Prop} {ρ ρ' : List Addr} {s s' : Shared} (x : StepG ex ρ s ρ' s') (h : ∀ b, ex b → ex' b) : StepG ex' ρ s ρ' s' := ⟨x.ext, fun b o h1 h2 e => x.keep b o h1 (fun q => h2 (h b q)) e, x.live⟩
theorem StepG.up {ex : Addr → Prop} {ρ ρ' : List Addr} {s s' : Shared} (x : Step ρ s ρ' s') : StepG ex ρ s ρ' s' := x.mono fun _ h => h.elim
theorem StepG.trans {ex : Addr → Prop} {ρ ρ1 ρ2 : List Addr} {s s1 s2 : Shared} (x : StepG ex ρ s ρ1 s1) (y : StepG ex ρ1 s1 ρ2 s2) : StepG ex ρ s ρ2 s2 := by
  obtain ⟨l, e, f⟩ := x.ext
  obtain ⟨l2, e2, f2⟩ := y.ext
  refine ⟨⟨l ++ l2, by rw [e2, e, List.append_assoc], fun a ha => ?_⟩, fun b o hb hx q => ?_, fun b o q => ?_⟩
  · rcases List.mem_append.mp ha with ha | ha
    · exact f a ha
    · cases q : s.heap.get? a with
      | none => rfl
      | some o => obtain ⟨o', q'⟩ := x.live _ _ q; rw [f2 a ha] at q'; cases q'
  · refine (x.keep b o hb hx q).trans fun o' q' => y.keep b o' (fun hm => ?_) hx q'
    rw [e] at hm
    rcases List.mem_append.mp hm with hm | hm
    · exact hb hm
    · rw [f b hm] at q; cases q
  · obtain ⟨o1, q1⟩ := x.live b o q
    exact y.live b o1 q1
theorem StepG.toks {ρ : List Addr} {s : Shared} (t : Nat) : Step ρ s ρ { s with toks := t } := ⟨⟨[], by simp, fun _ h => nomatch h⟩, fun _ _ _ _ e => .inl e, fun _ o e => ⟨o, e⟩⟩
theorem Sim.toks {ρ : List Addr} {H : AHeap} {s : Shared} (S : Sim C ρ H s) (t : Nat) : Sim C ρ H { s with toks := t } := ⟨S.len, S.nodup, S.obj, S.stays, S.fresh, S.sm, S.gens, S.os, S.frs⟩
theorem StepG.vr {ex : Addr → Prop} {ρ ρ' : List Addr} {s s' : Shared} (x : StepG ex ρ s ρ' s') {v : V} {u : Value} (h : VR C ρ v u) : VR C ρ' v u := by
  obtain ⟨l, e, _⟩ := x.ext
  exact h.ext C l e
theorem StepG.vrs {ex : Addr → Prop} {ρ ρ' : List Addr} {s s' : Shared} (x : StepG ex ρ s ρ' s') {v : List V} {u : List Value} (h : All2 (VR C ρ) v u) : All2 (VR C ρ') v u := h.mono fun _ _ => x.vr
theorem Sim.grow {ρ : List Addr} {H : AHeap} {s : Shared} (S : Sim C ρ H s) {h' : Heap} {tk : Nat} (k : ∀ b o, s.heap.get? b = some o → h'.get? b = some o) :
    Sim C ρ H { s with heap := h', toks := tk } ∧ Step ρ s ρ { s with heap := h', toks := tk } :=
  ⟨⟨S.len, S.nodup, fun i a o e q => (S.obj i a o e q).keep C [] (by simp) fun _ x => k _ _ x, fun b o e => k _ _ (S.stays b o e), S.fresh, S.sm, S.gens, S.os, S.frs.to C fun b o _ hb hn e => ⟨hb, o, k b o e, hn⟩⟩,
   ⟨⟨[], by simp, fun _ h => nomatch h⟩, fun b o _ _ e => .inl (k b o e), fun b o e => ⟨o, k b o e⟩⟩⟩
theorem Sim.lookup {ρ : List Addr} {H : AHeap} {s : Shared} (S : Sim C ρ H s) {n : Nat} {o : AObj} {u : Value} (e : H[n]? = some o) (v : VR C ρ (.ref n) u) : ∃ a, u = .ref a ∧ ρ[n]? = some a ∧ OR C ρ s.heap a o :=
  by obtain ⟨a, e1, e2⟩ := v; exact ⟨a, e1, e2, S.obj n a o e2 e⟩
theorem Sim.alloc {ρ : List Addr} {H : AHeap} {s : Shared} (S : Sim C ρ H s) {h' : Heap} {tk : Nat} {a : Addr} {o : AObj} (k : ∀ b x, s.heap.get? b = some x → h'.get? b = some x)
    (hn : s.heap.get? a = none) (hsm : a ≠ sysModules) (ho : OR C ρ h' a o) :
    Sim C (ρ ++ [a]) (H ++ [o]) { s with heap := h', toks := tk } ∧ Step ρ s (ρ ++ [a]) { s with heap := h', toks := tk } ∧ VR C (ρ ++ [a]) (.ref H.length) (.ref a) := by
  have hm : a ∉ ρ := fun hm => by
    obtain ⟨i, hi, e⟩ := List.getElem_of_mem hm
    have hi' : i < H.length := by rw [← S.len]; exact hi
    obtain ⟨ob, q⟩ := (S.obj i a H[i] (by rw [List.getElem?_eq_getElem hi, e]) (List.getElem?_eq_getElem hi')).alive C
    rw [hn] at q; cases q
  refine ⟨⟨by simp [S.len], ?_, fun i b x e q => ?_, fun b x e => k _ _ (S.stays b x e), fun i b e hi => ?_, ?_, S.gens, S.os, S.frs.to C fun b o _ hb hq e => ⟨fun hm' => (List.mem_append.mp hm').elim hb fun z => (by rw [List.mem_singleton.mp z, hn] at e; cases e), o, k b o e, hq⟩⟩, ⟨⟨[a], rfl, fun b hb => by simp at hb; rw [hb]; exact hn⟩, fun b x _ _ e => .inl (k b x e), fun b x e => ⟨x, k b x e⟩⟩,
    ⟨a, rfl, by rw [← S.len]; simp⟩⟩
  · rw [List.nodup_append]
    exact ⟨S.nodup, by simp, fun x hx y hy => by simp at hy; rw [hy]; exact fun q => hm (q ▸ hx)⟩
  · rcases Nat.lt_or_ge i ρ.length with hi | hi
    · rw [List.getElem?_append_left hi] at e
      rw [List.getElem?_append_left (S.len ▸ hi)] at q
      exact (S.obj i b x e q).keep C [a] rfl fun _ x => k _ _ x
    · rw [List.getElem?_append_right hi] at e
      rw [List.getElem?_append_right (S.len ▸ hi)] at q
      rw [S.len] at e
      rcases Nat.eq_zero_or_pos (i - H.length) with z | z
      · rw [z] at e q
        simp at e q
        subst e q
        exact ho.keep C [a] rfl fun _ x => x
      · rw [List.getElem?_eq_none (by simp; lia)] at e; cases e
  · rcases Nat.lt_or_ge i ρ.length with hi' | hi'
    · rw [List.getElem?_append_left hi'] at e
      exact S.fresh i b e hi
    · rw [List.getElem?_append_right hi'] at e
      have : b = a := by
        rcases Nat.eq_zero_or_pos (i - ρ.length) with z | z
        · rw [z] at e; simpa using e.symm
        · rw [List.getElem?_eq_none (by simp; lia)] at e; cases e
      subst this
      cases q : C.base.get? b with
      | none => rfl
      | some x => rw [S.stays _ _ q] at hn; cases hn
  · intro hq
    rcases List.mem_append.mp hq with hq | hq
    · exact S.sm hq
    · simp only [List.mem_singleton] at hq
      exact hsm hq.symm
theorem Sim.size_ne {ρ : List Addr} {H : AHeap} {s : Shared} (S : Sim C ρ H s) : s.heap.objs.size ≠ sysModules := by
  obtain ⟨mc, ⟨o, es, ep, ho, _⟩, _⟩ := C.lim
  have h1 := Heap.lt_size (S.stays _ _ ho)
  exact fun q => absurd (Nat.lt_of_lt_of_le h1 (Nat.le_of_eq q)) (by decide)
theorem Sim.change {ρ : List Addr} {H : AHeap} {s : Shared} (S : Sim C ρ H s) {h' : Heap} {tk n : Nat} {a : Addr} {o : AObj} (hn : n ≠ 0) (e : ρ[n]? = some a) (k : ∀ b x, b ≠ a → s.heap.get? b = some x → h'.get? b = some x)
    (ho : OR C ρ h' a o) :
    Sim C ρ (H.set n o) { s with heap := h', toks := tk } ∧ Step ρ s ρ { s with heap := h', toks := tk } := by
  have hm : a ∈ ρ := List.mem_of_getElem? e
  refine ⟨⟨by simp [S.len], S.nodup, fun i b x e1 q => ?_, fun b x q => k _ _ (fun z => ?_) (S.stays b x q), S.fresh, S.sm, S.gens, S.os, S.frs.to C fun b o _ hb hq e => ⟨hb, o, k b o (fun z => hb (z ▸ hm)) e, hq⟩⟩,
    ⟨⟨[], by simp, fun _ h => nomatch h⟩, fun b x hb _ q => .inl (k b x (fun z => hb (z ▸ hm)) q), fun b x q => ?_⟩⟩
  · by_cases hi : i = n
    · subst hi
      rw [e] at e1; cases e1
      rw [List.getElem?_set_self] at q
      · cases q; exact ho
      · rw [← S.len]; exact (List.getElem?_eq_some_iff.mp e).1
    · rw [List.getElem?_set_ne (Ne.symm hi)] at q
      refine (S.obj i b x e1 q).keep C [] (by simp) fun y z => k _ _ (fun w => hi ?_) z
      subst w
      obtain ⟨h1, h2⟩ := List.getElem?_eq_some_iff.mp e
      obtain ⟨h3, h4⟩ := List.getElem?_eq_some_iff.mp e1
      exact (List.getElem_inj S.nodup).mp (h4.trans h2.symm)
  · rw [z, S.fresh n a e hn] at q; cases q
  · by_cases hb : b = a
    · subst hb; exact ho.alive C
    · exact ⟨x, k b x hb q⟩
end Mine
end
section
namespace Mine
open PySem PySem.Calls PyProof.Rows
noncomputable def Plain (h : Heap) (x : Addr) : Prop := ∃ o vs k, h.get? x = some o ∧ o.cls = .ref k ∧ o.data = .fields vs ∧ vs[2]? = some .none
noncomputable def HdAt (A : Around) (h : Heap) : Prop := A.handled = none ∨ ∃ x, A.handled = some (.ref x) ∧ Plain h x
theorem Plain.to {h h' : Heap} {x : Addr} (p : Plain h x) (k : ∀ o r, o.cls = .ref r → h.get? x = some o → h'.get? x = some o) : Plain h' x := by
  obtain ⟨o, vs, r, h1, h2, h3, h4⟩ := p
  exact ⟨o, vs, r, k o r h2 h1, h2, h3, h4⟩
theorem HdAt.to {A : Around} {h h' : Heap} (p : HdAt A h) (k : ∀ b o r, o.cls = .ref r → h.get? b = some o → h'.get? b = some o) : HdAt A h' := p.imp id fun ⟨x, h1, h2⟩ => ⟨x, h1, h2.to (k x)⟩
theorem HdAt.upd {A : Around} {h : Heap} {it : Addr} {o : Obj} {n : String} {f : Obj → Obj} (p : HdAt A h) (ho : h.get? it = some o) (hc : o.cls = .type n) : HdAt A (h.update it f) :=
  p.to fun b ob r hr e => (Heap.get?_update_other _ _ (fun q => by rw [← q, ho] at e; cases e; rw [hc] at hr; cases hr)).trans e
theorem entry_unchain : entryFor table "proto.unchain" = some Builtin.«proto.unchain» := entryFor_of_tree (by kernel_rfl)
section
variable {prog : Program} {w : World} {A : Around} {E : Value → Shared → Prop} {s : Shared}
theorem run_unchain {e x : Addr} {Q : Value → Shared → Prop} (hx : Plain s.heap x) (h : Q .none s) :
    wpAny (model prog w) A (runValue (.builtin "proto.unchain" ⟨[.ref e, .ref x, .ref x, .bool false], []⟩)) Q E s := by
  obtain ⟨o, vs, k, ho, hc, hd, h2⟩ := hx
  refine runValue_entry entry_unchain ?_
  unfold Builtin.«proto.unchain»
  dsimp only
  refine wpAny_bind (wpAny_field ho hd h2 ?_)
  first
  | exact wpAny_pure ⟨_, rfl, h⟩
  | (rw [if_pos (by rfl)]; exact wpAny_pure ⟨_, rfl, h⟩)
theorem raiseNew_at {α : Type} {e : Addr} {oe : Obj} {vs : Array Value} {n : String} {Q : α → Shared → Prop} (hh : HdAt A s.heap) (he : s.heap.get? e = some oe) (hc : oe.cls = .type n) (hd : oe.data = .fields vs) (hsz : 2 < vs.size)
    (h : ∀ h' o', h'.get? e = some o' → o'.cls = .type n → (∀ b o, b ≠ e → s.heap.get? b = some o → h'.get? b = some o) → E (.ref e) { s with heap := h' }) : wpAny (model prog w) A (raiseNew (.ref e) : Sem α) Q E s := by
  unfold raiseNew
  refine wpAny_bind (wpAny_handled ?_)
  rcases hh with hh | ⟨x, hh, hx⟩
  · rw [hh]
    exact wpAny_bind (wpAny_pure (wpAny_throw (h s.heap oe he hc fun _ _ _ e => e)))
  · rw [hh]
    dsimp only
    have hne : x ≠ e := fun q => by
      obtain ⟨o, _, k, ho, hc', _⟩ := hx
      rw [q, he] at ho; cases ho; rw [hc] at hc'; cases hc'
    rw [if_pos (show (Value.ref x != Value.ref e) = true from bne_iff_ne.mpr fun q => hne (by injection q))]
    refine wpAny_bind (wpAny_holding (run_unchain hx ?_))
    refine wpAny_bind (m := setField (.ref e) 2 (.ref x)) (wpAny_setField he hd hsz (wpAny_throw (h _ _ (Heap.get?_update_self _ he (Obj.isFreed_of_fields (Obj.data_mapFields hd _))) ((Obj.cls_mapFields ..).trans hc) fun b o hb q => (Heap.get?_update_other _ _ (Ne.symm hb)).trans q)))
theorem stop_at {α : Type} {Q : α → Shared → Prop} (hh : HdAt A s.heap)
    (h : ∀ e h' o', h'.get? e = some o' → o'.cls = .type "StopIteration" → (∀ b o, s.heap.get? b = some o → h'.get? b = some o) → E (.ref e) { s with heap := h' }) : wpAny (model prog w) A (newExc (.type "StopIteration") [] >>= fun e => (raiseNew e : Sem α)) Q E s := by
  refine wpAny_bind ?_
  simp only [newExc, newTuple]
  refine wpAny_bind (wpAny_newObj_type ?_ (by size_fits))
  refine wpAny_bind (m := firstArgMember _ _) (wpAny_of_eq (a := Value.none) (by first | rfl | (simp only [firstArgMember]; rfl)) ?_)
  refine wpAny_newObj_type ?_ (by size_fits)
  refine raiseNew_at (hh.to fun b o r _ q => Heap.get?_push_of_some _ (Heap.get?_push_of_some _ q)) (Heap.get?_push_size _ rfl) rfl rfl (by simp [Array.size_append]; lia) fun h' o' h1 h2 h3 => h _ h' o' h1 h2 fun b o q => h3 b o ?_ (Heap.get?_push_of_some _ (Heap.get?_push_of_some _ q))
  have := Heap.lt_size q
  simp only [Heap.size_push]; exact Nat.ne_of_lt (Nat.lt_succ_of_lt this)
theorem stop_next {e : Addr} {o : Obj} {Q : Option Value → Shared → Prop} (h1 : s.heap.get? e = some o) (h2 : o.cls = .type "StopIteration") (h : Q none s) :
    wpAny (model prog w) A (do if ← isInstance (.ref e) (.type "StopIteration") then pure none else throw (.ref e)) Q E s :=
  wpAny_bind (wpAny_isInstance (T := "StopIteration") (b := true) ⟨_, h1, h2⟩ isSubtype_stop (wpAny_pure h))
theorem next_list_end {it l : Addr} {i : Nat} {items : Array Value} {Q : Option Value → Shared → Prop} (hh : HdAt A s.heap)
    (hit : s.heap.IsListIter it l i) (hl : s.heap.IsList l items) (hn : items[i]? = none)
    (hQ : ∀ h', Heap.ExtBut it s.heap h' → Q none { s with heap := h' }) : wpAny (model prog w) A (pyNext (.ref it)) Q E s := by
  obtain ⟨o, ho, hc, hd⟩ := id hit
  obtain ⟨ol, hol, _, nl, hdl⟩ := hl
  unfold pyNext
  refine wpAny_bind (wpAny_attempt (wpAny_callSpecial?_slot (name := Str.ofString "__next__") hit.typeIs slot_listiter_next
    (wpAny_call_entry slot_listiter_next hit.typeIs entry_listiter_next ?_ (args_listiter_next _))))
  show wpAny _ _ (field (.ref it) 0 >>= _) _ _ s
  refine wpAny_bind (wpAny_field ho hd (x := .ref l) rfl ?_)
  show wpAny _ _ (if (Value.ref l == Value.none) = true then _ else _) _ _ s
  rw [if_neg (show ¬ ((Value.ref l == Value.none) = true) from Bool.false_ne_true)]
  show wpAny _ _ (field (.ref it) 1 >>= _) _ _ s
  refine wpAny_bind (wpAny_field ho hd (x := .int i 0) rfl ?_)
  show wpAny _ _ (seqItems? (.ref l) >>= _) _ _ s
  refine wpAny_bind (wpAny_seqItems hol hdl ?_)
  simp only [Int.toNat_natCast, hn]
  refine wpAny_bind (wpAny_rule (wpAny_bind (wpAny_setField ho hd (by simp) ?_)))
  exact stop_at (hh.upd ho hc) fun e h' o' h1 h2 h3 => stop_next h1 h2 (hQ _ fun b o hn q => h3 b o ((Heap.get?_update_other _ _ (Ne.symm hn)).trans q))
theorem next_tuple_end {it t : Addr} {i : Nat} {items : Array Value} {Q : Option Value → Shared → Prop} (hh : HdAt A s.heap)
    (hit : s.heap.IsTupleIter it t i) (ht : s.heap.IsTuple t items) (hn : items[i]? = none)
    (hQ : ∀ h', Heap.ExtBut it s.heap h' → Q none { s with heap := h' }) : wpAny (model prog w) A (pyNext (.ref it)) Q E s := by
  obtain ⟨o, ho, hc, hd⟩ := id hit
  obtain ⟨ol, hol, _, nl, hdl⟩ := ht
  unfold pyNext
  refine wpAny_bind (wpAny_attempt (wpAny_callSpecial?_slot (name := Str.ofString "__next__") hit.typeIs F.slot_tuple_iterator_next
    (wpAny_call_entry F.slot_tuple_iterator_next hit.typeIs F.entry_tuple_iterator_next ?_ (F.args_tuple_iterator_next_1 _))))
  show wpAny _ _ (field (.ref it) 0 >>= _) _ _ s
  refine wpAny_bind (wpAny_field ho hd (x := .ref t) rfl ?_)
  show wpAny _ _ (if (Value.ref t == Value.none) = true then _ else _) _ _ s
  rw [if_neg (show ¬ ((Value.ref t == Value.none) = true) from Bool.false_ne_true)]
  show wpAny _ _ (field (.ref it) 1 >>= _) _ _ s
  refine wpAny_bind (wpAny_field ho hd (x := .int i 0) rfl ?_)
  show wpAny _ _ (seqItems? (.ref t) >>= _) _ _ s
  refine wpAny_bind (wpAny_seqItems hol hdl ?_)
  simp only [Int.toNat_natCast, hn]
  refine wpAny_bind (wpAny_rule (wpAny_bind (wpAny_setField ho hd (by simp) ?_)))
  exact stop_at (hh.upd ho hc) fun e h' o' h1 h2 h3 => stop_next h1 h2 (hQ _ fun b o hn q => h3 b o ((Heap.get?_update_other _ _ (Ne.symm hn)).trans q))
theorem next_range_end {it : Addr} {x left step : Int} {Q : Option Value → Shared → Prop} (hh : HdAt A s.heap) (hit : IsRangeIter s.heap it x left step) (hleft : left ≤ 0)
    (hQ : ∀ h', Heap.ExtBut it s.heap h' → Q none { s with heap := h' }) : wpAny (model prog w) A (pyNext (.ref it)) Q E s := by
  have hT : s.TypeIs (.ref it) "range_iterator" := ⟨_, hit, rfl⟩
  unfold pyNext
  refine wpAny_bind (wpAny_attempt (wpAny_callSpecial?_slot (name := Str.ofString "__next__") hT F.slot_range_iterator_next
    (wpAny_call_entry F.slot_range_iterator_next hT F.entry_range_iterator_next ?_ (F.args_range_iterator_next_1 _))))
  show wpAny _ _ (field (.ref it) 0 >>= _) _ _ s
  refine wpAny_bind (wpAny_field hit rfl (x := rawInt x) rfl ?_)
  show wpAny _ _ (field (.ref it) 1 >>= _) _ _ s
  refine wpAny_bind (wpAny_field hit rfl (x := rawInt left) rfl ?_)
  show wpAny _ _ (field (.ref it) 2 >>= _) _ _ s
  refine wpAny_bind (wpAny_field hit rfl (x := rawInt step) rfl ?_)
  show wpAny _ _ (if left ≤ 0 then _ else _) _ _ s
  rw [if_pos hleft]
  refine wpAny_bind (wpAny_rule ?_)
  refine wpAny_bind ?_
  exact stop_at hh fun e h' o' h1 h2 h3 => stop_next h1 h2 (hQ _ fun b o _ q => h3 b o q)
theorem next_ascii_end {it : Addr} {x : Str} {t : Tok} {i : Nat} {Q : Option Value → Shared → Prop} (hh : HdAt A s.heap)
    (hit : s.heap.IsStrIter it "str_ascii_iterator" x t i) (hx : x.cps[i]? = none)
    (hQ : ∀ h', Heap.ExtBut it s.heap h' → Q none { s with heap := h' }) : wpAny (model prog w) A (pyNext (.ref it)) Q E s := by
  obtain ⟨o, ho, hc, hd⟩ := id hit
  unfold pyNext
  refine wpAny_bind (wpAny_attempt (wpAny_callSpecial?_slot (name := Str.ofString "__next__") hit.typeIs F.slot_str_ascii_iterator_next
    (wpAny_call_entry F.slot_str_ascii_iterator_next hit.typeIs F.entry_str_ascii_iterator_next ?_ (F.args_str_ascii_iterator_next_1 _))))
  show wpAny _ _ (field (.ref it) 0 >>= _) _ _ s
  refine wpAny_bind (wpAny_field ho hd (x := .str x t) rfl ?_)
  show wpAny _ _ (field (.ref it) 1 >>= _) _ _ s
  refine wpAny_bind (wpAny_field ho hd (x := .int i 0) rfl ?_)
  simp only [Int.toNat_natCast, hx]
  refine wpAny_bind (wpAny_rule (wpAny_bind (wpAny_setField ho hd (by simp) (wpAny_bind (wpAny_letGo ?_)))))
  exact stop_at (hh.upd ho hc) fun e h' o' h1 h2 h3 => stop_next h1 h2 (hQ _ fun b o hn q => h3 b o ((Heap.get?_update_other _ _ (Ne.symm hn)).trans q))
theorem next_wide_end {it : Addr} {x : Str} {t : Tok} {i : Nat} {Q : Option Value → Shared → Prop} (hh : HdAt A s.heap)
    (hit : s.heap.IsStrIter it "str_iterator" x t i) (hx : x.cps[i]? = none)
    (hQ : ∀ h', Heap.ExtBut it s.heap h' → Q none { s with heap := h' }) : wpAny (model prog w) A (pyNext (.ref it)) Q E s := by
  obtain ⟨o, ho, hc, hd⟩ := id hit
  unfold pyNext
  refine wpAny_bind (wpAny_attempt (wpAny_callSpecial?_slot (name := Str.ofString "__next__") hit.typeIs F.slot_str_iterator_next
    (wpAny_call_entry F.slot_str_iterator_next hit.typeIs F.entry_str_iterator_next ?_ (F.args_str_iterator_next_1 _))))
  show wpAny _ _ (field (.ref it) 0 >>= _) _ _ s
  refine wpAny_bind (wpAny_field ho hd (x := .str x t) rfl ?_)
  show wpAny _ _ (field (.ref it) 1 >>= _) _ _ s
  refine wpAny_bind (wpAny_field ho hd (x := .int i 0) rfl ?_)
  simp only [Int.toNat_natCast, hx]
  refine wpAny_bind (wpAny_rule (wpAny_bind (wpAny_setField ho hd (by simp) (wpAny_bind (wpAny_letGo ?_)))))
  exact stop_at (hh.upd ho hc) fun e h' o' h1 h2 h3 => stop_next h1 h2 (hQ _ fun b o hn q => h3 b o ((Heap.get?_update_other _ _ (Ne.symm hn)).trans q))
theorem unpackItems_at {t : Addr} {items : Array Value} {Q : List Value → Shared → Prop} (hh : HdAt A s.heap) (ht : s.heap.IsTuple t items)
    (hQ : ∀ h', Heap.ExtBut s.heap.objs.size s.heap h' → Q items.toList { s with heap := h' }) : wpAny (model prog w) A (unpackItems (.ref t) items.size none) Q E s := by
  have hlt : t ≠ s.heap.objs.size := by obtain ⟨o, ho, _⟩ := ht; exact Nat.ne_of_lt (Heap.lt_size ho)
  unfold unpackItems
  refine wpAny_bind ?_
  · unfold notIterableAtAll
    refine wpAny_bind (wpAny_specialOf ht.typeIs F.slot_tuple_iter.lookup ?_)
    refine wpAny_pure ?_
    simp only [Bool.false_eq_true, if_false]
    refine wpAny_bind (wpAny_holding (wpAny_pyIter_tuple ht ?_))
    refine wpAny_bind (wpAny_holding (wpAny_draw_tuple hlt items.size 0 _ _ ⟨_, Heap.get?_push_size _ rfl, rfl, rfl⟩ (ht.push _) (by lia) fun h₁ hit₁ hs₁ => ?_))
    have hall : List.take items.size (List.drop 0 items.toList) = items.toList := by
      rw [List.drop_zero]; exact List.take_of_length_le (by simp)
    rw [hall]
    rw [if_neg (by simp)]
    have ht₁ : h₁.IsTuple t items := (ht.push _).extBut hs₁.extBut hlt
    refine wpAny_bind (wpAny_holding (next_tuple_end (hh.to fun b o r _ q => hs₁.extBut b o (Nat.ne_of_lt (Heap.lt_size q)) (Heap.get?_push_of_some _ q)) hit₁ ht₁ (by simp) fun h₂ he₂ => ?_))
    simp only [Option.isSome_none, Bool.false_eq_true, if_false]
    refine wpAny_pure (hQ h₂ fun b o hb e => he₂ b o hb (hs₁.extBut b o hb (Heap.get?_push_of_some _ e)))
end
end Mine
end
section
namespace Mine
open PySem PySem.Calls PyProof.Rows
abbrev Cx.M (C : Cx) : Model := model C.prog C.w
noncomputable def HdOk (C : Cx) (A : Around) : Prop := HdAt A C.base
theorem HdOk.at {C : Cx} {A : Around} (h : HdOk C A) {ρ : List Addr} {H : AHeap} {s : Shared} (S : Sim C ρ H s) : HdAt A s.heap := HdAt.to h fun b o _ _ e => S.stays b o e
structure AOk (C : Cx) (K : Nat) (A : Around) : Prop where
  h : HdOk C A
  hc : C.calm → A.handled = none
  d : A.depth + K < recursionLimit
  u : A.units + 5 * K + 200 < cLine
  fr : A.frames = some C.frs
theorem AOk.deeper {C : Cx} {K : Nat} {A : Around} (a : AOk C (K + 1) A) (env : Env) : AOk (C.at (env :: C.frs)) K (A.deeper env) := ⟨a.h, a.hc, by show A.depth + 1 + K < _; rw [Nat.add_right_comm]; exact a.d, by show A.units + 3 + 5 * K + 200 < _; have := a.u; lia, by show A.frames.map _ = _; rw [a.fr]; rfl⟩
theorem AOk.le {C : Cx} {K K' : Nat} {A : Around} (a : AOk C K A) (h : K' ≤ K) : AOk C K' A := ⟨a.h, a.hc, Nat.lt_of_le_of_lt (Nat.add_le_add_left h _) a.d, Nat.lt_of_le_of_lt (Nat.add_le_add_right (Nat.add_le_add_left (Nat.mul_le_mul_left 5 h) _) _) a.u, a.fr⟩
variable (C : Cx)
noncomputable def headFr : Option Addr := match C.frs with
  | [] => none
  | env :: _ => env.frame
structure XR (ρ : List Addr) (c : Str) (e : Value) (s₀ s : Shared) : Prop where
  ex : ∃ a k o vs, e = .ref a ∧ C.G c = some (.ref k) ∧ a ∉ ρ ∧ C.base.get? a = none ∧ s₀.heap.get? a = none ∧ s.heap.get? a = some o ∧ o.cls = .ref k ∧ o.data = .fields vs ∧ vs[2]? = some .none ∧
    (vs[1]? = some .none ∨ ∃ t ot ts, vs[1]? = some (.ref t) ∧ t ∉ ρ ∧ C.base.get? t = none ∧ s₀.heap.get? t = none ∧ t ≠ a ∧ s.heap.get? t = some ot ∧ ot.data = .fields ts ∧ (ts[3]? = some .none ∨ ∃ L, headFr C = some L ∧ ts[3]? = some (rawInt L)))
noncomputable def PV (ρ : List Addr) (s : Shared) (Q : VPost) : Value → Shared → Prop := fun u s' => ∃ ρ' H' v, Step ρ s ρ' s' ∧ Sim C ρ' H' s' ∧ VR C ρ' v u ∧ Q v H'
noncomputable def PL (ρ : List Addr) (s : Shared) (Q : List V → AHeap → Prop) : List Value → Shared → Prop := fun us s' => ∃ ρ' H' vs, Step ρ s ρ' s' ∧ Sim C ρ' H' s' ∧ All2 (VR C ρ') vs us ∧ Q vs H'
noncomputable def PB (ρ : List Addr) (s : Shared) (Q : Bool → AHeap → Prop) : Bool → Shared → Prop := fun b s' => ∃ ρ' H', Step ρ s ρ' s' ∧ Sim C ρ' H' s' ∧ Q b H'
noncomputable def PX (ex : Addr → Prop) (ρ : List Addr) (s : Shared) (X : XPost) : Value → Shared → Prop := fun e s' => ∃ ρ' H' c, StepG ex ρ s ρ' s' ∧ Sim C ρ' H' s' ∧ XR C ρ' c e s s' ∧ X c H'
structure FR (env : Env) (σ : Sg) (ρ : List Addr) (h : Heap) : Prop where
  dot : σ dot0 = none
  kind : env.scope.kind = .function
  glob : env.globals = mainGlobals
  bl : env.builtins = builtinsNs
  ns : ∃ m, h.Ns env.locals m ∧ ∀ x v, σ x = some v → env.kindOf x = some .local → ∃ u, m x = some u ∧ VR C ρ v u
  cells : ∀ x c, env.cells.lookup x = some c → ∃ ov, h.IsCell c ov ∧ ∀ v, σ x = some v → env.kindOf x = some .cell → ∃ u, ov = some u ∧ VR C ρ v u
  has : ∀ x, env.kindOf x = some .cell → ∃ c, env.cells.lookup x = some c
  nL : env.locals ∉ ρ
  nC : ∀ x c, env.cells.lookup x = some c → c ∉ ρ ∧ c ≠ env.locals
  apart : ∀ x y c, env.cells.lookup x = some c → env.cells.lookup y = some c → x = y
  bL : C.base.get? env.locals = none
  bC : ∀ x c, env.cells.lookup x = some c → C.base.get? c = none
variable {C}
theorem PV.trans {ρ ρ1 : List Addr} {s s1 : Shared} {Q : VPost} {u : Value} {s' : Shared} (st : Step ρ s ρ1 s1) (h : PV C ρ1 s1 Q u s') : PV C ρ s Q u s' :=
  by obtain ⟨ρ', H', v, a, b, c, d⟩ := h; exact ⟨ρ', H', v, st.trans a, b, c, d⟩
theorem PL.trans {ρ ρ1 : List Addr} {s s1 : Shared} {Q : List V → AHeap → Prop} {u : List Value} {s' : Shared} (st : Step ρ s ρ1 s1) (h : PL C ρ1 s1 Q u s') : PL C ρ s Q u s' :=
  by obtain ⟨ρ', H', v, a, b, c, d⟩ := h; exact ⟨ρ', H', v, st.trans a, b, c, d⟩
theorem PB.trans {ρ ρ1 : List Addr} {s s1 : Shared} {Q : Bool → AHeap → Prop} {u : Bool} {s' : Shared} (st : Step ρ s ρ1 s1) (h : PB C ρ1 s1 Q u s') : PB C ρ s Q u s' :=
  by obtain ⟨ρ', H', a, b, d⟩ := h; exact ⟨ρ', H', st.trans a, b, d⟩
theorem XR.back {ρ : List Addr} {c : Str} {e : Value} {s₀ s₁ s : Shared} (x : XR C ρ c e s₁ s) (hl : ∀ b o, s₀.heap.get? b = some o → ∃ o', s₁.heap.get? b = some o') : XR C ρ c e s₀ s := by
  have nb : ∀ b, s₁.heap.get? b = none → s₀.heap.get? b = none := fun b hb => by
    cases q : s₀.heap.get? b with
    | none => rfl
    | some o => obtain ⟨o', q'⟩ := hl b o q; rw [hb] at q'; cases q'
  obtain ⟨a, k, o, vs, h1, h2, h3, h4, h5, h6, h7, h8, h9, h10⟩ := x.ex
  refine ⟨a, k, o, vs, h1, h2, h3, h4, nb a h5, h6, h7, h8, h9, h10.imp id ?_⟩
  rintro ⟨t, ot, ts, k1, k2, k3, k4, k5⟩
  exact ⟨t, ot, ts, k1, k2, k3, nb t k4, k5⟩
theorem PX.trans {ex : Addr → Prop} {ρ ρ1 : List Addr} {s s1 : Shared} {X : XPost} {u : Value} {s' : Shared} (st : StepG ex ρ s ρ1 s1) (h : PX C ex ρ1 s1 X u s') : PX C ex ρ s X u s' :=
  by obtain ⟨ρ', H', v, a, b, c, d⟩ := h; exact ⟨ρ', H', v, st.trans a, b, c.back st.live, d⟩
theorem PX.no {ex : Addr → Prop} {ρ : List Addr} {s : Shared} {u : Value} {s' : Shared} (h : PX C ex ρ s (fun _ _ => False) u s') : False := by obtain ⟨_, _, _, _, _, _, q⟩ := h; exact q
theorem PX.up {ex : Addr → Prop} {ρ : List Addr} {s : Shared} {X : XPost} {u : Value} {s' : Shared} (h : PX C (fun _ => False) ρ s X u s') : PX C ex ρ s X u s' := by obtain ⟨ρ', H', c, st, r⟩ := h; exact ⟨ρ', H', c, st.up, r⟩
abbrev Takes (C : Cx) (ρ : List Addr) (s : Shared) (X : XPost) (E : Value → Shared → Prop) : Prop := ∀ e s', PX C (fun _ => False) ρ s X e s' → E e s'
theorem Takes.on {ρ ρ1 : List Addr} {s s1 : Shared} {X : XPost} {E : Value → Shared → Prop} (h : Takes C ρ s X E) (st : Step ρ s ρ1 s1) : Takes C ρ1 s1 X E := fun e s' p => h e s' (p.trans st)
theorem FR.step {env : Env} {σ : Sg} {ρ ρ' : List Addr} {s s' : Shared} (F : FR C env σ ρ s.heap) (st : Step ρ s ρ' s') : FR C env σ ρ' s'.heap := by
  obtain ⟨l, e, f⟩ := st.ext
  have nn : ∀ b o, s.heap.get? b = some o → b ∉ ρ → b ∉ ρ' := fun b o q hb hm => by
    rw [e] at hm
    rcases List.mem_append.mp hm with hm | hm
    · exact hb hm
    · rw [f b hm] at q; cases q
  refine ⟨F.dot, F.kind, F.glob, F.bl, ?_, fun x c hc => ?_, F.has, ?_, fun x c hc => ⟨?_, (F.nC x c hc).2⟩, F.apart, F.bL, F.bC⟩
  · obtain ⟨m, hn, hv⟩ := F.ns
    exact ⟨m, Same.ns hn fun o q => st.keep _ o F.nL id q, fun x v h1 h2 => by obtain ⟨u, h3, h4⟩ := hv x v h1 h2; exact ⟨u, h3, st.vr h4⟩⟩
  · obtain ⟨ov, ⟨o, ho, hd⟩, hv⟩ := F.cells x c hc
    exact ⟨ov, Same.cell ⟨o, ho, hd⟩ fun o q => st.keep _ o (F.nC x c hc).1 id q, fun v h1 h2 => by obtain ⟨u, h3, h4⟩ := hv v h1 h2; exact ⟨u, h3, st.vr h4⟩⟩
  · obtain ⟨m, ⟨o, es, ep, ho, _⟩, _⟩ := F.ns
    exact nn _ o ho F.nL
  · obtain ⟨ov, ⟨o, ho, hd⟩, hv⟩ := F.cells x c hc
    exact nn _ o ho (F.nC x c hc).1
theorem load_ok {env : Env} {σ : Sg} {ρ : List Addr} {s : Shared} {A : Around} {E : Value → Shared → Prop} {Q : Value → Shared → Prop} {x : Str} {v : V} (F : FR C env σ ρ s.heap) (hx : σ x = some v)
    (hk : env.kindOf x = some .local ∨ env.kindOf x = some .cell) (h : ∀ u, VR C ρ v u → Q u s) : wpAny C.M A (loadName env x) Q E s := by
  rcases hk with hk | hk
  · obtain ⟨m, hn, hv⟩ := F.ns
    obtain ⟨u, h1, h2⟩ := hv x v hx hk
    exact wpAny_loadName_local F.kind hk hn h1 (h u h2)
  · obtain ⟨c, hc⟩ := F.has x hk
    obtain ⟨ov, hi, hv⟩ := F.cells x c hc
    obtain ⟨u, rfl, h2⟩ := hv v hx hk
    exact wpAny_loadName_cell F.kind hk hc hi (h u h2)
noncomputable def own (env : Env) (b : Addr) : Prop := b = env.locals ∨ ∃ x, env.cells.lookup x = some b
noncomputable def ownT (env : Env) (Z : List Str) (b : Addr) : Prop := b = env.locals ∨ ∃ x ∈ Z, env.kindOf x = some .cell ∧ env.cells.lookup x = some b
theorem ownT.own {env : Env} {Z : List Str} : ∀ b, ownT env Z b → own env b
  | _, .inl h => .inl h
  | _, .inr ⟨x, _, _, h⟩ => .inr ⟨x, h⟩
theorem Sim.frame {ρ : List Addr} {H : AHeap} {s : Shared} (S : Sim C ρ H s) {h' : Heap} {tk : Nat} {a : Addr} (ha : a ∉ ρ) (hb : C.base.get? a = none) (hs : Heap.SameBut a s.heap h') (hq : ∀ o, s.heap.get? a = some o → IsNs o → ∃ o', h'.get? a = some o' ∧ IsNs o') : Sim C ρ H { s with heap := h', toks := tk } :=
  ⟨S.len, S.nodup, fun i b o e q => (S.obj i b o e q).keep C [] (by simp) fun _ x => (hs.2 b fun z => ha (z ▸ List.mem_of_getElem? e)).trans x,
   fun b o e => (hs.2 b fun z => by rw [z, hb] at e; cases e).trans (S.stays b o e), S.fresh, S.sm, S.gens, S.os, S.frs.to C fun b o _ hb' hn e => ⟨hb', by
    by_cases z : b = a
    · subst z; exact hq o e hn
    · exact ⟨o, (hs.2 b z).trans e, hn⟩⟩⟩
theorem step_same {ex : Addr → Prop} {ρ : List Addr} {s : Shared} {h' : Heap} {tk : Nat} {a : Addr} {o₁ : Obj} (he : ex a) (hs : Heap.SameBut a s.heap h') (ho : h'.get? a = some o₁) : StepG ex ρ s ρ { s with heap := h', toks := tk } :=
  ⟨⟨[], by simp, fun _ h => nomatch h⟩, fun b o _ hx e => .inl ((hs.2 b fun z => hx (z ▸ he)).trans e), fun b o e => by
    by_cases z : b = a
    · exact ⟨o₁, z ▸ ho⟩
    · exact ⟨o, (hs.2 b z).trans e⟩⟩
theorem store_ok {env : Env} {σ : Sg} {ρ : List Addr} {H : AHeap} {s : Shared} {A : Around} {E : Value → Shared → Prop} {Q : Unit → Shared → Prop} {x : Str} {Z : List Str} {v : V} {u : Value} (F : FR C env σ ρ s.heap) (S : Sim C ρ H s) (hZ : x ∈ Z)
    (hk : env.kindOf x = some .local ∨ env.kindOf x = some .cell) (h0 : x ≠ dot0) (hu : VR C ρ v u)
    (h : ∀ s', FR C env (σ.set x v) ρ s'.heap → Sim C ρ H s' → StepG (ownT env Z) ρ s ρ s' → Q () s') : wpAny C.M A (storeName env x u) Q E s := by
  have hdot : σ.set x v dot0 = none := by unfold Sg.set; rw [if_neg (Ne.symm h0)]; exact F.dot
  rcases hk with hk | hk
  · obtain ⟨m, hn, hv⟩ := F.ns
    refine wpAny_storeName_local hk hn (fun h' hn' hs' => ?_) (by rw [F.kind]; rfl)
    obtain ⟨o₁, es, ep, ho, hdt, _⟩ := id hn'
    refine h _ ⟨hdot, F.kind, F.glob, F.bl, ⟨_, hn', fun y w h1 h2 => ?_⟩, fun y c hc => ?_, F.has, F.nL, F.nC, F.apart, F.bL, F.bC⟩ (S.frame F.nL F.bL hs' fun _ _ _ => ⟨o₁, ho, es, ep, hdt⟩) (step_same (.inl rfl) hs' ho)
    · by_cases hy : y = x
      · subst hy
        unfold Sg.set at h1
        rw [if_pos rfl] at h1 ⊢
        cases h1
        exact ⟨u, rfl, hu⟩
      · unfold Sg.set at h1
        rw [if_neg hy] at h1 ⊢
        exact hv y w h1 h2
    · obtain ⟨ov, hi, hc'⟩ := F.cells y c hc
      refine ⟨ov, hi.sameBut hs' (F.nC y c hc).2, fun w h1 h2 => ?_⟩
      have hy : y ≠ x := fun z => by rw [z, hk] at h2; cases h2
      unfold Sg.set at h1
      rw [if_neg hy] at h1
      exact hc' w h1 h2
  · obtain ⟨c, hc⟩ := F.has x hk
    obtain ⟨ov, hi, hv⟩ := F.cells x c hc
    refine wpAny_storeName_cell F.kind hk hc hi fun h' hi' hs' => ?_
    obtain ⟨o₁, ho, hd⟩ := id hi'
    refine h _ ⟨hdot, F.kind, F.glob, F.bl, ?_, fun y d hd' => ?_, F.has, F.nL, F.nC, F.apart, F.bL, F.bC⟩ (S.frame (tk := s.toks) (F.nC x c hc).1 (F.bC x c hc) hs' fun o e hn => by
        obtain ⟨oc, hoc, hdc⟩ := hi
        rw [hoc] at e; cases e
        obtain ⟨es, ep, q⟩ := hn
        rw [hdc] at q; cases q) (step_same (tk := s.toks) (.inr ⟨x, hZ, hk, hc⟩) hs' ho)
    · obtain ⟨m, hn, hm⟩ := F.ns
      refine ⟨m, hn.sameBut hs' (Ne.symm (F.nC x c hc).2), fun y w h1 h2 => ?_⟩
      have hy : y ≠ x := fun z => by rw [z, hk] at h2; cases h2
      unfold Sg.set at h1
      rw [if_neg hy] at h1
      exact hm y w h1 h2
    · by_cases hy : y = x
      · subst hy
        rw [hc] at hd'; cases hd'
        refine ⟨_, hi', fun w h1 _ => ?_⟩
        unfold Sg.set at h1
        rw [if_pos rfl] at h1
        cases h1
        exact ⟨u, rfl, hu⟩
      · obtain ⟨ov', hi2, hv2⟩ := F.cells y d hd'
        refine ⟨ov', hi2.sameBut hs' (fun z => hy (F.apart y x c (z ▸ hd') hc)), fun w h1 h2 => ?_⟩
        unfold Sg.set at h1
        rw [if_neg hy] at h1
        exact hv2 w h1 h2
theorem global_ok {env : Env} {σ : Sg} {ρ : List Addr} {H : AHeap} {s : Shared} {A : Around} {E : Value → Shared → Prop} {Q : Value → Shared → Prop} {x : Str} {u : Value} {pos : Pos} (F : FR C env σ ρ s.heap) (S : Sim C ρ H s)
    (hk : env.kindOf x = some .globalImplicit) (hg : C.G x = some u) (hd : (x == Str.ofString "__debug__") = false) (h : Q u s) : wpAny C.M A (eval (.Name x pos) env) Q E s := by
  refine Name_function_global F.kind hk ?_ hd
  rcases C.hG x u hg with e | ⟨e1, e2⟩
  · exact loadGlobal_global (by rw [F.glob]; exact C.hg.keeps S.stays) e h
  · exact loadGlobal_builtin (by rw [F.glob]; exact C.hg.keeps S.stays) e1 (by rw [F.bl]; exact C.hb.keeps S.stays) e2 h
end Mine
end
section
namespace Mine
open PySem PySem.Calls PyProof.Rows
theorem okT_iff {a : Txt} : okT a = true ↔ a.length ≤ lid ∧ ∀ c ∈ a, c < 1114112 := by
  unfold okT; rw [Bool.and_eq_true, decide_eq_true_eq, List.all_eq_true]
  exact ⟨fun h => ⟨h.1, fun c hc => of_decide_eq_true (h.2 c hc)⟩, fun h => ⟨h.1, fun c hc => decide_eq_true (h.2 c hc)⟩⟩
theorem okT_append {a b : Txt} (ha : okT a = true) (hb : okT b = true) (hl : a.length + b.length ≤ lid) : okT (a ++ b) = true := by
  rw [okT_iff] at *
  refine ⟨by rw [List.length_append]; exact hl, fun c hc => ?_⟩
  rcases List.mem_append.mp hc with h | h
  · exact ha.2 c h
  · exact hb.2 c h
theorem okT_take {a : Txt} (ha : okT a = true) (n : Nat) : okT (a.take n) = true := by
  rw [okT_iff] at *; exact ⟨Nat.le_trans (by rw [List.length_take]; exact Nat.min_le_right _ _) ha.1, fun c hc => ha.2 c (List.mem_of_mem_take hc)⟩
theorem okT_drop {a : Txt} (ha : okT a = true) (n : Nat) : okT (a.drop n) = true := by
  rw [okT_iff] at *; exact ⟨Nat.le_trans (by rw [List.length_drop]; exact Nat.sub_le _ _) ha.1, fun c hc => ha.2 c (List.mem_of_mem_drop hc)⟩
theorem okT_cut {a : Txt} (ha : okT a = true) (i j : Nat) : okT (cut a i j) = true := okT_drop (okT_take ha j) i
theorem str_append (a b : Txt) : (⟨a.toArray⟩ : Str) ++ ⟨b.toArray⟩ = ⟨(a ++ b).toArray⟩ := by
  show (⟨_⟩ : Str) = _
  congr 1
  simp
theorem str_len (a : Txt) : (⟨a.toArray⟩ : Str).length = a.length := by show a.toArray.size = _; simp
theorem str_cps (a : Txt) : (⟨a.toArray⟩ : Str).cps.toList = a := by simp
theorem lid_le {n : Nat} (h : n ≤ lid) : n ≤ sizeLine := by rw [sizeLine_eq]; unfold lid at h; omega
section
variable {C : Cx} {ρ : List Addr} {H : AHeap} {s : Shared} {A : Around} {E : Value → Shared → Prop} {Q : VPost}
theorem vi (i : Int) (t : Tok) : VR C ρ (.int i) (.int i t) := ⟨t, rfl⟩
theorem vt {x : Txt} (h : okT x = true) (t : Tok) : VR C ρ (.str x) (.str ⟨x.toArray⟩ t) := ⟨h, t, rfl⟩
theorem vb (b : Bool) : VR C ρ (.bool b) (.bool b) := rfl
theorem here {v : V} {u : Value} {t : Nat} (S : Sim C ρ H s) (hv : VR C ρ v u) (hq : Q v H) : PV C ρ s Q u { s with toks := t } := ⟨ρ, H, v, StepG.toks t, S.toks t, hv, hq⟩
theorem here0 {v : V} {u : Value} (S : Sim C ρ H s) (hv : VR C ρ v u) (hq : Q v H) : PV C ρ s Q u s := ⟨ρ, H, v, StepG.refl ρ s, S, hv, hq⟩
theorem get_push {h : Heap} {o : Obj} : ∀ b x, h.get? b = some x → (h.push o).get? b = some x := fun _ _ e => Heap.get?_push_of_some _ e
theorem get_size (h : Heap) : h.get? h.objs.size = none := by
  cases e : h.get? h.objs.size with
  | none => rfl
  | some o => exact absurd (Heap.lt_size e) (Nat.lt_irrefl _)
theorem pushed_list {us : List Value} {vs : List V} {tk : Nat} (S : Sim C ρ H s) (hv : All2 (VR C ρ) vs us) (hl : vs.length ≤ lid) (hq : Q (.ref H.length) (H ++ [.list vs])) :
    PV C ρ s Q (.ref s.heap.objs.size) { s with heap := s.heap.push { cls := .type "list", data := .seq us.toArray }, toks := tk } := by
  obtain ⟨a, b, c⟩ := S.alloc (a := s.heap.objs.size) (o := .list vs) (h' := s.heap.push { cls := .type "list", data := .seq us.toArray }) (tk := tk) get_push (get_size _) S.size_ne ⟨us.toArray, 0, Heap.get?_push_size _ rfl, by simpa using hv, hl⟩
  exact ⟨_, _, _, b, a, c, hq⟩
theorem pushed_tuple {us : List Value} {vs : List V} {tk : Nat} (S : Sim C ρ H s) (hv : All2 (VR C ρ) vs us) (hl : vs.length ≤ lid) (hq : Q (.ref H.length) (H ++ [.tuple vs])) :
    PV C ρ s Q (.ref s.heap.objs.size) { s with heap := s.heap.push { cls := .type "tuple", data := .seq us.toArray }, toks := tk } := by
  obtain ⟨a, b, c⟩ := S.alloc (a := s.heap.objs.size) (o := .tuple vs) (h' := s.heap.push { cls := .type "tuple", data := .seq us.toArray }) (tk := tk) get_push (get_size _) S.size_ne ⟨us.toArray, 0, Heap.get?_push_size _ rfl, by simpa using hv, hl⟩
  exact ⟨_, _, _, b, a, c, hq⟩
theorem lo64 {i : Int} (q : i.natAbs < 2 ^ 63) : -(2 ^ 64) < i := by omega
theorem hi64 {i : Int} (q : i.natAbs < 2 ^ 63) : i < 2 ^ 64 := by omega
theorem binA_ok {op : Operator} {a b : V} {u w : Value} (h : binA op a b H Q) (S : Sim C ρ H s) (hu : VR C ρ a u) (hw : VR C ρ b w) : wpAny C.M A (binaryOp op u w) (PV C ρ s Q) E s := by
  cases h with
  | add h => obtain ⟨t, rfl⟩ := hu; obtain ⟨t', rfl⟩ := hw; exact add_int (here S (vi _ _) h)
  | sub h => obtain ⟨t, rfl⟩ := hu; obtain ⟨t', rfl⟩ := hw; exact sub_int (here S (vi _ _) h)
  | mul h0 h =>
    obtain ⟨t, rfl⟩ := hu; obtain ⟨t', rfl⟩ := hw
    refine mul_int (here S (vi _ _) h) ?_
    rcases h0 with q | q
    · exact IntMulOk.of_left (intBits_le_64 (lo64 q) (hi64 q))
    · exact IntMulOk.of_right (intBits_le_64 (lo64 q) (hi64 q))
  | div h1 h2 h3 =>
    obtain ⟨t, rfl⟩ := hu; obtain ⟨t', rfl⟩ := hw
    refine floordiv_int (Int.ne_of_gt h1) ?_ (.inl (PyProof.noPylong_small (by omega)))
    rw [Int.fdiv_eq_ediv_of_nonneg _ (Int.le_of_lt h1)]
    exact here S (vi _ _) h3
  | pow h => obtain ⟨t, rfl⟩ := hu; obtain ⟨t', rfl⟩ := hw; exact AutoIntOps.pow_4 (by decide) (by decide) (by decide) (by decide) (by decide +kernel) (here S (vi _ _) h)
  | mod h1 h3 =>
    obtain ⟨t, rfl⟩ := hu; obtain ⟨t', rfl⟩ := hw
    refine mod_int' (Int.ne_of_gt h1) ?_
    rw [Int.fmod_eq_emod_of_nonneg _ (Int.le_of_lt h1)]
    exact here S (vi _ _) h3
  | cat h1 h2 =>
    obtain ⟨hx, t, rfl⟩ := hu; obtain ⟨hy, t', rfl⟩ := hw
    refine P.add_str ?_
    split
    · rename_i q
      rw [str_len, beq_iff_eq] at q
      have := List.eq_nil_of_length_eq_zero q
      subst this
      exact here0 S (vt hy t') h2
    · split
      · rename_i q
        rw [str_len, beq_iff_eq] at q
        have := List.eq_nil_of_length_eq_zero q
        subst this
        rw [List.append_nil] at h2
        exact here0 S (vt hx t) h2
      · rw [str_append]
        exact ⟨by rw [str_len, List.length_append]; exact lid_le h1, here S (vt (okT_append hx hy h1) _) h2⟩
  | lcat e1 e2 h0 h =>
    obtain ⟨a, rfl, ea, us, n, ho, hs, hl⟩ := S.lookup e1 hu
    obtain ⟨b, rfl, eb, us', n', ho', hs', hl'⟩ := S.lookup e2 hw
    have l1 := hs.length
    have l2 := hs'.length
    refine P.add_list ho ho' ?_ (by rw [← show _ = us.size from l1, ← show _ = us'.size from l2]; exact lid_le h0)
    have := pushed_list (us := us.toList ++ us'.toList) (tk := s.toks) S (hs.append hs') (by rw [List.length_append]; exact h0) h
    rwa [← List.append_toArray] at this
noncomputable def Rdd (h : Heap) (n : Nat) (u : Value) (d : PyData) : Prop := ∃ as, Reads h u d as ∧ d.canLay0 = true ∧ d.depth ≤ n
theorem rdL_reads {f : V → Option PyData} {n : Nat} (ih : ∀ v d u, f v = some d → VR C ρ v u → Rdd s.heap n u d) {vs : List V} {us : List Value} (h : All2 (VR C ρ) vs us) : ∀ {ds : List PyData}, rdL f vs = some ds → ∃ as, ReadsAll s.heap us ds as ∧ PyData.canLayAll0 ds = true ∧ PyData.depthAll ds ≤ n := by
  induction h with
  | nil => intro ds e; cases e; exact ⟨[], .nil, rfl, Nat.zero_le _⟩
  | cons hv hr ih' =>
    intro ds e
    obtain ⟨d, e1, e⟩ := Option.bind_eq_some_iff.mp e
    obtain ⟨ds', e2, rfl⟩ := Option.map_eq_some_iff.mp e
    obtain ⟨as, r1, c1, d1⟩ := ih _ d _ e1 hv
    obtain ⟨bs, r2, c2, d2⟩ := ih' e2
    exact ⟨as ++ bs, .cons r1 r2, Bool.and_eq_true_iff.mpr ⟨c1, c2⟩, Nat.max_le.mpr ⟨d1, d2⟩⟩
theorem rdO_reads (S : Sim C ρ H s) {f : V → Option PyData} {n m : Nat} (ih : ∀ v d u, f v = some d → VR C ρ v u → Rdd s.heap n u d) {o : AObj} {d : PyData} {u : Value} (e : H[m]? = some o) (hv : VR C ρ (.ref m) u) (h : rdO f o = some d) : Rdd s.heap (n + 1) u d := by
  cases o with
  | list xs =>
    obtain ⟨b, rfl, eb, us, k, ho, hs, hl⟩ := S.lookup e hv
    obtain ⟨ds, e2, rfl⟩ := Option.map_eq_some_iff.mp h
    obtain ⟨as, r1, c1, d1⟩ := rdL_reads ih hs e2
    exact ⟨b :: as, .list ho rfl rfl r1, c1, Nat.succ_le_succ d1⟩
  | tuple xs =>
    obtain ⟨b, rfl, eb, us, k, ho, hs, hl⟩ := S.lookup e hv
    obtain ⟨ds, e2, rfl⟩ := Option.map_eq_some_iff.mp h
    obtain ⟨as, r1, c1, d1⟩ := rdL_reads ih hs e2
    exact ⟨as, .tuple ho rfl rfl r1, c1, Nat.succ_le_succ d1⟩
  | dict _ _ => cases h
theorem rdV_reads {f : Nat → Option PyData} {n : Nat} (ih : ∀ m d u, f m = some d → VR C ρ (.ref m) u → Rdd s.heap n u d) {v : V} {d : PyData} {u : Value} (h : rdV f v = some d) (hv : VR C ρ v u) : Rdd s.heap n u d := by
  cases v with
  | none => cases h; cases hv; exact ⟨[], .none, rfl, Nat.zero_le _⟩
  | bool b => cases h; cases hv; exact ⟨[], .bool b, rfl, Nat.zero_le _⟩
  | int i => cases h; obtain ⟨t, rfl⟩ := hv; exact ⟨[], .int i t, rfl, Nat.zero_le _⟩
  | str x =>
    cases h
    obtain ⟨ok, t, rfl⟩ := hv
    refine ⟨[], .str _ t, ?_, Nat.zero_le _⟩
    show x.toArray.all _ = true
    rw [Array.all_eq_true_iff_forall_mem]
    exact fun c hc => decide_eq_true ((okT_iff.mp ok).2 c (List.mem_toArray.mp hc))
  | ref a => exact ih a d u h hv
  | glob _ => cases h
  | exc _ => cases h
theorem rd_reads (S : Sim C ρ H s) : ∀ (n : Nat) (v : V) (d : PyData) (u : Value), rd H n v = some d → VR C ρ v u → Rdd s.heap n u d
  | 0, v, d, u, h, hv => rdV_reads (fun _ _ _ e => (no_some e : False).elim) h hv
  | n + 1, v, d, u, h, hv => rdV_reads (n := n + 1) (fun m d u e hv => by
      obtain ⟨o, e1, e2⟩ := Option.bind_eq_some_iff.mp e
      exact rdO_reads S (rd_reads S n) e1 hv e2) h hv
theorem dict_map {es : List (Txt × V)} {ds : Array DictEntry} {n : Nat} {a : Addr} (ho : s.heap.get? a = some ⟨.type "dict", none, .dict ds n, #[]⟩) (hs : All2 (ER C ρ) es ds.toList) :
    s.heap.MapOf (PySem.strKind C.prog C.w) a (fun k => findBy Value.isStrOf ds k) :=
  ⟨_, ds, n, ho, ⟨rfl, rfl, rfl⟩, rfl, fun e he => by
    obtain ⟨p, hp, ⟨_, t, e1⟩, e2, e3⟩ := hs.right e (Array.mem_toList_iff.mpr he)
    exact ⟨⟨p.1.toArray⟩, by rw [e1]; exact strKind_is _ _ _ t, e2⟩, fun _ => rfl⟩
theorem dict_find {k : Txt} : ∀ {es : List (Txt × V)} {l : List DictEntry}, All2 (ER C ρ) es l →
    (es.find? (fun e => e.1 == k) = none ∧ l.find? (fun e => Value.isStrOf ⟨k.toArray⟩ e.key) = none) ∨
    ∃ e d, es.find? (fun e => e.1 == k) = some e ∧ l.find? (fun e => Value.isStrOf ⟨k.toArray⟩ e.key) = some d ∧ VR C ρ e.2 d.val
  | _, _, .nil => .inl ⟨rfl, rfl⟩
  | _, _, .cons (a := e) (b := d) (as := es) (bs := l) h r => by
    obtain ⟨⟨_, t, e1⟩, e2, e3⟩ := h
    by_cases q : e.1 = k
    · refine .inr ⟨e, d, ?_, ?_, e3⟩
      · rw [List.find?_cons_of_pos (by simpa using q)]
      · rw [List.find?_cons_of_pos (by rw [e1, q]; simp [Value.isStrOf])]
    · have q1 : ¬ ((e.1 == k) = true) := by simpa using q
      have q2 : ¬ (Value.isStrOf ⟨k.toArray⟩ d.key = true) := by rw [e1]; simpa [Value.isStrOf] using q
      have q3 : (e :: es).find? (fun e => e.1 == k) = es.find? (fun e => e.1 == k) := List.find?_cons_of_neg (p := fun e : Txt × V => e.1 == k) q1
      have q4 : (d :: l).find? (fun e => Value.isStrOf ⟨k.toArray⟩ e.key) = l.find? (fun e => Value.isStrOf ⟨k.toArray⟩ e.key) := List.find?_cons_of_neg (p := fun e : DictEntry => Value.isStrOf ⟨k.toArray⟩ e.key) q2
      rw [q3, q4]
      exact dict_find (k := k) r
theorem any_find {k : Txt} (es : List (Txt × V)) : (es.any fun e => e.1 == k) = (es.find? fun e => e.1 == k).isSome := by
  induction es with
  | nil => rfl
  | cons e r ih =>
    rw [List.any_cons, ih, List.find?_cons]
    cases e.1 == k <;> simp
theorem dict_has {es : List (Txt × V)} {ds : Array DictEntry} {k : Txt} (hs : All2 (ER C ρ) es ds.toList) : (findBy Value.isStrOf ds ⟨k.toArray⟩).isSome = es.any fun e => e.1 == k := by
  unfold findBy
  rw [any_find, ← Array.find?_toList]
  rcases dict_find (k := k) hs with ⟨z1, z2⟩ | ⟨e', d', z1, z2, z3⟩
  · rw [z1, z2]; rfl
  · rw [z1, z2]; rfl
theorem Sim.not_sm (S : Sim C ρ H s) {n : Nat} {a : Addr} (e : ρ[n]? = some a) : (a == sysModules) = false := by
  have : a ≠ sysModules := fun z => S.sm (z ▸ List.mem_of_getElem? e)
  simpa using this
theorem deep {K m n : Nat} (h : A.units + 5 * K + 200 < cLine) (h1 : m ≤ 6) (h2 : n ≤ 6) : A.units + min m n < cLine := Nat.lt_of_le_of_lt (Nat.add_le_add (Nat.le_add_right _ (5 * K)) (Nat.le_trans (Nat.min_le_left _ _) (Nat.le_trans h1 (by decide)))) h
theorem deep1 {K m n : Nat} (h : A.units + 5 * K + 200 < cLine) (h2 : n ≤ 6) : A.units + 1 + min m n < cLine := Nat.lt_of_le_of_lt (by rw [Nat.add_assoc]; exact Nat.add_le_add (Nat.le_add_right _ (5 * K)) (Nat.add_le_add_left (Nat.le_trans (Nat.min_le_right _ _) (Nat.le_trans h2 (by decide : 6 ≤ 199))) 1)) h
theorem same_pairs {id : String} {a b : Addr} {es fs : List (Txt × V)} {ds gs : Array DictEntry} {n m : Nat} {R : Bool → Shared → Prop} (ha : (a == sysModules) = false) (hb : (b == sysModules) = false) (hoa : s.heap.get? a = some ⟨.type "dict", none, .dict ds n, #[]⟩) (hob : s.heap.get? b = some ⟨.type "dict", none, .dict gs m, #[]⟩)
    (hs : All2 (ER C ρ) es ds.toList) (ht : All2 (ER C ρ) fs gs.toList) (hl : es.length = fs.length) (heq : ∀ e ∈ es, ∃ f, fs.find? (fun x => x.1 == e.1) = some f ∧ ∀ u w, VR C ρ e.2 u → VR C ρ f.2 w → SeqAt.EqAt A s u w true) (h : R true s) : wpAny C.M A (Builtin.Dict.samePairs id a b) R E s := by
  have hsz : ds.size = gs.size := by rw [← Array.length_toList, ← hs.length, hl, ht.length, Array.length_toList]
  unfold Builtin.Dict.samePairs Builtin.Dict.showsAll
  rw [if_neg (show ¬ (a == sysModules) = true by rw [ha]; exact Bool.false_ne_true), if_neg (show ¬ (b == sysModules) = true by rw [hb]; exact Bool.false_ne_true)]
  refine wpAny_bind (wpAny_pure (wpAny_bind (wpAny_pure ?_)))
  refine wpAny_bind (wpAny_dictEntries hoa rfl ?_)
  dsimp only
  refine wpAny_bind (wpAny_dictEntries hob rfl ?_)
  rw [if_neg (by rw [hsz]; simp)]
  refine wpAny_bind (wpAny_dictEpoch hoa rfl ?_)
  refine wpAny_bind ?_
  rw [Std.Legacy.Range.forIn_eq_forIn_range']
  simp only [Std.Legacy.Range.size, Nat.sub_zero, Nat.add_sub_cancel, Nat.div_one]
  refine wpAny_forIn_list _ (fun rest q s' => s' = s ∧ q = (none, ()) ∧ ∀ i ∈ rest, i < ds.size) _ ?_ ?_ _ _ ⟨rfl, rfl, fun i hi => by simpa using hi⟩
  · rintro x rest q s' ⟨rfl, rfl, hr⟩
    have hlt := hr x (.head _)
    refine wpAny_bind (wpAny_dictEntries hoa rfl ?_)
    rw [Array.getElem?_eq_getElem hlt]
    obtain ⟨e, he, ⟨_, t, hkey⟩, hhash, hval⟩ := hs.right ds[x] (Array.getElem_mem_toList hlt)
    obtain ⟨f, hf, hq⟩ := heq e he
    show wpAny _ _ (holding [ds[x].key, ds[x].val] _ >>= _) _ _ _
    rw [hhash]
    refine wpAny_bind (wpAny_holding (wpAny_bind (wpAny_dictFind_of (knd := PySem.strKind C.prog C.w) (k := ⟨e.1.toArray⟩) (by rw [hkey]; exact strKind_is _ _ _ t) hob rfl (fun d hd => ?_) ?_)))
    · obtain ⟨p, hp, ⟨_, t, e1⟩, e2, e3⟩ := ht.right d (Array.mem_toList_iff.mpr hd)
      exact ⟨⟨p.1.toArray⟩, by rw [e1]; exact strKind_is _ _ _ t, e2⟩
    · have hfb := findBy_of_findIdx? (PySem.strKind C.prog C.w).is gs (⟨e.1.toArray⟩ : Str)
      rcases dict_find (k := e.1) ht with ⟨z1, z2⟩ | ⟨f', d', z1, z2, z3⟩
      · rw [z1] at hf; cases hf
      rw [z1] at hf; cases hf
      have h1 : findBy (PySem.strKind C.prog C.w).is gs (⟨e.1.toArray⟩ : Str) = some d'.val := by show findBy Value.isStrOf _ _ = _; unfold findBy; rw [← Array.find?_toList, z2]; rfl
      rw [h1] at hfb
      cases hj : gs.findIdx? fun d => (PySem.strKind C.prog C.w).is (⟨e.1.toArray⟩ : Str) d.key with
      | none => rw [hj] at hfb; cases hfb
      | some j =>
        rw [hj] at hfb
        obtain ⟨g, hg, hgv⟩ := Option.map_eq_some_iff.mp hfb.symm
        refine wpAny_bind (wpAny_dictEntries hob rfl ?_)
        rw [hg]
        refine wpAny_holding (hq _ _ hval (by rw [hgv]; exact z3) _ _ _ _ ?_)
        show wpAny _ _ (if (!true) = true then _ else _) _ _ _
        rw [if_neg (by decide)]
        refine wpAny_bind (wpAny_dictEpoch hoa rfl ?_)
        rw [if_neg (by simp)]
        exact wpAny_pure ⟨rfl, rfl, fun i hi => hr i (.tail _ hi)⟩
  · rintro q s' ⟨rfl, rfl, _⟩
    exact wpAny_pure h
theorem same_hits {K : Nat} {es fs : List (Txt × V)} (S : Sim C ρ H s) (hA : AOk C K A) (h : SameD H es fs) : ∀ e ∈ es, ∃ f, fs.find? (fun x => x.1 == e.1) = some f ∧ ∀ u w, VR C ρ e.2 u → VR C ρ f.2 w → SeqAt.EqAt A.in1 s u w true := fun e he => by
  obtain ⟨f, d, h1, h2, h3⟩ := h.2 e he
  refine ⟨f, h1, fun u w hu hw => ?_⟩
  obtain ⟨as, r1, c1, d1⟩ := rd_reads S _ _ _ _ h2 hu
  obtain ⟨bs, r2, c2, d2⟩ := rd_reads S _ _ _ _ h3 hw
  rw [← SeqAt.eqv_refl d c1]
  exact SeqAt.eqAt_reads d d A.in1 s u w as bs r1 r2 c1 c2 (deep1 hA.u (Nat.le_trans d2 (Nat.zero_le _)))
theorem same_el (S : Sim C ρ H s) {K : Nat} (hA : AOk C K A) {v : V} {u w : Value} (hu : VR C ρ v u) (hw : VR C ρ v w) : SeqAt.EqAt A.in1 s u w true := by
  have dat : ∀ d, rd H 0 v = some d → SeqAt.EqAt A.in1 s u w true := fun d hd => by
    obtain ⟨as, r1, c1, d1⟩ := rd_reads S _ _ _ _ hd hu
    obtain ⟨bs, r2, c2, d2⟩ := rd_reads S _ _ _ _ hd hw
    rw [← SeqAt.eqv_refl d c1]
    exact SeqAt.eqAt_reads d d A.in1 s u w as bs r1 r2 c1 c2 (deep1 hA.u (Nat.le_trans d2 (Nat.zero_le _)))
  cases v with
  | none => exact dat _ rfl
  | bool b => exact dat _ rfl
  | int i => exact dat _ rfl
  | str x => exact dat _ rfl
  | ref n => obtain ⟨a, rfl, e1⟩ := hu; obtain ⟨b, rfl, e2⟩ := hw; rw [e1] at e2; cases e2; exact SeqAt.EqAt.same _
  | glob g => have hu : C.G g = some u := hu; have hw : C.G g = some w := hw; rw [hu] at hw; cases hw; exact SeqAt.EqAt.same _
  | exc a => cases hu; cases hw; exact SeqAt.EqAt.same _
theorem cmpA_ok {K : Nat} {op : CmpOp} {a b : V} {u w : Value} {q : Bool → Prop} (h : cmpA op a b H q) (S : Sim C ρ H s) (hA : AOk C K A) (hu : VR C ρ a u) (hw : VR C ρ b w) :
    wpAny C.M A (compareOp op u w) (fun r s' => ∃ c, r = .bool c ∧ Step ρ s ρ s' ∧ Sim C ρ H s' ∧ q c) E s := by
  have fin : ∀ c, q c → ∃ c', Value.bool c = .bool c' ∧ Step ρ s ρ s ∧ Sim C ρ H s ∧ q c' := fun c hc => ⟨c, rfl, StepG.refl _ _, S, hc⟩
  have fin' : ∀ c t, q c → ∃ c', Value.bool c = .bool c' ∧ Step ρ s ρ { s with toks := t } ∧ Sim C ρ H { s with toks := t } ∧ q c' := fun c t hc => ⟨c, rfl, StepG.toks _, S.toks _, hc⟩
  have hun := hA.u
  have isn : (u == Value.none) = decide (a = .none) := by
    cases a with
    | none => cases hu; rfl
    | bool b => cases hu; rfl
    | int i => obtain ⟨t, rfl⟩ := hu; rfl
    | str x => obtain ⟨_, t, rfl⟩ := hu; rfl
    | ref n => obtain ⟨x, rfl, _⟩ := hu; rfl
    | exc a => cases hu; rfl
    | glob g =>
      have hu : C.G g = some u := hu
      cases hz : u == Value.none with
      | false => simp
      | true =>
        exfalso
        have hz := beq_iff_eq.mp hz
        subst hz
        exact C.hN g hu
  cases h with
  | eq e1 e2 h =>
    obtain ⟨as, r1, c1, d1⟩ := rd_reads S _ _ _ _ e1 hu
    obtain ⟨bs, r2, c2, d2⟩ := rd_reads S _ _ _ _ e2 hw
    exact SeqAt.compareEq_reads r1 r2 c1 c2 (deep hun d1 d2) (fin _ h)
  | ne e1 e2 h =>
    obtain ⟨as, r1, c1, d1⟩ := rd_reads S _ _ _ _ e1 hu
    obtain ⟨bs, r2, c2, d2⟩ := rd_reads S _ _ _ _ e2 hw
    exact SeqAt.compareNe_reads r1 r2 c1 c2 (deep hun d1 d2) (fin _ h)
  | is h => cases hw; refine PySem.is_none ?_; rw [isn]; exact fin _ h
  | isn h => cases hw; refine PySem.isNot_none ?_; rw [isn]; exact fin _ h
  | lt h => obtain ⟨t, rfl⟩ := hu; obtain ⟨t', rfl⟩ := hw; exact lt_int (fin _ h)
  | le h => obtain ⟨t, rfl⟩ := hu; obtain ⟨t', rfl⟩ := hw; exact le_int (fin _ h)
  | gt h => obtain ⟨t, rfl⟩ := hu; obtain ⟨t', rfl⟩ := hw; exact gt_int (fin _ h)
  | ge h => obtain ⟨t, rfl⟩ := hu; obtain ⟨t', rfl⟩ := hw; exact ge_int (fin _ h)
  | inS h =>
    rename_i c u'
    obtain ⟨_, t, rfl⟩ := hu; obtain ⟨_, t', rfl⟩ := hw
    refine P.in_str ?_
    rw [show (⟨[c].toArray⟩ : Str) = ⟨#[c]⟩ from rfl, StrLaws.found_one, str_cps]
    exact fin _ h
  | inL e1 e2 h =>
    obtain ⟨as, r1, c1, d1⟩ := rd_reads S _ _ _ _ e1 hw
    obtain ⟨bs, r2, c2, d2⟩ := rd_reads S _ _ _ _ e2 hu
    exact SeqAt.in_list_reads r1 r2 c1 c2 (deep1 hun d2) (fin _ h)
  | inD e h =>
    obtain ⟨a, rfl, ea, ds, ho, hs, _⟩ := S.lookup e hw
    obtain ⟨_, t, rfl⟩ := hu
    refine wpAny_in_of (strKind_is _ _ _ t) (S.not_sm ea) (dict_map ho hs) ?_
    rw [dict_has hs]; exact fin' _ _ h
  | ninS h =>
    rename_i c u'
    obtain ⟨_, t, rfl⟩ := hu; obtain ⟨_, t', rfl⟩ := hw
    refine P.notIn_str ?_
    rw [show (⟨[c].toArray⟩ : Str) = ⟨#[c]⟩ from rfl, StrLaws.found_one, str_cps]
    exact fin _ h
  | ninL e1 e2 h =>
    obtain ⟨as, r1, c1, d1⟩ := rd_reads S _ _ _ _ e1 hw
    obtain ⟨bs, r2, c2, d2⟩ := rd_reads S _ _ _ _ e2 hu
    exact SeqAt.notIn_list_reads r1 r2 c1 c2 (deep1 hun d2) (fin _ h)
  | ninD e h =>
    obtain ⟨a, rfl, ea, ds, ho, hs, _⟩ := S.lookup e hw
    obtain ⟨_, t, rfl⟩ := hu
    refine wpAny_notIn_of (strKind_is _ _ _ t) (S.not_sm ea) (dict_map ho hs) ?_
    rw [dict_has hs]; exact fin' _ _ h
  | eqL e1 e2 h =>
    obtain ⟨a, rfl, ea, us, k, ho, hs, _⟩ := S.lookup e1 hu
    obtain ⟨b, rfl, eb, ws, k', ho', hs', _⟩ := S.lookup e2 hw
    have hsz : us.size = ws.size := by rw [← Array.length_toList, ← Array.length_toList, ← hs.length, hs'.length]
    refine SeqAt.eq_listAt (e := fun _ => true) ⟨_, ho, rfl, k, rfl⟩ ⟨_, ho', rfl, k', rfl⟩ hsz (Nat.lt_of_le_of_lt (Nat.le_trans (Nat.le_add_right _ _) (Nat.le_add_right _ _)) hun) (fun j j1 j2 => ?_) ?_
    · have hj : j < us.toList.length := by simpa using j1
      rw [← hs.length] at hj
      obtain ⟨u', e3, r1⟩ := hs.get j _ (List.getElem?_eq_getElem hj)
      obtain ⟨w', e4, r2⟩ := hs'.get j _ (List.getElem?_eq_getElem hj)
      have e5 : us[j] = u' := by rw [Array.getElem?_toList, Array.getElem?_eq_getElem j1] at e3; exact Option.some.inj e3
      have e6 : ws[j] = w' := by rw [Array.getElem?_toList, Array.getElem?_eq_getElem j2] at e4; exact Option.some.inj e4
      rw [e5, e6]
      exact same_el S hA r1 r2
    · rw [show (List.range us.size).all (fun _ => true) = true from List.all_eq_true.mpr fun _ _ => rfl]
      exact fin _ h
  | eqD e1 e2 hsd h =>
    obtain ⟨a, rfl, ea, ds, ho, hs, _⟩ := S.lookup e1 hu
    obtain ⟨b, rfl, eb, gs, ho', hs', _⟩ := S.lookup e2 hw
    have ta : s.TypeIs (.ref a) "dict" := ⟨_, ho, rfl⟩
    have tb : s.TypeIs (.ref b) "dict" := ⟨_, ho', rfl⟩
    refine wpAny_richCompare_same_room (op := .Eq) ta tb PySem.F.slot_dict_eq (wpAny_call_entry PySem.F.slot_dict_eq ta PySem.F.entry_dict_eq ?_ (PySem.F.args_dict_eq_2 _ _)) (Nat.lt_of_le_of_lt (Nat.le_trans (Nat.le_add_right _ _) (Nat.le_add_right _ _)) hun)
    show wpAny _ _ (Builtin.Dict.dictSlotArgs "__eq__" ⟨[.ref a, .ref b], []⟩ >>= _) _ _ s
    refine wpAny_bind ?_
    unfold Builtin.Dict.dictSlotArgs
    refine wpAny_bind (wpAny_notOrdered_dict ta ?_)
    show wpAny _ _ (pure (Value.ref a, Value.ref b)) _ _ s
    refine wpAny_pure ?_
    refine wpAny_bind (wpAny_isInstance (T := "dict") tb PySem.F.sub_dict_dict ?_)
    simp only [Bool.not_true, Bool.false_eq_true, if_false]
    refine wpAny_bind (wpAny_pure (wpAny_bind (wpAny_pure ?_)))
    refine wpAny_bind (same_pairs (S.not_sm ea) (S.not_sm eb) ho ho' hs hs' hsd.1 (same_hits S hA hsd) ?_)
    exact wpAny_pure ⟨_, rfl, (fun x => nomatch x), fin true h⟩
  | neD e1 e2 hsd h =>
    obtain ⟨a, rfl, ea, ds, ho, hs, _⟩ := S.lookup e1 hu
    obtain ⟨b, rfl, eb, gs, ho', hs', _⟩ := S.lookup e2 hw
    have ta : s.TypeIs (.ref a) "dict" := ⟨_, ho, rfl⟩
    have tb : s.TypeIs (.ref b) "dict" := ⟨_, ho', rfl⟩
    refine wpAny_richCompare_same_room (op := .NotEq) ta tb PySem.F.slot_dict_ne (wpAny_call_entry PySem.F.slot_dict_ne ta PySem.F.entry_dict_ne ?_ (PySem.F.args_dict_ne_2 _ _)) (Nat.lt_of_le_of_lt (Nat.le_trans (Nat.le_add_right _ _) (Nat.le_add_right _ _)) hun)
    show wpAny _ _ (Builtin.Dict.dictSlotArgs "__ne__" ⟨[.ref a, .ref b], []⟩ >>= _) _ _ s
    refine wpAny_bind ?_
    unfold Builtin.Dict.dictSlotArgs
    refine wpAny_bind (wpAny_notOrdered_dict ta ?_)
    show wpAny _ _ (pure (Value.ref a, Value.ref b)) _ _ s
    refine wpAny_pure ?_
    refine wpAny_bind (wpAny_isInstance (T := "dict") tb PySem.F.sub_dict_dict ?_)
    simp only [Bool.not_true, Bool.false_eq_true, if_false]
    refine wpAny_bind (wpAny_pure (wpAny_bind (wpAny_pure ?_)))
    refine wpAny_bind (same_pairs (S.not_sm ea) (S.not_sm eb) ho ho' hs hs' hsd.1 (same_hits S hA hsd) ?_)
    exact wpAny_pure ⟨_, rfl, (fun x => nomatch x), fin false h⟩
end
end Mine
end
section
namespace Mine
open PySem PySem.Calls PyProof.Rows
theorem Pl.lt {n j : Nat} {k : Int} (h : Pl n k j) : j < n := by cases h <;> lia
theorem Pl.seq {n j : Nat} {k : Int} (h : Pl n k j) : seqIndex? k n = some j := by
  cases h with
  | pos h0 h1 => exact seqIndex_of h0 h1
  | neg h0 h1 => exact seqIndex_neg h0 h1
theorem Pl.fit {n j : Nat} {k : Int} (h : Pl n k j) (hn : n ≤ lid) : -(2 ^ 63) ≤ k ∧ k < 2 ^ 63 := by unfold lid at hn; cases h <;> lia
theorem clip_le (n : Nat) (i : Int) : clipAt n i ≤ n := Int.toNat_le.mpr (Int.max_le.mpr ⟨Int.natCast_nonneg n, Int.min_le_right _ _⟩)
theorem cut_eq {α : Type} (xs : List α) (a b : Nat) : (xs.drop a).take (b - a) = cut xs a b := by unfold cut; rw [List.drop_take]
theorem strIdx (lo hi : Option Int) (n : Nat) : Builtin.Str.strSliceIndices lo hi 1 n = sliceRange ((lo.elim 0 (clipAt n) : Nat) : Int) ((hi.elim n (clipAt n) : Nat) : Int) 1 := by
  cases lo <;> cases hi <;> simp [Builtin.Str.strSliceIndices, clipAt_cast]
theorem cut_len {α : Type} (xs : List α) (a b : Nat) : (cut xs a b).length ≤ xs.length := by
  unfold cut; rw [List.length_drop]; exact Nat.le_trans (Nat.sub_le _ _) (List.length_take_le' _ _)
theorem cut_whole (x : Txt) (a b : Nat) (hb : b ≤ x.length) (h : b - a = x.length) : cut x a b = x := by
  have e : b = x.length := Nat.le_antisymm hb (h ▸ Nat.sub_le _ _)
  subst e
  unfold cut
  rw [List.take_length]
  cases a with
  | zero => rfl
  | succ a =>
    have z : x.length = 0 := by lia
    rw [List.eq_nil_of_length_eq_zero z, List.drop_nil]
section
variable {C : Cx} {ρ : List Addr} {H : AHeap} {s : Shared} {A : Around} {E : Value → Shared → Prop} {Q : VPost}
theorem Bd.val {n d i : Nat} {v : V} {u : Value} (h : Bd n d v i) (hv : VR C ρ v u) : ∃ q : Option (Int × Tok), u = partValue q ∧ i = (q.map (·.1)).elim d (clipAt n) ∧ IsPart u (q.map (·.1)) := by
  cases h with
  | none => cases hv; exact ⟨Option.none, rfl, rfl, .none⟩
  | int => obtain ⟨t, rfl⟩ := hv; exact ⟨some (_, t), rfl, rfl, .int _ t⟩
theorem Bd.le {n i : Nat} {v : V} (h : Bd n n v i) : i ≤ n := by
  cases h with
  | none => exact Nat.le_refl _
  | int => exact clip_le _ _
theorem subA_ok {o i : V} {u w : Value} {value slice : Expr} (h : subA o i H fun v => Q v H) (S : Sim C ρ H s) (hu : VR C ρ o u) (hw : VR C ρ i w)
    (hs : subscripted slice false u w = operate [u, w] (getItem u w)) : wpAny C.M A (subscriptTail value slice u w) (PV C ρ s Q) E s := by
  cases h with
  | str e h =>
    rename_i t k j
    obtain ⟨ok, tk, rfl⟩ := hu; obtain ⟨tk', rfl⟩ := hw
    have b1 := e.lt
    obtain ⟨f1, f2⟩ := e.fit (okT_iff.mp ok).1
    refine tail_any (typeIs_str _ _ _) F.slot_str_getitem.lookup ?_ hs
    have e2 : (t.drop j).take 1 = [t[j]] := by rw [List.drop_eq_getElem_cons b1]; rfl
    refine P.getItem_str (c := t[j]) ?_ ?_ ?_
    · rw [decide_eq_false (Int.not_lt.mpr f1), decide_eq_false (Int.not_le.mpr f2)]; rfl
    · rw [str_len, e.seq]
      show t.toArray[j]? = _
      rw [List.getElem?_toArray, List.getElem?_eq_getElem b1]
    · rw [e2] at h
      exact here S (vt (by rw [← e2]; exact okT_take (okT_drop ok j) 1) _) h
  | list e e2 e3 h =>
    obtain ⟨a, rfl, ea, us, m, ho, hs', hl⟩ := S.lookup e hu
    obtain ⟨tk', rfl⟩ := hw
    obtain ⟨y, e4, hv⟩ := hs'.get _ _ e3
    rw [Array.getElem?_toList] at e4
    obtain ⟨f1, f2⟩ := e2.fit hl
    refine tail_any ⟨_, ho, rfl⟩ slot_list_getitem.lookup ?_ hs
    cases e2 with
    | pos h0 h1 => exact wpAny_getItem_list ⟨_, ho, rfl, m, rfl⟩ h0 f2 e4 (here0 S hv h)
    | neg h0 h1 =>
      rw [show _ = us.size from hs'.length] at e4 h1
      exact wpAny_getItem_list_neg ⟨_, ho, rfl, m, rfl⟩ h0 h1 f1 e4 (here0 S hv h)
  | tuple e e2 e3 h =>
    obtain ⟨a, rfl, ea, us, m, ho, hs', hl⟩ := S.lookup e hu
    obtain ⟨tk', rfl⟩ := hw
    obtain ⟨y, e4, hv⟩ := hs'.get _ _ e3
    rw [Array.getElem?_toList] at e4
    obtain ⟨f1, f2⟩ := e2.fit hl
    have e5 := e2.seq
    rw [show _ = us.size from hs'.length] at e5
    exact tail_any ⟨_, ho, rfl⟩ slot_tuple_getitem.lookup (P.getItem_tuple ho f1 f2 e5 e4 (here0 S hv h)) hs
  | dict e e2 h =>
    rename_i n k es ep p
    obtain ⟨a, rfl, ea, ds, ho, hs', _⟩ := S.lookup e hu
    obtain ⟨_, t, rfl⟩ := hw
    have hm := dict_map (C := C) (ρ := ρ) ho hs'
    rcases dict_find (k := k) hs' with ⟨z1, z2⟩ | ⟨e', d', z1, z2, z3⟩
    · rw [z1] at e2; cases e2
    · rw [z1] at e2; cases e2
      refine tail_any hm.typeIs slot_dict_getitem.lookup (wpAny_getItem_of (strKind_is _ _ _ t) hm (v := d'.val) ?_ (here S z3 h)) hs
      unfold findBy
      rw [← Array.find?_toList, z2]; rfl
theorem sliceA_ok {o lo hi : V} {u l w : Value} {value : Expr} {e1 e2 : Option Expr} {p : Pos} (h : sliceA o lo hi H Q) (S : Sim C ρ H s) (hu : VR C ρ o u) (hl : VR C ρ lo l) (hw : VR C ρ hi w) :
    wpAny C.M A (subscriptTail value (.Slice e1 e2 none p) u (.ref s.heap.objs.size)) (PV C ρ s Q) E { s with heap := s.heap.push { cls := .type "slice", data := .fields #[l, w, .none] } } := by
  have hs : ∀ x y, subscripted (.Slice e1 e2 none p) false x y = operate [y, x] (getItem x y) := fun _ _ => rfl
  obtain ⟨S1, st1⟩ := S.grow (h' := s.heap.push { cls := .type "slice", data := .fields #[l, w, .none] }) (tk := s.toks) get_push
  cases h with
  | str q1 q2 h =>
    rename_i t i j
    have hj := q2.le
    obtain ⟨ql, rfl, ei, a4⟩ := q1.val hl
    obtain ⟨qh, rfl, ej, b4⟩ := q2.val hw
    obtain ⟨ok, tk, rfl⟩ := hu
    refine tail_any (typeIs_str _ _ _) F.slot_str_getitem.lookup ?_ (hs _ _)
    refine wpAny_getItem_str_slice (l := ql) (u := qh) (st := none) ⟨_, Heap.get?_push_size _ rfl, rfl, rfl⟩ rfl ?_
    have hp : slicePicked ⟨t.toArray⟩ ql qh none = sliceRange ((i : Nat) : Int) ((j : Nat) : Int) 1 := by
      unfold slicePicked
      rw [str_len, ei, ej]
      exact strIdx _ _ _
    unfold sliceMade
    rw [hp, sliceRange_one, pick_run, cut_eq]
    split
    · rename_i q
      rw [List.length_map, List.length_range, str_len] at q
      have := cut_whole t i j hj (beq_iff_eq.mp (Bool.and_eq_true_iff.mp q).2)
      rw [this] at h
      exact ⟨ρ, H, _, st1, S1, vt ok tk, h⟩
    · refine ⟨?_, PV.trans st1 (here S1 (vt (okT_cut ok _ _) _) h)⟩
      rw [str_len]
      exact lid_le (Nat.le_trans (cut_len _ _ _) (okT_iff.mp ok).1)
  | list e q1 q2 h =>
    rename_i n xs i j
    obtain ⟨ql, rfl, ei, a4⟩ := q1.val hl
    obtain ⟨qh, rfl, ej, b4⟩ := q2.val hw
    obtain ⟨a, rfl, ea, us, m, ho, hs', hlx⟩ := S.lookup e hu
    have hlen : xs.length = us.size := hs'.length
    refine tail_any (T := "list") ⟨_, Heap.get?_push_of_some _ ho, rfl⟩ slot_list_getitem.lookup ?_ (hs _ _)
    refine wpAny_getItem_list_slice (lo := ql.map (·.1)) (hi := qh.map (·.1)) (st := none) ⟨_, Heap.get?_push_of_some _ ho, rfl, m, rfl⟩ (Heap.IsSliceOf.new ..) a4 b4 .none (fun z => nomatch z) ?_ (by rw [← hlen]; exact lid_le hlx)
    rw [slicePick_plain, cut_eq, ← hlen, ← ei, ← ej]
    exact PV.trans st1 (pushed_list (tk := s.toks) S1 ((hs'.take _).drop _) (Nat.le_trans (cut_len _ _ _) hlx) h)
theorem truthy_ok {v : V} {u : Value} {b : Bool} {R : Bool → Shared → Prop} (h : truthyA v = some b) (hv : VR C ρ v u) (hq : ∀ t, R b { s with toks := t }) : wpAny C.M A (truthy u) R E s := by
  cases v with
  | none => cases h; cases hv; exact fun _ _ _ => hq s.toks
  | bool _ => cases h; cases hv; exact wpAny_truthy_bool (hq s.toks)
  | int _ => cases h; obtain ⟨t, rfl⟩ := hv; exact P.truthy_int (hq s.toks)
  | str x =>
    cases h
    obtain ⟨ok, t, rfl⟩ := hv
    refine P.truthy_str (by rw [str_len]; have := (okT_iff.mp ok).1; unfold lid at this; lia) ?_
    rw [str_len, show ((x.length : Int) != 0) = !x.isEmpty by cases x <;> rfl]; exact hq _
  | ref _ => exact no_some h
  | glob _ => exact no_some h
  | exc _ => exact no_some h
end
end Mine
end
section
namespace Mine
open PySem PySem.Calls PyProof.Rows
noncomputable def IsCls (h : Heap) (a : Addr) : Prop := ∃ nm q N bs bm hdct sn sub ab col dd k0 k1 k2 k3 k5 newId, h.get? a = some (excClassObj nm q a N bs bm hdct sn sub ab col dd k0 k1 k2 k3 k5 newId)
noncomputable def Callee (C : Cx) (u : Value) : Prop := (∃ id, u = .builtin id) ∨ (∃ t, u = .type t) ∨ (∃ a o fd, u = .ref a ∧ C.base.get? a = some o ∧ o.data = .func fd) ∨ ∃ a, u = .ref a ∧ IsCls C.base a
noncomputable def Call1 (C : Cx) (K : Nat) (sp : Spec) (u : Value) : Prop := ∀ vs H Q X, sp vs H Q X → ∀ ρ s us A E, Sim C ρ H s → All2 (VR C ρ) vs us → AOk C K A → Takes C ρ s X E → wpAny C.M A (call u us) (PV C ρ s Q) E s
noncomputable def CallOk (C : Cx) (K : Nat) (sp : Spec) (u : Value) : Prop := ∀ fs, Call1 (C.at fs) K sp u
theorem CallOk.here {C : Cx} {K : Nat} {sp : Spec} {u : Value} (h : CallOk C K sp u) : Call1 C K sp u := h C.frs
noncomputable def ExcCls (C : Cx) (c : Str) : Prop := ∃ kk B newId initId bm, C.G c = some (.ref kk) ∧ ExcBaseFacts B newId initId bm ∧ OwnCls c kk bm newId C.mg C.base
noncomputable def Caught (C : Cx) (k c : Str) : Prop := ∃ D, C.G c = some (.ref D) ∧ ∀ (kk : Addr) (s : Shared) (a : Addr) (o : Obj) (A : Around) (Q : Bool → Shared → Prop) (E : Value → Shared → Prop),
  C.G k = some (.ref kk) → (∀ b ob, C.base.get? b = some ob → s.heap.get? b = some ob) → s.heap.get? a = some o → o.cls = .ref kk → Q true s → wpAny C.M A (excMatches (.ref a) (.ref D)) Q E s
noncomputable def XIs (C : Cx) (ρ : List Addr) (k : Str) (a : Addr) (h : Heap) : Prop := ∃ kk o vs, C.G k = some (.ref kk) ∧ a ∉ ρ ∧ C.base.get? a = none ∧ h.get? a = some o ∧ o.cls = .ref kk ∧ o.data = .fields vs ∧ vs[2]? = some .none
structure TabOk (C : Cx) (T : Tab) (K : Nat) : Prop where
  gv : ∀ g v, T.gv g = some v → ∃ u, C.G g = some u ∧ ∀ ρ, VR C ρ v u
  fn : ∀ g, (∃ vs H Q X, T.fn g vs H Q X) → ∃ u, C.G g = some u ∧ Callee C u ∧ CallOk C K (T.fn g) u
  mt : ∀ kd m, T.has kd m = true → ∃ f, Callee C f ∧ CallOk C K (T.mt kd m) f ∧
    ∀ fs v H ρ s u pl A (Q : Value × List Value → Shared → Prop) E, kindA v H = some kd → Sim (C.at fs) ρ H s → VR C ρ v u → (∀ t, Q (f, [u]) { s with toks := t }) → wpAny C.M A (getMethod u m pl) Q E s
  range : C.G (Str.ofString "range") = some (.type "range")
  revd : C.G (Str.ofString "reversed") = some (.type "reversed")
  sorted : C.G (Str.ofString "sorted") = some (.builtin "sorted")
  len : C.G (Str.ofString "len") = some (.builtin "len")
  srt : ∀ fs vs H Q X, T.srt vs H Q X → ∀ ρ s us A E, Sim (C.at fs) ρ H s → All2 (VR C ρ) vs us → AOk (C.at fs) K A → Takes (C.at fs) ρ s X E → wpAny C.M A (call (.builtin "sorted") us [(Str.ofString "key", .builtin "len")]) (PV (C.at fs) ρ s Q) E s
  cls : ∀ c, T.cls c = true → C.calm ∧ ExcCls C c
  cat : ∀ k c, T.cat k c = true → Caught C k c
  hev : ∀ k a pe σ H Q, T.hev k a pe σ H Q → ∀ fs env e ρ s A, trE 60 env.kindOf e = some pe → FR (C.at fs) env σ ρ s.heap → Sim (C.at fs) ρ H s → A.handled = some (.ref a) → A.depth + K < recursionLimit → A.units + 5 * K + 200 < cLine →
    A.frames = some fs → XIs C ρ k a s.heap → wpAny C.M A (eval e env) (PV (C.at fs) ρ s Q) (fun _ _ => False) s
theorem TabOk.at {C : Cx} {T : Tab} {K : Nat} (h : TabOk C T K) (fs : List Env) : TabOk (C.at fs) T K where
  gv := h.gv
  fn := h.fn
  mt := h.mt
  range := h.range
  revd := h.revd
  sorted := h.sorted
  len := h.len
  srt := h.srt
  cls := h.cls
  cat := h.cat
  hev := h.hev
section
variable (C : Cx) (T : Tab) (K : Nat)
noncomputable def EvOk (env : Env) (e : Expr) (pe : PE) : Prop := ∀ {σ : Sg} {ρ : List Addr} {H : AHeap} {s : Shared} {A : Around} {Q : VPost} {X : XPost} {E : Value → Shared → Prop},
  FR C env σ ρ s.heap → Sim C ρ H s → AOk C K A → (sem T pe).ev σ H Q X → Takes C ρ s X E → wpAny C.M A (eval e env) (PV C ρ s Q) E s
noncomputable def TtOk (env : Env) (e : Expr) (pe : PE) : Prop := ∀ {σ : Sg} {ρ : List Addr} {H : AHeap} {s : Shared} {A : Around} {q : Bool → AHeap → Prop} {X : XPost} {E : Value → Shared → Prop},
  FR C env σ ρ s.heap → Sim C ρ H s → AOk C K A → (sem T pe).tt σ H q X → Takes C ρ s X E → wpAny C.M A (isTrue e env (eval e env)) (PB C ρ s q) E s
noncomputable def ElOk (env : Env) (pos : Pos) (es : List Expr) (pe : PE) : Prop := ∀ {σ : Sg} {ρ : List Addr} {H : AHeap} {s : Shared} {A : Around} {q : List V → AHeap → Prop} {X : XPost} {E : Value → Shared → Prop},
  FR C env σ ρ s.heap → Sim C ρ H s → AOk C K A → (sem T pe).el σ H q X → Takes C ρ s X E → wpAny C.M A (spliced (backTo pos (starEach es env))) (PL C ρ s q) E s
end
section
variable {C : Cx} {T : Tab} {K : Nat} {env : Env}
theorem EvOk.bind {e : Expr} {pe : PE} (he : EvOk C T K env e pe) {σ : Sg} {ρ : List Addr} {H : AHeap} {s : Shared} {A : Around} {Q : VPost} {X : XPost} {E : Value → Shared → Prop} {R : Value → Shared → Prop}
    (F : FR C env σ ρ s.heap) (S : Sim C ρ H s) (hA : AOk C K A) (h : (sem T pe).ev σ H Q X) (hE : Takes C ρ s X E)
    (k : ∀ ρ' H' v u s', Step ρ s ρ' s' → FR C env σ ρ' s'.heap → Sim C ρ' H' s' → VR C ρ' v u → Q v H' → Takes C ρ' s' X E → R u s') : wpAny C.M A (eval e env) R E s :=
  wpAny_mono (he F S hA h hE) (fun u s' ⟨ρ', H', v, st, S', hv, hq⟩ => k ρ' H' v u s' st (F.step st) S' hv hq (hE.on st)) fun _ _ x => x
theorem TtOk.bind {e : Expr} {pe : PE} (he : TtOk C T K env e pe) {σ : Sg} {ρ : List Addr} {H : AHeap} {s : Shared} {A : Around} {q : Bool → AHeap → Prop} {X : XPost} {E : Value → Shared → Prop} {R : Bool → Shared → Prop}
    (F : FR C env σ ρ s.heap) (S : Sim C ρ H s) (hA : AOk C K A) (h : (sem T pe).tt σ H q X) (hE : Takes C ρ s X E)
    (k : ∀ ρ' H' b s', Step ρ s ρ' s' → FR C env σ ρ' s'.heap → Sim C ρ' H' s' → q b H' → Takes C ρ' s' X E → R b s') : wpAny C.M A (isTrue e env (eval e env)) R E s :=
  wpAny_mono (he F S hA h hE) (fun u s' ⟨ρ', H', st, S', hq⟩ => k ρ' H' u s' st (F.step st) S' hq (hE.on st)) fun _ _ x => x
theorem ElOk.bind {pos : Pos} {e : List Expr} {pe : PE} (he : ElOk C T K env pos e pe) {σ : Sg} {ρ : List Addr} {H : AHeap} {s : Shared} {A : Around} {q : List V → AHeap → Prop} {X : XPost} {E : Value → Shared → Prop} {R : List Value → Shared → Prop}
    (F : FR C env σ ρ s.heap) (S : Sim C ρ H s) (hA : AOk C K A) (h : (sem T pe).el σ H q X) (hE : Takes C ρ s X E)
    (k : ∀ ρ' H' vs us s', Step ρ s ρ' s' → FR C env σ ρ' s'.heap → Sim C ρ' H' s' → All2 (VR C ρ') vs us → q vs H' → Takes C ρ' s' X E → R us s') : wpAny C.M A (spliced (backTo pos (starEach e env))) R E s :=
  wpAny_mono (he F S hA h hE) (fun u s' ⟨ρ', H', vs, st, S', hv, hq⟩ => k ρ' H' vs u s' st (F.step st) S' hv hq (hE.on st)) fun _ _ x => x
theorem tt_of_ev {e : Expr} {pe : PE} (hi : ∀ whole, isTrue e env whole = (do let v ← whole; standAt e.pos; holding [v] (truthy v)))
    (ht : (sem T pe).tt = (Me.ofEv (sem T pe).ev).tt) (he : EvOk C T K env e pe) : TtOk C T K env e pe := by
  intro σ ρ H s A q X E F S hA h hE
  rw [ht] at h
  refine wpAny_isTrue_value ?_ (hi _)
  refine he.bind F S hA h hE fun ρ' H' v u s' st F' S' hv hq hE' => ?_
  split at hq
  · rename_i b e1
    exact truthy_ok e1 hv fun t => ⟨ρ', H', st.trans (StepG.toks t), S'.toks t, hq⟩
  · exact hq.elim
theorem ok_name {x : Str} {pos : Pos} (hk : env.kindOf x = some .local ∨ env.kindOf x = some .cell) (hd : (x == Str.ofString "__debug__") = false) : EvOk C T K env (.Name x pos) (.name x) := by
  intro σ ρ H s A Q X E F S hA h hE
  refine wpAny_Name ?_ hd
  change (match σ x with | some v => Q v H | none => False) at h
  split at h
  · rename_i v e
    exact load_ok F e hk fun u hu => here0 S hu h
  · exact h.elim
theorem ok_glob (hT : TabOk C T K) {x : Str} {pos : Pos} (hk : env.kindOf x = some .globalImplicit) (hd : (x == Str.ofString "__debug__") = false) : EvOk C T K env (.Name x pos) (.glob x) := by
  intro σ ρ H s A Q X E F S hA h hE
  change (match T.gv x with | some v => Q v H | none => False) at h
  split at h
  · rename_i v e
    obtain ⟨u, hu, hv⟩ := hT.gv x v e
    exact global_ok F S hk hu hd (here0 S (hv ρ) h)
  · exact h.elim
theorem ok_bin {l r : Expr} {op : Operator} {pos : Pos} {pl pr : PE} (hl : EvOk C T K env l pl) (hr : EvOk C T K env r pr) : EvOk C T K env (.BinOp l op r pos) (.bin op pl pr) := by
  intro σ ρ H s A Q X E F S hA h hE
  refine wpAny_BinOp (hl.bind F S hA h hE fun ρ1 H1 v1 u1 s1 st1 F1 S1 hv1 hq1 hE1 => hr.bind F1 S1 hA hq1 hE1 fun ρ2 H2 v2 u2 s2 st2 F2 S2 hv2 hq2 hE2 => ?_)
  exact wpAny_mono (binA_ok hq2 S2 (st2.vr hv1) hv2) (fun _ _ p => PV.trans (st1.trans st2) p) fun _ _ x => x
theorem cmp_marks {op : CmpOp} {e : Expr} (h : isSet e = false) : behindInMarks op e = false := by
  cases e <;> first | rfl | exact Bool.noConfusion h
theorem ok_cmp1 {l r : Expr} {op : CmpOp} {pos : Pos} {pl pr : PE} (hs : isSet r = false) (hl : EvOk C T K env l pl) (hr : EvOk C T K env r pr) :
    EvOk C T K env (.Compare l [op] [r] pos) (.cmp1 op pl pr) ∧ TtOk C T K env (.Compare l [op] [r] pos) (.cmp1 op pl pr) := by
  constructor
  · intro σ ρ H s A Q X E F S hA h hE
    refine wpAny_Compare1 (hl.bind F S hA h hE fun ρ1 H1 v1 u1 s1 st1 F1 S1 hv1 hq1 hE1 => hr.bind F1 S1 hA hq1 hE1 fun ρ2 H2 v2 u2 s2 st2 F2 S2 hv2 hq2 hE2 => ?_) (cmp_marks hs)
    refine wpAny_mono (cmpA_ok hq2 S2 hA (st2.vr hv1) hv2) (fun r s' p => ?_) fun _ _ x => x
    obtain ⟨c, rfl, st3, S3, hc⟩ := p
    exact ⟨ρ2, H2, _, (st1.trans st2).trans st3, S3, vb c, hc⟩
  · intro σ ρ H s A Q X E F S hA h hE
    refine wpAny_isTrue_Compare1 (hl.bind F S hA h hE fun ρ1 H1 v1 u1 s1 st1 F1 S1 hv1 hq1 hE1 => hr.bind F1 S1 hA hq1 hE1 fun ρ2 H2 v2 u2 s2 st2 F2 S2 hv2 hq2 hE2 => ?_) (cmp_marks hs)
    refine wpAny_mono (cmpA_ok hq2 S2 hA (st2.vr hv1) hv2) (fun r s' p => ?_) fun _ _ x => x
    obtain ⟨c, rfl, st3, S3, hc⟩ := p
    exact wpAny_truthy_bool ⟨ρ2, H2, (st1.trans st2).trans st3, S3, hc⟩
theorem ok_cmp2 {a b c : Expr} {o1 o2 : CmpOp} {pos : Pos} {pa pb pc : PE} (hs : isSet b = false) (hs' : isSet c = false) (ha : EvOk C T K env a pa) (hb : EvOk C T K env b pb) (hc : EvOk C T K env c pc) :
    EvOk C T K env (.Compare a [o1, o2] [b, c] pos) (.cmp2 o1 o2 pa pb pc) ∧ TtOk C T K env (.Compare a [o1, o2] [b, c] pos) (.cmp2 o1 o2 pa pb pc) := by
  have hm : lastMarks [o1, o2] [b, c] = false := cmp_marks (op := o2) hs'
  constructor
  · intro σ ρ H s A Q X E F S hA h hE
    refine Compare_chain (ha.bind F S hA h hE fun ρ1 H1 v1 u1 s1 st1 F1 S1 hv1 hq1 hE1 => chain_link (hb.bind F1 S1 hA hq1 hE1 fun ρ2 H2 v2 u2 s2 st2 F2 S2 hv2 hq2 hE2 => ?_)) hm
    refine wpAny_mono (cmpA_ok hq2 S2 hA (st2.vr hv1) hv2) (fun r s' p => ?_) fun _ _ x => x
    obtain ⟨c1, rfl, st3, S3, hc1⟩ := p
    refine wpAny_truthy_bool ?_
    cases c1 with
    | false => exact ⟨ρ2, H2, _, (st1.trans st2).trans st3, S3, vb _, hc1⟩
    | true =>
      rw [if_pos rfl] at hc1
      refine chain_last (hc.bind (F2.step st3) S3 hA hc1 (hE2.on st3) fun ρ4 H4 v4 u4 s4 st4 F4 S4 hv4 hq4 hE4 => ?_)
      refine wpAny_mono (cmpA_ok hq4 S4 hA (st4.vr (st3.vr hv2)) hv4) (fun r s' p => ?_) fun _ _ x => x
      obtain ⟨c2, rfl, st5, S5, hc2⟩ := p
      exact ⟨ρ4, H4, _, (((st1.trans st2).trans st3).trans st4).trans st5, S5, vb _, hc2⟩
  · intro σ ρ H s A Q X E F S hA h hE
    refine isTrue_chain (ha.bind F S hA h hE fun ρ1 H1 v1 u1 s1 st1 F1 S1 hv1 hq1 hE1 => test_link (hb.bind F1 S1 hA hq1 hE1 fun ρ2 H2 v2 u2 s2 st2 F2 S2 hv2 hq2 hE2 => ?_)) hm
    refine wpAny_mono (cmpA_ok hq2 S2 hA (st2.vr hv1) hv2) (fun r s' p => ?_) fun _ _ x => x
    obtain ⟨c1, rfl, st3, S3, hc1⟩ := p
    refine wpAny_truthy_bool ?_
    cases c1 with
    | false => exact ⟨ρ2, H2, (st1.trans st2).trans st3, S3, hc1⟩
    | true =>
      rw [if_pos rfl] at hc1
      refine test_last (hc.bind (F2.step st3) S3 hA hc1 (hE2.on st3) fun ρ4 H4 v4 u4 s4 st4 F4 S4 hv4 hq4 hE4 => ?_)
      refine wpAny_mono (cmpA_ok hq4 S4 hA (st4.vr (st3.vr hv2)) hv4) (fun r s' p => ?_) fun _ _ x => x
      obtain ⟨c2, rfl, st5, S5, hc2⟩ := p
      exact wpAny_truthy_bool ⟨ρ4, H4, (((st1.trans st2).trans st3).trans st4).trans st5, S5, hc2⟩
theorem ok_not {e : Expr} {pos : Pos} {pe : PE} (he : EvOk C T K env e pe) (ht : TtOk C T K env e pe) : EvOk C T K env (.UnaryOp .Not e pos) (.not pe) ∧ TtOk C T K env (.UnaryOp .Not e pos) (.not pe) := by
  constructor
  · intro σ ρ H s A Q X E F S hA h hE
    refine wpAny_UnaryOp (he.bind F S hA h hE fun ρ1 H1 v1 u1 s1 st1 F1 S1 hv1 hq1 hE1 => not_value ?_)
    split at hq1
    · rename_i b e1
      exact truthy_ok e1 hv1 fun t => ⟨ρ1, H1, _, st1.trans (StepG.toks t), S1.toks t, vb _, hq1⟩
    · exact hq1.elim
  · intro σ ρ H s A Q X E F S hA h hE
    exact wpAny_isTrue_Not (ht.bind F S hA h hE fun ρ1 H1 b s1 st1 F1 S1 hq1 hE1 => ⟨ρ1, H1, st1, S1, hq1⟩)
theorem ok_neg {e : Expr} {pos : Pos} {pe : PE} (he : EvOk C T K env e pe) : EvOk C T K env (.UnaryOp .USub e pos) (.neg pe) := by
  intro σ ρ H s A Q X E F S hA h hE
  refine wpAny_UnaryOp (he.bind F S hA h hE fun ρ1 H1 v1 u1 s1 st1 F1 S1 hv1 hq1 hE1 => ?_)
  split at hq1
  · obtain ⟨t, rfl⟩ := hv1
    exact P.neg_int (PV.trans st1 (here S1 (vi _ _) hq1))
  · exact hq1.elim
theorem ok_ite {c a b : Expr} {pos : Pos} {pc pa pb : PE} (hc : TtOk C T K env c pc) (ha : EvOk C T K env a pa) (ha' : TtOk C T K env a pa) (hb : EvOk C T K env b pb) (hb' : TtOk C T K env b pb) :
    EvOk C T K env (.IfExp c a b pos) (.ite pc pa pb) ∧ TtOk C T K env (.IfExp c a b pos) (.ite pc pa pb) := by
  constructor
  · intro σ ρ H s A Q X E F S hA h hE
    rw [arm_eval_IfExp]
    refine wpAny_bind (hc.bind F S hA h hE fun ρ1 H1 t s1 st1 F1 S1 hq1 hE1 => ?_)
    cases t with
    | true => exact ha.bind F1 S1 hA hq1 hE1 fun ρ2 H2 v2 u2 s2 st2 F2 S2 hv2 hq2 hE2 => ⟨ρ2, H2, v2, st1.trans st2, S2, hv2, hq2⟩
    | false => exact hb.bind F1 S1 hA hq1 hE1 fun ρ2 H2 v2 u2 s2 st2 F2 S2 hv2 hq2 hE2 => ⟨ρ2, H2, v2, st1.trans st2, S2, hv2, hq2⟩
  · intro σ ρ H s A Q X E F S hA h hE
    rw [arm_isTrue_IfExp]
    refine wpAny_bind (hc.bind F S hA h hE fun ρ1 H1 t s1 st1 F1 S1 hq1 hE1 => ?_)
    cases t with
    | true => exact ha'.bind F1 S1 hA hq1 hE1 fun ρ2 H2 v2 s2 st2 F2 S2 hq2 hE2 => ⟨ρ2, H2, st1.trans st2, S2, hq2⟩
    | false => exact hb'.bind F1 S1 hA hq1 hE1 fun ρ2 H2 v2 s2 st2 F2 S2 hq2 hE2 => ⟨ρ2, H2, st1.trans st2, S2, hq2⟩
theorem boolOp_cons {M : Model} {A : Around} {E : Value → Shared → Prop} {s : Shared} {pos : Pos} {op : BoolOp} {x y : Sem Value} {r : List (Sem Value)} {R : Value → Shared → Prop}
    (h : wpAny M A x (fun v s1 => wpAny M A (truthy v) (fun t s2 => if t = (op == .And) then wpAny M A (boolOp pos op (y :: r)) R E s2 else R v s2) E s1) E s) : wpAny M A (boolOp pos op (x :: y :: r)) R E s := by
  show wpAny M A (do
    let v ← x
    standAt pos
    let t ← holding [v] (truthy v)
    match op, t with
    | .And, false | .Or, true => pure v
    | _, _ => boolOp pos op (y :: r)) R E s
  refine wpAny_bind (wpAny_mono h (fun v s₁ h₁ => wpAny_bind (wpAny_standAt (wpAny_bind (wpAny_holding (wpAny_mono h₁ (fun t s₂ h₂ => ?_) fun _ _ x => x))))) fun _ _ x => x)
  cases op <;> cases t <;> first | exact wpAny_pure h₂ | exact h₂
theorem ok_bool (op : BoolOp) (pos : Pos) : ∀ (vs : List Expr) (ps : List PE) (pe : PE), All2 (fun e p => EvOk C T K env e p ∧ TtOk C T K env e p) vs ps → trBool op ps = some pe →
    (∀ {σ : Sg} {ρ : List Addr} {H : AHeap} {s : Shared} {A : Around} {Q : VPost} {X : XPost} {E : Value → Shared → Prop}, FR C env σ ρ s.heap → Sim C ρ H s → AOk C K A → (sem T pe).ev σ H Q X → Takes C ρ s X E →
      wpAny C.M A (boolOp pos op (evalEach vs env)) (PV C ρ s Q) E s) ∧
    (∀ {σ : Sg} {ρ : List Addr} {H : AHeap} {s : Shared} {A : Around} {q : Bool → AHeap → Prop} {X : XPost} {E : Value → Shared → Prop}, FR C env σ ρ s.heap → Sim C ρ H s → AOk C K A → (sem T pe).tt σ H q X → Takes C ρ s X E →
      wpAny C.M A (allTrue op vs env) (PB C ρ s q) E s)
  | [], _, _, .nil, h => by cases h
  | [e], _, _, .cons (b := p) he .nil, h => by
    cases h
    refine ⟨fun F S hA h hE => he.1 F S hA h hE, fun {σ ρ H s A q X E} F S hA h hE => ?_⟩
    cases op with
    | And =>
      refine wpAny_allTrue_And_cons (wpAny_mono (he.2 F S hA h hE) (fun b s' p => ?_) fun _ _ x => x)
      cases b with
      | true => exact wpAny_allTrue_And_nil p
      | false => exact p
    | Or =>
      refine wpAny_allTrue_Or_cons (wpAny_mono (he.2 F S hA h hE) (fun b s' p => ?_) fun _ _ x => x)
      cases b with
      | true => exact p
      | false => exact wpAny_allTrue_Or_nil p
  | e :: e2 :: vs, _, pe, .cons (b := p) he (.cons (b := p2) (bs := ps) he2 hr), h => by
    have ht : ∃ x, trBool op (p2 :: ps) = some x ∧ pe = (if op = .And then PE.and p x else PE.or p x) := by
      unfold trBool at h
      cases hx : trBool op (p2 :: ps) with
      | none => rw [hx] at h; cases h
      | some x => rw [hx] at h; cases h; refine ⟨x, rfl, ?_⟩; cases op <;> rfl
    obtain ⟨x, hx, he0⟩ := ht
    obtain ⟨ih1, ih2⟩ := ok_bool op pos (e2 :: vs) (p2 :: ps) x (.cons he2 hr) hx
    clear h
    subst he0
    cases op with
    | And =>
      refine ⟨fun {σ ρ H s A Q X E} F S hA h hE => ?_, fun {σ ρ H s A q X E} F S hA h hE => ?_⟩
      · refine boolOp_cons (EvOk.bind he.1 F S hA h hE fun ρ1 H1 v1 u1 s1 st1 F1 S1 hv1 hq1 hE1 => ?_)
        split at hq1
        · rename_i b e1
          refine truthy_ok e1 hv1 fun t => ?_
          cases b with
          | true => exact wpAny_mono (ih1 (F1.step (StepG.toks t)) (S1.toks t) hA hq1 (hE1.on (StepG.toks t))) (fun _ _ p => PV.trans (st1.trans (StepG.toks t)) p) fun _ _ x => x
          | false => exact ⟨ρ1, H1, v1, st1.trans (StepG.toks t), S1.toks t, hv1, hq1⟩
        · exact hq1.elim
      · refine wpAny_allTrue_And_cons (TtOk.bind he.2 F S hA h hE fun ρ1 H1 b s1 st1 F1 S1 hq1 hE1 => ?_)
        cases b with
        | true => exact wpAny_mono (ih2 F1 S1 hA hq1 hE1) (fun _ _ p => PB.trans st1 p) fun _ _ x => x
        | false => exact ⟨ρ1, H1, st1, S1, hq1⟩
    | Or =>
      refine ⟨fun {σ ρ H s A Q X E} F S hA h hE => ?_, fun {σ ρ H s A q X E} F S hA h hE => ?_⟩
      · refine boolOp_cons (EvOk.bind he.1 F S hA h hE fun ρ1 H1 v1 u1 s1 st1 F1 S1 hv1 hq1 hE1 => ?_)
        split at hq1
        · rename_i b e1
          refine truthy_ok e1 hv1 fun t => ?_
          cases b with
          | false => exact wpAny_mono (ih1 (F1.step (StepG.toks t)) (S1.toks t) hA hq1 (hE1.on (StepG.toks t))) (fun _ _ p => PV.trans (st1.trans (StepG.toks t)) p) fun _ _ x => x
          | true => exact ⟨ρ1, H1, v1, st1.trans (StepG.toks t), S1.toks t, hv1, hq1⟩
        · exact hq1.elim
      · refine wpAny_allTrue_Or_cons (TtOk.bind he.2 F S hA h hE fun ρ1 H1 b s1 st1 F1 S1 hq1 hE1 => ?_)
        cases b with
        | false => exact wpAny_mono (ih2 F1 S1 hA hq1 hE1) (fun _ _ p => PB.trans st1 p) fun _ _ x => x
        | true => exact ⟨ρ1, H1, st1, S1, hq1⟩
theorem ok_nil {pos : Pos} : ElOk C T K env pos [] .nil := by
  intro σ ρ H s A q X E F S hA h hE
  exact wpAny_items_nil ⟨ρ, H, [], StepG.refl _ _, S, .nil, h⟩
theorem star_cons {e : Expr} (h : isStar e = false) (r : List Expr) : starEach (e :: r) env = (false, eval e env) :: starEach r env := by
  cases e <;> first | rfl | exact Bool.noConfusion h
theorem ok_cons {pos : Pos} {e : Expr} {r : List Expr} {pe pr : PE} (he : EvOk C T K env e pe) (hr : ElOk C T K env pos r pr) (hs : isStar e = false) : ElOk C T K env pos (e :: r) (.cons pe pr) := by
  intro σ ρ H s A q X E F S hA h hE
  refine wpAny_items_cons (he.bind F S hA h hE fun ρ1 H1 v1 u1 s1 st1 F1 S1 hv1 hq1 hE1 => hr.bind F1 S1 hA hq1 hE1 fun ρ2 H2 vs us s2 st2 F2 S2 hv2 hq2 hE2 => ?_) (star_cons hs r)
  exact ⟨ρ2, H2, v1 :: vs, st1.trans st2, S2, .cons (st2.vr hv1) hv2, hq2⟩
theorem evalArgs_any {M : Model} {A : Around} {E : Value → Shared → Prop} {s : Shared} {f : Value} {pos : Pos} : ∀ {es : List Expr} {R : Args → Shared → Prop}, (∀ e ∈ es, isStar e = false) →
    wpAny M A (spliced (backTo pos (starEach es env))) (fun vs s' => R ⟨vs, []⟩ s') E s → wpAny M A (evalArgs f true (backTo pos (starEach es env)) []) R E s
  | [], R, _, h => by
    unfold evalArgs
    show wpAny M A (spliced [] >>= _) R E s
    refine wpAny_bind (wpAny_mono h (fun vs s' h' => ?_) fun _ _ x => x)
    exact wpAny_bind (wpAny_pure (wpAny_holding (wpAny_bind (wpAny_pure (wpAny_bind (wpAny_pure (wpAny_pure h')))))))
  | e :: r, R, hs, h => by
    rw [star_cons (hs e (.head _)) r] at h ⊢
    exact evalArgs_plain h
theorem callWith_any {M : Model} {A : Around} {E : Value → Shared → Prop} {s : Shared} {pos : Pos} {u : Value} {first : List Value} {args : List (Bool × Sem Value)} {R : Value → Shared → Prop} (hp : args.any (·.1) = false)
    (h : wpAny M A (evalArgs u true args []) (fun a s₁ => ((∃ id, u = .builtin id) ∨ (∃ t, u = .type t) ∨ (∃ x o fd, u = .ref x ∧ s₁.heap.get? x = some o ∧ o.data = .func fd) ∨ ∃ x, u = .ref x ∧ IsCls s₁.heap x) ∧ wpAny M A (call u (first ++ a.pos) a.kw) R E s₁) E s) :
    wpAny M A (callWith pos u first args []) R E s := by
  unfold callWith
  refine wpAny_bind (wpAny_holding (wpAny_mono h (fun a s₁ h₁ => wpAny_bind (wpAny_standAt ?_)) fun _ _ x => x))
  have tail : ∀ {t : Sem Value}, wpAny M A t R E s₁ → wpAny M A (t >>= fun r => holding [r] point >>= fun _ => pure r) R E s₁ :=
    fun ht => wpAny_bind (wpAny_mono ht (fun r s₂ hr => wpAny_bind (wpAny_holding (wpAny_point (wpAny_pure hr)))) fun _ _ x => x)
  simp only [hp, List.any_nil, Bool.or_false]
  obtain ⟨hc, h₁⟩ := h₁
  rcases hc with ⟨id, rfl⟩ | ⟨t, rfl⟩ | ⟨x, o, fd, rfl, ho, hd⟩ | ⟨x, rfl, nm, q, N, bs, bm, hdct, sn, sub, ab, col, dd, k0, k1, k2, k3, k5, newId, ho⟩
  · exact wpAny_bind (wpAny_pure (tail h₁))
  · exact wpAny_bind (wpAny_pure (tail h₁))
  · refine wpAny_bind (m := keeperOf (.ref x)) ?_
    unfold keeperOf
    refine wpAny_bind (wpAny_load ho ?_)
    rw [hd]
    refine wpAny_pure ?_
    dsimp only
    refine wpAny_ite ?_
    split
    · exact tail h₁
    · exact tail (by unfold callMarked; exact Calls.wpAny_keep h₁)
  · obtain ⟨hp, g, d, tk, os⟩ := s₁
    exact wpAny_bind (wpAny_keeperOf_exc ho (tail h₁))
theorem starEach_one {f : Expr → Option PE} (hf : ∀ e pe, f e = some pe → isStar e = false) : ∀ {es : List Expr} {pe : PE}, trL f es = some pe → ∀ e ∈ es, isStar e = false
  | [], _, _, _, h => nomatch h
  | e :: r, pe, h, e', hm => by
    obtain ⟨a, ha, h⟩ := Option.bind_eq_some_iff.mp h
    obtain ⟨b, hb, _⟩ := Option.map_eq_some_iff.mp h
    cases hm with
    | head => exact hf e a ha
    | tail _ hm => exact starEach_one hf hb e' hm
theorem any_false {pos : Pos} : ∀ {es : List Expr}, (∀ e ∈ es, isStar e = false) → (backTo pos (starEach es env)).any (·.1) = false
  | [], _ => rfl
  | e :: r, h => by
    rw [star_cons (h e (.head _)) r]
    have ih := any_false (pos := pos) (es := r) fun e' he' => h e' (.tail _ he')
    unfold backTo at ih ⊢
    rw [List.map_cons, List.any_cons, ih]; rfl
theorem ok_call (hT : TabOk C T K) {f : Expr} {args : List Expr} {pos : Pos} {pf pa : PE} (hf : EvOk C T K env f pf) (ha : ElOk C T K env pos args pa) (hs : ∀ e ∈ args, isStar e = false)
    (hc : eval (.Call f args [] pos) env = (do callWith pos (← eval f env) [] (backTo pos (starEach args env)) [])) : EvOk C T K env (.Call f args [] pos) (.call pf pa) := by
  intro σ ρ H s A Q X E F S hA h hE
  rw [hc]
  refine wpAny_bind (hf.bind F S hA h hE fun ρ1 H1 v1 u1 s1 st1 F1 S1 hv1 hq1 hE1 => ?_)
  split at hq1
  · rename_i g
    have hv1 : C.G g = some u1 := hv1
    refine callWith_any (any_false hs) (evalArgs_any hs (ha.bind F1 S1 hA hq1 hE1 fun ρ2 H2 vs us s2 st2 F2 S2 hv2 hq2 hE2 => ?_))
    obtain ⟨u, hu, hcal, hok⟩ := hT.fn g ⟨_, _, _, _, hq2⟩
    replace hok := hok.here
    rw [hv1] at hu; cases hu
    refine ⟨?_, ?_⟩
    · rcases hcal with q | q | ⟨a, o, fd, q1, q2, q3⟩ | ⟨a, q1, nm, q, N, bs, bm, hdct, sn, sub, ab, col, dd, k0, k1, k2, k3, k5, newId, ho⟩
      · exact .inl q
      · exact .inr (.inl q)
      · exact .inr (.inr (.inl ⟨a, o, fd, q1, S2.stays _ _ q2, q3⟩))
      · exact .inr (.inr (.inr ⟨a, q1, nm, q, N, bs, bm, hdct, sn, sub, ab, col, dd, k0, k1, k2, k3, k5, newId, S2.stays _ _ ho⟩))
    · exact wpAny_mono (hok _ _ _ _ hq2 _ _ _ _ _ S2 hv2 hA hE2) (fun _ _ p => PV.trans (st1.trans st2) p) fun _ _ x => x
  · exact hq1.elim
theorem ok_sortLen (hT : TabOk C T K) {e : Expr} {g x y : Str} {p1 p2 p3 pos : Pos} {pe : PE} (he : EvOk C T K env e pe) (hs : isStar e = false) (hg : isG env.kindOf g "sorted" = true) (hx : x = Str.ofString "key") (hy : isG env.kindOf y "len" = true) :
    EvOk C T K env (.Call (.Name g p1) [e] [⟨some x, .Name y p2, p3⟩] pos) (.sortLen pe) := by
  intro σ ρ H s A Q X E F S hA h hE
  unfold isG at hg hy
  obtain ⟨hg1, hg2⟩ := Bool.and_eq_true_iff.mp hg
  obtain ⟨hy1, hy2⟩ := Bool.and_eq_true_iff.mp hy
  have hg1 := beq_iff_eq.mp hg1
  have hy1 := beq_iff_eq.mp hy1
  subst hg1 hy1 hx
  have hg2 := beq_iff_eq.mp hg2
  have hy2 := beq_iff_eq.mp hy2
  refine wpAny_Call_Name_kw ?_
  refine global_ok F S hg2 hT.sorted (by decide +kernel) ?_
  have e1 : starEach [e] env = (false, eval e env) :: starEach [] env := star_cons hs []
  unfold callWith
  refine wpAny_bind (wpAny_holding ?_)
  rw [e1]
  refine evalArgs_kw rfl ?_
  have e2 := wpAny_items_cons (M := C.M) (A := A) (E := E) (s := s) (pos := pos) (e := e) (rest := []) (Q := fun vs s₁ => wpAny C.M A (evalAll ((backToKw pos (keywordEach [⟨some (Str.ofString "key"), .Name (Str.ofString "len") p2, p3⟩] env)).map (·.2)))
    (fun ks s₂ => wpAny C.M A (call (.builtin "sorted") ([] ++ vs) (((backToKw pos (keywordEach [⟨some (Str.ofString "key"), .Name (Str.ofString "len") p2, p3⟩] env)).filterMap (·.1)).zip ks)) (PV C ρ s Q) E s₂) E s₁) ?_ e1
  · rw [e1] at e2
    refine wpAny_mono e2 (fun vs s₁ h₁ => wpAny_mono h₁ (fun ks s₂ h₂ => ?_) fun _ _ x => x) fun _ _ x => x
    refine wpAny_bind (wpAny_standAt ?_)
    refine wpAny_bind (wpAny_pure ?_)
    exact wpAny_bind (wpAny_mono h₂ (fun r s₃ hr => wpAny_bind (wpAny_holding (wpAny_point (wpAny_pure hr)))) fun _ _ x => x)
  · refine he.bind F S hA h hE fun ρ1 H1 v1 u1 s1 st1 F1 S1 hv1 hq1 hE1 => wpAny_items_nil ?_
    refine wpAny_evalAll_cons ?_
    refine wpAny_bind (global_ok F1 S1 hy2 hT.len (by decide +kernel) (wpAny_bind (wpAny_standAt (wpAny_pure (wpAny_evalAll_nil ?_)))))
    exact wpAny_mono (hT.srt C.frs _ _ _ _ hq1 _ _ _ _ _ S1 (.cons hv1 .nil) hA hE1) (fun _ _ p => PV.trans st1 p) fun _ _ x => x
theorem attrBase {o : Expr} {m : Str} {whole : Sem Value} (h : callArgs o = true) : attributeBase o m env whole = whole := by
  unfold callArgs at h
  split at h
  · rename_i f as ks e
    cases asCall_is e
    cases as with
    | nil => cases h
    | cons _ _ => cases f <;> rfl
  · rename_i e
    cases o <;> first | rfl | cases e
theorem ok_meth (hT : TabOk C T K) {o : Expr} {m : Str} {args : List Expr} {apos pos : Pos} {po pa : PE} (ho : EvOk C T K env o po) (ha : ElOk C T K env pos args pa) (hs : ∀ e ∈ args, isStar e = false)
    (hl : apos.endLine = pos.line) (hn : args.length < 20) (hb : callArgs o = true) : EvOk C T K env (.Call (.Attribute o m apos) args [] pos) (.meth po m pa) := by
  intro σ ρ H s A Q X E F S hA h hE
  rw [arm_eval_Call, attrBase hb]
  refine wpAny_bind (ho.bind F S hA h hE fun ρ1 H1 v1 u1 s1 st1 F1 S1 hv1 hq1 hE1 => wpAny_bind (wpAny_standAt ?_))
  split at hq1
  · rename_i kd e1
    obtain ⟨hm, hq1⟩ := hq1
    obtain ⟨f, hcal, hok, hget⟩ := hT.mt kd m hm
    replace hok := hok.here
    unfold methodCall
    have hform : methodCallForm (args.length + ([] : List Keyword).length) (backTo pos (starEach args env)) (backToKw pos (keywordEach [] env)) = true := by
      have := any_false (env := env) (pos := pos) hs
      have h2 : (backTo pos (starEach args env)).all (fun x => !x.1) = true := by
        rw [List.all_eq_true]
        intro x hx
        have := List.any_eq_false.mp this x hx
        simpa using this
      unfold methodCallForm
      rw [h2]
      show (true && true && decide (args.length + 0 + 0 < 30)) = true
      simp; lia
    rw [hform]
    refine wpAny_bind (wpAny_holding ?_)
    unfold calleeOf
    rw [if_pos rfl]
    refine hget C.frs v1 H1 ρ1 s1 u1 _ A _ E e1 S1 hv1 fun t => ?_
    have hpos : methodCallPos true o env apos pos = pure pos := by
      unfold methodCallPos
      rw [hl]
      simp
    rw [hpos]
    refine wpAny_bind (wpAny_pure ?_)
    have st1' := st1.trans (StepG.toks (ρ := ρ1) (s := s1) t)
    refine callWith_any (any_false hs) (evalArgs_any hs (ha.bind (F1.step (StepG.toks t)) (S1.toks t) hA hq1 (hE1.on (StepG.toks t)) fun ρ2 H2 vs us s2 st2 F2 S2 hv2 hq2 hE2 => ?_))
    refine ⟨?_, ?_⟩
    · rcases hcal with q | q | ⟨a, o, fd, q1, q2, q3⟩ | ⟨a, q1, nm, q, N, bs, bm, hdct, sn, sub, ab, col, dd, k0, k1, k2, k3, k5, newId, ho⟩
      · exact .inl q
      · exact .inr (.inl q)
      · exact .inr (.inr (.inl ⟨a, o, fd, q1, S2.stays _ _ q2, q3⟩))
      · exact .inr (.inr (.inr ⟨a, q1, nm, q, N, bs, bm, hdct, sn, sub, ab, col, dd, k0, k1, k2, k3, k5, newId, S2.stays _ _ ho⟩))
    · exact wpAny_mono (hok _ _ _ _ hq2 _ _ _ _ _ S2 (.cons (st2.vr hv1) hv2) hA hE2) (fun _ _ p => PV.trans (st1'.trans st2) p) fun _ _ x => x
  · exact hq1.elim
theorem ok_sub {o i : Expr} {pos : Pos} {po pi : PE} (ho : EvOk C T K env o po) (hi : EvOk C T K env i pi) (hs : ∀ u w, subscripted i false u w = operate [u, w] (getItem u w)) : EvOk C T K env (.Subscript o i pos) (.sub po pi) := by
  intro σ ρ H s A Q X E F S hA h hE
  refine Subscript_ (ho.bind F S hA h hE fun ρ1 H1 v1 u1 s1 st1 F1 S1 hv1 hq1 hE1 => hi.bind F1 S1 hA hq1 hE1 fun ρ2 H2 v2 u2 s2 st2 F2 S2 hv2 hq2 hE2 => ?_)
  exact wpAny_mono (subA_ok hq2 S2 (st2.vr hv1) hv2 (hs _ _)) (fun _ _ p => PV.trans (st1.trans st2) p) fun _ _ x => x
noncomputable def PtOk (C : Cx) (T : Tab) (K : Nat) (env : Env) (e : Option Expr) (pe : PE) : Prop := ∀ {σ : Sg} {ρ : List Addr} {H : AHeap} {s : Shared} {A : Around} {Q : VPost} {X : XPost} {E : Value → Shared → Prop},
  FR C env σ ρ s.heap → Sim C ρ H s → AOk C K A → (sem T pe).ev σ H Q X → Takes C ρ s X E → wpAny C.M A (evalPart e env) (PV C ρ s Q) E s
theorem pt_none : PtOk C T K env none .none := fun F S hA h hE => wpAny_pure (here0 (v := .none) S rfl h)
theorem pt_some {e : Expr} {pe : PE} (he : EvOk C T K env e pe) : PtOk C T K env (some e) pe := fun F S hA h hE => he F S hA h hE
theorem ok_slice {o : Expr} {lo hi : Option Expr} {p pos : Pos} {po pl ph : PE} (ho : EvOk C T K env o po) (hl : PtOk C T K env lo pl) (hh : PtOk C T K env hi ph) :
    EvOk C T K env (.Subscript o (.Slice lo hi none p) pos) (.slice po pl ph) := by
  intro σ ρ H s A Q X E F S hA h hE
  refine Subscript_ (ho.bind F S hA h hE fun ρ1 H1 v1 u1 s1 st1 F1 S1 hv1 hq1 hE1 => wpAny_Slice ?_)
  refine wpAny_mono (hl F1 S1 hA hq1 hE1) (fun u2 s2 ⟨ρ2, H2, v2, st2, S2, hv2, hq2⟩ => ?_) fun _ _ x => x
  refine wpAny_mono (hh (F1.step st2) S2 hA hq2 (hE1.on st2)) (fun u3 s3 ⟨ρ3, H3, v3, st3, S3, hv3, hq3⟩ => ?_) fun _ _ x => x
  rw [evalPart_none]
  refine wpAny_pure ?_
  exact wpAny_mono (sliceA_ok hq3 S3 (st3.vr (st2.vr hv1)) (st3.vr hv2) hv3) (fun _ _ p => PV.trans ((st1.trans st2).trans st3) p) fun _ _ x => x
theorem ok_list {es : List Expr} {pos : Pos} {pe : PE} (he : ElOk C T K env pos es pe) : EvOk C T K env (.List es pos) (.list pe) := by
  intro σ ρ H s A Q X E F S hA h hE
  refine wpAny_List (he.bind F S hA h hE fun ρ1 H1 vs us s1 st1 F1 S1 hv1 hq1 hE1 => ?_)
  exact ⟨by rw [← hv1.length]; exact lid_le hq1.1, PV.trans st1 (pushed_list (tk := s1.toks) S1 hv1 hq1.1 hq1.2)⟩
theorem ok_tuple {es : List Expr} {k : Nat} {pos : Pos} {pe : PE} (he : ElOk C T K env pos es pe) : EvOk C T K env (.Tuple es k pos) (.tuple pe) := by
  intro σ ρ H s A Q X E F S hA h hE
  refine wpAny_Tuple (he.bind F S hA h hE fun ρ1 H1 vs us s1 st1 F1 S1 hv1 hq1 hE1 => ?_)
  exact ⟨by rw [← hv1.length]; exact lid_le hq1.1, PV.trans st1 (pushed_tuple (tk := s1.toks) S1 hv1 hq1.1 hq1.2)⟩
end
end Mine
end
section
namespace Mine
open PySem PySem.Calls PyProof.Rows
noncomputable def IR (C : Cx) (ρ : List Addr) (h0 h : Heap) : Item → Value → Prop
  | .one v, u => VR C ρ v u
noncomputable def tgtFits : Expr → Item → Prop
  | .Name _ _, .one _ => True
  | .Tuple _ _ _, _ => True
  | _, _ => False
theorem no_ns {o : Obj} {vs : Array Value} (h : o.data = .fields vs) : ¬ IsNs o := fun ⟨_, _, q⟩ => by rw [h] at q; cases q
structure Itr (C : Cx) (A : Around) (ρ0 : List Addr) (items : List Item) (Kp : AHeap → Prop) (I : Addr) (wr : List Addr) (St : Nat → Heap → Prop) : Prop where
  frame : ∀ i h h', St i h → (∀ b ∈ wr, ∀ o, h.get? b = some o → ¬ IsNs o → h'.get? b = some o) → St i h'
  alive : ∀ i h, St i h → ∀ b ∈ wr, ∃ o, h.get? b = some o
  next : ∀ i x target ρ H s E, items[i]? = some x → tgtFits target x → St i s.heap → Sim C ρ H s → (∃ l, ρ = ρ0 ++ l) → Kp H → (∀ b ∈ wr, b ∉ ρ) →
    wpAny C.M A (pyNext (.ref I)) (fun r s1 => ∃ u, r = some u ∧ wpAny C.M A (letOwnedTupleGo target (.ref I) u) (fun _ s2 => ∃ h tk, s2 = { s with heap := h, toks := tk } ∧ IR C ρ s.heap h x u ∧ St (i + 1) h ∧
      (∀ b o, b ∉ wr → s.heap.get? b = some o → h.get? b = some o)) E s1) E s
  done : ∀ ρ H s E, St items.length s.heap → Sim C ρ H s → (∃ l, ρ = ρ0 ++ l) → Kp H → (∀ b ∈ wr, b ∉ ρ) →
    wpAny C.M A (pyNext (.ref I)) (fun r s1 => r = none ∧ ∃ h tk, s1 = { s with heap := h, toks := tk } ∧ (∀ b o, b ∉ wr → s.heap.get? b = some o → h.get? b = some o)) E s
  self : ∀ i s (Q : Value → Shared → Prop) E, St i s.heap → Q (.ref I) s → wpAny C.M A (pyIter (.ref I)) Q E s
noncomputable def Ready' (C : Cx) (A : Around) (ρ : List Addr) (s : Shared) (q : List Item → (AHeap → Prop) → AHeap → Prop) : Value → Shared → Prop := fun it s2 =>
  ∃ ρ' H' items Kp I wr St, it = .ref I ∧ Itr C A ρ' items Kp I wr St ∧ St 0 s2.heap ∧ Step ρ s ρ' s2 ∧ Sim C ρ' H' s2 ∧ (∀ b ∈ wr, s.heap.get? b = none ∧ b ∉ ρ') ∧ q items Kp H'
noncomputable def ItOk (C : Cx) (T : Tab) (K : Nat) (env : Env) (e : Expr) (pe : PE) : Prop := ∀ {σ : Sg} {ρ : List Addr} {H : AHeap} {s : Shared} {A : Around} {q : List Item → (AHeap → Prop) → AHeap → Prop} {X : XPost} {E : Value → Shared → Prop},
  FR C env σ ρ s.heap → Sim C ρ H s → AOk C K A → (sem T pe).it σ H q X → Takes C ρ s X E → wpAny C.M A (eval e env) (fun xv s1 => wpAny C.M A (pyIter xv) (Ready' C A ρ s q) E s1) E s
theorem letGo_other {M : Model} {A : Around} {E : Value → Shared → Prop} {s : Shared} {target : Expr} {I : Addr} {u : Value} {Q : Unit → Shared → Prop} {o : Obj} {n : String} {vs : Array Value} (ho : s.heap.get? I = some o) (hc : o.cls = .type n) (hd : o.data = .fields vs)
    (hn : (["enumerate", "zip", "dict_itemiterator", "dict_reverseitemiterator", "odict_iterator", "itertools.zip_longest", "itertools.pairwise"].contains n) = false) (hQ : Q () s) : wpAny M A (letOwnedTupleGo target (.ref I) u) Q E s := by
  unfold letOwnedTupleGo
  split
  · split
    · rename_i heq; cases heq
      refine wpAny_bind (wpAny_load ho ?_)
      rw [hc, hd]
      dsimp only
      rw [hn]
      exact wpAny_pure hQ
    · exact wpAny_pure hQ
  · split
    · rename_i heq; cases heq
      refine wpAny_bind (wpAny_load ho ?_)
      rw [hc, hd]
      dsimp only
      rw [hn]
      exact wpAny_pure hQ
    · exact wpAny_pure hQ
  · exact wpAny_pure hQ
section
variable {C : Cx} {A : Around}
theorem ext_at {ρ0 ρ : List Addr} {n : Nat} {a : Addr} (h : ρ0[n]? = some a) (e : ∃ l, ρ = ρ0 ++ l) : ρ[n]? = some a := by
  obtain ⟨l, rfl⟩ := e
  rw [List.getElem?_append_left]
  · exact h
  · exact (List.getElem?_eq_some_iff.mp h).1
theorem get_map_one {xs : List V} {i : Nat} {x : Item} (h : (xs.map Item.one)[i]? = some x) : ∃ v, x = .one v ∧ xs[i]? = some v := by
  rw [List.getElem?_map] at h
  cases e : xs[i]? with
  | none => rw [e] at h; cases h
  | some v => rw [e] at h; cases h; exact ⟨v, rfl, rfl⟩
theorem itr_list (hA : HdOk C A) {I a : Addr} {n : Nat} {xs : List V} {ρ0 : List Addr} (hn : ρ0[n]? = some a) :
    Itr C A ρ0 (xs.map .one) (fun H => H[n]? = some (.list xs)) I [I] (fun i h => h.IsListIter I a i) where
  frame := fun i h h' x k => by obtain ⟨o, ho, hc, r⟩ := x; exact ⟨o, k I (.head _) o ho (no_ns r), hc, r⟩
  alive := fun i h x b hb => by simp at hb; subst hb; obtain ⟨o, ho, _⟩ := x; exact ⟨o, ho⟩
  next := fun i x target ρ H s E hx ht hst S hρ hK hw => by
    obtain ⟨v, rfl, hv⟩ := get_map_one hx
    have hna := ext_at hn hρ
    obtain ⟨us, m, ho, hs, _⟩ := S.obj n a _ hna hK
    obtain ⟨u, hu, hr⟩ := hs.get i v hv
    have hne : a ≠ I := fun z => hw I (.head _) (z ▸ List.mem_of_getElem? hna)
    refine wpAny_pyNext_list_item hst ⟨_, ho, rfl, m, rfl⟩ (by rw [← Array.getElem?_toList]; exact hu) fun h' hit hsb => ⟨u, rfl, ?_⟩
    obtain ⟨o, ho', hc, hd⟩ := id hit
    refine letGo_other ho' hc hd (by decide) ⟨h', s.toks, rfl, hr, hit, fun b o hb e => (hsb.2 b fun z => hb (by simp [z])).trans e⟩
  done := fun ρ H s E hst S hρ hK hw => by
    have hna := ext_at hn hρ
    obtain ⟨us, m, ho, hs, _⟩ := S.obj n a _ hna hK
    rw [List.length_map] at hst
    refine next_list_end (hA.at S) hst ⟨_, ho, rfl, m, rfl⟩ (by rw [← Array.getElem?_toList, hs.length, List.getElem?_eq_none (Nat.le_refl _)]) fun h' he => ⟨rfl, h', s.toks, rfl, fun b o hb e => he b o (fun z => hb (by simp [z])) e⟩
  self := fun i s Q E hst hq => wpAny_pyIter_listiter hst hq
theorem itr_tuple (hA : HdOk C A) {I a : Addr} {n : Nat} {xs : List V} {ρ0 : List Addr} (hn : ρ0[n]? = some a) :
    Itr C A ρ0 (xs.map .one) (fun H => H[n]? = some (.tuple xs)) I [I] (fun i h => h.IsTupleIter I a i) where
  frame := fun i h h' x k => by obtain ⟨o, ho, hc, r⟩ := x; exact ⟨o, k I (.head _) o ho (no_ns r), hc, r⟩
  alive := fun i h x b hb => by simp at hb; subst hb; obtain ⟨o, ho, _⟩ := x; exact ⟨o, ho⟩
  next := fun i x target ρ H s E hx ht hst S hρ hK hw => by
    obtain ⟨v, rfl, hv⟩ := get_map_one hx
    have hna := ext_at hn hρ
    obtain ⟨us, m, ho, hs, _⟩ := S.obj n a _ hna hK
    obtain ⟨u, hu, hr⟩ := hs.get i v hv
    refine wpAny_pyNext_tuple_item hst ⟨_, ho, rfl, m, rfl⟩ (by rw [← Array.getElem?_toList]; exact hu) fun h' hit hsb => ⟨u, rfl, ?_⟩
    obtain ⟨o, ho', hc, hd⟩ := id hit
    refine letGo_other ho' hc hd (by decide) ⟨h', s.toks, rfl, hr, hit, fun b o hb e => (hsb.2 b fun z => hb (by simp [z])).trans e⟩
  done := fun ρ H s E hst S hρ hK hw => by
    have hna := ext_at hn hρ
    obtain ⟨us, m, ho, hs, _⟩ := S.obj n a _ hna hK
    rw [List.length_map] at hst
    refine next_tuple_end (hA.at S) hst ⟨_, ho, rfl, m, rfl⟩ (by rw [← Array.getElem?_toList, hs.length, List.getElem?_eq_none (Nat.le_refl _)]) fun h' he => ⟨rfl, h', s.toks, rfl, fun b o hb e => he b o (fun z => hb (by simp [z])) e⟩
  self := fun i s Q E hst hq => wpAny_pyIter_tupleiter hst hq
theorem itr_range (hA : HdOk C A) {I : Addr} {a c : Int} {n : Nat} {ρ0 : List Addr} :
    Itr C A ρ0 ((List.range n).map fun k => Item.one (.int (a + (k : Nat) * c))) (fun _ => True) I [I] (fun i h => IsRangeIter h I (a + (i : Nat) * c) ((n : Int) - (i : Nat)) c) where
  frame := fun i h h' x k => k I (.head _) _ x (no_ns rfl)
  alive := fun i h x b hb => by simp at hb; subst hb; exact ⟨_, x⟩
  next := fun i x target ρ H s E hx ht hst S hρ hK hw => by
    rw [List.getElem?_map] at hx
    have hi : i < n := by
      rcases Nat.lt_or_ge i n with h | h
      · exact h
      · rw [List.getElem?_eq_none (by simpa using h)] at hx; cases hx
    rw [List.getElem?_eq_getElem (by simpa using hi)] at hx
    simp at hx
    subst hx
    refine wpAny_pyNext_range_item hst (by lia) fun h' hit hsb => ⟨_, rfl, ?_⟩
    refine letGo_other hit rfl rfl (by decide) ⟨h', s.toks + 1, rfl, vi (C := C) (ρ := ρ) _ _, ?_, fun b o hb e => (hsb.2 b fun z => hb (by simp [z])).trans e⟩
    have e1 : a + (i : Int) * c + c = a + ((i + 1 : Nat) : Int) * c := by rw [Int.natCast_add, Int.add_mul]; simp; lia
    have e2 : (n : Int) - i - 1 = n - ((i + 1 : Nat) : Int) := by lia
    rw [e1, e2] at hit; exact hit
  done := fun ρ H s E hst S hρ hK hw => by
    simp only [List.length_map, List.length_range] at hst
    exact next_range_end (hA.at S) hst (by lia) fun h' he => ⟨rfl, h', s.toks, rfl, fun b o hb e => he b o (fun z => hb (by simp [z])) e⟩
  self := fun i s Q E hst hq => wpAny_pyIter_rangeiter hst hq
theorem one_sign {t : Txt} {i c : Nat} (ok : okT t = true) (h : t.toArray[i]? = some c) : okT [c] = true := by
  rw [okT_iff] at *
  refine ⟨by simp [lid], fun d hd => ?_⟩
  simp only [List.mem_singleton] at hd
  subst hd
  exact ok.2 d (by simpa using Array.mem_of_getElem? h)
theorem get_map_sign {t : Txt} {i : Nat} {x : Item} (h : (t.map fun c => Item.one (.str [c]))[i]? = some x) : ∃ c, x = .one (.str [c]) ∧ t[i]? = some c := by
  rw [List.getElem?_map] at h
  cases e : t[i]? with
  | none => rw [e] at h; cases h
  | some v => rw [e] at h; cases h; exact ⟨v, rfl, rfl⟩
theorem itr_ascii (hA : HdOk C A) {I : Addr} {t : Txt} {tk : Tok} {ρ0 : List Addr} (ok : okT t = true) :
    Itr C A ρ0 (t.map fun c => Item.one (.str [c])) (fun _ => True) I [I] (fun i h => h.IsStrIter I "str_ascii_iterator" ⟨t.toArray⟩ tk i) where
  frame := fun i h h' x k => by obtain ⟨o, ho, hc, r⟩ := x; exact ⟨o, k I (.head _) o ho (no_ns r), hc, r⟩
  alive := fun i h x b hb => by simp at hb; subst hb; obtain ⟨o, ho, _⟩ := x; exact ⟨o, ho⟩
  next := fun i x target ρ H s E hx ht hst S hρ hK hw => by
    obtain ⟨c, rfl, hc⟩ := get_map_sign hx
    have hc' : t.toArray[i]? = some c := by simpa using hc
    refine wpAny_pyNext_ascii_item hst hc' fun h' hit hsb => ⟨_, rfl, ?_⟩
    obtain ⟨o, ho', hc1, hd⟩ := id hit
    exact letGo_other ho' hc1 hd (by decide) ⟨h', s.toks + 1, rfl, vt (C := C) (ρ := ρ) (one_sign ok hc') _, hit, fun b o hb e => (hsb.2 b fun z => hb (by simp [z])).trans e⟩
  done := fun ρ H s E hst S hρ hK hw => by
    rw [List.length_map] at hst
    exact next_ascii_end (hA.at S) hst (by simp) fun h' he => ⟨rfl, h', s.toks, rfl, fun b o hb e => he b o (fun z => hb (by simp [z])) e⟩
  self := fun i s Q E hst hq => wpAny_pyIter_striter_ascii hst hq
theorem itr_wide (hA : HdOk C A) {I : Addr} {t : Txt} {tk : Tok} {ρ0 : List Addr} (ok : okT t = true) :
    Itr C A ρ0 (t.map fun c => Item.one (.str [c])) (fun _ => True) I [I] (fun i h => h.IsStrIter I "str_iterator" ⟨t.toArray⟩ tk i) where
  frame := fun i h h' x k => by obtain ⟨o, ho, hc, r⟩ := x; exact ⟨o, k I (.head _) o ho (no_ns r), hc, r⟩
  alive := fun i h x b hb => by simp at hb; subst hb; obtain ⟨o, ho, _⟩ := x; exact ⟨o, ho⟩
  next := fun i x target ρ H s E hx ht hst S hρ hK hw => by
    obtain ⟨c, rfl, hc⟩ := get_map_sign hx
    have hc' : t.toArray[i]? = some c := by simpa using hc
    refine wpAny_pyNext_wide_item hst hc' fun h' hit hsb => ⟨_, rfl, ?_⟩
    obtain ⟨o, ho', hc1, hd⟩ := id hit
    exact letGo_other ho' hc1 hd (by decide) ⟨h', s.toks + 1, rfl, vt (C := C) (ρ := ρ) (one_sign ok hc') _, hit, fun b o hb e => (hsb.2 b fun z => hb (by simp [z])).trans e⟩
  done := fun ρ H s E hst S hρ hK hw => by
    rw [List.length_map] at hst
    exact next_wide_end (hA.at S) hst (by simp) fun h' he => ⟨rfl, h', s.toks, rfl, fun b o hb e => he b o (fun z => hb (by simp [z])) e⟩
  self := fun i s Q E hst hq => wpAny_pyIter_striter_wide hst hq
noncomputable def DK (C : Cx) (ρ : List Addr) (e : Txt × V) (kv : Str × Value) : Prop := kv.1 = ⟨e.1.toArray⟩ ∧ okT e.1 = true ∧ VR C ρ e.2 kv.2
theorem dk_keys {ρ : List Addr} {es : List (Txt × V)} {kvs : List (Str × Value)} (h : All2 (DK C ρ) es kvs) : kvs.map (·.1) = (es.map (·.1)).map fun t => (⟨t.toArray⟩ : Str) := by
  induction h with
  | nil => rfl
  | cons he _ ih => rw [List.map_cons, List.map_cons, List.map_cons, ih, he.1]
theorem str_inj {t u : Txt} (h : (⟨t.toArray⟩ : Str) = ⟨u.toArray⟩) : t = u := by
  have := congrArg (fun x : Str => x.cps.toList) h
  exact this
theorem er_pairs {ρ : List Addr} {es : List (Txt × V)} {l : List DictEntry} (h : All2 (ER C ρ) es l) : ∃ kvs, Pairs (PySem.strKind C.prog C.w) l kvs ∧ All2 (DK C ρ) es kvs := by
  induction h with
  | nil => exact ⟨[], .nil, .nil⟩
  | @cons e d es l he _ ih =>
    obtain ⟨kvs, h1, h2⟩ := ih
    obtain ⟨⟨ok, t, e1⟩, e2, e3⟩ := he
    exact ⟨(⟨e.1.toArray⟩, d.val) :: kvs, .cons (by rw [e1]; exact strKind_is _ _ _ t) rfl h1, .cons ⟨rfl, ok, e3⟩ h2⟩
theorem dict_at {ρ : List Addr} {h : Heap} {a : Addr} {es : List (Txt × V)} {ep : Nat} (o : OR C ρ h a (.dict es ep)) :
    ∃ kvs : List (Str × Value), h.DictAt (PySem.strKind C.prog C.w) a kvs ep ∧ All2 (DK C ρ) es kvs := by
  obtain ⟨ds, ho, hs, hn, _⟩ := o
  obtain ⟨kvs, h1, h2⟩ := er_pairs hs
  refine ⟨kvs, ⟨_, ds, ho, ⟨rfl, rfl, rfl⟩, rfl, fun e he => ?_, h1, ?_⟩, h2⟩
  · obtain ⟨p, hp, ⟨_, t, e1⟩, e2, e3⟩ := hs.right e (Array.mem_toList_iff.mpr he)
    exact ⟨⟨p.1.toArray⟩, by rw [e1]; exact strKind_is _ _ _ t, e2⟩
  · rw [dk_keys h2]
    exact List.Pairwise.map _ (fun x y hxy q => hxy (str_inj q)) hn
theorem dict_of {ρ : List Addr} {h : Heap} {a : Addr} {es : List (Txt × V)} {ep : Nat} (o : OR C ρ h a (.dict es ep)) :
    ∃ kvs : List (Str × Value), h.DictOf (PySem.strKind C.prog C.w) a kvs ∧ All2 (DK C ρ) es kvs := by
  obtain ⟨kvs, ⟨o, ds, ho, a1, b1, c1, d1, e1⟩, h2⟩ := dict_at o
  exact ⟨kvs, ⟨o, ds, ep, ho, a1, b1, c1, d1, e1⟩, h2⟩
theorem dict_is {ρ : List Addr} {h : Heap} {a : Addr} {es : List (Txt × V)} {kvs : List (Str × Value)} (hd : h.DictOf (PySem.strKind C.prog C.w) a kvs) (hk : All2 (DK C ρ) es kvs) (hl : es.length ≤ lid) : ∃ ep, OR C ρ h a (.dict es ep) := by
  obtain ⟨o, ds, ep, ho, ⟨x1, x2, x3⟩, hdat, hks, hp, hn⟩ := hd
  refine ⟨ep, ds, ?_, ?_, ?_, hl⟩
  · obtain ⟨c, d, dt, sl⟩ := o
    cases x1; cases x2; cases x3; cases hdat
    exact ho
  · have go : ∀ {es : List (Txt × V)} {kvs : List (Str × Value)}, All2 (DK C ρ) es kvs → ∀ {l : List DictEntry}, Pairs (PySem.strKind C.prog C.w) l kvs → (∀ d ∈ l, ∃ k, (PySem.strKind C.prog C.w).is k d.key = true ∧ d.hash = (PySem.strKind C.prog C.w).hash k) → All2 (ER C ρ) es l := by
      intro es kvs h
      induction h with
      | nil => intro l hp _; cases hp; exact .nil
      | @cons e kv es kvs he _ ih =>
        intro l hp hh
        cases hp with
        | @cons d _ l' _ h1 h2 h3 =>
          refine .cons ?_ (ih h3 fun d hd => hh d (.tail _ hd))
          obtain ⟨e1, ok, e3⟩ := he
          rw [e1] at h1
          obtain ⟨t, ht⟩ := Value.isStrOf_shape h1
          obtain ⟨k', hk', hh'⟩ := hh d (.head _)
          have hkk : k' = ⟨e.1.toArray⟩ := by
            rw [ht] at hk'
            obtain ⟨t', ht'⟩ := Value.isStrOf_shape (show Value.isStrOf k' (.str ⟨e.1.toArray⟩ t) = true from hk')
            cases ht'; rfl
          exact ⟨⟨ok, t, ht⟩, by rw [hh', hkk]; rfl, by rw [h2]; exact e3⟩
    exact go hk hp fun d hd => hks d (Array.mem_toList_iff.mp hd)
  · rw [dk_keys hk] at hn
    exact (List.pairwise_map.mp hn).imp fun hxy q => hxy (by rw [q])
theorem dk_stored {ρ : List Addr} {k : Txt} {v : V} {u : Value} (ok : okT k = true) (hv : VR C ρ v u) {es : List (Txt × V)} {kvs : List (Str × Value)} (h : All2 (DK C ρ) es kvs) : All2 (DK C ρ) (stA es k v) (PySem.stored kvs ⟨k.toArray⟩ u) := by
  have eqk : ∀ {e : Txt × V} {kv : Str × Value}, DK C ρ e kv → (kv.1 = ⟨k.toArray⟩ ↔ e.1 = k) := fun he => by
    rw [he.1]; exact ⟨str_inj, fun q => by rw [q]⟩
  have hany : (kvs.any fun kv => decide (kv.1 = ⟨k.toArray⟩)) = es.any fun e => decide (e.1 = k) := by
    induction h with
    | nil => rfl
    | cons he _ ih => rw [List.any_cons, List.any_cons, ih, decide_eq_decide.mpr (eqk he)]
  unfold stA PySem.stored
  rw [hany]
  split
  · rename_i hh
    clear hany hh
    induction h with
    | nil => exact .nil
    | @cons e kv es kvs he _ ih =>
      rw [List.map_cons, List.map_cons]
      refine .cons ?_ ih
      by_cases q : e.1 = k
      · rw [if_pos q, if_pos ((eqk he).mpr q)]; exact ⟨he.1, he.2.1, hv⟩
      · rw [if_neg q, if_neg fun z => q ((eqk he).mp z)]; exact he
  · exact h.append (.cons ⟨rfl, ok, hv⟩ .nil)
variable {T : Tab} {K : Nat} {env : Env}
theorem fresh_new {ρ : List Addr} {H : AHeap} {s : Shared} (S : Sim C ρ H s) : s.heap.objs.size ∉ ρ := fun hm => by
  obtain ⟨i, hi, e⟩ := List.getElem_of_mem hm
  have hi' : i < H.length := by rw [← S.len]; exact hi
  obtain ⟨ob, q⟩ := (S.obj i _ H[i] (by rw [List.getElem?_eq_getElem hi, e]) (List.getElem?_eq_getElem hi')).alive C
  rw [get_size] at q; cases q
theorem none_before {ρ ρ' : List Addr} {s s' : Shared} {ex : Addr → Prop} (st : StepG ex ρ s ρ' s') {a : Addr} (h : s'.heap.get? a = none) : s.heap.get? a = none := by
  cases e : s.heap.get? a with
  | none => rfl
  | some o => obtain ⟨o', q⟩ := st.live a o e; rw [h] at q; cases q
theorem ready_new {ρ ρ1 : List Addr} {H1 : AHeap} {s s1 : Shared} {o : Obj} {q : List Item → (AHeap → Prop) → AHeap → Prop} {items : List Item} {Kp : AHeap → Prop} {St : Nat → Heap → Prop} (st1 : Step ρ s ρ1 s1) (S1 : Sim C ρ1 H1 s1)
    (hI : Itr C A ρ1 items Kp s1.heap.objs.size [s1.heap.objs.size] St) (hSt : St 0 (s1.heap.push o)) (hq : q items Kp H1) : Ready' C A ρ s q (.ref s1.heap.objs.size) { s1 with heap := s1.heap.push o } := by
  obtain ⟨S2, st2⟩ := S1.grow (h' := s1.heap.push o) (tk := s1.toks) get_push
  exact ⟨ρ1, H1, _, _, _, [s1.heap.objs.size], _, rfl, hI, hSt, st1.trans st2, S2, fun b hb => by cases List.mem_singleton.mp hb; exact ⟨none_before st1 (get_size _), fresh_new S1⟩, hq⟩
theorem it_val {e : Expr} {pe : PE} (he : EvOk C T K env e pe) : ItOk C T K env e (.itVal pe) := by
  intro σ ρ H s A q X E F S hA h hE
  refine he.bind F S hA h hE fun ρ1 H1 v1 u1 s1 st1 F1 S1 hv1 hq1 hE1 => ?_
  cases hq1 with
  | str hq1 =>
    obtain ⟨ok, tk, rfl⟩ := hv1
    rename_i t
    cases ha : (⟨t.toArray⟩ : Str).cps.all (· < 128) with
    | true => exact wpAny_pyIter_ascii ha (ready_new st1 S1 (itr_ascii hA.h ok) ⟨_, Heap.get?_push_size _ rfl, rfl, rfl⟩ hq1)
    | false => exact wpAny_pyIter_wide ha (ready_new st1 S1 (itr_wide hA.h ok) ⟨_, Heap.get?_push_size _ rfl, rfl, rfl⟩ hq1)
  | list e1 hq1 =>
    obtain ⟨a, rfl, ea, us, m, ho, hs, _⟩ := S1.lookup e1 hv1
    exact wpAny_pyIter_list ⟨_, ho, rfl, m, rfl⟩ (ready_new st1 S1 (itr_list hA.h ea) ⟨_, Heap.get?_push_size _ rfl, rfl, rfl⟩ hq1)
  | tuple e1 hq1 =>
    obtain ⟨a, rfl, ea, us, m, ho, hs, _⟩ := S1.lookup e1 hv1
    exact wpAny_pyIter_tuple ⟨_, ho, rfl, m, rfl⟩ (ready_new st1 S1 (itr_tuple hA.h ea) ⟨_, Heap.get?_push_size _ rfl, rfl, rfl⟩ hq1)
theorem type_call1 {g : Str} {t : String} {p pos : Pos} {e : Expr} {pe : PE} {R : Value → Shared → Prop} (hk : env.kindOf g = some .globalImplicit) (hg : C.G g = some (.type t)) (hd : (g == Str.ofString "__debug__") = false) (hs : isStar e = false)
    (he : EvOk C T K env e pe) {σ : Sg} {ρ : List Addr} {H : AHeap} {s : Shared} {Q : VPost} {X : XPost} {E : Value → Shared → Prop}
    (F : FR C env σ ρ s.heap) (S : Sim C ρ H s) (hA : AOk C K A) (h : (sem T pe).ev σ H Q X) (hE : Takes C ρ s X E)
    (k : ∀ ρ' H' v u s', Step ρ s ρ' s' → FR C env σ ρ' s'.heap → Sim C ρ' H' s' → VR C ρ' v u → Q v H' → Takes C ρ' s' X E → wpAny C.M A (call (.type t) [u]) R E s') : wpAny C.M A (eval (.Call (.Name g p) [e] [] pos) env) R E s := by
  have hs' : ∀ x ∈ [e], isStar x = false := fun x hx => by simp at hx; subst hx; exact hs
  have e1 : starEach [e] env = (false, eval e env) :: starEach [] env := star_cons hs []
  show wpAny C.M A (do callWith pos (← eval (.Name g p) env) [] (backTo pos (starEach [e] env)) []) R E s
  refine wpAny_bind (global_ok F S hk hg hd ?_)
  refine callWith_any (any_false hs') (evalArgs_any hs' ?_)
  refine wpAny_items_cons (he.bind F S hA h hE fun ρ' H' v u s' st F' S' hv hq hE' => wpAny_items_nil ⟨.inr (.inl ⟨t, rfl⟩), ?_⟩) e1
  exact k ρ' H' v u s' st F' S' hv hq hE'
theorem range_ready {ρ ρ1 : List Addr} {H1 : AHeap} {s s1 : Shared} {r : Addr} {a b : Int} {t u v : Tok} {q : List Item → (AHeap → Prop) → AHeap → Prop} {E : Value → Shared → Prop} (hA : HdOk C A) (st1 : Step ρ s ρ1 s1) (S1 : Sim C ρ1 H1 s1)
    (hr : IsRange s1.heap r a b 1 t u v) (ha : -(2 ^ 62) ≤ a) (ha' : a < 2 ^ 62) (hb : -(2 ^ 62) ≤ b) (hb' : b < 2 ^ 62) (hq : q ((intsFrom a (b - a).toNat).map fun i => .one (.int i)) (fun _ => True) H1) :
    wpAny C.M A (pyIter (.ref r)) (Ready' C A ρ s q) E s1 := by
  refine wpAny_pyIter_range hr (small_one ha ha' hb hb') ?_
  rw [rangeSize_one]
  have hz : ((if a < b then b - a else 0 : Int)) = (((b - a).toNat : Nat) : Int) := by split <;> lia
  rw [hz]
  have hi := itr_range (C := C) (A := A) hA (I := s1.heap.objs.size) (a := a) (c := 1) (n := (b - a).toNat) (ρ0 := ρ1)
  have hitems : ((List.range (b - a).toNat).map fun k => Item.one (.int (a + (k : Nat) * 1))) = (intsFrom a (b - a).toNat).map fun i => Item.one (.int i) := by
    unfold intsFrom; rw [List.map_map]; simp
  rw [hitems] at hi
  refine ready_new st1 S1 hi ?_ hq
  have := Heap.get?_push_size s1.heap (o := { cls := .type "range_iterator", data := .fields #[rawInt a, rawInt (((b - a).toNat : Nat) : Int), rawInt 1] }) rfl
  simpa using this
theorem it_range1 (hT : TabOk C T K) {g : Str} {p pos : Pos} {e : Expr} {pe : PE} (hg : isG env.kindOf g "range" = true) (hs : isStar e = false) (he : EvOk C T K env e pe) : ItOk C T K env (.Call (.Name g p) [e] [] pos) (.itRange1 pe) := by
  intro σ ρ H s A q X E F S hA h hE
  unfold isG at hg
  obtain ⟨hg1, hg2⟩ := Bool.and_eq_true_iff.mp hg
  have hg1 := beq_iff_eq.mp hg1
  subst hg1
  refine type_call1 (beq_iff_eq.mp hg2) hT.range (by decide +kernel) hs he F S hA h hE fun ρ1 H1 v1 u1 s1 st1 F1 S1 hv1 hq1 hE1 => ?_
  split at hq1
  · rename_i j
    obtain ⟨hj0, hj, hq1⟩ := hq1
    obtain ⟨tk, rfl⟩ := hv1
    unfold lid at hj
    obtain ⟨S2, st2⟩ := S1.grow (h' := s1.heap.push { cls := .type "range", data := .fields #[.int 0 s1.toks, .int j tk, .int 1 (s1.toks + 1)] }) (tk := s1.toks + 1 + 1) get_push
    refine call_range_1 (range_ready hA.h (st1.trans st2) S2 (IsRange.new _ _ _ _ _ _ _) (by lia) (by lia) (by lia) (by lia) ?_)
    rw [Int.sub_zero]; exact hq1
  · exact hq1.elim
theorem it_range2 (hT : TabOk C T K) {g : Str} {p pos : Pos} {e1 e2 : Expr} {p1 p2 : PE} (hg : isG env.kindOf g "range" = true) (hs1 : isStar e1 = false) (hs2 : isStar e2 = false)
    (he1 : EvOk C T K env e1 p1) (he2 : EvOk C T K env e2 p2) : ItOk C T K env (.Call (.Name g p) [e1, e2] [] pos) (.itRange2 p1 p2) := by
  intro σ ρ H s A q X E F S hA h hE
  unfold isG at hg
  obtain ⟨hg1, hg2⟩ := Bool.and_eq_true_iff.mp hg
  have hg1 := beq_iff_eq.mp hg1
  subst hg1
  have hs' : ∀ x ∈ [e1, e2], isStar x = false := fun x hx => by
    rcases List.mem_cons.mp hx with rfl | hx
    · exact hs1
    · simp at hx; subst hx; exact hs2
  have q1 : starEach [e1, e2] env = (false, eval e1 env) :: starEach [e2] env := star_cons hs1 [e2]
  have q2 : starEach [e2] env = (false, eval e2 env) :: starEach [] env := star_cons hs2 []
  show wpAny C.M A (do callWith pos (← eval (.Name (Str.ofString "range") p) env) [] (backTo pos (starEach [e1, e2] env)) []) _ E s
  refine wpAny_bind (global_ok F S (beq_iff_eq.mp hg2) hT.range (by decide +kernel) ?_)
  refine callWith_any (any_false hs') (evalArgs_any hs' ?_)
  refine wpAny_items_cons (he1.bind F S hA h hE fun ρ1 H1 v1 u1 s1 st1 F1 S1 hv1 hq1 hE1 => wpAny_items_cons (he2.bind F1 S1 hA hq1 hE1 fun ρ2 H2 v2 u2 s2 st2 F2 S2 hv2 hq2 hE2 => wpAny_items_nil ⟨.inr (.inl ⟨_, rfl⟩), ?_⟩) q2) q1
  split at hq2
  · rename_i i j
    obtain ⟨hi0, hi, hj0, hj, hq2⟩ := hq2
    obtain ⟨tk, rfl⟩ := hv1
    obtain ⟨tk2, rfl⟩ := hv2
    unfold lid at hi hj
    obtain ⟨S3, st3⟩ := S2.grow (h' := s2.heap.push { cls := .type "range", data := .fields #[.int i tk, .int j tk2, .int 1 s2.toks] }) (tk := s2.toks + 1) get_push
    exact call_range_2 (range_ready hA.h ((st1.trans st2).trans st3) S3 (IsRange.new _ _ _ _ _ _ _) (by lia) (by lia) (by lia) (by lia) hq2)
  · exact hq2.elim
theorem sub_ri_reversed : isSubtype (.type "range_iterator") (.type "reversed") = pure false := by rw [isSubtype_type]; kernel_rfl
theorem range_reversed_meets (r : Addr) (a b c : Int) (t u v : Tok) (hc0 : ¬(!(Builtin.Range.rangeFitsLong a && Builtin.Range.rangeFitsLong b && Builtin.Range.rangeFitsLong c && Builtin.Range.rangeFitsLong (-c) && Builtin.Range.rangeFitsLong (a - c) && Builtin.Range.rangeFitsLong (Builtin.Range.rangeSize a b c))) = true) :
    Meets (Builtin.«range.__reversed__» ⟨[.ref r], []⟩) (fun _ R s => s.heap.get? r = some { cls := .type "range", dict := none, data := .fields #[.int a t, .int b u, .int c v], slots := #[] } ∧ R (.ok (.ret (Value.ref s.heap.objs.size))) { s with heap := s.heap.push { cls := Value.type (if (Builtin.Range.rangeFitsLong a && Builtin.Range.rangeFitsLong b && Builtin.Range.rangeFitsLong c && Builtin.Range.rangeFitsLong (-c) && Builtin.Range.rangeFitsLong (a - c) && Builtin.Range.rangeFitsLong (Builtin.Range.rangeSize a b c)) = true then "range_iterator" else "longrange_iterator"), data := Data.fields #[rawInt (a + (Builtin.Range.rangeSize a b c - 1) * c), rawInt (Builtin.Range.rangeSize a b c), rawInt (-c)] }, toks := s.toks }) :=
  .of_wp fun prog w A R s h => by obtain ⟨hp, g, d, tk, os⟩ := s; obtain ⟨hl, h⟩ := h; wp_walk; exact ⟨_, rfl, h⟩
theorem call_range_reversed {s : Shared} {E : Value → Shared → Prop} {r : Addr} {n : Int} {t u v : Tok} {Q : Value → Shared → Prop} (hr : IsRange s.heap r 0 n 1 t u v) (h0 : 0 ≤ n) (hn : n < 2 ^ 62)
    (h : Q (.ref s.heap.objs.size) { s with heap := s.heap.push { cls := .type "range_iterator", data := .fields #[rawInt (n - 1), rawInt n, rawInt (-1)] } }) : wpAny C.M A (call (.builtin "range.__reversed__") [.ref r]) Q E s := by
  have hT : s.TypeIs (.ref r) "range" := ⟨_, hr, rfl⟩
  have hz : Builtin.Range.rangeSize 0 n 1 = n := by rw [rangeSize_one]; split <;> lia
  have hf : (Builtin.Range.rangeFitsLong 0 && Builtin.Range.rangeFitsLong n && Builtin.Range.rangeFitsLong 1 && Builtin.Range.rangeFitsLong (-1) && Builtin.Range.rangeFitsLong (0 - 1) && Builtin.Range.rangeFitsLong (Builtin.Range.rangeSize 0 n 1)) = true := by
    rw [hz]; simp only [Builtin.Range.rangeFitsLong, Bool.and_eq_true, decide_eq_true_eq]; lia
  refine call_meets F.slot_range_reversed hT F.entry_range_reversed (F.args_range_reversed_1 _) (range_reversed_meets r 0 n 1 t u v (by rw [hf]; decide)) ⟨hr, ?_⟩
  rw [if_pos hf, hz]
  have e : (0 : Int) + (n - 1) * 1 = n - 1 := by lia
  rw [e]; exact h
theorem rv_args (a : Value) : checkBuiltinCall "reversed.__new__" ⟨[.type "reversed", a], []⟩ = pure () := by kernel_rfl
theorem rv_plain : plainId "reversed.__new__" = true := by decide +kernel
theorem rv_tree : entryFor table "reversed.__new__" = some Builtin.«reversed.__new__» := entryFor_of_tree (by kernel_rfl)
theorem rv_mro : mroOf (.type "reversed") = pure [.type "reversed", .type "object"] := by rw [mroOf_type]; kernel_rfl
theorem rv_made : Bind.madeBy (.type "reversed") = pure (some "reversed.__new__") := madeBy_type rv_mro (by rw [typeLookup_type, builtinLookup_eq_fast]; kernel_rfl) (by decide +kernel)
theorem rv_call (a : Value) : checkTypeCall "reversed" ⟨[a], []⟩ = pure () := by kernel_rfl
theorem rv_class (a : Value) : Builtin.SmallTypes.newClass "reversed" ⟨[.type "reversed", a], []⟩ = pure (.type "reversed", [a]) := by
  have h : isSubtype (.type "reversed") (.type "reversed") = pure true := by rw [isSubtype_type]; kernel_rfl
  unfold Builtin.SmallTypes.newClass isType
  dsimp only
  simp only [h, pure_bind]
  rfl
theorem code_reversed_range {s : Shared} {E : Value → Shared → Prop} {r : Addr} {n : Int} {t u v : Tok} {Q₁ : Value → Shared → Prop} (hr : IsRange s.heap r 0 n 1 t u v) (h0 : 0 ≤ n) (hn : n < 2 ^ 62)
    (h : Q₁ (.ref s.heap.objs.size) { s with heap := s.heap.push { cls := .type "range_iterator", data := .fields #[rawInt (n - 1), rawInt n, rawInt (-1)] } }) :
    codeAny C.M A (.call (.builtin "reversed.__new__") ⟨[.type "reversed", .ref r], []⟩) (wants Q₁ E) s := by
  have hT : s.TypeIs (.ref r) "range" := ⟨_, hr, rfl⟩
  refine codeAny_of_tree ?_
  show wpAny _ A.in1 (do checkBuiltinCall "reversed.__new__" ⟨[.type "reversed", .ref r], []⟩; again (.builtin "reversed.__new__" ⟨[.type "reversed", .ref r], []⟩)) _ _ s
  refine wpAny_bind (wpAny_of_eq (rv_args _) (wpAny_pure ⟨plainId_quiet rv_plain _, codeAny_builtin rv_tree ?_⟩))
  rw [Around.under_plainId rv_plain _]
  unfold Builtin.«reversed.__new__»
  refine wpAny_bind (wpAny_of_eq (rv_class _) ?_)
  try dsimp only
  refine wpAny_bind (wpAny_of_eq (a := ()) (by first | rfl | kernel_rfl) ?_)
  refine wpAny_bind (wpAny_of_eq (a := ()) (by first | rfl | kernel_rfl) ?_)
  try dsimp only
  refine wpAny_bind (wpAny_specialOf hT F.slot_range_reversed.lookup ?_)
  try dsimp only
  refine wpAny_bind (wpAny_of_eq (F.slot_range_reversed.bind _) ?_)
  try dsimp only
  first
  | rw [if_neg (show ¬ ((Value.builtin "range.__reversed__" == Value.none) = true) from Bool.false_ne_true)]
  | (show wpAny _ _ (if (Value.builtin "range.__reversed__" == Value.none) = true then _ else _) _ _ _; rw [if_neg (show ¬ ((Value.builtin "range.__reversed__" == Value.none) = true) from Bool.false_ne_true)])
  refine wpAny_bind (wpAny_rule ?_)
  refine wpAny_bind (m := runValue (.call (.builtin "range.__reversed__") ⟨[.ref r], []⟩)) (show wpAny _ _ (call (.builtin "range.__reversed__") [.ref r]) _ _ _ from call_range_reversed hr h0 hn ?_)
  first
  | exact wpAny_pure h
  | exact wpAny_bind (wpAny_pure (wpAny_pure h))
theorem call_reversed_range {s : Shared} {E : Value → Shared → Prop} {r : Addr} {n : Int} {t u v : Tok} {Q : Value → Shared → Prop} (hr : IsRange s.heap r 0 n 1 t u v) (h0 : 0 ≤ n) (hn : n < 2 ^ 62)
    (h : Q (.ref s.heap.objs.size) { s with heap := s.heap.push { cls := .type "range_iterator", data := .fields #[rawInt (n - 1), rawInt n, rawInt (-1)] } }) : wpAny C.M A (call (.type "reversed") [.ref r]) Q E s := by
  have new : codeAny C.M A.in1 (.call (.builtin "reversed.__new__") ⟨[.type "reversed", .ref r], []⟩) (wants (fun obj s₁ => obj = .ref s.heap.objs.size ∧ s₁ = { s with heap := s.heap.push { cls := .type "range_iterator", data := .fields #[rawInt (n - 1), rawInt n, rawInt (-1)] } }) E) s := code_reversed_range hr h0 hn ⟨rfl, rfl⟩
  have made := rv_made
  have mro := rv_mro
  have arg := rv_call (.ref r)
  have sub := sub_ri_reversed
  have mk : ((Manifest.find? "reversed").bind (·.mro.findSome? fun t => (Manifest.find? t).bind fun b => if b.noNew then some true else if b.attrs.any (·.1 == "__new__") then some false else none)).getD false = false := by decide +kernel
  have ty : (Value.type "reversed" == Value.type "type") = false := by decide +kernel
  refine wpAny_call (codeAny_of_tree (wpAny_pure ⟨Code.quiet_builtin _ (by decide +kernel), codeAny_builtin F.entry_type_call ?_⟩))
  rw [Around.under_plain (weight_type_call_type "reversed" [.ref r] []) rfl]
  repeat (any_goals (first | assumption | wp_step))
  refine codeAny_mono new fun x s₁ hx => ?_
  match x, hx with
  | .error _, hx => exact hx
  | .ok (.ret obj), hx =>
    obtain ⟨rfl, rfl⟩ := hx
    have hT : ({ s with heap := s.heap.push { cls := .type "range_iterator", data := .fields #[rawInt (n - 1), rawInt n, rawInt (-1)] } } : Shared).TypeIs (.ref s.heap.objs.size) "range_iterator" := ⟨_, Heap.get?_push_size _ rfl, rfl⟩
    repeat (any_goals (first | assumption | wp_step))
theorem ints_rev (n : Nat) : ((List.range n).map fun k => Item.one (.int ((n : Int) - 1 + (k : Nat) * (-1)))) = (intsFrom 0 n).reverse.map fun i => Item.one (.int i) := by
  unfold intsFrom
  rw [← List.map_reverse, List.map_map]
  apply List.ext_getElem
  · simp
  · intro i h1 h2
    simp at h1
    simp only [List.getElem_map, List.getElem_range, List.getElem_reverse, List.length_range, Function.comp]
    congr 2
    lia
theorem it_rev (hT : TabOk C T K) {g f : Str} {p p' pos pos' : Pos} {e : Expr} {pe : PE} (hg : isG env.kindOf g "reversed" = true) (hf : isG env.kindOf f "range" = true) (hs : isStar e = false) (he : EvOk C T K env e pe) :
    ItOk C T K env (.Call (.Name g p) [.Call (.Name f p') [e] [] pos'] [] pos) (.itRev pe) := by
  intro σ ρ H s A q X E F S hA h hE
  unfold isG at hg hf
  obtain ⟨hg1, hg2⟩ := Bool.and_eq_true_iff.mp hg
  obtain ⟨hf1, hf2⟩ := Bool.and_eq_true_iff.mp hf
  have hg1 := beq_iff_eq.mp hg1
  have hf1 := beq_iff_eq.mp hf1
  subst hg1 hf1
  have hs' : ∀ x ∈ [Expr.Call (.Name (Str.ofString "range") p') [e] [] pos'], isStar x = false := fun x hx => by simp at hx; subst hx; rfl
  show wpAny C.M A (do callWith pos (← eval (.Name (Str.ofString "reversed") p) env) [] (backTo pos (starEach [.Call (.Name (Str.ofString "range") p') [e] [] pos'] env)) []) _ E s
  refine wpAny_bind (global_ok F S (beq_iff_eq.mp hg2) hT.revd (by decide +kernel) ?_)
  refine callWith_any (any_false hs') (evalArgs_any hs' ?_)
  refine wpAny_items_cons (type_call1 (beq_iff_eq.mp hf2) hT.range (by decide +kernel) hs he F S hA h hE fun ρ1 H1 v1 u1 s1 st1 F1 S1 hv1 hq1 hE1 => ?_) rfl
  split at hq1
  · rename_i j
    obtain ⟨hj0, hj, hq1⟩ := hq1
    obtain ⟨tk, rfl⟩ := hv1
    unfold lid at hj
    refine call_range_1 (wpAny_items_nil ⟨.inr (.inl ⟨_, rfl⟩), ?_⟩)
    obtain ⟨S2, st2⟩ := S1.grow (h' := s1.heap.push { cls := .type "range", data := .fields #[.int 0 s1.toks, .int j tk, .int 1 (s1.toks + 1)] }) (tk := s1.toks + 1 + 1) get_push
    refine call_reversed_range (IsRange.new _ _ _ _ _ _ _) hj0 (by lia) ?_
    obtain ⟨S3, st3⟩ := S2.grow (h' := (s1.heap.push { cls := .type "range", data := .fields #[.int 0 s1.toks, .int j tk, .int 1 (s1.toks + 1)] }).push { cls := .type "range_iterator", data := .fields #[rawInt (j - 1), rawInt j, rawInt (-1)] }) (tk := s1.toks + 1 + 1) get_push
    have hget := Heap.get?_push_size (s1.heap.push { cls := .type "range", data := .fields #[.int 0 s1.toks, .int j tk, .int 1 (s1.toks + 1)] }) (o := { cls := .type "range_iterator", data := .fields #[rawInt (j - 1), rawInt j, rawInt (-1)] }) rfl
    refine wpAny_pyIter_rangeiter hget ?_
    have hi := itr_range (C := C) (A := A) hA.h (I := (s1.heap.push { cls := .type "range", data := .fields #[.int 0 s1.toks, .int j tk, .int 1 (s1.toks + 1)] }).objs.size) (a := (j.toNat : Int) - 1) (c := -1) (n := j.toNat) (ρ0 := ρ1)
    rw [ints_rev] at hi
    refine ⟨ρ1, H1, _, _, _, [_], _, rfl, hi, ?_, (st1.trans st2).trans st3, S3, fun b hb => ?_, hq1⟩
    · have hjn : ((j.toNat : Nat) : Int) = j := Int.toNat_of_nonneg hj0
      simpa [hjn] using hget
    · simp only [List.mem_singleton] at hb; subst hb
      exact ⟨none_before (st1.trans st2) (get_size _), fresh_new S2⟩
  · exact hq1.elim
end
end Mine
end
section
namespace Mine
open PySem PySem.Calls PyProof.Rows
section
variable {C : Cx} {env : Env} {A : Around} {E : Value → Shared → Prop}
theorem stored_iff {k : Kd} {x : Str} (h : stored k x = true) : k x = some .local ∨ k x = some .cell := by
  unfold stored at h
  rcases Bool.or_eq_true_iff.mp (Bool.and_eq_true_iff.mp h).1 with h | h
  · exact .inl (by simpa using h)
  · exact .inr (by simpa using h)
theorem stored_ne {k : Kd} {x : Str} (h : stored k x = true) : x ≠ dot0 := by
  unfold stored at h
  simpa using (Bool.and_eq_true_iff.mp h).2
theorem tgt_each : ∀ {elts : List Expr} {xs : List Str}, tgtNames elts = some xs → ∃ ps : List Pos, ps.length = xs.length ∧ (assignEach elts env).map (·.2) = (xs.zip ps).map (fun p u => assign (.Name p.1 p.2) env u) ∧ (assignEach elts env).findIdx? (·.1) = none ∧ (assignEach elts env).length = xs.length
  | [], _, h => by cases h; exact ⟨[], rfl, rfl, rfl, rfl⟩
  | e :: r, xs, h => by
    unfold tgtNames at h
    split at h
    · rename_i x p he
      cases asName_is he
      obtain ⟨ys, hr, rfl⟩ := Option.map_eq_some_iff.mp h
      obtain ⟨ps, h1, h2, h3, h5⟩ := tgt_each hr
      have e1 : assignEach (.Name x p :: r) env = (false, assign (.Name x p) env) :: assignEach r env := rfl
      refine ⟨p :: ps, congrArg (· + 1) h1, ?_, ?_, congrArg (· + 1) h5⟩
      · rw [e1, List.map_cons, List.zip_cons_cons, List.map_cons, h2]
      · rw [e1, List.findIdx?_cons, h3]; rfl
    · cases h
theorem stores_zip {Z : List Str} : ∀ (xs : List Str) (ps : List Pos) (vs : List V) (us : List Value) (σ : Sg) (ρ : List Addr) (H : AHeap) (s : Shared) (Q : Unit → Shared → Prop), ps.length = xs.length →
    xs.length = vs.length → All2 (VR C ρ) vs us → (∀ x ∈ xs, x ∈ Z) → (∀ x ∈ xs, stored env.kindOf x = true) → FR C env σ ρ s.heap → Sim C ρ H s →
    (∀ s', FR C env (σ.sets (xs.zip vs)) ρ s'.heap → Sim C ρ H s' → StepG (ownT env Z) ρ s ρ s' → Q () s') → wpAny C.M A (assignInOrder ((xs.zip ps).map fun p u => assign (.Name p.1 p.2) env u) us) Q E s
  | [], _, [], _, σ, ρ, H, s, Q, _, _, .nil, _, _, F, S, h => by rw [List.zip_nil_left]; exact wpAny_pure (h s F S (StepG.refl _ _))
  | x :: xs, p :: ps, v :: vs, _, σ, ρ, H, s, Q, hp, hl,   .cons (b := u) (bs := us) hv hr, hz, hk, F, S, h => by
    rw [List.zip_cons_cons, List.map_cons, assignInOrder]
    refine wpAny_bind (wpAny_holding (assign_Name (store_ok F S (hz x (.head _)) (stored_iff (hk x (.head _))) (stored_ne (hk x (.head _))) hv fun s1 F1 S1 st1 => ?_)))
    refine stores_zip xs ps vs us _ ρ H s1 Q (by simpa using hp) (by simpa using hl) hr (fun y hy => hz y (.tail _ hy)) (fun y hy => hk y (.tail _ hy)) F1 S1 fun s2 F2 S2 st2 => h s2 F2 S2 (st1.trans st2)
  | _ :: _, [], _, _, _, _, _, _, _, hp, _, _, _, _, _, _, _ => by simp at hp
  | [], _, _ :: _, _, _, _, _, _, _, _, hl, _, _, _, _, _, _ => by simp at hl
  | _ :: _, _, [], _, _, _, _, _, _, _, hl, _, _, _, _, _, _ => by simp at hl
theorem unpack_tuple {ρ : List Addr} {H : AHeap} {s : Shared} {t : Addr} {us : Array Value} {n m : Nat} {Q : List Value → Shared → Prop} (hA : HdOk C A) (S : Sim C ρ H s) (ho : s.heap.get? t = some ⟨.type "tuple", none, .seq us n, #[]⟩) (hm : m = us.size)
    (h : ∀ h', (∀ b o, s.heap.get? b = some o → h'.get? b = some o) → Q us.toList { s with heap := h' }) : wpAny C.M A (unpackItems (.ref t) m none) Q E s := by
  subst hm
  exact unpackItems_at (hA.at S) ⟨_, ho, rfl, n, rfl⟩ fun h' he => h h' fun b o e => he b o (Nat.ne_of_lt (Heap.lt_size e)) e
theorem assign_ok {t : Expr} {t' : Tgt} {x : Item} {u : Value} {σ σ' : Sg} {ρ : List Addr} {H : AHeap} {s : Shared} {h0 : Heap} {Q : Unit → Shared → Prop} (hA : HdOk C A) (ht : trT env.kindOf t = some t') (hb : bindA t' x H σ = some σ') (hx : IR C ρ h0 s.heap x u)
    (F : FR C env σ ρ s.heap) (S : Sim C ρ H s) (h : ∀ s', FR C env σ' ρ s'.heap → Sim C ρ H s' → StepG (ownT env t'.names) ρ s ρ s' → Q () s') : wpAny C.M A (assign t env u) Q E s := by
  cases x with
  | one v =>
    unfold trT at ht
    split at ht
    · rename_i y p e
      cases asName_is e
      split at ht
      · rename_i hk
        cases ht
        cases hb
        exact assign_Name (store_ok F S (Z := [y]) (.head _) (stored_iff hk) (stored_ne hk) hx h)
      · cases ht
    · split at ht
      · rename_i elts k p e
        cases asTup_is e
        split at ht
        · rename_i xs hxs
          split at ht
          · rename_i hk
            cases ht
            have hk1 : ∀ x ∈ xs, stored env.kindOf x = true := List.all_eq_true.mp (Bool.and_eq_true_iff.mp hk).1
            obtain ⟨ps, h1, h2, h3, h5⟩ := tgt_each (env := env) hxs
            rw [arm_assign_Tuple]
            refine wpAny_bind (wpAny_standAt ?_)
            unfold unpack
            rw [h2, h3, h5]
            unfold bindA at hb
            dsimp only at hb
            split at hb
            · rename_i n
              split at hb
              · rename_i vs e1
                split at hb
                · rename_i hl
                  cases hb
                  obtain ⟨a, rfl, ea, us, m, ho, hs, _⟩ := S.lookup e1 hx
                  have hz : xs.length = us.size := hl.trans (hs.length.trans Array.length_toList)
                  refine wpAny_bind (wpAny_holding (unpack_tuple hA S ho hz fun h' hk' => ?_))
                  obtain ⟨S1, st1⟩ := S.grow (h' := h') (tk := s.toks) hk'
                  exact stores_zip (Z := xs) xs ps vs us.toList σ ρ H _ Q h1 hl hs (fun _ h => h) hk1 (F.step st1) S1 fun s2 F2 S2 st2 => h s2 F2 S2 ((StepG.up st1).trans st2)
                · cases hb
              · cases hb
            · cases hb
          · cases ht
        · cases ht
      · cases ht
end
end Mine
end
section
namespace Mine
open PySem PySem.Calls PyProof.Rows
section
variable {C : Cx} {env : Env} {A : Around} {E : Value → Shared → Prop}
theorem FR.at {σ : Sg} {ρ : List Addr} {h h' : Heap} (F : FR C env σ ρ h) (k : ∀ b, own env b → ∀ o, h.get? b = some o → h'.get? b = some o) : FR C env σ ρ h' := by
  refine ⟨F.dot, F.kind, F.glob, F.bl, ?_, fun x c hc => ?_, F.has, F.nL, F.nC, F.apart, F.bL, F.bC⟩
  · obtain ⟨m, hn, hv⟩ := F.ns
    exact ⟨m, hn.at' fun o q => k _ (.inl rfl) o q, hv⟩
  · obtain ⟨ov, ⟨o, ho, hd⟩, hv⟩ := F.cells x c hc
    exact ⟨ov, ⟨o, k _ (.inr ⟨x, hc⟩) o ho, hd⟩, hv⟩
theorem FR.less {σ σ' : Sg} {ρ : List Addr} {h : Heap} (F : FR C env σ ρ h) (l : ∀ x v, σ' x = some v → σ x = some v) : FR C env σ' ρ h := by
  refine ⟨?_, F.kind, F.glob, F.bl, ?_, fun x c hc => ?_, F.has, F.nL, F.nC, F.apart, F.bL, F.bC⟩
  · cases e : σ' dot0 with
    | none => rfl
    | some v => have := l _ _ e; rw [F.dot] at this; cases this
  · obtain ⟨m, hn, hv⟩ := F.ns
    exact ⟨m, hn, fun x v h1 h2 => hv x v (l _ _ h1) h2⟩
  · obtain ⟨ov, hi, hv⟩ := F.cells x c hc
    exact ⟨ov, hi, fun v h1 h2 => hv v (l _ _ h1) h2⟩
theorem FR.alive {σ : Sg} {ρ : List Addr} {h : Heap} (F : FR C env σ ρ h) : ∀ b, own env b → ∃ o, h.get? b = some o
  | _, .inl e => by obtain ⟨m, ⟨o, es, ep, ho, _⟩, _⟩ := F.ns; exact ⟨o, e ▸ ho⟩
  | _, .inr ⟨x, e⟩ => by obtain ⟨ov, ⟨o, ho, _⟩, _⟩ := F.cells x _ e; exact ⟨o, ho⟩
theorem adrift {ex : Addr → Prop} {ρ ρ1 : List Addr} {H1 : AHeap} {s t : Shared} {W : Addr → Prop} {h' : Heap} {tk : Nat} (st : StepG ex ρ s ρ1 t) (S : Sim C ρ1 H1 t) (hW : ∀ b, W b → s.heap.get? b = none ∧ b ∉ ρ1 ∧ C.base.get? b = none)
    (k : ∀ b o, ¬ W b → t.heap.get? b = some o → h'.get? b = some o) (h0 : FrsOk C ρ s.heap) : StepG ex ρ s ρ1 { t with heap := h', toks := tk } ∧ Sim C ρ1 H1 { t with heap := h', toks := tk } := by
  refine ⟨⟨st.ext, fun b o hb hx e => (st.keep b o hb hx e).trans fun o' q => .inl (k b o' (fun w => ?_) q), fun b o e => ?_⟩, ⟨S.len, S.nodup, fun i a o e q => ?_, fun b o e => k b o (fun w => ?_) (S.stays b o e), S.fresh, S.sm, S.gens, S.os, fun env he => by
    obtain ⟨_, L, o, h2, _, _, h5, _⟩ := h0 env he
    obtain ⟨k1, L', o', k2, k3, k4, k5, k6⟩ := S.frs env he
    cases h2.symm.trans k2
    exact ⟨k1, L, o', k2, k3, k4, k _ _ (fun w => by rw [(hW L w).1] at h5; cases h5) k5, k6⟩⟩⟩
  · rw [(hW b w).1] at e; cases e
  · obtain ⟨o1, e1⟩ := st.live b o e
    exact ⟨o1, k b o1 (fun w => by rw [(hW b w).1] at e; cases e) e1⟩
  · exact (S.obj i a o e q).keep C [] (by simp) fun x hx => k a x (fun w => (hW a w).2.1 (List.mem_of_getElem? e)) hx
  · rw [(hW b w).2.2] at e; cases e
theorem Sim.adopt {ρ : List Addr} {H : AHeap} {t : Shared} {D : Addr} {o : AObj} (S : Sim C ρ H t) (hD : D ∉ ρ) (hb : C.base.get? D = none) (hsm : D ≠ sysModules) (ho : OR C ρ t.heap D o) (hnd : ∀ x, t.heap.get? D = some x → ¬ IsNs x) :
    Sim C (ρ ++ [D]) (H ++ [o]) t ∧ VR C (ρ ++ [D]) (.ref H.length) (.ref D) := by
  refine ⟨⟨by simp [S.len], ?_, fun i b x e q => ?_, S.stays, fun i b e hi => ?_, ?_, S.gens, S.os, S.frs.to C fun b o _ hb' hn e => ⟨fun hm => (List.mem_append.mp hm).elim hb' fun z => hnd o (by rw [← List.mem_singleton.mp z]; exact e) hn, o, e, hn⟩⟩, ⟨D, rfl, by rw [← S.len]; simp⟩⟩
  · rw [List.nodup_append]
    exact ⟨S.nodup, by simp, fun x hx y hy => by simp at hy; rw [hy]; exact fun q => hD (q ▸ hx)⟩
  · rcases Nat.lt_or_ge i ρ.length with hi | hi
    · rw [List.getElem?_append_left hi] at e
      rw [List.getElem?_append_left (S.len ▸ hi)] at q
      exact (S.obj i b x e q).keep C [D] rfl fun _ x => x
    · rw [List.getElem?_append_right hi] at e
      rw [List.getElem?_append_right (S.len ▸ hi)] at q
      rw [S.len] at e
      rcases Nat.eq_zero_or_pos (i - H.length) with z | z
      · rw [z] at e q
        simp at e q
        subst e q
        exact ho.keep C [D] rfl fun _ x => x
      · rw [List.getElem?_eq_none (by simp; lia)] at e; cases e
  · rcases Nat.lt_or_ge i ρ.length with hi' | hi'
    · rw [List.getElem?_append_left hi'] at e
      exact S.fresh i b e hi
    · rw [List.getElem?_append_right hi'] at e
      rcases Nat.eq_zero_or_pos (i - ρ.length) with z | z
      · rw [z] at e; simp at e; rw [← e]; exact hb
      · rw [List.getElem?_eq_none (by simp; lia)] at e; cases e
  · intro hq
    rcases List.mem_append.mp hq with hq | hq
    · exact S.sm hq
    · simp only [List.mem_singleton] at hq
      exact hsm hq.symm
theorem step_adopt {ρ ρ1 : List Addr} {s t : Shared} {D : Addr} (st : Step ρ s ρ1 t) (hD : s.heap.get? D = none) : Step ρ s (ρ1 ++ [D]) t := by
  obtain ⟨l, e, f⟩ := st.ext
  refine ⟨⟨l ++ [D], by rw [e, List.append_assoc], fun a ha => ?_⟩, st.keep, st.live⟩
  rcases List.mem_append.mp ha with ha | ha
  · exact f a ha
  · simp at ha; rw [ha]; exact hD
theorem base_none {ρ : List Addr} {H : AHeap} {s : Shared} (S : Sim C ρ H s) {b : Addr} (h : s.heap.get? b = none) : C.base.get? b = none := by
  cases e : C.base.get? b with
  | none => rfl
  | some o => rw [S.stays b o e] at h; cases h
theorem none_ρ {ρ : List Addr} {H : AHeap} {s : Shared} (S : Sim C ρ H s) {b : Addr} (h : s.heap.get? b = none) : b ∉ ρ := fun hm => by
  obtain ⟨i, hi, e⟩ := List.getElem_of_mem hm
  have hi' : i < H.length := by rw [← S.len]; exact hi
  obtain ⟨ob, q⟩ := (S.obj i b H[i] (by rw [List.getElem?_eq_getElem hi, e]) (List.getElem?_eq_getElem hi')).alive C
  rw [h] at q; cases q
theorem stay_out {ex : Addr → Prop} {ρ ρ1 : List Addr} {s t : Shared} (st : StepG ex ρ s ρ1 t) {b : Addr} {o : Obj} (h : s.heap.get? b = some o) (hb : b ∉ ρ) : b ∉ ρ1 := fun hm => by
  obtain ⟨l, e, f⟩ := st.ext
  rw [e] at hm
  rcases List.mem_append.mp hm with hm | hm
  · exact hb hm
  · rw [f b hm] at h; cases h
theorem closure_go (g : Str → Addr) : ∀ (names : List (Str × NameKind)) (acc : List (Str × Addr)), (∀ p ∈ names, p.2 = .free → env.cells.lookup p.1 = some (g p.1)) →
    (forIn names acc fun x r => match x with
      | (name, kind) => if (kind == NameKind.free) = true then do let c ← cellOf env name; pure (ForInStep.yield ((name, c) :: r)) else pure (ForInStep.yield r) : Sem (List (Str × Addr))) =
    pure (((names.filter fun p => p.2 == .free).map fun p => (p.1, g p.1)).reverse ++ acc)
  | [], acc, _ => rfl
  | (x, k) :: r, acc, h => by
    rw [List.forIn_cons]
    dsimp only
    by_cases hk : (k == NameKind.free) = true
    · have hc := h (x, k) (.head _) (by simpa using hk)
      have e1 : cellOf env x = pure (g x) := by unfold cellOf; rw [hc]
      rw [if_pos hk, e1]
      have ih := closure_go g r ((x, g x) :: acc) fun p hp => h p (.tail _ hp)
      simp only [List.filter_cons, hk, if_true, List.map_cons, List.reverse_cons, List.append_assoc, List.singleton_append]
      exact ih
    · rw [if_neg hk]
      have ih := closure_go g r acc fun p hp => h p (.tail _ hp)
      simp only [List.filter_cons, hk]
      exact ih
theorem closure_ok {sc : Scope} (hc : ∀ x, env.kindOf x = some .cell → ∃ c, env.cells.lookup x = some c) (hs : scOk sc env.kindOf = true) :
    ∃ cl, closureFor sc env = pure cl ∧ (∀ x c, cl.lookup x = some c → env.cells.lookup x = some c) ∧ (∀ x, (x, NameKind.free) ∈ sc.names → ∃ c, cl.lookup x = some c) := by
  have hs := (Bool.and_eq_true_iff.mp hs).2
  have hf : ∀ p ∈ sc.names, p.2 = .free → env.cells.lookup p.1 = some ((env.cells.lookup p.1).getD 0) := fun p hp hk => by
    have := List.all_eq_true.mp hs p hp
    rw [hk] at this
    dsimp only at this
    obtain ⟨c, hc'⟩ := hc p.1 (by simpa using this)
    rw [hc']; rfl
  refine ⟨((sc.names.filter fun p => p.2 == .free).map fun p => (p.1, (env.cells.lookup p.1).getD 0)).reverse ++ [], ?_, fun x c h => ?_, fun x h => ?_⟩
  · unfold closureFor
    have := closure_go (env := env) (fun x => (env.cells.lookup x).getD 0) sc.names [] hf
    simp only [this]
    rfl
  · have hm := mem_of_lookup h
    rw [List.append_nil, List.mem_reverse, List.mem_map] at hm
    obtain ⟨p, hp, e⟩ := hm
    obtain ⟨hp1, hp2⟩ := List.mem_filter.mp hp
    have := hf p hp1 (by simpa using hp2)
    cases e
    exact this
  · have hm : (x, (env.cells.lookup x).getD 0) ∈ ((sc.names.filter fun p => p.2 == .free).map fun p => (p.1, (env.cells.lookup p.1).getD 0)).reverse ++ [] := by
      rw [List.append_nil, List.mem_reverse, List.mem_map]
      exact ⟨(x, .free), List.mem_filter.mpr ⟨h, by rfl⟩, rfl⟩
    cases e : List.lookup x (((sc.names.filter fun (p : Str × NameKind) => p.2 == .free).map fun p => (p.1, (env.cells.lookup p.1).getD 0)).reverse ++ []) with
    | some c => exact ⟨c, rfl⟩
    | none =>
      exfalso
      rw [List.lookup_eq_none_iff] at e
      have := e _ hm
      simp at this
theorem inner_kind {sc : Scope} {cl : List (Str × Addr)} {L : Addr} (hf : env.scope.kind = .function) : (compEnvC sc cl L env).kindOf = inner sc env.kindOf := by
  funext x
  unfold Env.kindOf compEnvC relabel inner
  dsimp only
  rw [hf]
  congr 1
  refine List.map_congr_left fun p _ => ?_
  have : (NameKind.free == NameKind.free && (ScopeKind.function == ScopeKind.function)) = true := rfl
  simp only [beq_self_eq_true, Bool.and_true]
  rfl
theorem inner_cell {sc : Scope} (hs : scOk sc env.kindOf = true) {x : Str} (h : inner sc env.kindOf x = some .cell) : (x, NameKind.free) ∈ sc.names ∧ env.kindOf x = some .cell := by
  have hs := (Bool.and_eq_true_iff.mp hs).2
  unfold inner at h
  have hm := mem_of_lookup h
  obtain ⟨p, hp, e⟩ := List.mem_map.mp hm
  split at e
  · rename_i hc
    obtain ⟨h1, h2⟩ := Bool.and_eq_true_iff.mp hc
    cases e
    have h1 : p.2 = .free := by simpa using h1
    exact ⟨by rw [← h1]; exact hp, by simpa using h2⟩
  · have e1 : p = (x, NameKind.cell) := e
    subst e1
    have := List.all_eq_true.mp hs _ hp
    exact absurd this (by simp)
theorem inner_local {sc : Scope} (hs : scOk sc env.kindOf = true) {x : Str} (h : inner sc env.kindOf x = some .local) : (x, NameKind.local) ∈ sc.names := by
  unfold inner at h
  have hm := mem_of_lookup h
  obtain ⟨p, hp, e⟩ := List.mem_map.mp hm
  split at e
  · cases e
  · have e1 : p = (x, NameKind.local) := e
    exact e1 ▸ hp
theorem FR.comp {sc : Scope} {cl : List (Str × Addr)} {L : Addr} {σ σ0 : Sg} {ρ : List Addr} {h : Heap} {m : Str → Option Value} (F : FR C env σ ρ h) (hs : scOk sc env.kindOf = true) (h1 : ∀ x c, cl.lookup x = some c → env.cells.lookup x = some c)
    (h2 : ∀ x, (x, NameKind.free) ∈ sc.names → ∃ c, cl.lookup x = some c) (hl : h.Ns L m) (hL : L ∉ ρ) (hb : C.base.get? L = none) (hC : ∀ x, env.cells.lookup x ≠ some L) (l : ∀ x v, σ0 x = some v → σ x = some v ∧ (x, NameKind.local) ∉ sc.names) :
    FR C (compEnvC sc cl L env) σ0 ρ h := by
  have hk := inner_kind (sc := sc) (cl := cl) (L := L) F.kind
  refine ⟨?_, ?_, F.glob, F.bl, ⟨m, hl, fun x v e1 e2 => ?_⟩, fun x c hc => ?_, fun x hx => ?_, hL, fun x c hc => ⟨(F.nC x c (h1 x c hc)).1, fun q => ?_⟩, fun x y c hx hy => F.apart x y c (h1 _ _ hx) (h1 _ _ hy), hb, fun x c hc => F.bC x c (h1 _ _ hc)⟩
  · cases e : σ0 dot0 with
    | none => rfl
    | some v => have := (l _ _ e).1; rw [F.dot] at this; cases this
  · show sc.kind = .function
    simpa using (Bool.and_eq_true_iff.mp hs).1
  · rw [hk] at e2
    exact absurd (inner_local hs e2) (l _ _ e1).2
  · obtain ⟨ov, hi, hv⟩ := F.cells x c (h1 x c hc)
    refine ⟨ov, hi, fun v e1 e2 => hv v (l _ _ e1).1 ?_⟩
    rw [hk] at e2
    exact (inner_cell hs e2).2
  · rw [hk] at hx
    exact h2 x (inner_cell hs hx).1
  · exact hC x (by rw [h1 x c hc, q]; rfl)
end
end Mine
end
section
namespace Mine
open PySem PySem.Calls PyProof.Rows
section
variable {M : Model} {A : Around} {E : Value → Shared → Prop} {s : Shared}
structure NoteAt (L : Addr) (fs : List Addr) (e : Addr) (oe : Obj) (vs : Array Value) (h h' : Heap) : Prop where
  keep : ∀ b o, b ∉ fs → b ≠ e → vs[1]? ≠ some (.ref b) → h.get? b = some o → h'.get? b = some o
  frames : ∀ b o, b ∈ fs → h.get? b = some o → ∃ sl, h'.get? b = some { o with slots := sl }
  exc : ∃ t ot ts oe' vs', (h.get? t = none ∨ vs[1]? = some (.ref t)) ∧ h'.get? e = some oe' ∧ oe'.cls = oe.cls ∧ oe'.data = .fields vs' ∧ vs'[1]? = some (.ref t) ∧ vs'[2]? = vs[2]? ∧ h'.get? t = some ot ∧ ot.data = .fields ts ∧ ts[3]? = some (rawInt L) ∧ t ≠ e
  live : ∀ b o, h.get? b = some o → ∃ o', h'.get? b = some o'
theorem note_core {base : Heap} {env : Env} {outer : List Env} {L e : Addr} {oe : Obj} {vs : Array Value} {head : Value} {hadNext : Bool} {Q : Unit → Shared → Prop} (hfr : A.frames = some (env :: outer)) (hl : s.heap.FunFrames base (env :: outer)) (hf : env.frame = some L)
    (he : s.heap.get? e = some oe) (hd : oe.data = .fields vs) (hsz : 1 < vs.size)
    (h : ∀ h', NoteAt L ((env :: outer).filterMap (·.frame)) e oe vs s.heap h' → Q () { s with heap := h' }) :
    wpAny M A (do let a ← frameOf env; let pl ← entryPlaceOf L hadNext; let b ← EntryCells.newEntry head a .none (rawInt L) .none pl; setField (.ref e) 1 b) Q E s := by
  have hene : e ∉ (env :: outer).filterMap (·.frame) := fun hm => by
    obtain ⟨_, o, ho, hnf⟩ := hl.mem hm
    rw [he] at ho; injection ho with ho; subst ho; exact hnf vs hd
  refine wpAny_bind (wpAny_frameOf_fun hfr hl hf fun h₁ hs₁ => ?_)
  refine wpAny_bind (wpAny_entryPlaceOf fun pl hpl => ?_)
  unfold EntryCells.newEntry newFields
  refine wpAny_bind (wpAny_newObj_type ?_ (hpl.sizeOk5 _ _ _ _ _))
  have he₁ : h₁.get? e = some oe := (hs₁.2.1 e hene).trans he
  have he₂ := Heap.get?_push_of_some (h := h₁) { cls := .type "traceback", dict := none, data := .fields ([head, .ref L, .none, rawInt L, .none] ++ (if pl.isEmpty then List.replicate 6 Value.none else pl)).toArray } he₁
  refine wpAny_setField he₂ hd hsz (h _ ?_)
  have hTe : h₁.objs.size ≠ e := Nat.ne_of_gt (Heap.lt_size he₁)
  have hd₃ := Obj.data_mapFields hd (·.setIfInBounds 1 (Value.ref h₁.objs.size))
  have he₃ := Heap.get?_update_self (Obj.mapFields (·.setIfInBounds 1 (Value.ref h₁.objs.size))) he₂ (Obj.isFreed_of_fields hd₃)
  have hT₃ := (Heap.get?_update_other (h₁.push { cls := .type "traceback", dict := none, data := .fields ([head, .ref L, .none, rawInt L, .none] ++ (if pl.isEmpty then List.replicate 6 Value.none else pl)).toArray })
    (Obj.mapFields (·.setIfInBounds 1 (Value.ref h₁.objs.size))) (Ne.symm hTe)).trans (Heap.get?_push_size h₁ rfl)
  have keep : ∀ b o, b ≠ e → h₁.get? b = some o →
      ((h₁.push { cls := .type "traceback", dict := none, data := .fields ([head, .ref L, .none, rawInt L, .none] ++ (if pl.isEmpty then List.replicate 6 Value.none else pl)).toArray }).update e (Obj.mapFields (·.setIfInBounds 1 (Value.ref h₁.objs.size)))).get? b = some o := fun b o hbe hb => by
    rw [Heap.get?_update_other _ _ (Ne.symm hbe)]
    exact Heap.get?_push_of_some _ hb
  refine ⟨fun b o hb hbe _ hbo => keep b o hbe ((hs₁.2.1 b hb).trans hbo), fun b o hb hbo => ?_, ⟨h₁.objs.size, _, _, _, _, .inl ?_, he₃, Obj.cls_mapFields .., hd₃, by simp [hsz], Array.getElem?_setIfInBounds_ne (by decide), hT₃, rfl, ?_, hTe⟩, fun b o hbo => ?_⟩
  · obtain ⟨sl, hs⟩ := hs₁.2.2 b o hbo
    exact ⟨sl, keep b _ (fun q => hene (q ▸ hb)) hs⟩
  · cases q : s.heap.get? h₁.objs.size with
    | none => rfl
    | some o =>
      obtain ⟨sl, hs⟩ := hs₁.2.2 _ o q
      exact absurd (Heap.lt_size hs) (Nat.lt_irrefl _)
  · first | rfl | (simp; done) | (rcases hpl with rfl | ⟨_, _, _, _, _, _, _, rfl⟩ <;> simp)
  · by_cases q : b = e
    · rw [q]; exact ⟨_, he₃⟩
    · obtain ⟨sl, hs⟩ := hs₁.2.2 b o hbo
      exact ⟨_, keep b _ q hs⟩
theorem note_any {base : Heap} {env : Env} {outer : List Env} {L e : Addr} {oe : Obj} {vs : Array Value} {Q : Unit → Shared → Prop} (hfr : A.frames = some (env :: outer)) (hl : s.heap.FunFrames base (env :: outer)) (hf : env.frame = some L)
    (he : s.heap.get? e = some oe) (hd : oe.data = .fields vs) (h1 : vs[1]? = some .none ∨ ∃ t ot ts, vs[1]? = some (.ref t) ∧ t ≠ e ∧ s.heap.get? t = some ot ∧ ot.data = .fields ts ∧ (ts[3]? = some .none ∨ ts[3]? = some (rawInt L)))
    (h : ∀ h', NoteAt L ((env :: outer).filterMap (·.frame)) e oe vs s.heap h' → Q () { s with heap := h' }) : wpAny M A (noteFrame (.ref e) env) Q E s := by
  unfold noteFrame
  simp only [hf]
  rcases h1 with h1 | ⟨t, ot, ts, h1, hte, ht, hdt, h3⟩
  · refine wpAny_bind (wpAny_field he hd h1 ?_)
    rw [if_neg (by decide)]
    exact note_core hfr hl hf he hd (Array.getElem?_eq_some_iff.mp h1).1 h
  · refine wpAny_bind (wpAny_field he hd h1 ?_)
    rw [if_pos (show (Value.ref t != Value.none) = true from by simp)]
    rcases h3 with h3 | h3
    · refine wpAny_bind (wpAny_field ht hdt h3 ?_)
      rw [if_neg (show ¬ ((Value.none == rawInt L) = true) from by simp [rawInt])]
      refine wpAny_bind (wpAny_setField ht hdt (Array.getElem?_eq_some_iff.mp h3).1 ?_)
      have other : ∀ b, b ≠ t → (s.heap.update t (Obj.mapFields (·.setIfInBounds 3 Value.none))).get? b = s.heap.get? b := fun b hb => Heap.get?_update_other _ _ (Ne.symm hb)
      have noRecord : ∀ b o, s.heap.get? b = some o → (∀ vs, o.data ≠ .fields vs) → b ≠ t := fun b o hb hnf q => by
        rw [q, ht] at hb; injection hb with hb; subst hb; exact hnf ts hdt
      have ht' := Heap.get?_update_self (Obj.mapFields (·.setIfInBounds 3 Value.none)) ht (Obj.isFreed_of_fields (Obj.data_mapFields hdt _))
      refine note_core hfr (hl.of_keeps fun b o hb hnf => ⟨o, (other b (noRecord b o hb hnf)).trans hb, rfl⟩) hf ((other e (Ne.symm hte)).trans he) hd (Array.getElem?_eq_some_iff.mp h1).1 fun h' x => h h' ?_
      have live' : ∀ b o, s.heap.get? b = some o → ∃ o', (s.heap.update t (Obj.mapFields (·.setIfInBounds 3 Value.none))).get? b = some o' := fun b o hb => by
        by_cases q : b = t
        · rw [q]; exact ⟨_, ht'⟩
        · exact ⟨o, (other b q).trans hb⟩
      refine ⟨fun b o hb hbe hbt hbo => x.keep b o hb hbe hbt ((other b fun q => hbt (q ▸ h1)).trans hbo), fun b o hb hbo => ?_, ?_, fun b o hbo => ?_⟩
      · have hbt : b ≠ t := by
          obtain ⟨_, o', ho', hnf⟩ := hl.mem hb
          exact noRecord b o' ho' hnf
        exact x.frames b o hb ((other b hbt).trans hbo)
      · obtain ⟨u, ou, us, oe', vs', k1, k2⟩ := x.exc
        refine ⟨u, ou, us, oe', vs', k1.imp (fun k1 => ?_) id, k2⟩
        cases q : s.heap.get? u with
        | none => rfl
        | some o => obtain ⟨o', q'⟩ := live' u o q; rw [k1] at q'; cases q'
      · obtain ⟨o', q⟩ := live' b o hbo
        exact x.live b o' q
    · refine wpAny_bind (wpAny_field ht hdt h3 ?_)
      rw [if_pos (show (rawInt L == rawInt L) = true from by first | (simp; done) | exact beq_self_eq_true _)]
      refine wpAny_pure (h s.heap ⟨fun _ _ _ _ _ q => q, fun _ o _ q => ⟨o.slots, q⟩, ⟨t, ot, ts, oe, vs, .inr h1, he, rfl, hd, h1, rfl, ht, hdt, h3, hte⟩, fun _ o q => ⟨o, q⟩⟩)
theorem flight_set {e t : Addr} {oe ot : Obj} {vs ts : Array Value} {fr : Option Addr} {v : Value} {Q : Unit → Shared → Prop} (he : s.heap.get? e = some oe) (hd : oe.data = .fields vs) (h1 : vs[1]? = some (.ref t))
    (ht : s.heap.get? t = some ot) (hdt : ot.data = .fields ts) (h3 : ts[3]? = some v)
    (h : ∀ h' ot' ts', (∀ b o, b ≠ t → s.heap.get? b = some o → h'.get? b = some o) → h'.get? t = some ot' → ot'.data = .fields ts' → ts'[3]? = some (fr.elim .none fun f => rawInt f) → Q () { s with heap := h' }) : wpAny M A (setFlight (.ref e) fr) Q E s := by
  have hsz : 3 < ts.size := (Array.getElem?_eq_some_iff.mp h3).1
  unfold setFlight
  refine wpAny_bind (wpAny_field he hd h1 ?_)
  rw [if_pos (show (Value.ref t != Value.none) = true from by simp)]
  exact wpAny_setField ht hdt hsz (h _ _ _ (fun b o hb q => (Heap.get?_update_other _ _ (Ne.symm hb)).trans q) (Heap.get?_update_self _ ht (Obj.isFreed_of_fields (Obj.data_mapFields hdt _))) (Obj.data_mapFields hdt _) (by simp [hsz]))
end
end Mine
end
section
namespace Mine
open PySem PySem.Calls PyProof.Rows
section
variable {C : Cx}
theorem FrsOk.funs {ρ : List Addr} {h : Heap} (x : FrsOk C ρ h) : h.FunFrames C.base C.frs := by
  have go : ∀ l : List Env, (∀ env ∈ l, env ∈ C.frs) → h.FunFrames C.base l := by
    intro l
    induction l with
    | nil => intro _; trivial
    | cons env r ih =>
      intro hl
      obtain ⟨h1, L, o, h2, h3, h4, h5, es, ep, h6⟩ := x env (hl env (.head _))
      exact ⟨h1, ⟨L, o, h2, h3, h5, fun vs q => by rw [h6] at q; cases q⟩, ih fun e he => hl e (.tail _ he)⟩
  exact go C.frs fun _ h => h
theorem FrsOk.mem {ρ : List Addr} {h : Heap} (x : FrsOk C ρ h) {b : Addr} (hb : b ∈ C.frs.filterMap (·.frame)) : C.base.get? b = none ∧ b ∉ ρ ∧ ∃ o, h.get? b = some o ∧ IsNs o := by
  obtain ⟨env, he, hf⟩ := List.mem_filterMap.mp hb
  obtain ⟨_, L, o, h2, h3, h4, h5, h6⟩ := x env he
  rw [h2] at hf; cases hf
  exact ⟨h3, h4, o, h5, h6⟩
theorem Sim.left {ρ : List Addr} {H : AHeap} {s : Shared} (S : Sim C ρ H s) {h' : Heap} {tk : Nat} {W : Addr → Prop} (hW : ∀ b, W b → b ∉ ρ ∧ C.base.get? b = none ∧ ∀ o, s.heap.get? b = some o → ¬ IsNs o)
    (k : ∀ b o, ¬ W b → s.heap.get? b = some o → h'.get? b = some o ∨ (b ∉ ρ ∧ C.base.get? b = none ∧ IsNs o ∧ ∃ sl, h'.get? b = some { o with slots := sl })) : Sim C ρ H { s with heap := h', toks := tk } :=
  ⟨S.len, S.nodup, fun i a o e q => (S.obj i a o e q).keep C [] (by simp) fun o x => (k a o (fun z => (hW a z).1 (List.mem_of_getElem? e)) x).elim id fun z => (z.1 (List.mem_of_getElem? e)).elim,
   fun b o e => (k b o (fun z => by rw [(hW b z).2.1] at e; cases e) (S.stays b o e)).elim id (fun z => by rw [z.2.1] at e; cases e), S.fresh, S.sm, S.gens, S.os,
   S.frs.to C fun b o hb hr hn e => ⟨hr, by
    rcases k b o (fun z => (hW b z).2.2 o e hn) e with q | ⟨_, _, _, sl, q⟩
    · exact ⟨o, q, hn⟩
    · exact ⟨_, q, hn⟩⟩⟩
noncomputable def XN (C : Cx) (ρ : List Addr) (c : Str) (a : Addr) (v : Value) (s₀ s : Shared) : Prop := ∃ k o vs t ot ts, C.G c = some (.ref k) ∧ a ∉ ρ ∧ C.base.get? a = none ∧ s₀.heap.get? a = none ∧ s.heap.get? a = some o ∧ o.cls = .ref k ∧ o.data = .fields vs ∧ vs[2]? = some .none ∧
  vs[1]? = some (.ref t) ∧ t ∉ ρ ∧ C.base.get? t = none ∧ s₀.heap.get? t = none ∧ t ≠ a ∧ s.heap.get? t = some ot ∧ ot.data = .fields ts ∧ ts[3]? = some v
theorem XN.xr {ρ : List Addr} {c : Str} {a : Addr} {v : Value} {s₀ s : Shared} (x : XN C ρ c a v s₀ s) (h : v = .none ∨ ∃ L, headFr C = some L ∧ v = rawInt L) : XR C ρ c (.ref a) s₀ s := by
  obtain ⟨k, o, vs, t, ot, ts, x1, x2, x3, x4, x5, x6, x7, x8, x9, x10, x11, x12, x13, x14, x15, x16⟩ := x
  refine ⟨a, k, o, vs, rfl, x1, x2, x3, x4, x5, x6, x7, x8, .inr ⟨t, ot, ts, x9, x10, x11, x12, x13, x14, x15, ?_⟩⟩
  rcases h with rfl | ⟨L, hL, rfl⟩
  · exact .inl x16
  · exact .inr ⟨L, hL, x16⟩
theorem note_step {M : Model} {A : Around} {E : Value → Shared → Prop} {ex : Addr → Prop} {ρ ρ1 : List Addr} {H1 : AHeap} {s s1 : Shared} {c : Str} {e : Value} {env : Env} {fs : List Env} {L : Addr} {Q : Unit → Shared → Prop} (st1 : StepG ex ρ s ρ1 s1) (S1 : Sim C ρ1 H1 s1) (x : XR C ρ1 c e s s1)
    (hfs : C.frs = env :: fs) (hf : env.frame = some L) (hA : A.frames = some C.frs)
    (h : ∀ a h', e = .ref a → Sim C ρ1 H1 { s1 with heap := h' } → StepG ex ρ s ρ1 { s1 with heap := h' } → XN C ρ1 c a (rawInt L) s { s1 with heap := h' } → (∀ b o, (∀ ws, o.data ≠ .fields ws) → s1.heap.get? b = some o → Same o (h'.get? b)) → Q () { s1 with heap := h' }) : wpAny M A (noteFrame e env) Q E s1 := by
  obtain ⟨a, kk, o, vs, rfl, hG, ha1, ha2, ha3, ho, hcl, hdt, h2, h1⟩ := x.ex
  have hH : headFr C = some L := by unfold headFr; rw [hfs]; exact hf
  have hff := S1.frs.funs
  rw [hfs] at hff
  refine note_any (base := C.base) (env := env) (outer := fs) (hA.trans (by rw [hfs])) hff hf ho hdt (h1.imp id fun ⟨t, ot, ts, z1, _, _, _, z2, z3, z4, z5⟩ => ⟨t, ot, ts, z1, z2, z3, z4, z5.imp id fun ⟨L', y1, y2⟩ => by rw [hH] at y1; cases y1; exact y2⟩) fun h' hL => ?_
  rw [← hfs] at hL
  have old : ∀ b, vs[1]? = some (.ref b) → b ∉ ρ1 ∧ C.base.get? b = none ∧ s.heap.get? b = none ∧ ∀ ob, s1.heap.get? b = some ob → ¬ IsNs ob := fun b hb => by
    rcases h1 with h1 | ⟨t, ot, ts, z1, z2, z3, z4, _, z5, z6, _⟩
    · rw [h1] at hb; cases hb
    · rw [z1] at hb; cases hb
      exact ⟨z2, z3, z4, fun ob hob => by rw [z5] at hob; cases hob; exact fun ⟨_, _, q⟩ => by rw [z6] at q; cases q⟩
  have tri : ∀ b ob, ¬ (b = a ∨ vs[1]? = some (.ref b)) → s1.heap.get? b = some ob → h'.get? b = some ob ∨ (b ∉ ρ1 ∧ C.base.get? b = none ∧ IsNs ob ∧ ∃ sl, h'.get? b = some { ob with slots := sl }) := fun b ob hW hb => by
    by_cases hf : b ∈ C.frs.filterMap (·.frame)
    · obtain ⟨f1, f2, o', f3, f4⟩ := S1.frs.mem hf
      rw [hb] at f3; cases f3
      exact .inr ⟨f2, f1, f4, hL.frames b ob hf hb⟩
    · exact .inl (hL.keep b ob hf (fun q => hW (.inl q)) (fun q => hW (.inr q)) hb)
  obtain ⟨t, ot, ts, oe', vs', k1, k2, k3, k4, k5, k6, k7, k8, k9, k10⟩ := hL.exc
  have kt : t ∉ ρ1 ∧ C.base.get? t = none ∧ s.heap.get? t = none := by
    rcases k1 with k1 | k1
    · refine ⟨none_ρ S1 k1, base_none S1 k1, ?_⟩
      cases q : s.heap.get? t with
      | none => rfl
      | some o => obtain ⟨o', q'⟩ := st1.live t o q; rw [k1] at q'; cases q'
    · exact ⟨(old t k1).1, (old t k1).2.1, (old t k1).2.2.1⟩
  refine h a h' rfl (S1.left (tk := s1.toks) (W := fun b => b = a ∨ vs[1]? = some (.ref b)) (fun b hb => ?_) tri) ⟨st1.ext, fun b ob hb hx e => ?_, fun b ob e => ?_⟩ ⟨kk, oe', vs', t, ot, ts, hG, ha1, ha2, ha3, k2, k3.trans hcl, k4, k6.trans h2, k5, kt.1, kt.2.1, kt.2.2, k10, k7, k8, k9⟩ fun b ob hnf hb => ?_
  · rcases hb with rfl | hb
    · exact ⟨ha1, ha2, fun ob hob => by rw [ho] at hob; cases hob; exact fun ⟨_, _, q⟩ => by rw [hdt] at q; cases q⟩
    · obtain ⟨z1, z2, _, z4⟩ := old b hb
      exact ⟨z1, z2, z4⟩
  · refine (st1.keep b ob hb hx e).trans fun o' q => ?_
    rcases tri b o' (fun z => by
      rcases z with rfl | z
      · rw [ha3] at e; cases e
      · rw [(old b z).2.2.1] at e; cases e) q with z | ⟨_, _, z1, z2⟩
    · exact .inl z
    · exact .inr ⟨z1, z2⟩
  · obtain ⟨o', q⟩ := st1.live b ob e
    exact hL.live b o' q
  · rcases tri b ob (fun z => by
      rcases z with rfl | z
      · rw [ho] at hb; cases hb; exact hnf _ hdt
      · rcases h1 with h1 | ⟨t, ot, ts, z1, _, _, _, _, z5, z6, _⟩
        · rw [h1] at z; cases z
        · rw [z1] at z; cases z; rw [z5] at hb; cases hb; exact hnf _ z6) hb with z | ⟨_, _, z1, z2⟩
    · exact .inl z
    · exact .inr ⟨z1, z2⟩
theorem flight_step {M : Model} {A : Around} {E : Value → Shared → Prop} {ex : Addr → Prop} {ρ ρ1 : List Addr} {H1 : AHeap} {s s1 : Shared} {c : Str} {a : Addr} {v : Value} {fr : Option Addr} {Q : Unit → Shared → Prop} (st1 : StepG ex ρ s ρ1 s1) (S1 : Sim C ρ1 H1 s1) (x : XN C ρ1 c a v s s1)
    (h : ∀ h', Sim C ρ1 H1 { s1 with heap := h' } → StepG ex ρ s ρ1 { s1 with heap := h' } → XN C ρ1 c a (fr.elim .none fun f => rawInt f) s { s1 with heap := h' } → (∀ b o, (∀ ws, o.data ≠ .fields ws) → s1.heap.get? b = some o → Same o (h'.get? b)) → Q () { s1 with heap := h' }) : wpAny M A (setFlight (.ref a) fr) Q E s1 := by
  obtain ⟨k, o, vs, t, ot, ts, x1, x2, x3, x4, x5, x6, x7, x8, x9, x10, x11, x12, x13, x14, x15, x16⟩ := x
  refine flight_set x5 x7 x9 x14 x15 x16 fun h' ot' ts' hk ht hd h3 => h h' (S1.left (tk := s1.toks) (W := fun b => b = t) (fun b hb => ?_) fun b o hb e => .inl (hk b o hb e)) ⟨st1.ext, fun b o hb hx e => ?_, fun b o e => ?_⟩ ⟨k, o, vs, t, ot', ts', x1, x2, x3, x4, hk a o (Ne.symm x13) x5, x6, x7, x8, x9, x10, x11, x12, x13, ht, hd, h3⟩ fun b o hnf hb => .inl (hk b o (fun z => by rw [z, x14] at hb; cases hb; exact hnf _ x15) hb)
  · subst hb
    exact ⟨x10, x11, fun o e => by rw [x14] at e; cases e; exact fun ⟨_, _, q⟩ => by rw [x15] at q; cases q⟩
  · exact (st1.keep b o hb hx e).trans fun o' q => .inl (hk b o' (fun z => by rw [z, x12] at e; cases e) q)
  · obtain ⟨o', q⟩ := st1.live b o e
    by_cases z : b = t
    · subst z; exact ⟨_, ht⟩
    · exact ⟨o', hk b o' z q⟩
theorem FR.flies {env : Env} {σ : Sg} {ρ : List Addr} {h h' : Heap} (F : FR C env σ ρ h) (k : ∀ b o, (∀ ws, o.data ≠ .fields ws) → h.get? b = some o → Same o (h'.get? b)) : FR C env σ ρ h' := by
  refine ⟨F.dot, F.kind, F.glob, F.bl, ?_, fun x c hc => ?_, F.has, F.nL, F.nC, F.apart, F.bL, F.bC⟩
  · obtain ⟨m, hn, hv⟩ := F.ns
    obtain ⟨ob, es, ep, ho, hd, _⟩ := id hn
    exact ⟨m, Same.ns hn fun o q => k _ o (fun ws z => by rw [ho] at q; cases q; rw [hd] at z; cases z) q, hv⟩
  · obtain ⟨ov, ⟨ob, ho, hd⟩, hv⟩ := F.cells x c hc
    exact ⟨ov, Same.cell ⟨ob, ho, hd⟩ fun o q => k _ o (fun ws z => by rw [ho] at q; cases q; rw [hd] at z; cases z) q, hv⟩
theorem FR.bare {env : Env} {σ : Sg} {ρ : List Addr} {h : Heap} (F : FR C env σ ρ h) : FR C env (fun _ => none) ρ h := by
  refine ⟨rfl, F.kind, F.glob, F.bl, ?_, fun x c hc => ?_, F.has, F.nL, F.nC, F.apart, F.bL, F.bC⟩
  · obtain ⟨m, hn, _⟩ := F.ns
    exact ⟨m, hn, fun y w q => by cases q⟩
  · obtain ⟨ov, hi, _⟩ := F.cells x c hc
    exact ⟨ov, hi, fun w q => by cases q⟩
theorem FR.frs {env : Env} {σ : Sg} {ρ : List Addr} {h : Heap} (F : FR C env σ ρ h) (fs : List Env) : FR (C.at fs) env σ ρ h := ⟨F.dot, F.kind, F.glob, F.bl, F.ns, F.cells, F.has, F.nL, F.nC, F.apart, F.bL, F.bC⟩
theorem Sim.pop {ρ : List Addr} {H : AHeap} {s : Shared} {fs : List Env} (S : Sim (C.at fs) ρ H s) (h : ∀ env ∈ C.frs, env ∈ fs) : Sim C ρ H s := ⟨S.len, S.nodup, S.obj, S.stays, S.fresh, S.sm, S.gens, S.os, fun env he => S.frs env (h env he)⟩
end
end Mine
end
section
namespace Mine
open PySem PySem.Calls PyProof.Rows
section
variable {prog : Program} {w : World} {A : Around} {R : Result → Shared → Prop} {s : Shared}
theorem compLoop_any {elt target iter : Expr} {ifs : List Expr} {scope : Scope} {pos : Pos} {it acc : Value} {env : Env} (I : Nat → Shared → Prop)
    (turn : ∀ n s, I n s → wpAny (model prog w) A (pyNext it) (fun r s₁ => match r with
      | none => R (.ok .next) s₁
      | some v => wpAny (model prog w) A (letOwnedTupleGo target it v) (fun _ s₁' => wpAny (model prog w) A (assign target env v) (fun _ s₂ =>
          wpAny (model prog w) A (forIn ifs true fun c r => if r = true then do let ok ← isTrue c env (eval c env); pure (ForInStep.yield ok) else pure (ForInStep.yield r)) (fun ok s₃ =>
            if ok = true then wpAny (model prog w) A (eval elt env) (fun x s₄ =>
              wpAny (model prog w) A (call (.builtin "list.append") [acc, x]) (fun _ s₅ => ∃ m, m < n ∧ I m s₅) (notedBy (model prog w) A env fun e s' => R (.error e) s') s₄) (notedBy (model prog w) A env fun e s' => R (.error e) s') s₃
            else ∃ m, m < n ∧ I m s₃) (notedBy (model prog w) A env fun e s' => R (.error e) s') s₂) (notedBy (model prog w) A env fun e s' => R (.error e) s') s₁')
             (notedBy (model prog w) A env fun e s' => R (.error e) s') s₁) (notedBy (model prog w) A env fun e s' => R (.error e) s') s)
    (n : Nat) (h : I n s) :
    codeAny (model prog w) A (.compLoop (.ListComp elt [⟨target, iter, ifs, 0⟩] scope pos) 0 it acc env) R s := by
  refine codeAny_loop rfl I (fun n s hI => ?_) n h
  show wpAny _ A ((compTurn (.ListComp elt [⟨target, iter, ifs, 0⟩] scope pos) 0 it acc env).onRaise (fun x => do noteFrame x env; theTreesLotGoes x)) _ _ s
  refine wpAny_noted ?_
  rw [compTurn_list]
  refine wpAny_bind (wpAny_standAt (wpAny_bind (wpAny_mono (turn n s hI) (fun r s₁ h₁ => ?_) fun _ _ h' => h')))
  cases r with
  | none => exact wpAny_pure h₁
  | some v =>
    refine wpAny_bind (wpAny_mono h₁ (fun _ s₁' h₁' => ?_) fun _ _ h' => h')
    refine wpAny_bind (wpAny_mono h₁' (fun _ s₂ h₂ => wpAny_bind (wpAny_mono h₂ (fun ok s₃ h₃ => ?_) fun _ _ h' => h')) fun _ _ h' => h')
    cases ok with
    | false => exact wpAny_pure ⟨rfl, h₃⟩
    | true =>
      exact wpAny_bind (wpAny_bind (wpAny_mono h₃ (fun x s₄ h₄ => wpAny_bind (wpAny_mono h₄ (fun _ s₅ h₅ => wpAny_pure (wpAny_pure ⟨rfl, h₅⟩)) fun _ _ h' => h')) fun _ _ h' => h'))
end
noncomputable def Sg.less (σ : Sg) (xs : List Str) : Sg := fun y => if y ∈ xs then none else σ y
theorem sets_off : ∀ (ps : List (Str × V)) (σ τ : Sg) (y : Str), (y ∈ ps.map (·.1) ∨ σ y = τ y) → σ.sets ps y = τ.sets ps y
  | [], σ, τ, y, h => by
    rcases h with h | h
    · cases h
    · exact h
  | (x, v) :: r, σ, τ, y, h => by
    unfold Sg.sets
    refine sets_off r _ _ y ?_
    by_cases e : y = x
    · right; unfold Sg.set; rw [if_pos e, if_pos e]
    · rcases h with h | h
      · left
        rw [List.map_cons] at h
        cases h with
        | head => exact absurd rfl e
        | tail _ h => exact h
      · right; unfold Sg.set; rw [if_neg e, if_neg e]; exact h
theorem sets_out : ∀ (ps : List (Str × V)) (σ : Sg) (y : Str), y ∉ ps.map (·.1) → σ.sets ps y = σ y
  | [], _, _, _ => rfl
  | (x, v) :: r, σ, y, h => by
    unfold Sg.sets
    rw [sets_out r _ y fun q => h (.tail _ q)]
    unfold Sg.set
    exact if_neg fun (q : y = x) => h (by rw [q, List.map_cons]; exact .head _)
theorem map_fst_zip {xs : List Str} {vs : List V} (h : xs.length = vs.length) : (xs.zip vs).map (·.1) = xs := by
  rw [List.map_fst_zip]; lia
theorem sets_less {xs : List Str} {vs : List V} {σ : Sg} (h : xs.length = vs.length) : (σ.less xs).sets (xs.zip vs) = σ.sets (xs.zip vs) := by
  funext y
  refine sets_off _ _ _ y ?_
  rw [map_fst_zip h]
  by_cases hy : y ∈ xs
  · exact .inl hy
  · right; unfold Sg.less; rw [if_neg hy]
theorem bindA_sets {t : Tgt} {x : Item} {H : AHeap} {σ σ' : Sg} (h : bindA t x H σ = some σ') : ∃ vs : List V, t.names.length = vs.length ∧ σ' = σ.sets (t.names.zip vs) ∧ ∀ τ, bindA t x H τ = some (τ.sets (t.names.zip vs)) := by
  cases x with
  | one v =>
    cases t with
    | name y => cases h; exact ⟨[v], rfl, rfl, fun τ => rfl⟩
    | tup ys =>
      unfold bindA at h
      dsimp only at h
      split at h
      · split at h
        · rename_i vs e
          split at h
          · rename_i hl
            cases h
            exact ⟨vs, hl, rfl, fun τ => by unfold bindA; dsimp only; rw [e]; dsimp only; rw [if_pos hl]; rfl⟩
          · cases h
        · cases h
      · cases h
theorem fits {k : Kd} {target : Expr} {t : Tgt} {x : Item} {H : AHeap} {σ σ' : Sg} (ht : trT k target = some t) (h : bindA t x H σ = some σ') : tgtFits target x := by
  cases x
  unfold trT at ht
  split at ht
  · rename_i e; cases asName_is e; trivial
  · split at ht
    · rename_i e; cases asTup_is e; trivial
    · cases ht
noncomputable def TsOk (C : Cx) (K : Nat) (env : Env) (ifs : List Expr) (test : Sg → AHeap → (Bool → AHeap → Prop) → Prop) : Prop := ∀ {σ : Sg} {ρ : List Addr} {H : AHeap} {s : Shared} {A : Around} {q : Bool → AHeap → Prop} {E : Value → Shared → Prop},
  FR C env σ ρ s.heap → Sim C ρ H s → AOk C K A → test σ H q →
    wpAny C.M A (forIn ifs true fun c r => if r = true then do let ok ← isTrue c env (eval c env); pure (ForInStep.yield ok) else pure (ForInStep.yield r)) (PB C ρ s q) E s
noncomputable def LtOk (C : Cx) (K : Nat) (env : Env) (e : Expr) (el : Sg → AHeap → VPost → Prop) : Prop := ∀ {σ : Sg} {ρ : List Addr} {H : AHeap} {s : Shared} {A : Around} {Q : VPost} {E : Value → Shared → Prop},
  FR C env σ ρ s.heap → Sim C ρ H s → AOk C K A → el σ H Q → wpAny C.M A (eval e env) (PV C ρ s Q) E s
section
variable {C : Cx} {T : Tab} {K : Nat} {env : Env} {A : Around} {E : Value → Shared → Prop}
theorem plain_same {h h' : Heap} {a : Addr} {us : Array Value} (x : Heap.PlainList h a us) (k : ∀ o, h.get? a = some o → Same o (h'.get? a)) : Heap.PlainList h' a us := by
  obtain ⟨n, e⟩ := x
  exact ⟨n, (k _ e).eq fun ⟨_, _, q⟩ => nomatch q⟩
theorem comp_walk {elt iter target : Expr} {ifs : List Expr} {sc : Scope} {pos : Pos} {t' : Tgt} {items : List Item} {Kp : AHeap → Prop} {I : Addr} {wr : List Addr} {St : Nat → Heap → Prop} {ρ ρ0 : List Addr} {H H0 : AHeap} {s s2 : Shared} {σ : Sg}
    {test : Sg → AHeap → (Bool → AHeap → Prop) → Prop} {el : Sg → AHeap → VPost → Prop} {Q : List V → AHeap → Prop} {RR : Value → Addr → Result → Shared → Prop} {cl : List (Str × Addr)}
    (hA : AOk C K A) (F : FR C env σ ρ s.heap) (S : Sim C ρ H s) (hs : scOk sc env.kindOf = true) (ho : onlyHere sc t' = true) (htr : trT (inner sc env.kindOf) target = some t')
    (h1 : ∀ x c, cl.lookup x = some c → env.cells.lookup x = some c) (h2 : ∀ x, (x, NameKind.free) ∈ sc.names → ∃ c, cl.lookup x = some c)
    (hI : Itr C A ρ0 items Kp I wr St) (hst : St 0 s2.heap) (st : Step ρ s ρ0 s2) (S2 : Sim C ρ0 H0 s2) (hw : ∀ b ∈ wr, s.heap.get? b = none ∧ b ∉ ρ0)
    (hgo : compGo Kp (fun x H' => bindA t' x H' σ) test el Q items [] H0) (hlen : items.length ≤ lid)
    (hts : ∀ cenv : Env, cenv.kindOf = inner sc env.kindOf → TsOk C K cenv ifs test) (hel : ∀ cenv : Env, cenv.kindOf = inner sc env.kindOf → LtOk C K cenv elt el)
    (hRR : ∀ D Cc ρ1 H1 acc t m, Step ρ s (ρ1 ++ [D]) t → Sim C (ρ1 ++ [D]) (H1 ++ [.list acc]) t → VR C (ρ1 ++ [D]) (.ref H1.length) (.ref D) → Q acc H1 → t.heap.Ns Cc m → Cc ∉ ρ1 ++ [D] → s.heap.get? Cc = none → RR (.ref D) Cc (.ok .next) t) :
    wpAny C.M A (newList []) (fun acc s₃ => wpAny C.M A (newFunctionEnv sc env.globals cl [] env.qual none .none (some env)) (fun cenv s₄ =>
      codeAny C.M A (.compStart (.ListComp elt [⟨target, iter, ifs, 0⟩] sc pos) 0 (.ref I) acc { cenv with scope := relabel sc env }) (RR acc cenv.locals) s₄) E s₃) E s2 := by
  have hkind : sc.kind = .function := by simpa using (Bool.and_eq_true_iff.mp hs).1
  have hcell : ∀ x ∈ sc.names, x.2 ≠ .cell := fun x hx e => by
    have := List.all_eq_true.mp (Bool.and_eq_true_iff.mp hs).2 x hx
    rw [e] at this; cases this
  refine wpAny_newObj_type (wpAny_newFunctionEnv hcell (by intro y hy; simp at hy) (fun h₁ hns₁ hsb₁ => ?_) hkind)
  dsimp only at hns₁ hsb₁ ⊢
  generalize hH2 : s2.heap.push { cls := .type "list", dict := none, data := .seq ([] : List Value).toArray } = H2 at hns₁ hsb₁ ⊢
  have hC : H2.objs.size = s2.heap.objs.size + 1 := by rw [← hH2, Heap.size_push]
  have hDC : s2.heap.objs.size ≠ H2.objs.size := by rw [hC]; exact Nat.ne_of_lt (Nat.lt_succ_self _)
  have below : ∀ b, b < s2.heap.objs.size → b ≠ H2.objs.size := fun b hb => by rw [hC]; exact Nat.ne_of_lt (Nat.lt_succ_of_lt hb)
  have old : ∀ b o, s2.heap.get? b = some o → h₁.get? b = some o := fun b o e => hsb₁.extBut b o (below b (Heap.lt_size e)) (Heap.get?_push_of_some _ (hH2 ▸ Heap.get?_push_of_some _ e))
  have hacc : h₁.PlainList s2.heap.objs.size #[] := ⟨_, hsb₁.extBut _ _ hDC (Heap.get?_push_of_some _ (hH2 ▸ Heap.get?_push_size _ rfl))⟩
  have hDn : s2.heap.get? s2.heap.objs.size = none := get_size _
  have hCn : s2.heap.get? H2.objs.size = none := by
    cases e : s2.heap.get? H2.objs.size with
    | none => rfl
    | some o => exact absurd rfl (below _ (Heap.lt_size e))
  have back : ∀ b, s2.heap.get? b = none → s.heap.get? b = none := fun b hb => by
    cases e : s.heap.get? b with
    | none => rfl
    | some o => obtain ⟨o', e'⟩ := st.live b o e; rw [hb] at e'; cases e'
  have hDsm : s2.heap.objs.size ≠ sysModules := S2.size_ne
  generalize hDD : s2.heap.objs.size = D at *
  generalize hCC : H2.objs.size = Cc at *
  have hDw : D ∉ wr := fun q => by obtain ⟨o, e⟩ := hI.alive _ _ hst D q; rw [hDn] at e; cases e
  have hCw : Cc ∉ wr := fun q => by obtain ⟨o, e⟩ := hI.alive _ _ hst Cc q; rw [hCn] at e; cases e
  obtain ⟨S3, st3⟩ := S2.grow (h' := h₁) (tk := s2.toks + ([] : List (Str × Value)).length) old
  have hst₁ : St 0 h₁ := hI.frame _ _ _ hst fun b _ o e _ => old b o e
  have ho1 : ∀ x ∈ t'.names, sc.names.lookup x = some .local := fun x hx => by simpa using List.all_eq_true.mp (Bool.and_eq_true_iff.mp ho).1 x hx
  have ho2 : ∀ x, (x, NameKind.local) ∈ sc.names → x = dot0 ∨ x ∈ t'.names := fun x hx => by
    have := List.all_eq_true.mp (Bool.and_eq_true_iff.mp ho).2 _ hx
    simpa using this
  have hW : ∀ ρ1 : List Addr, (∀ b ∈ wr, b ∉ ρ1) → D ∉ ρ1 → Cc ∉ ρ1 → ∀ b, (b ∈ wr ∨ b = D ∨ b = Cc) → s.heap.get? b = none ∧ b ∉ ρ1 ∧ C.base.get? b = none := fun ρ1 x1 x2 x3 b hb => by
    have hsn : s.heap.get? b = none := by
      rcases hb with hb | rfl | rfl
      · exact (hw b hb).1
      · exact back _ hDn
      · exact back _ hCn
    refine ⟨hsn, ?_, base_none S hsn⟩
    rcases hb with hb | rfl | rfl
    · exact x1 b hb
    · exact x2
    · exact x3
  have hCown : ∀ x, env.cells.lookup x ≠ some Cc := fun x e => by
    obtain ⟨o, e1⟩ := F.alive Cc (.inr ⟨x, e⟩)
    rw [back _ hCn] at e1; cases e1
  have hDown : ¬ own env D := fun e => by
    obtain ⟨o, e1⟩ := F.alive D e
    rw [back _ hDn] at e1; cases e1
  have hwown : ∀ b ∈ wr, ¬ own env b := fun b hb e => by
    obtain ⟨o, e1⟩ := F.alive b e
    rw [(hw b hb).1] at e1; cases e1
  have ownc : ∀ b, own (compEnvC sc cl Cc env) b → b = Cc ∨ own env b := fun b hb => by
    rcases hb with rfl | ⟨x, e⟩
    · exact .inl rfl
    · exact .inr (.inr ⟨x, h1 _ _ e⟩)
  have ltl : ∀ x v, σ.less t'.names x = some v → σ x = some v ∧ (x, NameKind.local) ∉ sc.names := fun x v e => by
    unfold Sg.less at e
    by_cases hx : x ∈ t'.names
    · rw [if_pos hx] at e; cases e
    · rw [if_neg hx] at e
      refine ⟨e, fun q => ?_⟩
      rcases ho2 x q with rfl | q
      · rw [F.dot] at e; cases e
      · exact hx q
  have ck := inner_kind (sc := sc) (cl := cl) (L := Cc) F.kind
  let Inv : Nat → Shared → Prop := fun n t => ∃ i acc us ρ1 H1, i + n = items.length ∧ acc.length ≤ i ∧ St i t.heap ∧ Step ρ s ρ1 t ∧ (∃ l, ρ1 = ρ0 ++ l) ∧ Sim C ρ1 H1 t ∧ (∀ b ∈ wr, b ∉ ρ1) ∧ D ∉ ρ1 ∧ Cc ∉ ρ1 ∧ t.heap.PlainList D us ∧ All2 (VR C ρ1) acc us.toList ∧
    FR C (compEnvC sc cl Cc env) (σ.less t'.names) ρ1 t.heap ∧ compGo Kp (fun x H' => bindA t' x H' σ) test el Q (items.drop i) acc H1
  have loop : ∀ s₃ : Shared, s₃ = { s2 with heap := h₁, toks := s2.toks + ([] : List (Str × Value)).length } →
      codeAny C.M A (.compLoop (.ListComp elt [⟨target, iter, ifs, 0⟩] sc pos) 0 (.ref I) (.ref D) (compEnvC sc cl Cc env)) (RR (.ref D) Cc) s₃ := by
    rintro s₃ rfl
    refine compLoop_any Inv (fun n t hInv => ?_) items.length ?_
    · obtain ⟨i, acc, us, ρ1, H1, hin, hai, hSt, st1, hl1, S1, hw1, hD1, hC1, hpl, hus, FC, hg⟩ := hInv
      cases n with
      | zero =>
        have hi : i = items.length := by lia
        subst hi
        rw [List.drop_length] at hg
        obtain ⟨hK, hq⟩ := hg
        refine wpAny_mono (hI.done ρ1 H1 t _ hSt S1 hl1 hK hw1) (fun r s1 hr => ?_) fun _ _ x => x
        obtain ⟨rfl, h', tk, rfl, hk⟩ := hr
        dsimp only
        obtain ⟨st4, S4⟩ := adrift (h' := h') (tk := tk) st1 S1 (hW ρ1 hw1 hD1 hC1) (fun b o hb e => hk b o (fun q => hb (.inl q)) e) S.frs
        have hpl' : Heap.PlainList h' D us := hpl.at fun o e => hk _ o hDw e
        obtain ⟨nn, hob⟩ := hpl'
        obtain ⟨S5, v5⟩ := S4.adopt (D := D) (o := .list acc) hD1 (base_none S (back _ hDn)) hDsm ⟨us, nn, hob, hus, by unfold lid at *; lia⟩ (fun x hx hq => by rw [hob] at hx; cases hx; obtain ⟨_, _, q⟩ := hq; cases q)
        obtain ⟨m, hm, _⟩ := FC.ns
        refine hRR D Cc ρ1 H1 acc _ m (step_adopt st4 (back _ hDn)) S5 v5 hq (hm.at' fun o e => hk _ o hCw e) (fun q => ?_) (back _ hCn)
        rcases List.mem_append.mp q with q | q
        · exact hC1 q
        · simp at q; exact hDC q.symm
      | succ n =>
        have hi : i < items.length := by lia
        rw [List.drop_eq_getElem_cons hi] at hg
        obtain ⟨hK, hg⟩ := hg
        dsimp only at hg
        split at hg
        · rename_i σ' hb
          obtain ⟨vs, hvl, rfl, hball⟩ := bindA_sets hb
          refine wpAny_mono (hI.next i items[i] target ρ1 H1 t _ (List.getElem?_eq_getElem hi) (fits htr hb) hSt S1 hl1 hK hw1) (fun r s1 hr => ?_) fun _ _ x => x
          obtain ⟨u, rfl, hu⟩ := hr
          refine wpAny_mono hu (fun _ s1' hs1 => ?_) fun _ _ x => x
          obtain ⟨h', tk, rfl, hIR, hSt', hk⟩ := hs1
          obtain ⟨st4, S4⟩ := adrift (h' := h') (tk := tk) st1 S1 (hW ρ1 hw1 hD1 hC1) (fun b o hb e => hk b o (fun q => hb (.inl q)) e) S.frs
          have FC4 : FR C (compEnvC sc cl Cc env) (σ.less t'.names) ρ1 h' := FC.at fun b hb o e => hk b o (fun q => by
            rcases ownc b hb with rfl | hb
            · exact hCw q
            · exact hwown b q hb) e
          have hb2 : bindA t' items[i] H1 (σ.less t'.names) = some (σ.sets (t'.names.zip vs)) := by rw [hball, sets_less hvl]
          refine assign_ok hA.h (by rw [ck]; exact htr) hb2 hIR FC4 S4 fun s5 FC5 S5 st5 => ?_
          -- what the target's store left alone
          have hk5 : ∀ b o, b ∉ ρ1 → b ≠ Cc → h'.get? b = some o → Same o (s5.heap.get? b) := fun b o hb hbc e => st5.keep b o hb (fun q => by
            rcases q with q | ⟨x, hx, hxc, _⟩
            · exact hbc q
            · have h3 := ho1 x hx
              rw [ck] at hxc
              have := lookup_relabel_local (env := env) h3
              have h4 := inner_kind (sc := sc) (cl := cl) (L := Cc) F.kind
              rw [← h4] at hxc
              have h5 : (compEnvC sc cl Cc env).kindOf x = some .local := this
              rw [h5] at hxc; cases hxc) e
          have st5' : Step ρ s ρ1 s5 := ⟨st4.ext, fun b o hb hx e => (st4.keep b o hb hx e).trans fun o' e' => hk5 b o' (stay_out st4 e hb) (fun q => by rw [q, back _ hCn] at e; cases e) e', fun b o e => by obtain ⟨o1, e1⟩ := st4.live b o e; exact st5.live b o1 e1⟩
          have hSt5 : St (i + 1) s5.heap := hI.frame _ _ _ hSt' fun b hb o e hc => (hk5 b o (hw1 b hb) (fun q => hCw (q ▸ hb)) e).eq hc
          have hpl5 : Heap.PlainList s5.heap D us := plain_same hpl fun o e => hk5 _ o hD1 hDC (hk _ o hDw e)
          refine wpAny_mono (hts _ ck FC5 S5 hA hg) (fun ok s6 h6 => ?_) fun _ _ x => x
          obtain ⟨ρ2, H2', st6, S6, hg⟩ := h6
          have kept : ∀ b o, b ∉ ρ1 → s5.heap.get? b = some o → Same o (s6.heap.get? b) := fun b o hb e => st6.keep b o hb id e
          have out : ∀ b o, s5.heap.get? b = some o → b ∉ ρ1 → b ∉ ρ2 := fun b o e hb => stay_out st6 e hb
          have FC6 := FC5.step st6
          have hSt6 : St (i + 1) s6.heap := hI.frame _ _ _ hSt5 fun b hb o e hc => (kept b o (hw1 b hb) e).eq hc
          have hw6 : ∀ b ∈ wr, b ∉ ρ2 := fun b hb => by obtain ⟨o, e⟩ := hI.alive _ _ hSt5 b hb; exact out b o e (hw1 b hb)
          have hD6 : D ∉ ρ2 := by obtain ⟨nn, e⟩ := hpl5; exact out D _ e hD1
          have hC6 : Cc ∉ ρ2 := by
            obtain ⟨m, ⟨o, es, ep, e, _⟩, _⟩ := FC5.ns
            exact out Cc o e hC1
          have hpl6 : Heap.PlainList s6.heap D us := plain_same hpl5 fun o e => kept _ o hD1 e
          have hl6 : ∃ l, ρ2 = ρ0 ++ l := by
            obtain ⟨l, e⟩ := hl1
            obtain ⟨l', e', _⟩ := st6.ext
            exact ⟨l ++ l', by rw [e', e, List.append_assoc]⟩
          have lessl : ∀ x v, σ.less t'.names x = some v → σ.sets (t'.names.zip vs) x = some v := fun x v e => by
            unfold Sg.less at e
            by_cases hx : x ∈ t'.names
            · rw [if_pos hx] at e; cases e
            · rw [if_neg hx] at e
              rw [sets_out _ _ _ (by rw [map_fst_zip hvl]; exact hx)]; exact e
          cases ok with
          | false =>
            rw [if_neg (by simp)]
            refine ⟨n, Nat.lt_succ_self n, i + 1, acc, us, ρ2, H2', by lia, by lia, hSt6, st5'.trans st6, hl6, S6, hw6, hD6, hC6, hpl6, st6.vrs hus, FC6.less lessl, hg⟩
          | true =>
            rw [if_pos rfl]
            refine wpAny_mono (hel _ ck FC6 S6 hA hg) (fun x s7 h7 => ?_) fun _ _ x => x
            obtain ⟨ρ3, H3, v, st7, S7, hv, hg⟩ := h7
            have kept7 : ∀ b o, b ∉ ρ2 → s6.heap.get? b = some o → Same o (s7.heap.get? b) := fun b o hb e => st7.keep b o hb id e
            have hpl7 : Heap.PlainList s7.heap D us := plain_same hpl6 fun o e => kept7 _ o hD6 e
            have hus7 := st7.vrs (st6.vrs hus)
            refine wpAny_list_append_plain hpl7 (fun h8 hpl8 hsb8 => ?_) (by
              have h0 : acc.length = us.size := by rw [hus.length]; simp
              unfold lid at *; unfold sizeLine; lia)
            have FC7 := FC6.step st7
            have hD7 : D ∉ ρ3 := by obtain ⟨nn, e⟩ := hpl6; exact stay_out st7 e hD6
            have hC7 : Cc ∉ ρ3 := by
              obtain ⟨m, ⟨o, es, ep, e, _⟩, _⟩ := FC6.ns
              exact stay_out st7 e hC6
            have hw7 : ∀ b ∈ wr, b ∉ ρ3 := fun b hb => by
              obtain ⟨o, e⟩ := hI.alive _ _ hSt6 b hb
              exact stay_out st7 e (hw6 b hb)
            obtain ⟨st8, S8⟩ := adrift (h' := h8) (tk := s7.toks) ((st5'.trans st6).trans st7) S7 (hW ρ3 hw7 hD7 hC7) (fun b o hb e => hsb8.extBut b o (fun q => hb (.inr (.inl q))) e) S.frs
            refine ⟨n, Nat.lt_succ_self n, i + 1, acc ++ [v], us.push x, ρ3, H3, by lia, by simp; lia, ?_, st8, ?_, S8, hw7, hD7, hC7, hpl8, ?_, ?_, hg⟩
            · exact hI.frame _ _ _ hSt6 fun b hb o e hc => hsb8.extBut b o (fun q => hDw (q ▸ hb)) ((kept7 b o (hw6 b hb) e).eq hc)
            · obtain ⟨l, e⟩ := hl6
              obtain ⟨l', e', _⟩ := st7.ext
              exact ⟨l ++ l', by rw [e', e, List.append_assoc]⟩
            · rw [Array.toList_push]
              exact hus7.append (.cons hv .nil)
            · refine (FC7.less lessl).at fun b hb o e => hsb8.extBut b o (fun q => ?_) e
              rcases ownc b hb with rfl | hb
              · exact hDC q.symm
              · exact hDown (q ▸ hb)
        · exact hg.elim
    · refine ⟨0, [], #[], ρ0, H0, by simp, by simp, hst₁, st.trans st3, ⟨[], by simp⟩, S3, fun b hb => (hw b hb).2, none_ρ S2 hDn, none_ρ S2 hCn, hacc, .nil, ?_, by simpa using hgo⟩
      have F3 : FR C env σ ρ0 h₁ := F.step (st.trans st3)
      exact F3.comp hs h1 h2 hns₁ (none_ρ S2 hCn) (base_none S2 hCn) hCown ltl
  refine codeAny_compStart_list (loop _ rfl) (hI.self 0 _ _ _ hst₁ (loop _ rfl))
end
end Mine
end
section
namespace Mine
open PySem PySem.Calls PyProof.Rows
section
variable {C : Cx} {T : Tab} {K : Nat} {env : Env} {A : Around} {E : Value → Shared → Prop}
theorem scOk_names {sc : Scope} (hs : scOk sc env.kindOf = true) : sc.kind = .function ∧ ∀ x ∈ sc.names, x.2 = .local → sc.names.lookup x.1 = some .local := by
  refine ⟨by simpa using (Bool.and_eq_true_iff.mp hs).1, fun x hx e => ?_⟩
  have := List.all_eq_true.mp (Bool.and_eq_true_iff.mp hs).2 x hx
  rw [e] at this
  simpa using this
theorem comp_any {elt iter target : Expr} {ifs : List Expr} {sc : Scope} {pos p' : Pos} {t' : Tgt} {pit : PE} {test : Sg → AHeap → (Bool → AHeap → Prop) → Prop} {el : Sg → AHeap → VPost → Prop} {σ : Sg} {ρ : List Addr} {H : AHeap} {s : Shared} {Q : VPost} {X : XPost}
    {use : Option (Value → Sem Unit)} {R : Value → Shared → Prop}
    (hA : AOk C K A) (F : FR C env σ ρ s.heap) (S : Sim C ρ H s) (hE : Takes C ρ s X E) (hs : scOk sc env.kindOf = true) (ho : onlyHere sc t' = true) (htr : trT (inner sc env.kindOf) target = some t') (hf : ∀ x, foldedSetIterable iter env x = pure x)
    (hit : ItOk C T K env iter pit)
    (hts : ∀ cenv : Env, cenv.kindOf = inner sc env.kindOf → TsOk C K cenv ifs test) (hel : ∀ cenv : Env, cenv.kindOf = inner sc env.kindOf → LtOk C K cenv elt el)
    (h : (sem T pit).it σ H (fun items Kp H1 => items.length ≤ lid ∧ compGo Kp (fun x H' => bindA t' x H' σ) test el (fun acc H' => Q (.ref H'.length) (H' ++ [.list acc])) items [] H1) X)
    (hR : ∀ D Cc t m, PV C ρ s Q (.ref D) t → t.heap.Ns Cc m → s.heap.get? Cc = none → (∀ ρ1 H1 v, Step ρ s ρ1 t → Sim C ρ1 H1 t → VR C ρ1 v (.ref D) → Q v H1 → Cc ∉ ρ1 → compPost C.M A E use R (.ref D) Cc (.ok .next) t)) :
    wpAny C.M A (comprehension (.ListComp elt [⟨target, iter, ifs, 0⟩] sc pos) sc env p' (newList []) false (eval iter env) use) R E s := by
  obtain ⟨cl, hcl, h1, h2⟩ := closure_ok (sc := sc) F.has hs
  refine wpAny_comprehension_free (use := use) rfl hf hcl (scOk_names hs).1 (scOk_names hs).2 ?_
  refine wpAny_mono (hit F S hA h hE) (fun xv s₁ h₁ => wpAny_mono h₁ (fun it s₂ h₂ => ?_) fun _ _ e => e) fun _ _ e => e
  obtain ⟨ρ0, H0, items, Kp, I, wr, St, rfl, hI, hst, st, S2, hw, hlen, hgo⟩ := h₂
  refine comp_walk (RR := fun acc Cc => compPost C.M A E use R acc Cc) hA F S hs ho htr h1 h2 hI hst st S2 hw hgo hlen hts hel ?_
  intro D Cc ρ1 H1 acc t m st1 S1 v1 hq hm hC hCn
  exact hR D Cc t m ⟨_, _, _, st1, S1, v1, hq⟩ hm hCn (ρ1 ++ [D]) _ _ st1 S1 v1 hq hC
theorem letgo_same {ρ ρ1 : List Addr} {H H1 : AHeap} {s t : Shared} {Cc : Addr} {h' : Heap} (S : Sim C ρ H s) (st : Step ρ s ρ1 t) (S1 : Sim C ρ1 H1 t) (hn : s.heap.get? Cc = none) (hC : Cc ∉ ρ1) (hs : Heap.SameBut Cc t.heap h') :
    Step ρ s ρ1 { t with heap := h' } ∧ Sim C ρ1 H1 { t with heap := h' } :=
  adrift (W := fun b => b = Cc) (tk := t.toks) st S1 (fun b hb => by subst hb; exact ⟨hn, hC, base_none S hn⟩) (fun b o hb e => hs.extBut b o hb e) S.frs
theorem ok_comp {elt iter target : Expr} {ifs : List Expr} {sc : Scope} {pos : Pos} {t' : Tgt} {pe pit : PE} {test : XPost → Sg → AHeap → (Bool → AHeap → Prop) → Prop} {el : XPost → Sg → AHeap → VPost → Prop}
    (hs : scOk sc env.kindOf = true) (ho : onlyHere sc t' = true) (htr : trT (inner sc env.kindOf) target = some t') (hf : ∀ x, foldedSetIterable iter env x = pure x) (hit : ItOk C T K env iter pit)
    (hts : ∀ X, ∀ cenv : Env, cenv.kindOf = inner sc env.kindOf → TsOk C K cenv ifs (test X)) (hel : ∀ X, ∀ cenv : Env, cenv.kindOf = inner sc env.kindOf → LtOk C K cenv elt (el X))
    (hsem : ∀ σ H Q X, (sem T pe).ev σ H Q X → (sem T pit).it σ H (fun items Kp H1 => items.length ≤ lid ∧ compGo Kp (fun x H' => bindA t' x H' σ) (test X) (el X) (fun acc H' => Q (.ref H'.length) (H' ++ [.list acc])) items [] H1) X) :
    EvOk C T K env (.ListComp elt [⟨target, iter, ifs, 0⟩] sc pos) pe := by
  intro σ ρ H s A Q X E F S hA h hE
  rw [eval_ListComp]
  refine comp_any (use := none) hA F S hE hs ho htr hf hit (hts X) (hel X) (hsem σ H Q X h) ?_
  intro D Cc t m _ hm hn ρ1 H1 v st1 S1 v1 hq hC
  refine ⟨m, hm, fun h' hsb => ?_⟩
  obtain ⟨st2, S2⟩ := letgo_same S st1 S1 hn hC hsb
  exact ⟨ρ1, H1, v, st2, S2, v1, hq⟩
theorem ok_dict0 {pos : Pos} : EvOk C T K env (.Dict [] [] pos) .dict0 := by
  intro σ ρ H s A Q X E F S hA h hE
  refine wpAny_Dict_empty ?_
  obtain ⟨S1, st1, v1⟩ := S.alloc (h' := s.heap.push { cls := .type "dict", data := .dict #[] }) (tk := s.toks) (a := s.heap.objs.size) (o := .dict [] 0) get_push (get_size _) S.size_ne ⟨#[], Heap.get?_push_size _ rfl, .nil, by simp, by simp⟩
  exact ⟨_, _, _, st1, S1, v1, h⟩
theorem tr_star {n : Nat} {k : Kd} {e : Expr} {pe : PE} (h : trE n k e = some pe) : isStar e = false := by
  cases e <;> first | rfl | (cases n <;> cases h)
theorem bnd2_some {a b : Option PE} {f : PE → PE → PE} {r : PE} (h : bnd2 a b f = some r) : ∃ x y, a = some x ∧ b = some y ∧ r = f x y := by
  obtain ⟨x, hx, h⟩ := Option.bind_eq_some_iff.mp h
  obtain ⟨y, hy, rfl⟩ := Option.map_eq_some_iff.mp h
  exact ⟨x, y, hx, hy, rfl⟩
theorem bnd3_some {a b c : Option PE} {f : PE → PE → PE → PE} {r : PE} (h : bnd3 a b c f = some r) : ∃ x y z, a = some x ∧ b = some y ∧ c = some z ∧ r = f x y z := by
  obtain ⟨x, hx, h⟩ := Option.bind_eq_some_iff.mp h
  obtain ⟨y, hy, h⟩ := Option.bind_eq_some_iff.mp h
  obtain ⟨z, hz, rfl⟩ := Option.map_eq_some_iff.mp h
  exact ⟨x, y, z, hx, hy, hz, rfl⟩
theorem map_some' {a : Option PE} {f : PE → PE} {r : PE} (h : a.map f = some r) : ∃ x, a = some x ∧ r = f x := by
  obtain ⟨x, hx, rfl⟩ := Option.map_eq_some_iff.mp h; exact ⟨x, hx, rfl⟩
theorem el_ok {f : Expr → Option PE} {pos : Pos} : ∀ {es : List Expr} {pe : PE}, (∀ e pe, f e = some pe → EvOk C T K env e pe) → (∀ e pe, f e = some pe → isStar e = false) → trL f es = some pe → ElOk C T K env pos es pe
  | [], _, _, _, h => by cases h; exact ok_nil
  | e :: r, pe, h1, h2, h => by
    obtain ⟨a, ha, h⟩ := Option.bind_eq_some_iff.mp h
    obtain ⟨b, hb, rfl⟩ := Option.map_eq_some_iff.mp h
    exact ok_cons (h1 e a ha) (el_ok h1 h2 hb) (h2 e a ha)
theorem els_ok {f : Expr → Option PE} {P : Expr → PE → Prop} : ∀ {es : List Expr} {ps : List PE}, (∀ e pe, f e = some pe → P e pe) → trLs f es = some ps → All2 P es ps
  | [], _, _, h => by cases h; exact .nil
  | e :: r, ps, h1, h => by
    obtain ⟨a, ha, h⟩ := Option.bind_eq_some_iff.mp h
    obtain ⟨b, hb, rfl⟩ := Option.map_eq_some_iff.mp h
    exact .cons (h1 e a ha) (els_ok h1 hb)
theorem folded_no {e : Expr} (h : isSet e = false) : ∀ x, foldedSetIterable e env x = pure x := by
  intro x
  cases e <;> first | rfl | cases h
theorem isGE_is {k : Kd} {e : Expr} {n : String} (h : isGE k e n = true) : ∃ g p, e = .Name g p ∧ isG k g n = true := by
  unfold isGE at h
  split at h
  · rename_i g p e1; exact ⟨g, p, asName_is e1, h⟩
  · cases h
theorem trI_ok (hT : TabOk C T K) {f : Expr → Option PE} (h1 : ∀ e pe, f e = some pe → EvOk C T K env e pe) (h2 : ∀ e pe, f e = some pe → isStar e = false) {e : Expr} {pe : PE} (h : trI env.kindOf f e = some pe) :
    ItOk C T K env e pe ∧ isSet e = false := by
  unfold trI at h
  split at h
  · cases h
  · rename_i hs
    refine ⟨?_, by simpa using hs⟩
    have val : ∀ {p : PE}, (f e).map .itVal = some p → ItOk C T K env e p := fun h => by
      obtain ⟨x, hx, rfl⟩ := map_some' h
      intro σ ρ H s A q X E
      exact it_val (h1 _ _ hx)
    split at h
    · rename_i g a pos e1
      cases asCall1_is e1
      split at h
      · rename_i hg
        obtain ⟨g', p', rfl, hg⟩ := isGE_is hg
        obtain ⟨x, hx, rfl⟩ := map_some' h
        intro σ ρ H s A q X E
        exact it_range1 hT hg (h2 _ _ hx) (h1 _ _ hx)
      · split at h
        · rename_i hg
          obtain ⟨g', p', rfl, hg⟩ := isGE_is hg
          split at h
          · rename_i h' b pos' e2
            cases asCall1_is e2
            split at h
            · rename_i hh
              obtain ⟨g2, p2, rfl, hh⟩ := isGE_is hh
              obtain ⟨x, hx, rfl⟩ := map_some' h
              intro σ ρ H s A q X E
              exact it_rev hT hg hh (h2 _ _ hx) (h1 _ _ hx)
            · cases h
          · cases h
        · exact fun {_ _ _ _ _ _ _ _} => val h
    · split at h
      · rename_i g a b pos e1
        cases asCall2_is e1
        split at h
        · rename_i hg
          obtain ⟨g', p', rfl, hg⟩ := isGE_is hg
          obtain ⟨x, y, hx, hy, rfl⟩ := bnd2_some h
          intro σ ρ H s A q X E
          exact it_range2 hT hg (h2 _ _ hx) (h2 _ _ hy) (h1 _ _ hx) (h1 _ _ hy)
        · exact fun {_ _ _ _ _ _ _ _} => val h
      · exact fun {_ _ _ _ _ _ _ _} => val h
theorem sub_plain {i : Expr} (h : asSlice i = none) (u w : Value) : subscripted i false u w = operate [u, w] (getItem u w) := by
  cases i <;> first | rfl | cases h
theorem pt_ok {f : Expr → Option PE} (h1 : ∀ e pe, f e = some pe → EvOk C T K env e pe) {o : Option Expr} {pe : PE} (h : trO f o = some pe) : PtOk C T K env o pe := by
  cases o with
  | none => cases h; exact pt_none
  | some e => exact pt_some (h1 _ _ h)
end
end Mine
end
section
namespace Mine
open PySem PySem.Calls PyProof.Rows
section
variable {C : Cx} {T : Tab} {K : Nat}
theorem both {env : Env} {e : Expr} {pe : PE} (he : EvOk C T K env e pe) (hi : ∀ whole, isTrue e env whole = (do let v ← whole; standAt e.pos; holding [v] (truthy v))) (ht : (sem T pe).tt = (Me.ofEv (sem T pe).ev).tt) :
    EvOk C T K env e pe ∧ TtOk C T K env e pe := ⟨he, tt_of_ev hi ht he⟩
theorem ok_const {env : Env} {c : Const} {k : Nat} {pos : Pos} {pe : PE} (h : trConst c = some pe) : EvOk C T K env (.Constant c k pos) pe ∧ TtOk C T K env (.Constant c k pos) pe := by
  cases c with
  | none => cases h; exact both (fun F S hA h hE => Constant_none (here0 (v := .none) S rfl h)) (fun _ => rfl) rfl
  | bool b => cases h; exact both (fun F S hA h hE => Constant_bool (here0 (v := .bool b) S rfl h)) (fun _ => rfl) rfl
  | int i => cases h; exact both (fun F S hA h hE => wpAny_Constant_int (here S (vi _ _) h)) (fun _ => rfl) rfl
  | str x =>
    unfold trConst at h
    dsimp only at h
    split at h
    · rename_i hx
      cases h
      refine both (fun {σ ρ H s A Q X E} F S hA h hE => wpAny_Constant_str (here S (v := .str x.cps.toList) ⟨hx, s.toks, ?_⟩ h)) (fun _ => rfl) rfl
      cases x; simp
    · cases h
  | _ => cases h
theorem ok_nm (hT : TabOk C T K) {env : Env} {x : Str} {pos : Pos} {pe : PE} (h : trName env.kindOf x = some pe) : EvOk C T K env (.Name x pos) pe ∧ TtOk C T K env (.Name x pos) pe := by
  unfold trName at h
  split at h
  · cases h
  · rename_i hd
    have hd : (x == Str.ofString "__debug__") = false := by simpa using hd
    split at h
    · rename_i hx; cases h; exact both (ok_name (.inl hx) hd) (fun _ => rfl) rfl
    · rename_i hx; cases h; exact both (ok_name (.inr hx) hd) (fun _ => rfl) rfl
    · rename_i hx; cases h; exact both (ok_glob hT hx hd) (fun _ => rfl) rfl
    · cases h
theorem ok_callE (hT : TabOk C T K) {env : Env} {f : Expr → Option PE} (h1 : ∀ e pe, f e = some pe → EvOk C T K env e pe) (h2 : ∀ e pe, f e = some pe → isStar e = false) {fn : Expr} {args : List Expr} {kws : List Keyword} {pos : Pos} {pe : PE}
    (h : trCall env.kindOf f fn args kws pos = some pe) : EvOk C T K env (.Call fn args kws pos) pe ∧ TtOk C T K env (.Call fn args kws pos) pe := by
  unfold trCall at h
  split at h
  · split at h
    · rename_i hn
      split at h
      · rename_i o m apos e1
        have := asAttr_is e1
        subst this
        split at h
        · rename_i hc
          obtain ⟨hc1, hc2⟩ := Bool.and_eq_true_iff.mp hc
          obtain ⟨x, y, hx, hy, rfl⟩ := bnd2_some h
          exact both (ok_meth hT (h1 _ _ hx) (el_ok h1 h2 hy) (starEach_one h2 hy) (by simpa using hc1) (by simpa using hn) (by simpa using hc2)) (fun _ => rfl) rfl
        · cases h
      · split at h
        · rename_i hc
          obtain ⟨x, y, hx, hy, rfl⟩ := bnd2_some h
          rcases Bool.or_eq_true_iff.mp hc with hc | hc
          · obtain ⟨⟨g, p⟩, e1⟩ := Option.isSome_iff_exists.mp hc
            have := asName_is e1
            subst this
            exact both (ok_call hT (h1 _ _ hx) (el_ok h1 h2 hy) (starEach_one h2 hy) rfl) (fun _ => rfl) rfl
          · obtain ⟨⟨g, i, p⟩, e1⟩ := Option.isSome_iff_exists.mp hc
            have := asSub_is e1
            subst this
            exact both (ok_call hT (h1 _ _ hx) (el_ok h1 h2 hy) (starEach_one h2 hy) rfl) (fun _ => rfl) rfl
        · cases h
    · cases h
  · rename_i kw kr
    replace h : trSrt env.kindOf f fn args kw kr = some pe := h
    unfold trSrt at h
    split at h
    · cases h
    · split at h
      · cases h
      · rename_i g p1 e1
        cases asName_is e1
        split at h
        · cases h
        · rename_i x hx
          split at h
          · cases h
          · rename_i y p2 e2
            split at h
            · rename_i hc
              simp only [Bool.and_eq_true, List.isEmpty_iff] at hc
              obtain ⟨⟨rfl, rfl⟩, hg, hx2, hy⟩ := hc
              obtain ⟨z, hz, rfl⟩ := Option.map_eq_some_iff.mp h
              obtain ⟨ka, kv, kp⟩ := kw
              cases hx
              cases asName_is e2
              exact both (ok_sortLen hT (h1 _ _ hz) (h2 _ _ hz) hg (beq_iff_eq.mp hx2) hy) (fun _ => rfl) rfl
            · cases h
theorem ok_subE (hT : TabOk C T K) {env : Env} {f : Expr → Option PE} (h1 : ∀ e pe, f e = some pe → EvOk C T K env e pe) {o i : Expr} {pos : Pos} {pe : PE} (h : trSub f o i = some pe) : EvOk C T K env (.Subscript o i pos) pe ∧ TtOk C T K env (.Subscript o i pos) pe := by
  unfold trSub at h
  split at h
  · rename_i lo hi st p e1
    cases asSlice_is e1
    split at h
    · rename_i hn
      cases Option.isNone_iff_eq_none.mp hn
      obtain ⟨x, y, z, hx, hy, hz, rfl⟩ := bnd3_some h
      exact both (ok_slice (h1 _ _ hx) (pt_ok h1 hy) (pt_ok h1 hz)) (fun _ => rfl) rfl
    · cases h
  · rename_i e1
    obtain ⟨x, y, hx, hy, rfl⟩ := bnd2_some h
    exact both (ok_sub (h1 _ _ hx) (h1 _ _ hy) (sub_plain e1)) (fun _ => rfl) rfl
structure CompOk (C : Cx) (T : Tab) (K : Nat) (env : Env) (elt : Expr) (gens : List Comprehension) (sc : Scope) (pe : PE) (target iter : Expr) (ifs : List Expr) (t' : Tgt) (pit : PE) (test : XPost → Sg → AHeap → (Bool → AHeap → Prop) → Prop) (el : XPost → Sg → AHeap → VPost → Prop) : Prop where
  hgens : gens = [⟨target, iter, ifs, 0⟩]
  hsc : scOk sc env.kindOf = true
  only : onlyHere sc t' = true
  tgt : trT (inner sc env.kindOf) target = some t'
  fold : ∀ x, foldedSetIterable iter env x = pure x
  hit : ItOk C T K env iter pit
  ts : ∀ X, ∀ cenv : Env, cenv.kindOf = inner sc env.kindOf → TsOk C K cenv ifs (test X)
  hel : ∀ X, ∀ cenv : Env, cenv.kindOf = inner sc env.kindOf → LtOk C K cenv elt (el X)
  hsem : ∀ σ H Q X, (sem T pe).ev σ H Q X → (sem T pit).it σ H (fun items Kp H1 => items.length ≤ lid ∧ compGo Kp (fun x H' => bindA t' x H' σ) (test X) (el X) (fun acc H' => Q (.ref H'.length) (H' ++ [.list acc])) items [] H1) X
  htt : (sem T pe).tt = (Me.ofEv (sem T pe).ev).tt
theorem tr_comp (hT : TabOk C T K) {env : Env} {f f' : Expr → Option PE} {elt : Expr} {gens : List Comprehension} {sc : Scope} {pe : PE} (h1 : ∀ e pe, f e = some pe → EvOk C T K env e pe) (h2 : ∀ e pe, f e = some pe → isStar e = false)
    (h3 : ∀ cenv : Env, cenv.kindOf = inner sc env.kindOf → ∀ e pe, f' e = some pe → EvOk C T K cenv e pe ∧ TtOk C T K cenv e pe) (h : trComp env.kindOf f f' elt gens sc = some pe) : ∃ target iter ifs t' pit test el, CompOk C T K env elt gens sc pe target iter ifs t' pit test el := by
  cases gens with
  | nil => cases h
  | cons g r =>
    obtain ⟨tg, iter, ifs, asy⟩ := g
    unfold trComp at h
    dsimp only at h
    split at h
    · rename_i hc
      obtain ⟨hc, hr⟩ := Bool.and_eq_true_iff.mp hc
      obtain ⟨hs, ha⟩ := Bool.and_eq_true_iff.mp hc
      cases List.isEmpty_iff.mp hr
      cases beq_iff_eq.mp ha
      obtain ⟨t', ht, h⟩ := Option.bind_eq_some_iff.mp h
      obtain ⟨it', hit, h⟩ := Option.bind_eq_some_iff.mp h
      obtain ⟨e', he, h⟩ := Option.bind_eq_some_iff.mp h
      split at h
      · rename_i ho
        obtain ⟨hit1, hit2⟩ := trI_ok hT h1 h2 hit
        have hel : ∀ X : XPost, ∀ cenv : Env, cenv.kindOf = inner sc env.kindOf → LtOk C K cenv elt fun σ' H' q => (sem T e').ev σ' H' q fun _ _ => False := by
          intro X cenv hc σ ρ H s A Q E F S hA h
          exact (h3 cenv hc _ _ he).1 F S hA h fun e s' p => p.no.elim
        cases ifs with
        | nil =>
          cases h
          refine ⟨_, _, _, t', it', fun _ _ H' q => q true H', _, rfl, hs, ho, ht, folded_no hit2, hit1, fun X cenv hc => ?_, hel, fun σ H Q X h => h, rfl⟩
          intro σ ρ H s A q E F S hA h
          exact wpAny_tests_nil ⟨ρ, H, StepG.refl _ _, S, h⟩
        | cons c r =>
          have h : (if r.isEmpty then (f' c).map fun c' => PE.comp1 e' t' it' c' else none) = some pe := h
          split at h
          · rename_i hr
            cases List.isEmpty_iff.mp hr
            obtain ⟨c', hc', rfl⟩ := map_some' h
            refine ⟨_, _, _, t', it', fun X σ' H' q => (sem T c').tt σ' H' q fun _ _ => False, _, rfl, hs, ho, ht, folded_no hit2, hit1, fun X cenv hc => ?_, hel, fun σ H Q X h => h, rfl⟩
            intro σ ρ H s A q E F S hA h
            exact wpAny_tests_one ((h3 cenv hc _ _ hc').2 F S hA h fun e s' p => p.no.elim)
          · cases h
      · cases h
    · cases h
theorem ok_cmpE {env : Env} {f : Expr → Option PE} (h1 : ∀ e pe, f e = some pe → EvOk C T K env e pe) {a : Expr} {ops : List CmpOp} {cs : List Expr} {pos : Pos} {pe : PE} (h : trCmp f a ops cs = some pe) : EvOk C T K env (.Compare a ops cs pos) pe ∧ TtOk C T K env (.Compare a ops cs pos) pe := by
  cases ops with
  | nil => cases h
  | cons o os =>
    cases cs with
    | nil => cases h
    | cons b r =>
      unfold trCmp at h
      dsimp only at h
      split at h
      · cases h
      · rename_i hs
        have hs := Bool.eq_false_iff.mpr hs
        cases os with
        | nil =>
          unfold trCmp2 at h
          dsimp only at h
          split at h
          · rename_i hr
            cases List.isEmpty_iff.mp hr
            obtain ⟨x, y, hx, hy, rfl⟩ := bnd2_some h
            exact ok_cmp1 hs (h1 _ _ hx) (h1 _ _ hy)
          · cases h
        | cons o2 os =>
          cases r with
          | nil => cases h
          | cons c r =>
            unfold trCmp2 at h
            dsimp only at h
            split at h
            · cases h
            · rename_i hc
              have hc := Bool.eq_false_iff.mpr hc
              obtain ⟨hc1, hr⟩ := Bool.or_eq_false_iff.mp hc
              obtain ⟨hc2, ho⟩ := Bool.or_eq_false_iff.mp hc1
              cases List.isEmpty_iff.mp (Bool.not_eq_eq_eq_not.mp hr)
              cases List.isEmpty_iff.mp (Bool.not_eq_eq_eq_not.mp ho)
              obtain ⟨x, y, z, hx, hy, hz, rfl⟩ := bnd3_some h
              exact ok_cmp2 hs hc2 (h1 _ _ hx) (h1 _ _ hy) (h1 _ _ hz)
theorem tr_ok (hT : TabOk C T K) : ∀ (n : Nat) (k : Kd) (e : Expr) (pe : PE), trE n k e = some pe → ∀ env : Env, env.kindOf = k → EvOk C T K env e pe ∧ TtOk C T K env e pe
  | 0, _, _, _, h, _, _ => by cases h
  | n + 1, k, e, pe, h, env, hk => by
    have ih := tr_ok hT n
    subst hk
    have ih1 : ∀ e pe, trE n env.kindOf e = some pe → EvOk C T K env e pe := fun e pe h => (ih _ e pe h env rfl).1
    have ih2 : ∀ e pe, trE n env.kindOf e = some pe → TtOk C T K env e pe := fun e pe h => (ih _ e pe h env rfl).2
    have st : ∀ e pe, trE n env.kindOf e = some pe → isStar e = false := fun e pe h => tr_star h
    cases e with
    | Name x pos => exact ok_nm hT h
    | Constant c k pos => exact ok_const h
    | BinOp l op r pos =>
      obtain ⟨x, y, hx, hy, rfl⟩ := bnd2_some h
      exact both (ok_bin (ih1 _ _ hx) (ih1 _ _ hy)) (fun _ => rfl) rfl
    | UnaryOp op x pos =>
      have h : trUn (trE n env.kindOf) op x = some pe := h
      cases op with
      | Not => obtain ⟨x, hx, rfl⟩ := map_some' h; exact ok_not (ih1 _ _ hx) (ih2 _ _ hx)
      | USub => obtain ⟨x, hx, rfl⟩ := map_some' h; exact both (ok_neg (ih1 _ _ hx)) (fun _ => rfl) rfl
      | _ => cases h
    | BoolOp op vs pos =>
      have h : (trLs (trE n env.kindOf) vs).bind (trBool op) = some pe := h
      obtain ⟨ps, hps, h⟩ := Option.bind_eq_some_iff.mp h
      · obtain ⟨h1, h2⟩ := ok_bool op pos vs ps pe (els_ok (fun e pe h => ih _ e pe h env rfl) hps) h
        exact ⟨fun F S hA h hE => h1 F S hA h hE, fun F S hA h hE => by rw [arm_isTrue_BoolOp]; exact h2 F S hA h hE⟩
    | Compare a ops cs pos => exact ok_cmpE ih1 h
    | IfExp c a b pos =>
      obtain ⟨x, y, z, hx, hy, hz, rfl⟩ := bnd3_some h
      exact ok_ite (ih2 _ _ hx) (ih1 _ _ hy) (ih2 _ _ hy) (ih1 _ _ hz) (ih2 _ _ hz)
    | Call f args kws pos => exact ok_callE hT ih1 st h
    | Subscript o i pos => exact ok_subE hT ih1 h
    | List es pos =>
      obtain ⟨x, hx, rfl⟩ := map_some' (f := .list) h
      exact both (ok_list (el_ok ih1 st hx)) (fun _ => rfl) rfl
    | Tuple es k pos =>
      obtain ⟨x, hx, rfl⟩ := map_some' (f := .tuple) h
      exact both (ok_tuple (el_ok ih1 st hx)) (fun _ => rfl) rfl
    | Dict ks vs pos =>
      have h : trDict ks vs = some pe := h
      unfold trDict at h
      split at h
      · rename_i hc
        obtain ⟨hc1, hc2⟩ := Bool.and_eq_true_iff.mp hc
        cases List.isEmpty_iff.mp hc1
        cases List.isEmpty_iff.mp hc2
        cases h
        exact both ok_dict0 (fun _ => rfl) rfl
      · cases h
    | ListComp elt gens sc pos =>
      obtain ⟨target, iter, ifs, t', pit, test, el, c⟩ := tr_comp hT ih1 st (fun cenv hc e pe h => ih _ e pe h cenv hc) h
      have hg := c.hgens
      subst hg
      exact both (ok_comp c.hsc c.only c.tgt c.fold c.hit c.ts c.hel c.hsem) (fun _ => rfl) c.htt
    | _ => cases h
end
end Mine
end
section
namespace Mine
open PySem PySem.Calls PyProof.Rows
section
variable (C : Cx) (T : Tab) (K : Nat)
noncomputable def FlR (ρ : List Addr) : Fl → Flow → Prop
  | .next, f => f = .next
  | .brk, f => f = .brk
  | .ret v, f => ∃ u, f = .ret u ∧ VR C ρ v u
noncomputable def PF (env : Env) (ρ : List Addr) (s : Shared) (Q : SPost) : Flow → Shared → Prop := fun f s' => ∃ ρ' H' σ' fl, StepG (own env) ρ s ρ' s' ∧ Sim C ρ' H' s' ∧ FR C env σ' ρ' s'.heap ∧ FlR C ρ' fl f ∧ Q fl σ' H'
noncomputable def PXS (env : Env) (ρ : List Addr) (s : Shared) (X : XPost) : Value → Shared → Prop := fun e s' => ∃ ρ' H' c, StepG (own env) ρ s ρ' s' ∧ Sim C ρ' H' s' ∧ XR C ρ' c e s s' ∧ X c H' ∧ ∃ σ', FR C env σ' ρ' s'.heap
abbrev TakesS (env : Env) (ρ : List Addr) (s : Shared) (X : XPost) (E : Value → Shared → Prop) : Prop := ∀ e s', PXS C env ρ s X e s' → E e s'
noncomputable def BlOk (env : Env) (b : List Stmt) (ps : PS) : Prop := ∀ {σ : Sg} {ρ : List Addr} {H : AHeap} {s : Shared} {A : Around} {Q : SPost} {X : XPost} {E : Value → Shared → Prop},
  FR C env σ ρ s.heap → Sim C ρ H s → AOk C K A → semS T ps σ H Q X → TakesS C env ρ s X E → wpAny C.M A (execs b env) (PF C env ρ s Q) E s
noncomputable def S1Ok (env : Env) (st : Stmt) (ps : PS) : Prop := ∀ {σ : Sg} {ρ : List Addr} {H : AHeap} {s : Shared} {A : Around} {Q : SPost} {X : XPost} {E : Value → Shared → Prop},
  FR C env σ ρ s.heap → Sim C ρ H s → AOk C K A → semS T ps σ H Q X → TakesS C env ρ s X E → wpAny C.M A (exec st env) (PF C env ρ s Q) E s
end
section
variable {C : Cx} {T : Tab} {K : Nat} {env : Env}
theorem PXS.trans {ρ ρ1 : List Addr} {s s1 : Shared} {X : XPost} {u : Value} {s' : Shared} (st : StepG (own env) ρ s ρ1 s1) (h : PXS C env ρ1 s1 X u s') : PXS C env ρ s X u s' :=
  by obtain ⟨ρ', H', v, a, b, c, d, f⟩ := h; exact ⟨ρ', H', v, st.trans a, b, c.back st.live, d, f⟩
theorem PXS.no {ρ : List Addr} {s : Shared} {u : Value} {s' : Shared} (h : PXS C env ρ s (fun _ _ => False) u s') : False := by obtain ⟨_, _, _, _, _, _, q, _⟩ := h; exact q
theorem TakesS.takes {σ : Sg} {ρ : List Addr} {s : Shared} {X : XPost} {E : Value → Shared → Prop} (F : FR C env σ ρ s.heap) (h : TakesS C env ρ s X E) : Takes C ρ s X E := fun e s' ⟨ρ', H', c, st, S, x, q⟩ => h e s' ⟨ρ', H', c, st.up, S, x, q, σ, F.step st⟩
theorem TakesS.on {ρ ρ1 : List Addr} {s s1 : Shared} {X : XPost} {E : Value → Shared → Prop} (h : TakesS C env ρ s X E) (st : StepG (own env) ρ s ρ1 s1) : TakesS C env ρ1 s1 X E := fun e s' p => h e s' (p.trans st)
theorem PF.trans {ρ ρ1 : List Addr} {s s1 s' : Shared} {Q : SPost} {f : Flow} (st : StepG (own env) ρ s ρ1 s1) (h : PF C env ρ1 s1 Q f s') : PF C env ρ s Q f s' :=
  by obtain ⟨ρ', H', σ', fl, a, b, c, d, e⟩ := h; exact ⟨ρ', H', σ', fl, st.trans a, b, c, d, e⟩
theorem not_swap {v t : Expr} {line : Nat} (hv : isComp v = false) : swapsWith v (some t) line env = pure false := by
  cases v <;> first | rfl | cases hv
theorem not_swap0 {v : Expr} {line : Nat} (hv : isComp v = false) : swapsWith v none line env = pure false := by
  cases v <;> first | rfl | cases hv
theorem not_swap_t {v t : Expr} {line : Nat} (ht : ∀ x p, t ≠ .Name x p) : swapsWith v (some t) line env = pure false := by
  cases v <;> first | rfl | (cases t <;> first | rfl | exact absurd rfl (ht _ _))
theorem bl_nil : BlOk C T K env [] .skip := fun F S hA h hE => wpAny_execs_nil ⟨_, _, _, .next, StepG.refl _ _, S, F, rfl, h⟩
theorem bl_cons {st : Stmt} {r : List Stmt} {p q : PS} (h1 : S1Ok C T K env st p) (h2 : BlOk C T K env r q) : BlOk C T K env (st :: r) (.seq p q) := by
  intro σ ρ H s A Q X E F S hA h hE
  refine wpAny_execs_cons (wpAny_mono (h1 F S hA h hE) (fun f s1 ⟨ρ1, H1, σ1, fl, st1, S1, F1, hf, hq⟩ => ?_) fun _ _ x => x)
  cases fl with
  | next =>
    cases hf
    exact wpAny_mono (h2 F1 S1 hA hq (TakesS.on hE st1)) (fun _ _ p => PF.trans st1 p) fun _ _ x => x
  | brk => cases hf; exact ⟨ρ1, H1, σ1, .brk, st1, S1, F1, rfl, hq⟩
  | ret v => obtain ⟨u, rfl, hv⟩ := hf; exact ⟨ρ1, H1, σ1, .ret v, st1, S1, F1, ⟨u, rfl, hv⟩, hq⟩
theorem s_pass {pos : Pos} : S1Ok C T K env (.Pass pos) .skip := fun F S hA h hE => wpAny_Pass ⟨_, _, _, .next, StepG.refl _ _, S, F, rfl, h⟩
theorem s_break {pos : Pos} : S1Ok C T K env (.Break pos) .brk := fun F S hA h hE => wpAny_Break ⟨_, _, _, .brk, StepG.refl _ _, S, F, rfl, h⟩
theorem s_ret {e : Expr} {pos : Pos} {pe : PE} (he : EvOk C T K env e pe) : S1Ok C T K env (.Return (some e) pos) (.ret pe) := by
  intro σ ρ H s A Q X E F S hA h hE
  exact wpAny_Return_some (he.bind F S hA h (TakesS.takes F hE) fun ρ1 H1 v u s1 st F1 S1 hv hq hE1 => ⟨ρ1, H1, σ, .ret v, st.up, S1, F1, ⟨u, rfl, hv⟩, hq⟩)
theorem s_ret0 {pos : Pos} : S1Ok C T K env (.Return none pos) (.ret .none) := fun F S hA h hE => wpAny_Return_none ⟨_, _, _, .ret .none, StepG.refl _ _, S, F, ⟨_, rfl, rfl⟩, h⟩
theorem s_expr {e : Expr} {pos : Pos} {pe : PE} (he : EvOk C T K env e pe) (hc : isComp e = false) : S1Ok C T K env (.Expr e pos) (.expr pe) := by
  intro σ ρ H s A Q X E F S hA h hE
  exact wpAny_Expr_any (he.bind F S hA h (TakesS.takes F hE) fun ρ1 H1 v u s1 st F1 S1 hv hq hE1 => ⟨ρ1, H1, σ, .next, st.up, S1, F1, rfl, hq⟩) (by unfold interactive; rw [F.kind]; rfl) (not_swap0 hc)
theorem s_if {c : Expr} {a b : List Stmt} {pos : Pos} {pc : PE} {pa pb : PS} (hc : TtOk C T K env c pc) (ha : BlOk C T K env a pa) (hb : BlOk C T K env b pb) : S1Ok C T K env (.If c a b pos) (.ite pc pa pb) := by
  intro σ ρ H s A Q X E F S hA h hE
  refine wpAny_If (hc.bind F S hA h (TakesS.takes F hE) fun ρ1 H1 t s1 st F1 S1 hq hE1 => ?_)
  cases t with
  | true => exact wpAny_mono (ha F1 S1 hA hq (TakesS.on hE st.up)) (fun _ _ p => PF.trans st.up p) fun _ _ x => x
  | false => exact wpAny_mono (hb F1 S1 hA hq (TakesS.on hE st.up)) (fun _ _ p => PF.trans st.up p) fun _ _ x => x
theorem set_ok {o i v : V} {ou iu vu : Value} {H : AHeap} {q : AHeap → Prop} {ρ : List Addr} {s : Shared} {A : Around} {E : Value → Shared → Prop} (h : setItemA o i v H q) (S : Sim C ρ H s) (ho : VR C ρ o ou) (hi : VR C ρ i iu) (hv : VR C ρ v vu) :
    wpAny C.M A (setItem ou iu vu) (fun _ s' => ∃ H', Step ρ s ρ s' ∧ Sim C ρ H' s' ∧ q H') E s := by
  cases h with
  | @dict n es ep k hn e1 hl hq =>
    obtain ⟨a, rfl, ea, hor⟩ := S.lookup e1 ho
    obtain ⟨ok, tk, rfl⟩ := hi
    obtain ⟨kvs, hd, hdk⟩ := dict_of hor
    refine wpAny_setItem_pairs (strKind_is _ _ _ tk) hd (fun h' hm hsb => ?_) (by rw [← hdk.length]; exact lid_le (Nat.le_of_lt hl))
    obtain ⟨ep', ho'⟩ := dict_is hm (dk_stored ok hv hdk) (by
      unfold stA
      split
      · rw [List.length_map]; exact Nat.le_of_lt hl
      · rw [List.length_append]; exact hl)
    obtain ⟨S1, st1⟩ := S.change (h' := h') (tk := s.toks + 1) (o := .dict (stA es k v) ep') hn ea (fun b x hb e => hsb.extBut b x hb e) ho'
    exact ⟨_, st1, S1, hq ep'⟩
theorem s_setItem {o i e : Expr} {p pos : Pos} {po pi pe : PE} (ho : EvOk C T K env o po) (hi : EvOk C T K env i pi) (he : EvOk C T K env e pe) : S1Ok C T K env (.Assign [.Subscript o i p] e pos) (.setItem po pi pe) := by
  intro σ ρ H s A Q X E F S hA h hE
  refine wpAny_Assign_Subscript (he.bind F S hA h (TakesS.takes F hE) fun ρ1 H1 v1 u1 s1 st1 F1 S1 hv1 hq1 hE1 => ho.bind F1 S1 hA hq1 hE1 fun ρ2 H2 v2 u2 s2 st2 F2 S2 hv2 hq2 hE2 => hi.bind F2 S2 hA hq2 hE2 fun ρ3 H3 v3 u3 s3 st3 F3 S3 hv3 hq3 hE3 => ?_) (not_swap_t fun _ _ q => by cases q)
  refine wpAny_mono (set_ok hq3 S3 (st3.vr hv2) hv3 (st3.vr (st2.vr hv1))) (fun _ s' ⟨H', st4, S4, hq4⟩ => ?_) fun _ _ x => x
  exact ⟨ρ3, H', σ, .next, (((st1.trans st2).trans st3).trans st4).up, S4, F3.step st4, rfl, hq4⟩
end
end Mine
end
section
namespace Mine
open PySem PySem.Calls PyProof.Rows
section
variable {C : Cx} {T : Tab} {K : Nat} {env : Env}
theorem ownT_step {Z : List Str} {ρ ρ1 : List Addr} {s s1 : Shared} (st : StepG (ownT env Z) ρ s ρ1 s1) : StepG (own env) ρ s ρ1 s1 := st.mono ownT.own
theorem s_assign_plain {x : Str} {p pos : Pos} {v : Expr} {pv : PE} (hx : stored env.kindOf x = true) (hv : EvOk C T K env v pv) (hs : swapsWith v (some (.Name x p)) pos.line env = pure false) : S1Ok C T K env (.Assign [.Name x p] v pos) (.assign (.name x) pv) := by
  intro σ ρ H s A Q X E F S hA h hE
  refine wpAny_Assign_Name (hv.bind F S hA h (TakesS.takes F hE) fun ρ1 H1 v1 u1 s1 st1 F1 S1 hv1 hq1 hE1 => ?_) hs
  refine store_ok (Z := [x]) F1 S1 (.head _) (stored_iff hx) (stored_ne hx) hv1 fun s2 F2 S2 st2 => ?_
  exact ⟨ρ1, H1, _, .next, (StepG.up st1).trans (ownT_step st2), S2, F2, rfl, hq1⟩
theorem s_assign_name (hT : TabOk C T K) {x : Str} {p pos : Pos} {v : Expr} {pv : PE} {n : Nat} (hx : stored env.kindOf x = true) (h : trE n env.kindOf v = some pv) : S1Ok C T K env (.Assign [.Name x p] v pos) (.assign (.name x) pv) := by
  have hv : EvOk C T K env v pv := (tr_ok hT n _ v pv h env rfl).1
  cases hc : isComp v with
  | true =>
    cases v <;> first | (cases hc; done) | skip
    · rename_i elt gens sc cpos
      cases n with
      | zero => cases h
      | succ n =>
      obtain ⟨b, hb⟩ : ∃ b, swapsWith (.ListComp elt gens sc cpos) (some (.Name x p)) pos.line env = pure b := ⟨_, rfl⟩
      cases b with
      | false => intro σ ρ H s A Q X E; exact s_assign_plain hx hv hb
      | true =>
        obtain ⟨target, iter, ifs, t', pit, test, el, cc⟩ := tr_comp hT (fun e pe h => (tr_ok hT n _ e pe h env rfl).1) (fun e pe h => tr_star h) (fun cenv hc e pe h => tr_ok hT n _ e pe h cenv hc) h
        obtain ⟨rfl, hs, ho, htr, hf, hit, hts, hel, hsem, _⟩ := cc
        intro σ ρ H s A Q X E F S hA h hE
        rw [exec_Assign_Name_used _ _ _ _ hb]
        refine wpAny_bind (wpAny_standAt (wpAny_bind ?_))
        show wpAny _ A (do let _ ← comprehension (.ListComp elt [⟨target, iter, ifs, 0⟩] sc cpos) sc env _ (newList []) false (eval iter env) (some (assign (.Name x p) env))) _ _ s
        refine wpAny_bind (wpAny_mono (Q := fun _ s' => PF C env ρ s Q .next s') ?_ (fun _ s' hq => wpAny_pure (wpAny_pure hq)) fun _ _ e => e)
        refine comp_any (use := some (assign (.Name x p) env)) hA F S (TakesS.takes F hE) hs ho htr hf hit (hts X) (hel X) (hsem σ H _ X h) ?_
        intro D Cc t m _ hm hn ρ1 H1 v st1 S1 v1 hq hC
        show wpAny _ A (assign (.Name x p) env (.ref D)) _ _ _
        refine assign_Name (store_ok (Z := [x]) (F.step st1) S1 (.head _) (stored_iff hx) (stored_ne hx) v1 fun s2 F2 S2 st2 => ?_)
        have hown : ¬ own env Cc := fun q => by obtain ⟨o, e⟩ := F.alive _ q; rw [hn] at e; cases e
        obtain ⟨ob, es, ep, eC, _⟩ := id hm
        refine ⟨m, Same.ns hm fun o e => st2.keep _ o hC (fun q => hown (ownT.own _ q)) e, fun h' hsb => ?_⟩
        obtain ⟨st3, S3⟩ := adrift (W := fun b => b = Cc) (h' := h') (tk := s2.toks) ((StepG.up st1).trans (ownT_step st2)) S2 (fun b hb => by subst hb; exact ⟨hn, hC, base_none S hn⟩) (fun b o hb e => hsb.extBut b o hb e) S.frs
        exact ⟨ρ1, H1, _, .next, st3, S3, F2.at fun b hb o e => hsb.extBut b o (fun q => hown (q ▸ hb)) e, rfl, hq⟩
    · cases n <;> cases h
    · cases n <;> cases h
  | false => intro σ ρ H s A Q X E; exact s_assign_plain hx hv (not_swap hc)
theorem sets_cons_ne : ∀ (ps : List (Str × V)) (σ : Sg) (x : Str) (v : V), x ∉ ps.map (·.1) → (σ.set x v).sets ps = (σ.sets ps).set x v
  | [], _, _, _, _ => rfl
  | (y, w) :: r, σ, x, v, h => by
    have hxy : x ≠ y := fun q => h (by rw [q, List.map_cons]; exact .head _)
    have h' : x ∉ r.map (·.1) := fun q => h (by rw [List.map_cons]; exact .tail _ q)
    unfold Sg.sets
    have : (σ.set x v).set y w = (σ.set y w).set x v := by
      funext z
      unfold Sg.set
      by_cases z1 : z = x <;> by_cases z2 : z = y
      · exact absurd (z1.symm.trans z2) hxy
      · simp [z1, hxy]
      · simp [z2, Ne.symm hxy]
      · simp [z1, z2]
    rw [this, sets_cons_ne r _ x v h']
theorem sets_append : ∀ (ps qs : List (Str × V)) (σ : Sg), σ.sets (ps ++ qs) = (σ.sets ps).sets qs
  | [], _, _ => rfl
  | (y, w) :: r, qs, σ => by
    show (σ.set y w).sets (r ++ qs) = ((σ.set y w).sets r).sets qs
    exact sets_append r qs _
theorem sets_reverse : ∀ (ps : List (Str × V)) (σ : Sg), (ps.map (·.1)).Nodup → σ.sets ps.reverse = σ.sets ps
  | [], _, _ => rfl
  | (y, w) :: r, σ, h => by
    rw [List.map_cons, List.nodup_cons] at h
    rw [List.reverse_cons, sets_append, sets_reverse r σ h.2]
    show (σ.sets r).set y w = (σ.set y w).sets r
    rw [sets_cons_ne r σ y w h.1]
theorem stores_list {A : Around} {E : Value → Shared → Prop} {Z : List Str} : ∀ (xs : List Str) (vs : List V) (us : List Value) (σ : Sg) (ρ : List Addr) (H : AHeap) (s : Shared) (Q : Unit → Shared → Prop),
    xs.length = vs.length → All2 (VR C ρ) vs us → (∀ x ∈ xs, x ∈ Z) → (∀ x ∈ xs, stored env.kindOf x = true) → FR C env σ ρ s.heap → Sim C ρ H s →
    (∀ s', FR C env (σ.sets (xs.zip vs)) ρ s'.heap → Sim C ρ H s' → StepG (ownT env Z) ρ s ρ s' → Q () s') → wpAny C.M A (assignInOrder (xs.map fun x => bindName env x) us) Q E s
  | [], [], _, σ, ρ, H, s, Q, _, .nil, _, _, F, S, h => wpAny_pure (h s F S (StepG.refl _ _))
  | x :: xs, v :: vs, _, σ, ρ, H, s, Q, hl, .cons (b := u) (bs := us) hv hr, hz, hk, F, S, h => by
    rw [List.map_cons, assignInOrder]
    refine wpAny_bind (wpAny_holding (bindName_ (store_ok F S (hz x (.head _)) (stored_iff (hk x (.head _))) (stored_ne (hk x (.head _))) hv fun s1 F1 S1 st1 => ?_)))
    refine stores_list xs vs us _ ρ H s1 Q (by simpa using hl) hr (fun y hy => hz y (.tail _ hy)) (fun y hy => hk y (.tail _ hy)) F1 S1 fun s2 F2 S2 st2 => h s2 F2 S2 (st1.trans st2)
  | [], _ :: _, _, _, _, _, _, _, hl, _, _, _, _, _, _ => by simp at hl
  | _ :: _, [], _, _, _, _, _, _, hl, _, _, _, _, _, _ => by simp at hl
theorem tgt_filter {p : Str → Pos → Bool} : ∀ {ts : List Expr} {xs : List Str}, tgtNames ts = some xs → (ts.filterMap fun | .Name id pos => if p id pos then some id else none | _ => none).length = ts.length → (ts.filterMap fun | .Name id pos => if p id pos then some id else none | _ => none) = xs
  | [], _, h, _ => by cases h; rfl
  | e :: r, xs, h, hl => by
    unfold tgtNames at h
    split at h
    · rename_i x q he
      cases asName_is he
      obtain ⟨ys, hr, rfl⟩ := Option.map_eq_some_iff.mp h
      rw [List.filterMap_cons] at hl ⊢
      dsimp only at hl ⊢
      by_cases hp : p x q = true
      · rw [if_pos hp] at hl ⊢
        dsimp only at hl ⊢
        rw [tgt_filter hr (Nat.succ.inj hl)]
      · rw [if_neg hp] at hl
        dsimp only at hl
        have := List.length_filterMap_le (fun | .Name id pos => if p id pos then some id else none | _ => none) r
        rw [hl] at this
        exact absurd this (Nat.not_succ_le_self _)
    · cases h
theorem swapped_one {ts : List Expr} {k : Nat} {tp : Pos} {v : Expr} {xs : List Str} (hx : tgtNames ts = some xs) (hv : oneTup v = false) : swappedStores [.Tuple ts k tp] v env = pure none ∨ swappedStores [.Tuple ts k tp] v env = pure (some xs) := by
  cases v <;> first | exact .inl rfl | skip
  rename_i vs k' vp
  unfold swappedStores
  dsimp only
  split
  · exact .inl rfl
  · split
    · exact .inl rfl
    · split
      · exact .inl rfl
      · rename_i hn
        split
        · exact .inl rfl
        · have : (vs.all (constantsAlone 8)) = false := hv
          rw [this]
          right
          rw [if_neg (by simp)]
          rw [Bool.or_eq_true, not_or] at hn
          have hn1 := hn.1
          simp only [bne_iff_ne, ne_eq, Decidable.not_not] at hn1
          exact congrArg (fun l => (pure (some l) : Sem (Option (List Str)))) (tgt_filter (p := fun id pos => env.kindOf id == some .local && pos.line == (Option.map (fun x => x.pos.line) ts.head?).getD 0) hx hn1)
theorem s_assign_tup {ts : List Expr} {k : Nat} {tp pos : Pos} {v : Expr} {pv : PE} {t' : Tgt} (ht : trT env.kindOf (.Tuple ts k tp) = some t') (hv : EvOk C T K env v pv) (hc : isComp v = false) (ho : oneTup v = false) : S1Ok C T K env (.Assign [.Tuple ts k tp] v pos) (.assign t' pv) := by
  intro σ ρ H s A Q X E F S hA h hE
  have hs : swapsWithSole [.Tuple ts k tp] v pos.line env = pure false := by
    unfold swapsWithSole
    exact not_swap_t (t := .Tuple ts k tp) fun _ _ q => nomatch q
  have ht0 := ht
  have ht : (match tgtNames ts with
      | some xs => if xs.all (stored env.kindOf) && decide xs.Nodup then some (Tgt.tup xs) else none
      | none => none) = some t' := ht
  split at ht
  · rename_i xs hxs
    split at ht
    · rename_i hk
      cases ht
      obtain ⟨hk1, hk2⟩ := Bool.and_eq_true_iff.mp hk
      have hk1 : ∀ x ∈ xs, stored env.kindOf x = true := List.all_eq_true.mp hk1
      have hk2 : xs.Nodup := by simpa using hk2
      rcases swapped_one (env := env) (k := k) (tp := tp) hxs ho with hw | hw
      · refine Assign_Tuple (hv.bind F S hA h (TakesS.takes F hE) fun ρ1 H1 v1 u1 s1 st1 F1 S1 hv1 hq1 hE1 => ?_) hs hw
        split at hq1
        · rename_i σ' hb
          refine assign_ok (x := .one v1) (h0 := s1.heap) hA.h ht0 hb hv1 F1 S1 fun s2 F2 S2 st2 => ?_
          exact ⟨ρ1, H1, σ', .next, (StepG.up st1).trans (ownT_step st2), S2, F2, rfl, hq1⟩
        · exact hq1.elim
      · refine Assign_Tuple_swapped (names := xs) (hv.bind F S hA h (TakesS.takes F hE) fun ρ1 H1 v1 u1 s1 st1 F1 S1 hv1 hq1 hE1 => ?_) hs hw
        split at hq1
        · rename_i σ' hb
          cases v1 with
          | ref n =>
            unfold bindA at hb
            dsimp only at hb
            split at hb
            · rename_i vs e1
              split at hb
              · rename_i hl
                cases hb
                obtain ⟨a, rfl, ea, us, m, hob, hs', _⟩ := S1.lookup e1 hv1
                have hz : xs.length = us.size := by rw [hl, hs'.length]; simp
                refine unpack_tuple hA.h S1 hob hz fun h' hk' => ?_
                obtain ⟨S2, st2⟩ := S1.grow (h' := h') (tk := s1.toks) hk'
                refine stores_list (Z := xs) xs.reverse vs.reverse us.toList.reverse σ ρ1 H1 _ _ (by simpa using hl) hs'.reverse (fun x hx => by simpa using hx) (fun x hx => hk1 x (by simpa using hx)) (F1.step st2) S2 fun s3 F3 S3 st3 => ?_
                have e4 : xs.reverse.zip vs.reverse = (xs.zip vs).reverse := by
                  unfold List.zip; exact (List.reverse_zipWith hl).symm
                rw [e4, sets_reverse _ _ (by rw [map_fst_zip hl]; exact hk2)] at F3
                exact ⟨ρ1, H1, _, .next, ((StepG.up st1).trans (StepG.up st2)).trans (ownT_step st3), S3, F3, rfl, hq1⟩
              · cases hb
            · cases hb
          | _ => cases hb
        · exact hq1.elim
    · cases ht
  · cases ht
end
end Mine
end
section
namespace Mine
open PySem PySem.Calls PyProof.Rows
section
variable {C : Cx} {T : Tab} {K : Nat} {env : Env}
theorem s_for (hfr : ∃ fs, C.frs = env :: fs ∧ env.frame = some env.locals) {t it : Expr} {body : List Stmt} {pos : Pos} {t' : Tgt} {pit : PE} {pb : PS} (ht : trT env.kindOf t = some t') (hit : ItOk C T K env it pit) (hf : ∀ x, foldedSetIterable it env x = pure x) (hb : BlOk C T K env body pb) :
    S1Ok C T K env (.For t it body [] pos) (.for_ t' pit pb) := by
  intro σ ρ H s A Q X E F S hA h hE
  refine wpAny_For ?_ hf
  refine wpAny_mono (hit F S hA h (TakesS.takes F hE)) (fun xv s₁ h₁ => wpAny_mono h₁ (fun itv s₂ h₂ => ?_) fun _ _ e => e) fun _ _ e => e
  obtain ⟨ρ0, H0, items, Kp, I, wr, St, rfl, hI, hst, st0, S0, hw, hgo⟩ := h₂
  have hwown : ∀ b ∈ wr, ¬ own env b := fun b hb e => by
    obtain ⟨o, e1⟩ := F.alive b e
    rw [(hw b hb).1] at e1; cases e1
  have hW : ∀ ρ1 : List Addr, (∀ b ∈ wr, b ∉ ρ1) → ∀ b, b ∈ wr → s.heap.get? b = none ∧ b ∉ ρ1 ∧ C.base.get? b = none := fun ρ1 x1 b hb => ⟨(hw b hb).1, x1 b hb, base_none S (hw b hb).1⟩
  let Inv : Nat → Shared → Prop := fun n t => ∃ i σ1 ρ1 H1, i + n = items.length ∧ St i t.heap ∧ StepG (own env) ρ s ρ1 t ∧ (∃ l, ρ1 = ρ0 ++ l) ∧ Sim C ρ1 H1 t ∧ (∀ b ∈ wr, b ∉ ρ1) ∧
    FR C env σ1 ρ1 t.heap ∧ forGo Kp (fun x H' σ' => bindA t' x H' σ') (fun σ' H' q => semS T pb σ' H' q X) Q (items.drop i) σ1 H1
  refine codeAny_forLoop_any Inv (fun n tt hInv => ?_) items.length ⟨0, σ, ρ0, H0, by simp, hst, StepG.up st0, ⟨[], by simp⟩, S0, fun b hb => (hw b hb).2, F.step st0, by simpa using hgo⟩
  obtain ⟨i, σ1, ρ1, H1, hin, hSt, st1, hl1, S1, hw1, F1, hg⟩ := hInv
  cases n with
  | zero =>
    have hi : i = items.length := by lia
    subst hi
    rw [List.drop_length] at hg
    obtain ⟨hK, hq⟩ := hg
    refine wpAny_mono (hI.done ρ1 H1 tt _ hSt S1 hl1 hK hw1) (fun r s1 hr => ?_) fun _ _ x => x
    obtain ⟨rfl, h', tk, rfl, hk⟩ := hr
    refine wpAny_execs_nil ?_
    obtain ⟨st4, S4⟩ := adrift (W := fun b => b ∈ wr) (h' := h') (tk := tk) st1 S1 (hW ρ1 hw1) (fun b o hb e => hk b o hb e) S.frs
    exact ⟨ρ1, H1, σ1, .next, st4, S4, F1.at fun b hb o e => hk b o (fun q => hwown b q hb) e, rfl, hq⟩
  | succ n =>
    have hi : i < items.length := by lia
    rw [List.drop_eq_getElem_cons hi] at hg
    obtain ⟨hK, hg⟩ := hg
    dsimp only at hg
    split at hg
    · rename_i σ' hb'
      refine wpAny_mono (hI.next i items[i] t ρ1 H1 tt _ (List.getElem?_eq_getElem hi) (fits ht hb') hSt S1 hl1 hK hw1) (fun r s1 hr => ?_) fun _ _ x => x
      obtain ⟨u, rfl, hu⟩ := hr
      refine wpAny_mono hu (fun _ s1' hs1 => ?_) fun _ _ x => x
      obtain ⟨h', tk, rfl, hIR, hSt', hk⟩ := hs1
      obtain ⟨st4, S4⟩ := adrift (W := fun b => b ∈ wr) (h' := h') (tk := tk) st1 S1 (hW ρ1 hw1) (fun b o hb e => hk b o hb e) S.frs
      have F4 : FR C env σ1 ρ1 h' := F1.at fun b hb o e => hk b o (fun q => hwown b q hb) e
      refine assign_ok hA.h ht hb' hIR F4 S4 fun s5 F5 S5 st5 => ?_
      have st5' := ownT_step st5
      have hSt5 : St (i + 1) s5.heap := hI.frame _ _ _ hSt' fun b hb o e hc => (st5'.keep b o (hw1 b hb) (hwown b hb) e).eq hc
      refine wpAny_mono (hb F5 S5 hA hg fun e s' p => ?_) (fun f s6 h6 => ?_) fun _ _ x => x
      · obtain ⟨fs, hfs, hfL⟩ := hfr
        obtain ⟨ρ2, H2, c, st6, S6, x6, hX, σ6, F6⟩ := p
        have st46 := (st4.trans st5').trans st6
        refine note_step (ex := own env) st46 S6 (x6.back (st4.trans st5').live) hfs hfL hA.fr fun a h7 ea S7 st7 x7 k7 => ?_
        subst ea
        obtain ⟨_, o7, vs7, t7, _, _, _, _, _, _, y1, _, y2, _, y3, _⟩ := id x7
        refine wpAny_bind (wpAny_field y1 y2 y3 ?_)
        rw [if_neg (show ¬ ((Value.ref t7 == Value.none) = true) from Bool.false_ne_true)]
        refine (flight_step (ex := own env) st7 S7 x7 fun h8 S8 st8 x8 k8 => hE _ _ ⟨ρ2, H2, c, st8, S8, x8.xr ?_, hX, σ6, (F6.flies k7).flies k8⟩)
        rw [hfL]
        exact .inr ⟨env.locals, by unfold headFr; rw [hfs]; exact hfL, rfl⟩
      obtain ⟨ρ2, H2, σ2, fl, st6, S6, F6, hf6, hq6⟩ := h6
      have st46 := (st4.trans st5').trans st6
      cases fl with
      | next =>
        cases hf6
        refine ⟨n, Nat.lt_succ_self n, i + 1, σ2, ρ2, H2, by lia, hI.frame _ _ _ hSt5 fun b hb o e hc => (st6.keep b o (hw1 b hb) (hwown b hb) e).eq hc, st46, ?_, S6, fun b hb => ?_, F6, hq6⟩
        · obtain ⟨l, e⟩ := hl1
          obtain ⟨l', e', _⟩ := st6.ext
          exact ⟨l ++ l', by rw [e', e, List.append_assoc]⟩
        · obtain ⟨o, e⟩ := hI.alive _ _ hSt5 b hb
          exact stay_out st6 e (hw1 b hb)
      | brk =>
        cases hf6
        exact ⟨ρ2, H2, σ2, .next, st46, S6, F6, rfl, hq6⟩
      | ret v =>
        obtain ⟨u, rfl, hv⟩ := hf6
        exact ⟨ρ2, H2, σ2, .ret v, st46, S6, F6, ⟨u, rfl, hv⟩, hq6⟩
    · exact hg.elim
theorem s_while {c : Expr} {body : List Stmt} {pos : Pos} {pc : PE} {pb : PS} (hc : TtOk C T K env c pc) (hb : BlOk C T K env body pb) : S1Ok C T K env (.While c body [] pos) (.while_ pc pb) := by
  intro σ ρ H s A Q X E F S hA h hE
  obtain ⟨N, h⟩ := h
  refine wpAny_While ?_
  let Inv : Nat → Shared → Prop := fun n t => ∃ σ1 ρ1 H1, StepG (own env) ρ s ρ1 t ∧ Sim C ρ1 H1 t ∧ FR C env σ1 ρ1 t.heap ∧ whileGo (fun σ' H' q => (sem T pc).tt σ' H' q fun _ _ => False) (fun σ' H' q => semS T pb σ' H' q fun _ _ => False) Q n σ1 H1
  refine codeAny_whileLoop Inv (fun n tt hInv => ?_) N ⟨σ, ρ, H, StepG.refl _ _, S, F, h⟩
  obtain ⟨σ1, ρ1, H1, st1, S1, F1, hg⟩ := hInv
  cases n with
  | zero => exact hg.elim
  | succ n =>
    refine hc.bind F1 S1 hA hg (fun e s' p => p.no.elim) fun ρ2 H2 b s2 st2 F2 S2 hq hE2 => ?_
    cases b with
    | false =>
      rw [if_neg (by simp)]
      exact wpAny_execs_nil ⟨ρ2, H2, σ1, .next, st1.trans (StepG.up st2), S2, F2, rfl, hq⟩
    | true =>
      rw [if_pos rfl] at hq
      rw [if_pos rfl]
      refine wpAny_mono (hb F2 S2 hA hq fun e s' p => p.no.elim) (fun f s6 h6 => ?_) fun _ _ x => x
      obtain ⟨ρ3, H3, σ3, fl, st6, S6, F6, hf6, hq6⟩ := h6
      have st46 := (st1.trans (StepG.up st2)).trans st6
      cases fl with
      | next =>
        cases hf6
        exact ⟨n, Nat.lt_succ_self n, σ3, ρ3, H3, st46, S6, F6, hq6⟩
      | brk =>
        cases hf6
        exact ⟨ρ3, H3, σ3, .next, st46, S6, F6, rfl, hq6⟩
      | ret v =>
        obtain ⟨u, rfl, hv⟩ := hf6
        exact ⟨ρ3, H3, σ3, .ret v, st46, S6, F6, ⟨u, rfl, hv⟩, hq6⟩
theorem s_raise (hT : TabOk C T K) {c : Str} {np cpos pos : Pos} {a : Expr} {pa : PE} (hg : isG0 env.kindOf c = true) (ha : EvOk C T K env a pa) (hs : isStar a = false) :
    S1Ok C T K env (.Raise (some (.Call (.Name c np) [a] [] cpos)) none pos) (.raise c pa) := by
  intro σ ρ H s A Q X E F S hA h hE
  obtain ⟨hc, h⟩ := h
  obtain ⟨hk, hd⟩ := Bool.and_eq_true_iff.mp hg
  obtain ⟨hcalm, kk, B, newId, initId, bm, hG, FB, O⟩ := hT.cls c hc
  obtain ⟨tl, N, nm, q, bs, hdct, sn, sub, ab, col, dd, k0, k1, k2, k3, k5, mN, hC, hN, hni, TT⟩ := O.obj
  have hs' : ∀ x ∈ [a], isStar x = false := fun x hx => by simp at hx; subst hx; exact hs
  refine wpAny_Raise_call_subT (C := kk) (nm := nm) (q := q) (N := N) (bs := bs) (bm := tl) (hdct := hdct) (sn := sn) (sub := sub) (ab := ab) (col := col) (dd := dd) (k0 := k0) (k1 := k1) (k2 := k2) (k3 := k3) (k5 := k5)
    FB (mN := mN) (TT.hasType FB.hasBase) (hA.hc hcalm) (any_false hs') hni (global_ok F S (beq_iff_eq.mp hk) hG (by simpa using hd) ⟨rfl, ?_⟩)
  refine evalArgs_any hs' (wpAny_items_cons (ha.bind F S hA h (TakesS.takes F hE) fun ρ1 H1 v u s1 st F1 S1 hv hq hE1 => wpAny_items_nil ⟨rfl, by show 1 ≤ sizeLine; decide, S1.stays _ _ hC, hN.keeps S1.stays, TT.keeps S1.stays, fun h' e hm => ?_⟩) (star_cons hs []))
  obtain ⟨S2, st2⟩ := S1.grow (h' := h') (tk := s1.toks) hm.keeps
  obtain ⟨t, he, _, _⟩ := hm.there
  exact hE _ _ ⟨ρ1, H1, c, (st.trans st2).up, S2, ⟨e, kk, _, _, rfl, hG, none_ρ S1 hm.new, base_none S1 hm.new, none_before st hm.new, he, rfl, rfl, rfl, .inl rfl⟩, hq, σ, F1.step st2⟩
theorem s_try (hT : TabOk C T K) (hfr : ∃ fs, C.frs = env :: fs ∧ env.frame = some env.locals) {n : Nat} (hn : n = 60) {body : List Stmt} {h : Expr} {p2 p3 p4 pos : Pos} {c x : Str} {pb : PS} {ph : PE} (hb : BlOk C T K env body pb) (hg : isG0 env.kindOf c = true)
    (hx : env.kindOf x = some .local) (hx0 : x ≠ dot0) (hh : trE n env.kindOf h = some ph) :
    S1Ok C T K env (.Try body [.ExceptHandler (some (.Name c p2)) (some x) [.Return (some h) p3] p4] [] [] pos) (.tryr pb c x ph) := by
  subst hn
  intro σ ρ H s A Q X E F S hA hq hE
  obtain ⟨hk, hd⟩ := Bool.and_eq_true_iff.mp hg
  obtain ⟨fs, hfs, hfL⟩ := hfr
  refine wpAny_Try_except (wpAny_mono (hb F S hA hq (E := fun e s₁ => wpAny C.M A (noteFrame e env) (fun _ s₂ => wpAny C.M A (setFlight e none) (fun _ s₃ => wpAny C.M A (handleBy e env [.ExceptHandler (some (.Name c p2)) (some x) [.Return (some h) p3] p4]) (PF C env ρ s Q) E s₃) E s₂) E s₁) ?_) (fun f s1 hp => ?_) fun _ _ x => x)
  · rintro e1 s1 ⟨ρ1, H1, k, st1, S1, xr, ⟨hcat, hev⟩, σ1, F1⟩
    obtain ⟨D, hD, hcat⟩ := hT.cat k c hcat
    refine note_step st1 S1 xr hfs hfL hA.fr fun a h2 ea S2 st2 x2 k2 => ?_
    subst ea
    refine flight_step st2 S2 x2 fun h3 S3 st3 x3 k3 => ?_
    have F3 : FR C env σ1 ρ1 h3 := (F1.flies k2).flies k3
    obtain ⟨kk, oa, va, ta, ota, tsa, z1, z2, z3, z4, z5, z6, z7, z8, _⟩ := id x3
    refine wpAny_handleBy_cons (codeAny_handlers_test (global_ok F3 S3 (beq_iff_eq.mp hk) hD (by simpa using hd) (hcat kk _ a _ _ _ _ z1 S3.stays z5 z6 ?_))) (by intro q; cases q)
    rw [if_pos rfl]
    refine codeAny_handlers_suite_as (flight_step st3 S3 x3 fun h4 S4 st4 x4 k4 => ?_)
    have F4 := (F3.flies k4).bare
    obtain ⟨kk', oa', va', ta', ota', tsa', y1, y2, y3, y4, y5, y6, y7, y8, _⟩ := id x4
    refine store_ok (Z := [x]) F4 S4 (.head _) (.inl hx) hx0 (v := .exc a) rfl fun s5 F5 S5 st5 => ?_
    have ha5 : s5.heap.get? a = some _ := (st5.keep a _ y2 (fun q => by
      rcases q with q | ⟨y, hy, q, _⟩
      · obtain ⟨m, ⟨ob, _, _, hob, hdb, _⟩, _⟩ := F4.ns
        rw [q] at y5
        rw [show h4.get? env.locals = _ from y5] at hob; cases hob; rw [y7] at hdb; cases hdb
      · simp only [List.mem_singleton] at hy; rw [hy, hx] at q; cases q) y5).eq (no_ns y7)
    refine wpAny_execs_cons (wpAny_Return_some ?_)
    refine wpAny_mono (hT.hev k a ph _ H1 _ (hev a) C.frs env h ρ1 s5 (A.mark (some (.ref a))) hh F5 S5 rfl hA.d hA.u hA.fr ⟨kk', _, _, y1, y2, y3, ha5, y6, y7, y8⟩) (fun u s6 p => ?_) fun _ _ z => z.elim
    obtain ⟨ρ6, H6, v, st6, S6, hv, hq6⟩ := p
    have F6 := F5.step st6
    obtain ⟨m6, hm6, _⟩ := F6.ns
    refine wpAny_nameGoes hx hm6 (by rw [F.kind]; rfl) fun h7 m7 hm7 hs7 => ?_
    obtain ⟨o7, es7, ep7, ho7, hd7, _⟩ := id hm7
    have st46 : StepG (own env) ρ s ρ6 s6 := (st4.trans (ownT_step st5)).trans (StepG.up st6)
    refine ⟨ρ6, H6, fun _ => none, .ret v, st46.trans (step_same (.inl rfl) hs7 ho7), S6.frame F6.nL F6.bL hs7 fun _ _ _ => ⟨o7, ho7, es7, ep7, hd7⟩, ?_, ⟨u, rfl, hv⟩, hq6⟩
    exact ⟨rfl, F6.kind, F6.glob, F6.bl, ⟨m7, hm7, fun y w q => by cases q⟩, fun y cc hcc => by
      obtain ⟨ov, hi, _⟩ := F6.cells y cc hcc
      exact ⟨ov, hi.sameBut hs7 (F6.nC y cc hcc).2, fun w q => by cases q⟩, F6.has, F6.nL, F6.nC, F6.apart, F6.bL, F6.bC⟩
  · obtain ⟨ρ1, H1, σ1, fl, st1, S1, F1, hf, hq1⟩ := hp
    cases fl with
    | next => cases hf; exact wpAny_execs_nil ⟨ρ1, H1, σ1, .next, st1, S1, F1, rfl, hq1⟩
    | brk => cases hf; exact ⟨ρ1, H1, σ1, .brk, st1, S1, F1, rfl, hq1⟩
    | ret v => obtain ⟨u, rfl, hv⟩ := hf; exact ⟨ρ1, H1, σ1, .ret v, st1, S1, F1, ⟨u, rfl, hv⟩, hq1⟩
theorem s_stuck {o v : Expr} {a : Str} {p pos : Pos} {pv : PE} (hv : EvOk C T K env v pv) : S1Ok C T K env (.Assign [.Attribute o a p] v pos) (.stuck pv) := by
  intro σ ρ H s A Q X E F S hA h hE
  rw [arm_exec_Assign]
  refine wpAny_bind (wpAny_standAt (wpAny_bind (wpAny_of_eq (a := false) (show swapsWith v (some (.Attribute o a p)) pos.line env = pure false from not_swap_t fun _ _ h => nomatch h) ?_)))
  rw [if_neg Bool.false_ne_true]
  exact wpAny_bind (hv.bind F S hA h (TakesS.takes F hE) fun ρ1 H1 v1 u s1 st F1 S1 hv hq hE1 => hq.elim)
theorem bl_stuck {st : Stmt} {rest : List Stmt} {e : PE} (h1 : S1Ok C T K env st (.stuck e)) : BlOk C T K env (st :: rest) (.seq (.stuck e) .skip) := by
  intro σ ρ H s A Q X E F S hA h hE
  refine wpAny_execs_cons (wpAny_mono (h1 (Q := fun _ _ _ => False) F S hA h hE) (fun f s1 hp => ?_) fun _ _ x => x)
  obtain ⟨_, _, _, _, _, _, _, _, q⟩ := hp
  exact q.elim
theorem trT_shape {k : Kd} {t : Expr} {t' : Tgt} (h : trT k t = some t') : (∃ x p, t = .Name x p ∧ t' = .name x ∧ stored k x = true) ∨ ∃ ts n p xs, t = .Tuple ts n p ∧ t' = .tup xs := by
  unfold trT at h
  split at h
  · rename_i e
    split at h
    · rename_i hx; cases h; exact .inl ⟨_, _, asName_is e, rfl, hx⟩
    · cases h
  · split at h
    · rename_i e
      split at h
      · split at h
        · cases h; exact .inr ⟨_, _, _, _, asTup_is e, rfl⟩
        · cases h
      · cases h
    · cases h
theorem assign_tr (hT : TabOk C T K) {n : Nat} {ts : List Expr} {v : Expr} {pos : Pos} {ps : PS} (h : trAssign env.kindOf (trE n env.kindOf) ts v = some ps) : S1Ok C T K env (.Assign ts v pos) ps := by
  have ev : ∀ e pe, trE n env.kindOf e = some pe → EvOk C T K env e pe := fun e pe h => (tr_ok hT n _ e pe h env rfl).1
  cases ts with
  | nil => cases h
  | cons t r =>
    unfold trAssign at h
    dsimp only at h
    split at h
    · rename_i hr
      cases List.isEmpty_iff.mp hr
      split at h
      · rename_i hat
        obtain ⟨v', hv, rfl⟩ := Option.map_eq_some_iff.mp h
        obtain ⟨⟨o, at_, p⟩, e1⟩ := Option.isSome_iff_exists.mp hat
        cases asAttr_is e1
        intro σ ρ H s A Q X E
        exact s_stuck (ev _ _ hv)
      split at h
      · rename_i o i p e1
        cases asSub_is e1
        split at h
        · cases h
        · obtain ⟨a, ha, h⟩ := Option.bind_eq_some_iff.mp h
          obtain ⟨b, hb, h⟩ := Option.bind_eq_some_iff.mp h
          obtain ⟨c, hc, rfl⟩ := Option.map_eq_some_iff.mp h
          intro σ ρ H s A Q X E
          exact s_setItem (ev _ _ hb) (ev _ _ hc) (ev _ _ ha)
      · obtain ⟨t', ht, h⟩ := Option.bind_eq_some_iff.mp h
        obtain ⟨v', hv, h⟩ := Option.bind_eq_some_iff.mp h
        rcases trT_shape ht with ⟨x, p, rfl, rfl, hx⟩ | ⟨ts, m, p, ys, rfl, rfl⟩
        · cases h
          intro σ ρ H s A Q X E
          exact s_assign_name hT hx hv
        · have h : (if isComp v || oneTup v then none else some (PS.assign (.tup ys) v')) = some ps := h
          split at h
          · cases h
          · rename_i hcv
            cases h
            obtain ⟨h1, h2⟩ := Bool.or_eq_false_iff.mp (Bool.eq_false_iff.mpr hcv)
            intro σ ρ H s A Q X E
            exact s_assign_tup ht (ev _ _ hv) h1 h2
    · cases h
theorem one_tr (hT : TabOk C T K) (hfr : ∃ fs, C.frs = env :: fs ∧ env.frame = some env.locals) {n : Nat} (hn : n = 60) {b : List Stmt → Option PS} (hb : ∀ x ps, b x = some ps → BlOk C T K env x ps) {st : Stmt} {ps : PS} (h : tr1 env.kindOf (trE n env.kindOf) b st = some ps) : S1Ok C T K env st ps := by
  have ev : ∀ e pe, trE n env.kindOf e = some pe → EvOk C T K env e pe := fun e pe h => (tr_ok hT n _ e pe h env rfl).1
  have et : ∀ e pe, trE n env.kindOf e = some pe → TtOk C T K env e pe := fun e pe h => (tr_ok hT n _ e pe h env rfl).2
  cases st with
  | Assign ts v pos =>
    intro σ ρ H s A Q X E
    exact assign_tr hT h
  | Expr e pos =>
    have h : (if isComp e then none else (trE n env.kindOf e).map PS.expr) = some ps := h
    split at h
    · cases h
    · rename_i hc
      obtain ⟨x, hx, rfl⟩ := Option.map_eq_some_iff.mp h
      intro σ ρ H s A Q X E
      exact s_expr (ev _ _ hx) (Bool.eq_false_iff.mpr hc)
  | If c x y pos =>
    obtain ⟨c', hc, h⟩ := Option.bind_eq_some_iff.mp h
    obtain ⟨a, ha, h⟩ := Option.bind_eq_some_iff.mp h
    obtain ⟨d, hd, rfl⟩ := Option.map_eq_some_iff.mp h
    intro σ ρ H s A Q X E
    exact s_if (et _ _ hc) (hb _ _ ha) (hb _ _ hd)
  | For t it body els pos =>
    unfold tr1 at h
    dsimp only at h
    split at h
    · rename_i hels
      cases List.isEmpty_iff.mp hels
      obtain ⟨t', ht, h⟩ := Option.bind_eq_some_iff.mp h
      obtain ⟨i', hi, h⟩ := Option.bind_eq_some_iff.mp h
      obtain ⟨b', hbb, rfl⟩ := Option.map_eq_some_iff.mp h
      obtain ⟨h1, h2⟩ := trI_ok hT ev (fun e pe h => tr_star h) hi
      intro σ ρ H s A Q X E
      exact s_for hfr ht h1 (folded_no h2) (hb _ _ hbb)
    · cases h
  | While c body els pos =>
    unfold tr1 at h
    dsimp only at h
    split at h
    · rename_i hels
      cases List.isEmpty_iff.mp hels
      obtain ⟨c', hc, h⟩ := Option.bind_eq_some_iff.mp h
      obtain ⟨b', hbb, rfl⟩ := Option.map_eq_some_iff.mp h
      intro σ ρ H s A Q X E
      exact s_while (et _ _ hc) (hb _ _ hbb)
    · cases h
  | Return e pos =>
    cases e with
    | some e =>
      obtain ⟨x, hx, rfl⟩ := Option.map_eq_some_iff.mp (show (trE n env.kindOf e).map PS.ret = some ps from h)
      intro σ ρ H s A Q X E
      exact s_ret (ev _ _ hx)
    | none =>
      cases h
      intro σ ρ H s A Q X E
      exact s_ret0
  | Raise e c pos =>
    replace h : trRaise env.kindOf (trE n env.kindOf) e c = some ps := h
    unfold trRaise at h
    split at h
    · cases h
    · split at h
      · cases h
      · rename_i hc
        split at h
        · rename_i g a p e1
          cases asCall1_is e1
          split at h
          · rename_i c' p' e2
            cases asName_is e2
            split at h
            · rename_i hg
              obtain ⟨a', ha, rfl⟩ := Option.map_eq_some_iff.mp h
              have hc : c = none := by cases c with | none => rfl | some _ => exact absurd rfl hc
              subst hc
              intro σ ρ H s A Q X E
              exact s_raise hT hg (ev _ _ ha) (tr_star ha)
            · cases h
          · cases h
        · cases h
  | Try body hs els fin pos =>
    replace h : trTry env.kindOf (trE n env.kindOf) (b body) hs els fin = some ps := h
    unfold trTry at h
    split at h
    · cases h
    · split at h
      · cases h
      · split at h
        · rename_i hz
          simp only [Bool.and_eq_true, List.isEmpty_iff] at hz
          obtain ⟨⟨⟨rfl, rfl⟩, rfl⟩, rfl⟩ := hz
          split at h
          · cases h
          · rename_i hh p3 e3
            cases asRet_is e3
            unfold trHand at h
            split at h
            · cases h
            · split at h
              · cases h
              · split at h
                · cases h
                · rename_i c p2 e2
                  cases asName_is e2
                  split at h
                  · rename_i hg
                    obtain ⟨hg, hx⟩ := Bool.and_eq_true_iff.mp hg
                    obtain ⟨hx1, hx2⟩ := Bool.and_eq_true_iff.mp hx
                    obtain ⟨b', hb', h⟩ := Option.bind_eq_some_iff.mp h
                    obtain ⟨h', hh', rfl⟩ := Option.map_eq_some_iff.mp h
                    intro σ ρ H s A Q X E
                    exact s_try hT hfr hn (hb _ _ hb') hg (beq_iff_eq.mp hx1) (bne_iff_ne.mp hx2) hh'
                  · cases h
        · cases h
  | Break pos =>
    cases h
    intro σ ρ H s A Q X E
    exact s_break
  | Pass pos =>
    cases h
    intro σ ρ H s A Q X E
    exact s_pass
  | _ => cases h
theorem trS_ok (hT : TabOk C T K) (hfr : ∃ fs, C.frs = env :: fs ∧ env.frame = some env.locals) : ∀ (n : Nat) (b : List Stmt) (ps : PS), trS n env.kindOf b = some ps → BlOk C T K env b ps
  | 0, _, _, h => by cases h
  | _ + 1, [], _, h => by cases h; exact bl_nil
  | n + 1, st :: rest, ps, h => by
    obtain ⟨one, ho, h⟩ := Option.bind_eq_some_iff.mp (show (tr1 _ _ _ st).bind _ = some ps from h)
    split at h
    · rename_i hst
      cases h
      cases one <;> first | cases hst | skip
      exact bl_stuck (one_tr hT hfr rfl (fun x ps h => trS_ok hT hfr n x ps h) ho)
    obtain ⟨r, hr, rfl⟩ := Option.map_eq_some_iff.mp h
    exact bl_cons (one_tr hT hfr rfl (fun x ps h => trS_ok hT hfr n x ps h) ho) (trS_ok hT hfr n rest r hr)
end
end Mine
end
section
namespace Mine
open PySem PySem.Calls PyProof.Rows
noncomputable def sgOf (xs : List Str) (vs : List V) : Sg := Sg.sets (fun _ => none) (xs.zip vs)
noncomputable def fnSpec (T : Tab) (xs : List Str) (ps : PS) : Spec := fun vs H Q X => xs.length = vs.length ∧ semS T ps (sgOf xs vs) H (fun fl _ H' => match fl with
  | .ret v => Q v H'
  | .next => Q .none H'
  | .brk => False) X
noncomputable def plainArgs (p : Arguments) : Bool := p.posonlyargs.isEmpty && p.vararg.isNone && p.kwonlyargs.isEmpty && p.kwarg.isNone && p.defaults.isEmpty
noncomputable def goodDef (params : Arguments) (sc : Scope) : Bool :=
  let xs := params.args.map (·.arg)
  plainArgs params && decide xs.Nodup && sc.kind == .function && !sc.isCoroutine && !sc.isGenerator && xs.all (stored fun x => sc.names.lookup x)
theorem fm_congr {α β : Type} (f g : α → Option β) : ∀ (l : List α), (∀ n ∈ l, f n = g n) → l.filterMap f = l.filterMap g
  | [], _ => rfl
  | x :: r, h => by rw [List.filterMap_cons, List.filterMap_cons, h x (.head _), fm_congr f g r fun n hn => h n (.tail _ hn)]
theorem zip_lookup : ∀ (xs : List Str) (vals : List Value), xs.Nodup → xs.length = vals.length → xs.filterMap (fun n => ((xs.zip vals).lookup n).map fun v => (n, v)) = xs.zip vals
  | [], [], _, _ => rfl
  | [], _ :: _, _, h => by simp at h
  | _ :: _, [], _, h => by simp at h
  | x :: xs, v :: vals, hn, hl => by
    rw [List.nodup_cons] at hn
    rw [List.zip_cons_cons, List.filterMap_cons]
    simp only [List.lookup_cons, beq_self_eq_true]
    simp only [Option.map_some]
    congr 1
    refine Eq.trans (fm_congr _ _ xs fun n hn' => ?_) (zip_lookup xs vals hn.2 (by simpa using hl))
    have : (n == x) = false := by
      rw [beq_eq_false_iff_ne]
      exact fun q => hn.1 (q ▸ hn')
    rw [this]
theorem zip_full : ∀ (xs : List Str) (vals : List Value), xs.length = vals.length → (xs.filter fun n => ((xs.zip vals).lookup n).isNone) = [] := fun xs vals hl => by
  rw [List.filter_eq_nil_iff]
  intro n hn h
  have : ∀ (xs : List Str) (vals : List Value), xs.length = vals.length → n ∈ xs → ((xs.zip vals).lookup n).isSome = true := by
    intro xs
    induction xs with
    | nil => intro vals _ h; cases h
    | cons x xs ih =>
      intro vals hl hm
      cases vals with
      | nil => simp at hl
      | cons v vals =>
        rw [List.zip_cons_cons, List.lookup_cons]
        cases hb : n == x with
        | true => rfl
        | false =>
          cases hm with
          | head => simp at hb
          | tail _ hm => exact ih vals (by simpa using hl) hm
  have := this xs vals hl hn
  rw [Option.isNone_iff_eq_none] at h
  rw [h] at this; cases this
theorem bind_plain {name qual : Str} {p : Arguments} {body : List Stmt} {sc : Scope} {pm cd doc : Value} {vals : List Value} (hp : plainArgs p = true) (hn : (p.args.map (·.arg)).Nodup) (hl : (p.args.map (·.arg)).length = vals.length) :
    bindArgs (methDef name qual p body sc pm cd doc) ⟨vals, []⟩ = pure ((p.args.map (·.arg)).zip vals) := by
  obtain ⟨posonly, args, vararg, kwonly, kwd, kwarg, defaults⟩ := p
  unfold plainArgs at hp
  simp only [Bool.and_eq_true, List.isEmpty_iff, Option.isNone_iff_eq_none] at hp
  obtain ⟨⟨⟨⟨rfl, rfl⟩, rfl⟩, rfl⟩, rfl⟩ := hp
  unfold bindArgs
  have e1 : ∀ {α : Type} (k : Option (Array Value) → Sem α), (seqItems? (methDef name qual ⟨[], args, none, [], kwd, none, []⟩ body sc pm cd doc).defaults >>= k) = k none := fun k => rfl
  simp only [methDef, List.map_nil, List.nil_append, List.forIn_nil, List.append_nil]
  dsimp only at hl hn
  rw [pure_bind]
  have e2 : ∀ {α : Type} (k : Option (Array Value) → Sem α), (seqItems? Value.none >>= k) = k none := fun k => rfl
  rw [e2]
  simp only [Option.getD_none, Array.toList_empty, List.length_nil, Option.isNone_none, Bool.and_true, Nat.sub_self, List.drop_nil, Nat.sub_zero, List.zip_nil_right, List.forIn_nil]
  have h1 : ¬ (decide (vals.length > (List.map (fun x => x.arg) args).length) = true) := by simp; rw [← hl]; simp
  rw [if_neg h1]
  simp only [Nat.zero_sub, List.take_length, zip_full _ _ hl, List.isEmpty_nil, Bool.not_true, Bool.false_eq_true, if_false, pure_bind, List.drop_nil, List.zip_nil_right, List.forIn_nil, zip_lookup _ _ hn hl]
section
variable {C : Cx} {T : Tab} {K : Nat}
theorem cellsFrom_has : ∀ (names : List (Str × NameKind)) (n : Nat) (acc : List (Str × Addr)) (x : Str), ((x, NameKind.cell) ∈ names ∨ ∃ c, acc.lookup x = some c) → ∃ c, (cellsFrom n names acc).lookup x = some c
  | [], _, _, _, h => by
    rcases h with h | h
    · cases h
    · exact h
  | (y, k) :: r, n, acc, x, h => by
    unfold cellsFrom
    split
    · refine cellsFrom_has r _ _ x ?_
      by_cases e : x = y
      · right; exact ⟨n, by rw [List.lookup_cons, e]; simp⟩
      · rcases h with h | ⟨c, h⟩
        · cases h with
          | head => exact absurd rfl e
          | tail _ h => exact .inl h
        · right; exact ⟨c, by rw [List.lookup_cons, beq_eq_false_iff_ne.mpr e]; exact h⟩
    · rename_i hk
      refine cellsFrom_has r _ _ x ?_
      rcases h with h | h
      · cases h with
        | head => exact absurd rfl hk
        | tail _ h => exact .inl h
      · exact .inr h
theorem bindL_ok {ρ : List Addr} {kd : Kd} : ∀ (xs : List Str) (vs : List V) (us : List Value) (σ : Sg) (m : Str → Option Value), All2 (VR C ρ) vs us → xs.length = vs.length →
    (∀ x v, σ x = some v → kd x = some .local → ∃ u, m x = some u ∧ VR C ρ v u) → ∀ x v, σ.sets (xs.zip vs) x = some v → kd x = some .local → ∃ u, bindL kd (xs.zip us) m x = some u ∧ VR C ρ v u
  | [], _, _, _, _, _, _, h => h
  | y :: ys, w :: vs, _, σ, m, .cons (b := u) (bs := us) hv hr, hl, h => by
    rw [List.zip_cons_cons, List.zip_cons_cons]
    refine bindL_ok ys vs us _ _ hr (by simpa using hl) fun x v h1 h2 => ?_
    unfold Sg.set at h1
    by_cases e : x = y
    · subst e
      rw [if_pos rfl] at h1; cases h1
      rw [if_pos h2, if_pos rfl]
      exact ⟨u, rfl, hv⟩
    · rw [if_neg e] at h1
      obtain ⟨u', h3, h4⟩ := h x v h1 h2
      refine ⟨u', ?_, h4⟩
      by_cases hk : kd y = some .local
      · rw [if_pos hk, if_neg e]; exact h3
      · rw [if_neg hk]; exact h3
  | _ :: _, [], _, _, _, _, hl, _ => by simp at hl
theorem bindC_ok {ρ : List Addr} {kd : Kd} : ∀ (xs : List Str) (vs : List V) (us : List Value) (σ : Sg) (m : Str → Option Value), All2 (VR C ρ) vs us → xs.length = vs.length →
    (∀ x v, σ x = some v → kd x = some .cell → ∃ u, m x = some u ∧ VR C ρ v u) → ∀ x v, σ.sets (xs.zip vs) x = some v → kd x = some .cell → ∃ u, bindC kd (xs.zip us) m x = some u ∧ VR C ρ v u
  | [], _, _, _, _, _, _, h => h
  | y :: ys, w :: vs, _, σ, m, .cons (b := u) (bs := us) hv hr, hl, h => by
    rw [List.zip_cons_cons, List.zip_cons_cons]
    refine bindC_ok ys vs us _ _ hr (by simpa using hl) fun x v h1 h2 => ?_
    unfold Sg.set at h1
    by_cases e : x = y
    · subst e
      rw [if_pos rfl] at h1; cases h1
      rw [if_neg (by rw [h2]; decide), if_pos rfl]
      exact ⟨u, rfl, hv⟩
    · rw [if_neg e] at h1
      obtain ⟨u', h3, h4⟩ := h x v h1 h2
      refine ⟨u', ?_, h4⟩
      by_cases hk : kd y = some .local
      · rw [if_pos hk]; exact h3
      · rw [if_neg hk, if_neg e]; exact h3
  | _ :: _, [], _, _, _, _, hl, _ => by simp at hl
theorem fn_code (hT : TabOk C T K) {name qual : Str} {params : Arguments} {body : List Stmt} {sc : Scope} {pm cd doc : Value} {a : Addr} {o : Obj} {ps : PS} (ho : C.base.get? a = some o) (hd : o.data = .func (methDef name qual params body sc pm cd doc)) (hc : C.base.CodeRec cd qual)
    (hg : goodDef params sc = true) (htr : trS 60 (fun x => sc.names.lookup x) body = some ps)
    {vs : List V} {H : AHeap} {Q : VPost} {X : XPost} {ρ : List Addr} {s : Shared} {us : List Value} {A : Around} {E : Value → Shared → Prop} (h : fnSpec T (params.args.map (·.arg)) ps vs H Q X) (S : Sim C ρ H s) (hus : All2 (VR C ρ) vs us) (hA : AOk C (K + 1) A) (hE : Takes C ρ s X E) :
    codeAny C.M A (.call (.ref a) ⟨us, []⟩) (fun r s' => match r with | .ok (.ret v) => PV C ρ s Q v s' | .ok _ => False | .error e => E e s') s := by
  obtain ⟨hlen, h⟩ := h
  unfold goodDef at hg
  simp only [Bool.and_eq_true, decide_eq_true_eq, beq_iff_eq, Bool.not_eq_true'] at hg
  obtain ⟨⟨⟨⟨⟨hpl, hnd⟩, hkind⟩, hco⟩, hgen⟩, hst⟩ := hg
  have hst : ∀ x ∈ params.args.map (·.arg), stored (fun x => sc.names.lookup x) x = true := List.all_eq_true.mp hst
  have hlu : (params.args.map (·.arg)).length = us.length := by rw [hlen, hus.length]
  have hget : s.heap.get? a = some o := S.stays _ _ ho
  have hroom : A.depth < recursionLimit := by have := hA.d; lia
  refine codeAny_call_cells (binds := (params.args.map (·.arg)).zip us) hroom hget hd (C.lim.keeps S.stays) (hc.keeps S.stays) rfl (bind_plain hpl hnd hlu) rfl (fun x hx => ?_) (fun s₁ hin => ?_) hco hgen hkind
  · have hx1 : x.1 ∈ params.args.map (·.arg) := (List.of_mem_zip (a := x.1) (b := x.2) hx).1
    rcases stored_iff (hst _ hx1) with hk | hk
    · exact .inl hk
    · right
      refine ⟨hk, ?_⟩
      obtain ⟨c, hc⟩ := cellsFrom_has sc.names (s.heap.objs.size + 1) [] x.1 (.inl (mem_of_lookup hk))
      show ((cellsFrom (s.heap.objs.size + 1) sc.names []).lookup x.1).isSome = true
      rw [hc]; rfl
  · generalize henv : callEnvC (methDef name qual params body sc pm cd doc) s.heap.objs.size a = env at hin ⊢
    have eS : env.scope = sc := by rw [← henv]; rfl
    have eK : env.kindOf = fun x => sc.names.lookup x := by unfold Env.kindOf; rw [eS]
    have eL : env.locals = s.heap.objs.size := by rw [← henv]; rfl
    have eG : env.globals = mainGlobals := by rw [← henv]; rfl
    have eB : env.builtins = builtinsNs := by rw [← henv]; rfl
    have eC : env.cells = cellsFrom (s.heap.objs.size + 1) sc.names [] := by rw [← henv]; rfl
    obtain ⟨⟨⟨h₁, tk, rfl⟩, hns, hkeep, hfr⟩, hcell, hapart, habove⟩ := hin
    have hLn : s.heap.get? env.locals = none := by rw [eL]; exact get_size _
    have hCn : ∀ x c, env.cells.lookup x = some c → s.heap.get? c = none := fun x c hc => by
      cases e : s.heap.get? c with
      | none => rfl
      | some o' =>
        have h1 := Heap.lt_size e
        have h2 := habove x c (mem_of_lookup hc)
        exact absurd (Nat.lt_trans (Nat.lt_of_le_of_lt hfr h2) h1) (Nat.lt_irrefl _)
    have hown : ∀ b, own env b → s.heap.get? b = none := fun b hb => by
      rcases hb with rfl | ⟨x, hx⟩
      · exact hLn
      · exact hCn x b hx
    obtain ⟨S1, st1⟩ := S.grow (h' := h₁) (tk := tk) hkeep
    have F1 : FR C env (sgOf (params.args.map (·.arg)) vs) ρ h₁ := by
      refine ⟨?_, by rw [eS]; exact hkind, eG, eB, ⟨_, hns, fun x v e1 e2 => ?_⟩, fun x c hc => ⟨_, hcell x c hc, fun v e1 e2 => ?_⟩, fun x hx => ?_, none_ρ S hLn, fun x c hc => ⟨none_ρ S (hCn x c hc), fun q => ?_⟩, fun x y c hx hy => name_of_addr hapart (mem_of_lookup hx) (mem_of_lookup hy), base_none S hLn, fun x c hc => base_none S (hCn x c hc)⟩
      · unfold sgOf
        rw [sets_out _ _ _ (by rw [map_fst_zip hlen]; exact fun q => stored_ne (hst _ q) rfl)]
      · exact bindL_ok _ vs us (fun _ => none) (fun _ => none) hus hlen (fun _ _ q => by cases q) x v e1 e2
      · exact bindC_ok _ vs us (fun _ => none) (fun _ => none) hus hlen (fun _ _ q => by cases q) x v e1 e2
      · rw [eC]
        rw [eK] at hx
        exact cellsFrom_has _ _ _ _ (.inl (mem_of_lookup hx))
      · have := habove x c (mem_of_lookup hc)
        rw [q] at this
        exact Nat.lt_irrefl _ this
    have eF : env.frame = some env.locals := by rw [← henv]; rfl
    have hnsL : ∃ ob, h₁.get? env.locals = some ob ∧ IsNs ob := by
      obtain ⟨ob, es, ep, hob, hdb, _⟩ := hns
      exact ⟨ob, hob, es, ep, hdb⟩
    have S1' : Sim (C.at (env :: C.frs)) ρ H { s with heap := h₁, toks := tk } := ⟨S1.len, S1.nodup, S1.obj, S1.stays, S1.fresh, S1.sm, S1.gens, S1.os, fun e he => by
      rcases List.mem_cons.mp he with rfl | he
      · obtain ⟨ob, hob, hn⟩ := hnsL
        exact ⟨by rw [eS, hkind]; decide, e.locals, ob, eF, base_none S hLn, none_ρ S hLn, hob, hn⟩
      · exact S1.frs e he⟩
    have stepIn : ∀ {ρ' : List Addr} {s' : Shared}, StepG (own env) ρ { s with heap := h₁, toks := tk } ρ' s' → Step ρ s ρ' s' := fun st2 => by
      refine ⟨?_, fun b ob hb hx e => st2.keep b ob hb (fun q => by rw [hown b q] at e; cases e) (hkeep b ob e), fun b ob e => st2.live b ob (hkeep b ob e)⟩
      obtain ⟨l, e, f⟩ := st2.ext
      refine ⟨l, e, fun b hb => ?_⟩
      cases q : s.heap.get? b with
      | none => rfl
      | some ob => have := f b hb; rw [hkeep b ob q] at this; cases this
    have hb : BlOk (C.at (env :: C.frs)) T K env body ps := trS_ok (hT.at _) ⟨C.frs, rfl, eF⟩ 60 body ps (by rw [eK]; exact htr)
    refine wpAny_mono (hb (F1.frs (env :: C.frs)) S1' (hA.deeper env) h fun e s' p => ?_) (fun f s' hp => ?_) fun e s' p => p
    · obtain ⟨ρ', H', c, st2, S2, xr, hX, _⟩ := p
      refine wpAny_bind (note_step (C := C.at (env :: C.frs)) st2 S2 xr rfl eF (hA.deeper env).fr fun x h3 ex S3 st3 x3 _ => ?_)
      subst ex
      refine flight_step (C := C.at (env :: C.frs)) st3 S3 x3 fun h4 S4 st4 x4 _ => ?_
      obtain ⟨kk, o, vs, t, ot, ts, x1, x2, x3, x4, x5, x6, x7, x8, x9, x10, x11, x12, x13, x14, x15, x16⟩ := x4
      have nb : ∀ b, h₁.get? b = none → s.heap.get? b = none := fun b hb => by
        cases q : s.heap.get? b with
        | none => rfl
        | some ob => rw [hkeep b ob q] at hb; cases hb
      exact hE _ _ ⟨ρ', H', c, stepIn st4, Sim.pop (C := C) (fs := env :: C.frs) S4 fun e he => .tail _ he, ⟨x, kk, o, vs, rfl, x1, x2, x3, nb _ x4, x5, x6, x7, x8, .inr ⟨t, ot, ts, x9, x10, x11, nb _ x12, x13, x14, x15, .inl x16⟩⟩, hX⟩
    · obtain ⟨ρ', H', σ', fl, st2, S2, F2, hf, hq⟩ := hp
      have st := stepIn st2
      have S2 : Sim C ρ' H' s' := Sim.pop (C := C) (fs := env :: C.frs) S2 fun e he => .tail _ he
      cases fl with
      | next => cases hf; exact ⟨ρ', H', .none, st, S2, rfl, hq⟩
      | brk => exact hq.elim
      | ret v => obtain ⟨u, rfl, hv⟩ := hf; exact ⟨ρ', H', v, st, S2, hv, hq⟩
theorem fn_ok (hT : TabOk C T K) {name qual : Str} {params : Arguments} {body : List Stmt} {sc : Scope} {pm cd doc : Value} {a : Addr} {o : Obj} {ps : PS} (ho : C.base.get? a = some o) (hd : o.data = .func (methDef name qual params body sc pm cd doc)) (hc : C.base.CodeRec cd qual)
    (hg : goodDef params sc = true) (htr : trS 60 (fun x => sc.names.lookup x) body = some ps) : CallOk C (K + 1) (fnSpec T (params.args.map (·.arg)) ps) (.ref a) :=
  fun fs vs H Q X h ρ s us A E S hus hA hE => wpAny_call (fn_code (C := C.at fs) (hT.at fs) ho hd hc hg htr h S hus hA hE)
theorem CallOk.mono {sp : Spec} {u : Value} {K' : Nat} (h : CallOk C K sp u) (hk : K ≤ K') : CallOk C K' sp u := fun fs vs H Q X hs ρ s us A E S hu hA hE => h fs vs H Q X hs ρ s us A E S hu (hA.le hk) hE
theorem TabOk.mono {K' : Nat} (h : TabOk C T K) (hk : K ≤ K') : TabOk C T K' where
  gv := h.gv
  fn := fun g hg => by obtain ⟨u, a, b, c⟩ := h.fn g hg; exact ⟨u, a, b, c.mono hk⟩
  mt := fun kd m hm => by obtain ⟨f, a, b, c⟩ := h.mt kd m hm; exact ⟨f, a, b.mono hk, c⟩
  range := h.range
  revd := h.revd
  sorted := h.sorted
  len := h.len
  srt := fun fs vs H Q X hs ρ s us A E S hu hA hE => h.srt fs vs H Q X hs ρ s us A E S hu (hA.le hk) hE
  cls := h.cls
  cat := h.cat
  hev := fun k a pe σ H Q q fs env e ρ s A h1 h2 h3 h4 h5 h6 => h.hev k a pe σ H Q q fs env e ρ s A h1 h2 h3 h4 (Nat.lt_of_le_of_lt (Nat.add_le_add_left hk _) h5) (Nat.lt_of_le_of_lt (Nat.add_le_add_right (Nat.add_le_add_left (Nat.mul_le_mul_left 5 hk) _) _) h6)
noncomputable def Tab.add (T : Tab) (f : Str) (sp : Spec) : Tab := { T with gv := fun g => if g = f then some (.glob f) else T.gv g, fn := fun g => if g = f then sp else T.fn g }
theorem TabOk.add (h : TabOk C T K) {f : Str} {sp : Spec} {u : Value} (hu : C.G f = some u) (hc : Callee C u) (hok : CallOk C (K + 1) sp u) : TabOk C (T.add f sp) (K + 1) where
  gv := fun g v hg => by
    unfold Tab.add at hg
    dsimp only at hg
    split at hg
    · rename_i e
      cases hg
      exact ⟨u, e ▸ hu, fun ρ => hu⟩
    · exact h.gv g v hg
  fn := fun g hg => by
    unfold Tab.add at hg ⊢
    dsimp only at hg ⊢
    by_cases e : g = f
    · subst e
      exact ⟨u, hu, hc, by simpa using hok⟩
    · simp only [if_neg e] at hg ⊢
      exact (h.mono (Nat.le_succ K)).fn g hg
  mt := (h.mono (Nat.le_succ K)).mt
  range := h.range
  revd := h.revd
  sorted := h.sorted
  len := h.len
  srt := (h.mono (Nat.le_succ K)).srt
  cls := h.cls
  cat := h.cat
  hev := (h.mono (Nat.le_succ K)).hev
end
end Mine
end
section
namespace Mine
open PySem PySem.Calls PyProof.Rows
noncomputable def dg : Nat → Nat → List Nat
  | 0, _ => []
  | f + 1, n => if n = 0 then [] else (n % 128) :: dg f (n / 128)
noncomputable def undg : List Nat → Nat
  | [] => 0
  | d :: r => d + 128 * undg r
theorem undg_dg : ∀ (f n : Nat), n < 128 ^ f → undg (dg f n) = n
  | 0, n, h => by simp at h; subst h; rfl
  | f + 1, n, h => by
    unfold dg
    split
    · rename_i e; rw [e]; rfl
    · show n % 128 + 128 * undg (dg f (n / 128)) = n
      rw [undg_dg f (n / 128) (by rw [Nat.pow_succ] at h; lia)]
      lia
theorem dg_small : ∀ (f n : Nat), ∀ d ∈ dg f n, d < 128
  | 0, _, d, h => by cases h
  | f + 1, n, d, h => by
    unfold dg at h
    split at h
    · cases h
    · cases h with
      | head => lia
      | tail _ h => exact dg_small f _ d h
noncomputable def nm (n : Nat) : Str := if n < 128 ^ 40 then ⟨(dg 40 n).toArray⟩ else ⟨#[n]⟩
theorem nm_inj {a b : Nat} : nm a = nm b ↔ a = b := by
  refine ⟨fun h => ?_, fun h => h ▸ rfl⟩
  unfold nm at h
  have big : ∀ a b : Nat, ¬ b < 128 ^ 40 → ((⟨(dg 40 a).toArray⟩ : Str) = ⟨#[b]⟩) → False := fun a b hb h => by
    have h1 : (dg 40 a).toArray = #[b] := congrArg Str.cps h
    have h2 : dg 40 a = [b] := by simpa using congrArg Array.toList h1
    have := dg_small 40 a b (by rw [h2]; exact .head _)
    exact hb (Nat.lt_of_lt_of_le this (by decide))
  split at h <;> split at h
  · rename_i ha hb
    have h1 : (dg 40 a).toArray = (dg 40 b).toArray := congrArg Str.cps h
    have h2 : dg 40 a = dg 40 b := by simpa using congrArg Array.toList h1
    rw [← undg_dg 40 a ha, ← undg_dg 40 b hb, h2]
  · rename_i ha hb; exact (big a b hb h).elim
  · rename_i ha hb; exact (big b a ha h.symm).elim
  · have h1 : #[a] = #[b] := congrArg Str.cps h
    simpa using h1
theorem set_nm (σ : Sg) (a b : Nat) (v : V) : (σ.set (nm a) v) (nm b) = if b = a then some v else σ (nm b) := by
  unfold Sg.set
  by_cases h : b = a
  · rw [if_pos h, if_pos (by rw [h])]
  · rw [if_neg h, if_neg (fun q => h (nm_inj.mp q))]
noncomputable def spNo : Spec := fun _ _ _ _ => False
inductive LenA (H : AHeap) (Q : VPost) : List V → Prop
  | str {t : Txt} : Q (.int t.length) H → LenA H Q [.str t]
  | list {n : Nat} {xs : List V} : H[n]? = some (.list xs) → Q (.int xs.length) H → LenA H Q [.ref n]
  | tuple {n : Nat} {xs : List V} : H[n]? = some (.tuple xs) → Q (.int xs.length) H → LenA H Q [.ref n]
noncomputable def spLen : Spec := fun vs H Q _ => LenA H Q vs
inductive IsiA (H : AHeap) (Q : VPost) : List V → Prop
  | str {t : Txt} : Q (.bool true) H → IsiA H Q [.str t, .glob (nm 1882739)]
  | list {n : Nat} {xs : List V} : H[n]? = some (.list xs) → Q (.bool true) H → IsiA H Q [.ref n, .glob (nm 245167340)]
  | tuple {n : Nat} {xs : List V} : H[n]? = some (.tuple xs) → Q (.bool true) H → IsiA H Q [.ref n, .glob (nm 27340323572)]
  | int {i : Int} : Q (.bool true) H → IsiA H Q [.int i, .glob (nm 1914729)]
  | bint {b : Bool} : Q (.bool true) H → IsiA H Q [.bool b, .glob (nm 1914729)]
  | nint : Q (.bool false) H → IsiA H Q [.none, .glob (nm 1914729)]
  | sint {t : Txt} : Q (.bool false) H → IsiA H Q [.str t, .glob (nm 1914729)]
  | bool {i : Int} : Q (.bool false) H → IsiA H Q [.int i, .glob (nm 228325346)]
  | nstr : Q (.bool false) H → IsiA H Q [.none, .glob (nm 1882739)]
  | istr {i : Int} : Q (.bool false) H → IsiA H Q [.int i, .glob (nm 1882739)]
  | bstr {b : Bool} : Q (.bool false) H → IsiA H Q [.bool b, .glob (nm 1882739)]
  | lstr {n : Nat} {xs : List V} : H[n]? = some (.list xs) → Q (.bool false) H → IsiA H Q [.ref n, .glob (nm 1882739)]
  | tstr {n : Nat} {xs : List V} : H[n]? = some (.tuple xs) → Q (.bool false) H → IsiA H Q [.ref n, .glob (nm 1882739)]
  | dstr {n ep : Nat} {es : List (Txt × V)} : H[n]? = some (.dict es ep) → Q (.bool false) H → IsiA H Q [.ref n, .glob (nm 1882739)]
  | nlist : Q (.bool false) H → IsiA H Q [.none, .glob (nm 245167340)]
  | ilist {i : Int} : Q (.bool false) H → IsiA H Q [.int i, .glob (nm 245167340)]
  | blist {b : Bool} : Q (.bool false) H → IsiA H Q [.bool b, .glob (nm 245167340)]
  | slist {t : Txt} : Q (.bool false) H → IsiA H Q [.str t, .glob (nm 245167340)]
  | tlist {n : Nat} {xs : List V} : H[n]? = some (.tuple xs) → Q (.bool false) H → IsiA H Q [.ref n, .glob (nm 245167340)]
  | dlist {n ep : Nat} {es : List (Txt × V)} : H[n]? = some (.dict es ep) → Q (.bool false) H → IsiA H Q [.ref n, .glob (nm 245167340)]
  | bbool {b : Bool} : Q (.bool true) H → IsiA H Q [.bool b, .glob (nm 228325346)]
noncomputable def spIsi : Spec := fun vs H Q _ => IsiA H Q vs
noncomputable def spJoin : Spec := fun vs H Q _ => ∃ (n : Nat) (ts : List Txt), vs = [.str [], .ref n] ∧ H[n]? = some (.list (ts.map .str)) ∧ (ts.map List.length).sum + ts.length ≤ lid ∧ Q (.str ts.flatten) H
noncomputable def spAppend : Spec := fun vs H Q _ => ∃ (n : Nat) (v : V) (xs : List V), vs = [.ref n, v] ∧ n ≠ 0 ∧ H[n]? = some (.list xs) ∧ xs.length < lid ∧ Q .none (H.set n (.list (xs ++ [v])))
section
variable {C : Cx} {K : Nat}
theorem all2_one {ρ : List Addr} {a : V} {us : List Value} (h : All2 (VR C ρ) [a] us) : ∃ u, us = [u] ∧ VR C ρ a u := by
  cases h with
  | cons h r => cases r; exact ⟨_, rfl, h⟩
theorem all2_two {ρ : List Addr} {a b : V} {us : List Value} (h : All2 (VR C ρ) [a, b] us) : ∃ u w, us = [u, w] ∧ VR C ρ a u ∧ VR C ρ b w := by
  cases h with
  | cons h r => obtain ⟨w, rfl, hw⟩ := all2_one r; exact ⟨_, w, rfl, h, hw⟩
theorem all2_size {ρ : List Addr} {xs : List V} {us : Array Value} (h : All2 (VR C ρ) xs us.toList) : xs.length = us.size := by rw [h.length, Array.length_toList]
theorem lid63 {n : Nat} (h : n ≤ lid) : (n : Int) < 2 ^ 63 := by unfold lid at h; lia
theorem ok_len : Call1 C K spLen (.builtin "len") := by
  intro vs H Q X h ρ s us A E S hus hA hE
  cases h with
  | @str t hq =>
    obtain ⟨u, rfl, ok, tk, rfl⟩ := all2_one hus
    have e := str_len t
    refine len_str (by rw [e]; exact Int.not_le.mpr (lid63 (okT_iff.mp ok).1)) ?_
    rw [e]
    exact here S (vi _ _) hq
  | list e1 hq =>
    obtain ⟨u, rfl, hu⟩ := all2_one hus
    obtain ⟨a, rfl, ea, us, k, ho, hs, hl⟩ := S.lookup e1 hu
    have e := all2_size hs
    refine call_len_list ⟨_, ho, rfl, k, rfl⟩ (lid63 (e ▸ hl)) ?_
    rw [← e]
    exact here S (vi _ _) hq
  | tuple e1 hq =>
    obtain ⟨u, rfl, hu⟩ := all2_one hus
    obtain ⟨a, rfl, ea, us, k, ho, hs, hl⟩ := S.lookup e1 hu
    have e := all2_size hs
    refine len_tuple ⟨_, ho, rfl, k, rfl⟩ (lid63 (e ▸ hl)) ?_
    rw [← e]
    exact here S (vi _ _) hq
theorem ok_isi (h1 : C.G (nm 1882739) = some (.type "str")) (h2 : C.G (nm 245167340) = some (.type "list")) (h3 : C.G (nm 27340323572) = some (.type "tuple")) (h4 : C.G (nm 244905188) = some (.type "dict")) (h5 : C.G (nm 1914729) = some (.type "int")) (h6 : C.G (nm 228325346) = some (.type "bool")) : Call1 C K spIsi (.builtin "isinstance") := by
  intro vs H Q X h ρ s us A E S hus hA hE
  have ty : ∀ {g : Str} {w : Value} {t : String}, C.G g = some (.type t) → VR C ρ (.glob g) w → w = .type t := fun e h => Option.some.inj (h.symm.trans e)
  cases h with
  | str hq => obtain ⟨u, w, rfl, ⟨ok, tk, rfl⟩, hw⟩ := all2_two hus; cases ty h1 hw; exact IsiPair.str_str (here0 S (vb _) hq)
  | list e1 hq => obtain ⟨u, w, rfl, hu, hw⟩ := all2_two hus; cases ty h2 hw; obtain ⟨ad, rfl, ea, us, k, ho, _⟩ := S.lookup e1 hu; exact IsiPair.list_list ho rfl (here0 S (vb _) hq)
  | tuple e1 hq => obtain ⟨u, w, rfl, hu, hw⟩ := all2_two hus; cases ty h3 hw; obtain ⟨ad, rfl, ea, us, k, ho, _⟩ := S.lookup e1 hu; exact IsiPair.tuple_tuple ho rfl (here0 S (vb _) hq)
  | int hq => obtain ⟨u, w, rfl, ⟨tk, rfl⟩, hw⟩ := all2_two hus; cases ty h5 hw; exact IsiPair.int_int (here0 S (vb _) hq)
  | bint hq => obtain ⟨u, w, rfl, hu, hw⟩ := all2_two hus; cases hu; cases ty h5 hw; exact IsiPair.bool_int (here0 S (vb _) hq)
  | nint hq => obtain ⟨u, w, rfl, hu, hw⟩ := all2_two hus; cases hu; cases ty h5 hw; exact IsiPair.NoneType_int (here S (vb _) hq)
  | sint hq => obtain ⟨u, w, rfl, ⟨ok, tk, rfl⟩, hw⟩ := all2_two hus; cases ty h5 hw; exact IsiPair.str_int (here S (vb _) hq)
  | bool hq => obtain ⟨u, w, rfl, ⟨tk, rfl⟩, hw⟩ := all2_two hus; cases ty h6 hw; exact IsiPair.int_bool (here S (vb _) hq)
  | nstr hq => obtain ⟨u, w, rfl, hu, hw⟩ := all2_two hus; cases hu; cases ty h1 hw; exact IsiPair.NoneType_str (here S (vb _) hq)
  | istr hq => obtain ⟨u, w, rfl, ⟨tk, rfl⟩, hw⟩ := all2_two hus; cases ty h1 hw; exact IsiPair.int_str (here S (vb _) hq)
  | bstr hq => obtain ⟨u, w, rfl, hu, hw⟩ := all2_two hus; cases hu; cases ty h1 hw; exact IsiPair.bool_str (here S (vb _) hq)
  | lstr e1 hq => obtain ⟨u, w, rfl, hu, hw⟩ := all2_two hus; cases ty h1 hw; obtain ⟨ad, rfl, ea, us, k, ho, _⟩ := S.lookup e1 hu; exact IsiPair.list_str ho rfl (here S (vb _) hq)
  | tstr e1 hq => obtain ⟨u, w, rfl, hu, hw⟩ := all2_two hus; cases ty h1 hw; obtain ⟨ad, rfl, ea, us, k, ho, _⟩ := S.lookup e1 hu; exact IsiPair.tuple_str ho rfl (here S (vb _) hq)
  | dstr e1 hq => obtain ⟨u, w, rfl, hu, hw⟩ := all2_two hus; cases ty h1 hw; obtain ⟨ad, rfl, ea, us, ho, _⟩ := S.lookup e1 hu; exact IsiPair.dict_str ho rfl (here S (vb _) hq)
  | nlist hq => obtain ⟨u, w, rfl, hu, hw⟩ := all2_two hus; cases hu; cases ty h2 hw; exact IsiPair.NoneType_list (here S (vb _) hq)
  | ilist hq => obtain ⟨u, w, rfl, ⟨tk, rfl⟩, hw⟩ := all2_two hus; cases ty h2 hw; exact IsiPair.int_list (here S (vb _) hq)
  | blist hq => obtain ⟨u, w, rfl, hu, hw⟩ := all2_two hus; cases hu; cases ty h2 hw; exact IsiPair.bool_list (here S (vb _) hq)
  | slist hq => obtain ⟨u, w, rfl, ⟨ok, tk, rfl⟩, hw⟩ := all2_two hus; cases ty h2 hw; exact IsiPair.str_list (here S (vb _) hq)
  | tlist e1 hq => obtain ⟨u, w, rfl, hu, hw⟩ := all2_two hus; cases ty h2 hw; obtain ⟨ad, rfl, ea, us, k, ho, _⟩ := S.lookup e1 hu; exact IsiPair.tuple_list ho rfl (here S (vb _) hq)
  | dlist e1 hq => obtain ⟨u, w, rfl, hu, hw⟩ := all2_two hus; cases ty h2 hw; obtain ⟨ad, rfl, ea, us, ho, _⟩ := S.lookup e1 hu; exact IsiPair.dict_list ho rfl (here S (vb _) hq)
  | bbool hq => obtain ⟨u, w, rfl, hu, hw⟩ := all2_two hus; cases hu; cases ty h6 hw; exact IsiPair.bool_bool (here0 S (vb _) hq)
theorem txts_are {ρ : List Addr} : ∀ {ts : List Txt} {us : List Value}, All2 (VR C ρ) (ts.map .str) us → StrsAre us (ts.map fun t => ⟨t.toArray⟩) ∧ ∀ t ∈ ts, okT t = true
  | [], _, .nil => ⟨.nil, fun _ h => nomatch h⟩
  | t :: ts, _, .cons ⟨ok, tk, e⟩ hr => by
    cases e
    obtain ⟨h1, h2⟩ := txts_are hr
    exact ⟨.cons _ _ h1, List.forall_mem_cons.mpr ⟨ok, h2⟩⟩
theorem join_flat : ∀ (ts : List Txt), Str.join ⟨#[]⟩ (ts.map fun t => ⟨t.toArray⟩) = ⟨ts.flatten.toArray⟩
  | [] => rfl
  | [t] => by rw [List.flatten_cons, List.flatten_nil, List.append_nil]; rfl
  | t :: u :: r => by
    have ih := join_flat (u :: r)
    rw [List.map_cons, List.map_cons]
    show (⟨t.toArray⟩ : Str) ++ ⟨#[]⟩ ++ Str.join ⟨#[]⟩ ((⟨u.toArray⟩ : Str) :: r.map fun t => ⟨t.toArray⟩) = _
    rw [← List.map_cons (f := fun t : Txt => (⟨t.toArray⟩ : Str)), ih]
    show (⟨t.toArray ++ #[] ++ (u :: r).flatten.toArray⟩ : Str) = _
    rw [Array.append_empty, List.append_toArray]; rfl
theorem okT_flat {ts : List Txt} (h : ∀ t ∈ ts, okT t = true) (hl : (ts.map List.length).sum ≤ lid) : okT ts.flatten = true := by
  rw [okT_iff]
  refine ⟨by rw [List.length_flatten]; exact hl, fun c hc => ?_⟩
  obtain ⟨t, ht, hc⟩ := List.mem_flatten.mp hc
  exact (okT_iff.mp (h t ht)).2 c hc
theorem ok_join : Call1 C K spJoin (.builtin "str.join") := by
  intro vs H Q X h ρ s us A E S hus hA hE
  obtain ⟨n, ts, rfl, e1, hl, hq⟩ := h
  obtain ⟨u, w, rfl, ⟨ok, tk, rfl⟩, hw⟩ := all2_two hus
  obtain ⟨a, rfl, ea, us, k, ho, hs, _⟩ := S.lookup e1 hw
  obtain ⟨h1, h2⟩ := txts_are hs
  have hl' := Nat.le_trans (Nat.le_add_right _ _) hl
  have hlen : ((ts.map fun t => (⟨t.toArray⟩ : Str)).map (·.length)).sum = (ts.map List.length).sum := by
    rw [List.map_map]
    congr 1
  refine join_list (ys := ts.map fun t => ⟨t.toArray⟩) ⟨_, ho, rfl, k, rfl⟩ h1 ?_ fun t' k' => ?_
  · rw [hlen]
    exact lid_le hl'
  · have e : PySem.Txt.join (⟨([] : Mine.Txt).toArray⟩ : Str) (ts.map fun t => ⟨t.toArray⟩) = ⟨ts.flatten.toArray⟩ := (StrLaws.glued_eq_join _ _).trans (join_flat ts)
    rw [e]
    exact here S (vt (okT_flat h2 hl') _) hq
theorem ok_append : Call1 C K spAppend (.builtin "list.append") := by
  intro vs H Q X h ρ s us A E S hus hA hE
  obtain ⟨n, v, xs, rfl, hn, e1, hl, hq⟩ := h
  obtain ⟨u, w, rfl, hu, hw⟩ := all2_two hus
  obtain ⟨a, rfl, ea, us, k, ho, hs, _⟩ := S.lookup e1 hu
  have e := all2_size hs
  refine wpAny_list_append_plain ⟨k, ho⟩ (fun h' ⟨k', ho'⟩ hsb => ?_) (by rw [← e]; exact lid_le (Nat.le_of_lt hl))
  obtain ⟨S1, st1⟩ := S.change (h' := h') (tk := s.toks) (o := .list (xs ++ [v])) hn ea (fun b x hb e => hsb.extBut b x hb e) ⟨_, k', ho', by rw [Array.toList_push]; exact hs.append (.cons hw .nil), by rw [List.length_append]; exact hl⟩
  exact ⟨ρ, _, .none, st1, S1, rfl, hq⟩
end
end Mine
end
section
namespace Mine
open PySem PySem.Calls PyProof.Rows
noncomputable def T0 (srt : Spec) (cls : Str → Bool) (cat : Str → Str → Bool) (hev : Str → Nat → PE → Sg → AHeap → VPost → Prop) : Tab where
  gv := fun _ => none
  fn := fun _ => spNo
  has := fun _ _ => false
  mt := fun _ _ => spNo
  srt := srt
  cls := cls
  cat := cat
  hev := hev
noncomputable def Tab.val (T : Tab) (f : Str) (v : V) : Tab := { T with gv := fun g => if g = f then some v else T.gv g }
noncomputable def Tab.meth (T : Tab) (k : MK) (m : Str) (sp : Spec) : Tab := { T with has := fun kd x => if kd = k ∧ x = m then true else T.has kd x, mt := fun kd x => if kd = k ∧ x = m then sp else T.mt kd x }
noncomputable def Ct (T : Tab) (xs : List Str) (ps : PS) (sp : Spec) : Prop := ∀ vs H Q X, sp vs H Q X → fnSpec T xs ps vs H Q X
structure Has (T : Tab) (f : Str) (sp : Spec) : Prop where
  gv : T.gv f = some (.glob f)
  fn : T.fn f = sp
structure HasM (T : Tab) (k : MK) (m : Str) (sp : Spec) : Prop where
  has : T.has k m = true
  mt : T.mt k m = sp
noncomputable def DefAt (C : Cx) (f : Str) (xs : List Str) (ps : PS) : Prop :=
  ∃ a o name params body sc pm cd doc, C.G f = some (.ref a) ∧ C.base.get? a = some o ∧ o.data = .func (docDef name params body sc pm cd doc) ∧ C.base.CodeRec cd name ∧ goodDef params sc = true ∧ trS 60 (fun x => sc.names.lookup x) body = some ps ∧ params.args.map (·.arg) = xs
section
variable {C : Cx} {T : Tab} {K : Nat}
theorem CallOk.weak {sp sp' : Spec} {u : Value} (h : CallOk C K sp u) (hw : ∀ vs H Q X, sp' vs H Q X → sp vs H Q X) : CallOk C K sp' u := fun fs vs H Q X hs ρ s us A E S hu hA hE => h fs vs H Q X (hw _ _ _ _ hs) ρ s us A E S hu hA hE
theorem TabOk.base {srt : Spec} {cls : Str → Bool} {cat : Str → Str → Bool} {hev : Str → Nat → PE → Sg → AHeap → VPost → Prop} (h3 : C.G (Str.ofString "range") = some (.type "range")) (h4 : C.G (Str.ofString "reversed") = some (.type "reversed")) (h5 : C.G (Str.ofString "enumerate") = some (.type "enumerate"))
    (h6 : C.G (Str.ofString "sorted") = some (.builtin "sorted")) (h7 : C.G (Str.ofString "len") = some (.builtin "len"))
    (h8 : ∀ fs vs H Q X, srt vs H Q X → ∀ ρ s us A E, Sim (C.at fs) ρ H s → All2 (VR C ρ) vs us → AOk (C.at fs) K A → Takes (C.at fs) ρ s X E → wpAny C.M A (call (.builtin "sorted") us [(Str.ofString "key", .builtin "len")]) (PV (C.at fs) ρ s Q) E s)
    (h9 : ∀ c, cls c = true → C.calm ∧ ExcCls C c) (h10 : ∀ k c, cat k c = true → Caught C k c)
    (h11 : ∀ k a pe σ H Q, hev k a pe σ H Q → ∀ fs env e ρ s A, trE 60 env.kindOf e = some pe → FR (C.at fs) env σ ρ s.heap → Sim (C.at fs) ρ H s → A.handled = some (.ref a) → A.depth + K < recursionLimit → A.units + 5 * K + 200 < cLine →
      A.frames = some fs → XIs C ρ k a s.heap → wpAny C.M A (eval e env) (PV (C.at fs) ρ s Q) (fun _ _ => False) s) : TabOk C (T0 srt cls cat hev) K where
  gv := fun _ _ h => by cases h
  fn := fun _ ⟨_, _, _, _, h⟩ => h.elim
  mt := fun _ _ h => by cases h
  range := h3
  revd := h4
  sorted := h6
  len := h7
  srt := h8
  cls := h9
  cat := h10
  hev := h11
theorem TabOk.addB (h : TabOk C T K) {f : Str} {sp : Spec} {u : Value} (hu : C.G f = some u) (hc : Callee C u) (hok : CallOk C K sp u) : TabOk C (T.add f sp) K where
  gv := fun g v hg => by
    unfold Tab.add at hg
    dsimp only at hg
    split at hg
    · rename_i e
      cases hg
      exact ⟨u, e ▸ hu, fun ρ => hu⟩
    · exact h.gv g v hg
  fn := fun g hg => by
    unfold Tab.add at hg ⊢
    dsimp only at hg ⊢
    by_cases e : g = f
    · subst e
      exact ⟨u, hu, hc, by simpa using hok⟩
    · simp only [if_neg e] at hg ⊢
      exact h.fn g hg
  mt := h.mt
  range := h.range
  revd := h.revd
  sorted := h.sorted
  len := h.len
  srt := h.srt
  cls := h.cls
  cat := h.cat
  hev := h.hev
theorem TabOk.addF (h : TabOk C T K) {f : Str} {xs : List Str} {ps : PS} {sp : Spec} (hd : DefAt C f xs ps) (hc : Ct T xs ps sp) : TabOk C (T.add f sp) (K + 1) := by
  obtain ⟨a, o, name, params, body, sc, pm, cd, doc, h1, h2, h3, h4, h5, h6, rfl⟩ := hd
  exact (h.mono (Nat.le_succ K)).addB h1 (.inr (.inr (.inl ⟨a, o, _, rfl, h2, h3⟩))) ((fn_ok (qual := name) h h2 h3 h4 h5 h6).weak hc)
theorem TabOk.val (h : TabOk C T K) {f : Str} {v : V} {u : Value} (hu : C.G f = some u) (hv : ∀ ρ, VR C ρ v u) : TabOk C (T.val f v) K where
  gv := fun g w hg => by
    unfold Tab.val at hg
    dsimp only at hg
    split at hg
    · rename_i e
      cases hg
      exact ⟨u, e ▸ hu, hv⟩
    · exact h.gv g w hg
  fn := h.fn
  mt := h.mt
  range := h.range
  revd := h.revd
  sorted := h.sorted
  len := h.len
  srt := h.srt
  cls := h.cls
  cat := h.cat
  hev := h.hev
theorem TabOk.meth (h : TabOk C T K) {k : MK} {m : Str} {sp : Spec} {id : String} (hok : CallOk C K sp (.builtin id))
    (hg : ∀ fs v H ρ s u pl A (Q : Value × List Value → Shared → Prop) E, kindA v H = some k → Sim (C.at fs) ρ H s → VR C ρ v u → (∀ t, Q (.builtin id, [u]) { s with toks := t }) → wpAny C.M A (getMethod u m pl) Q E s) : TabOk C (T.meth k m sp) K where
  gv := h.gv
  fn := h.fn
  mt := fun kd x hx => by
    unfold Tab.meth at hx ⊢
    dsimp only at hx ⊢
    by_cases e : kd = k ∧ x = m
    · obtain ⟨rfl, rfl⟩ := e
      refine ⟨.builtin id, .inl ⟨id, rfl⟩, by simpa using hok, hg⟩
    · simp only [if_neg e] at hx ⊢
      exact h.mt kd x hx
  range := h.range
  revd := h.revd
  sorted := h.sorted
  len := h.len
  srt := h.srt
  cls := h.cls
  cat := h.cat
  hev := h.hev
theorem kind_str {v : V} {H : AHeap} (h : kindA v H = some .str) : ∃ t, v = .str t := by
  unfold kindA at h
  split at h
  · exact ⟨_, rfl⟩
  · split at h <;> cases h
  · cases h
theorem kind_list {v : V} {H : AHeap} (h : kindA v H = some .list) : ∃ n xs, v = .ref n ∧ H[n]? = some (.list xs) := by
  unfold kindA at h
  split at h
  · cases h
  · split at h
    · exact ⟨_, _, rfl, by assumption⟩
    all_goals cases h
  · cases h
theorem get_join : ∀ fs v H ρ s u pl A (Q : Value × List Value → Shared → Prop) E, kindA v H = some .str → Sim (C.at fs) ρ H s → VR C ρ v u → (∀ t, Q (.builtin "str.join", [u]) { s with toks := t }) → wpAny C.M A (getMethod u (nm 232421354) pl) Q E s := by
  intro fs v H ρ s u pl A Q E hk S hv h
  obtain ⟨t, rfl⟩ := kind_str hk
  obtain ⟨ok, tk, rfl⟩ := hv
  have e : nm 232421354 = Str.ofString "join" := by decide +kernel
  rw [e]
  exact GM.join (h s.toks)
theorem get_append : ∀ fs v H ρ s u pl A (Q : Value × List Value → Shared → Prop) E, kindA v H = some .list → Sim (C.at fs) ρ H s → VR C ρ v u → (∀ t, Q (.builtin "list.append", [u]) { s with toks := t }) → wpAny C.M A (getMethod u (nm 3465715398753) pl) Q E s := by
  intro fs v H ρ s u pl A Q E hk S hv h
  obtain ⟨n, xs, rfl, e1⟩ := kind_list hk
  obtain ⟨a, rfl, ea, us, k, ho, _⟩ := S.lookup e1 hv
  have e : nm 3465715398753 = Str.ofString "append" := by decide +kernel
  rw [e]
  exact getMethod_list_append ho rfl rfl (h s.toks)
noncomputable def biL : List (Str × Value) := [(nm 1815276, .builtin "len"), (nm 938756632654307293673, .builtin "isinstance"), (nm 1815789, .builtin "min"), (nm 1978605, .builtin "max"), (nm 1800947, .builtin "sum"), (nm 1783393, .builtin "all"),
  (nm 3463330969587, .builtin "sorted"), (nm 27329802482, .type "range"), (nm 56743180225065714, .type "reversed"), (nm 7343549747291846501, .type "enumerate"), (nm 244905188, .type "dict"), (nm 245167340, .type "list"), (nm 27340323572, .type "tuple"),
  (nm 1914729, .type "int"), (nm 1882739, .type "str"), (nm 228325346, .type "bool"), (nm 1059527485209827815638, .type "ValueError")]
end
end Mine
end
section
namespace Mine
open PySem
section
variable {H : AHeap} {Q : VPost} {X : XPost} {q : Bool → Prop}
theorem cut_zero {α : Type} (xs : List α) (j : Nat) : cut xs 0 j = xs.take j := rfl
theorem cut_all {α : Type} (xs : List α) (i : Nat) : cut xs i xs.length = xs.drop i := by unfold cut; rw [List.take_length]
theorem clip_int (n : Nat) {k : Int} (h : 0 ≤ k) : clipAt n k = min k.toNat n := by
  obtain ⟨m, rfl⟩ := Int.eq_ofNat_of_zero_le h; exact clipAt_nat n m
theorem take_clip {α : Type} (xs : List α) {k : Int} (h : 0 ≤ k) : xs.take (clipAt xs.length k) = xs.take k.toNat := by rw [clip_int _ h, List.take_eq_take_iff, Nat.min_assoc, Nat.min_self]
theorem drop_clip {α : Type} (xs : List α) {k : Int} (h : 0 ≤ k) : xs.drop (clipAt xs.length k) = xs.drop k.toNat := by
  rw [clip_int _ h]
  rcases Nat.le_total k.toNat xs.length with h | h
  · rw [Nat.min_eq_left h]
  · rw [Nat.min_eq_right h, List.drop_of_length_le h, List.drop_of_length_le (Nat.le_refl _)]
theorem beq_dec {α : Type} [BEq α] [LawfulBEq α] [DecidableEq α] (a b : α) : (a == b) = decide (a = b) := by rw [Bool.eq_iff_iff]; simp
theorem str_beq (a b : Txt) : PyData.eqv (.str ⟨a.toArray⟩) (.str ⟨b.toArray⟩) = decide (a = b) := by
  show ((⟨a.toArray⟩ : Str) == ⟨b.toArray⟩) = _
  rw [beq_dec, decide_eq_decide]
  exact ⟨fun h => List.toArray_inj (congrArg Str.cps h), fun h => by rw [h]⟩
theorem int_beq (a b : Int) : PyData.eqv (.int a) (.int b) = decide (a = b) := beq_dec a b
theorem bind_tup {ys : List Str} {n : Nat} {vs : List V} {σ : Sg} (h : H[n]? = some (.tuple vs)) (hl : ys.length = vs.length) : bindA (.tup ys) (.one (.ref n)) H σ = some (σ.sets (ys.zip vs)) := by
  unfold bindA; dsimp only; rw [h]; dsimp only; rw [if_pos hl]
theorem intsFrom_len (a : Int) (n : Nat) : (intsFrom a n).length = n := by unfold intsFrom; simp
theorem intsFrom_mem {a i : Int} {n : Nat} (h : i ∈ intsFrom a n) : a ≤ i ∧ i < a + n := by
  unfold intsFrom at h
  simp only [List.mem_map, List.mem_range] at h
  obtain ⟨k, hk, rfl⟩ := h
  lia
theorem st_any {n : Nat} {xs : List V} {k : Int} {p : V → Prop} (h : H[n]? = some (.list xs)) (h0 : 0 ≤ k) (h1 : k < xs.length) (hp : ∀ v ∈ xs, p v) : subA (.ref n) (.int k) H p :=
  have hk : k.toNat < xs.length := (Int.toNat_lt h0).mpr h1
  .list h (.pos h0 h1) (List.getElem?_eq_getElem hk) (hp _ (List.getElem_mem _))
theorem rd_list {a n : Nat} {xs : List V} (h : H[a]? = some (.list xs)) : rd H (n + 1) (.ref a) = (rdL (rd H n) xs).map .list := by show H[a]?.bind _ = _; rw [h]; rfl
theorem get_new {o : AObj} : (H ++ [o])[H.length]? = some o := by simp
end
structure Keep (H H' : AHeap) : Prop where
  le : H.length ≤ H'.length
  old : ∀ i, i < H.length → H'[i]? = H[i]?
theorem Keep.refl (H : AHeap) : Keep H H := ⟨Nat.le_refl _, fun _ _ => rfl⟩
theorem Keep.trans {H H1 H2 : AHeap} (a : Keep H H1) (b : Keep H1 H2) : Keep H H2 := ⟨Nat.le_trans a.le b.le, fun i h => (b.old i (Nat.lt_of_lt_of_le h a.le)).trans (a.old i h)⟩
theorem Keep.new (H : AHeap) (G : List AObj) : Keep H (H ++ G) := ⟨by simp, fun i h => List.getElem?_append_left h⟩
theorem Keep.get {H H' : AHeap} (k : Keep H H') {n : Nat} {o : AObj} (h : H[n]? = some o) : H'[n]? = some o := (k.old n (List.getElem?_eq_some_iff.mp h).1).trans h
theorem Keep.set {H H' : AHeap} (k : Keep H H') {n : Nat} {o : AObj} (h : H.length ≤ n) : Keep H (H'.set n o) := ⟨by simpa using k.le, fun i hi => by rw [List.getElem?_set_ne (by lia)]; exact k.old i hi⟩
theorem lt_of_get {H : AHeap} {n : Nat} {o : AObj} (h : H[n]? = some o) : n < H.length := (List.getElem?_eq_some_iff.mp h).1
theorem comp_map {K : AHeap → Prop} {bind : Item → AHeap → Option Sg} {elt : Sg → AHeap → VPost → Prop} {Q : List V → AHeap → Prop} {P : Item → V → Prop} : ∀ (items : List Item) (acc : List V) (H : AHeap),
    (∀ H', Keep H H' → K H') →
    (∀ x ∈ items, ∀ H', Keep H H' → ∃ σ, bind x H' = some σ ∧ ∀ q : VPost, (∀ v H'', P x v → Keep H' H'' → q v H'') → elt σ H' q) →
    (∀ vs H', All2 P items vs → Keep H H' → Q (acc ++ vs) H') → compGo K bind (fun _ H' q => q true H') elt Q items acc H
  | [], acc, H, hK, _, hQ => ⟨hK H (Keep.refl H), by simpa using hQ [] H .nil (Keep.refl H)⟩
  | x :: xs, acc, H, hK, hx, hQ => by
    obtain ⟨σ, hb, he⟩ := hx x (.head _) H (Keep.refl H)
    refine ⟨hK H (Keep.refl H), ?_⟩
    rw [hb]
    dsimp only
    rw [if_pos rfl]
    refine he _ fun v H1 hv k1 => ?_
    refine comp_map xs (acc ++ [v]) H1 (fun H' k => hK H' (k1.trans k)) (fun y hy H' k => hx y (.tail _ hy) H' (k1.trans k)) fun vs H' hvs k => ?_
    have := hQ (v :: vs) H' (.cons hv hvs) (k1.trans k)
    simpa using this
theorem comp_filter {K : AHeap → Prop} {bind : Item → AHeap → Option Sg} {test : Sg → AHeap → (Bool → AHeap → Prop) → Prop} {elt : Sg → AHeap → VPost → Prop} {Q : List V → AHeap → Prop} {p : Item → Bool} {P : Item → V → Prop} : ∀ (items : List Item) (acc : List V) (H : AHeap),
    (∀ H', Keep H H' → K H') →
    (∀ x ∈ items, ∀ H', Keep H H' → ∃ σ, bind x H' = some σ ∧ (∀ q : Bool → AHeap → Prop, (∀ H'', Keep H' H'' → q (p x) H'') → test σ H' q) ∧ (p x = true → ∀ H1, Keep H' H1 → ∀ q : VPost, (∀ v H'', P x v → Keep H1 H'' → q v H'') → elt σ H1 q)) →
    (∀ vs H', All2 P (items.filter p) vs → Keep H H' → Q (acc ++ vs) H') → compGo K bind test elt Q items acc H
  | [], acc, H, hK, _, hQ => ⟨hK H (Keep.refl H), by simpa using hQ [] H .nil (Keep.refl H)⟩
  | x :: xs, acc, H, hK, hx, hQ => by
    obtain ⟨σ, hb, ht, he⟩ := hx x (.head _) H (Keep.refl H)
    refine ⟨hK H (Keep.refl H), ?_⟩
    rw [hb]
    dsimp only
    refine ht _ fun H1 k1 => ?_
    cases hp : p x with
    | true =>
      rw [if_pos rfl]
      refine he hp H1 k1 _ fun v H2 hv k2 => ?_
      have k12 := k1.trans k2
      refine comp_filter xs (acc ++ [v]) H2 (fun H' k => hK H' (k12.trans k)) (fun y hy H' k => hx y (.tail _ hy) H' (k12.trans k)) fun vs H' hvs k => ?_
      have := hQ (v :: vs) H' (by rw [List.filter_cons, if_pos hp]; exact .cons hv hvs) (k12.trans k)
      simpa using this
    | false =>
      rw [if_neg (by simp)]
      refine comp_filter xs acc H1 (fun H' k => hK H' (k1.trans k)) (fun y hy H' k => hx y (.tail _ hy) H' (k1.trans k)) fun vs H' hvs k => ?_
      exact hQ vs H' (by rw [List.filter_cons, if_neg (by simp [hp])]; exact hvs) (k1.trans k)
noncomputable def spLaw : Spec := fun vs H Q _ => vs = [.ref 0] ∧ (∃ is : List Int, H[0]? = some (.list (is.map .int))) ∧ ∀ H', Q (.bool true) H'
theorem for_ind {K : AHeap → Prop} {bind : Item → AHeap → Sg → Option Sg} {body : Sg → AHeap → SPost → Prop} {Q : SPost} (I : List Item → Sg → AHeap → Prop)
    (step : ∀ x xs σ H, I (x :: xs) σ H → K H ∧ ∃ σ', bind x H σ = some σ' ∧ ∀ W : Sg → AHeap → Prop, (∀ σ2 H2, I xs σ2 H2 → W σ2 H2) → body σ' H fun fl σ2 H2 => match fl with
        | .next => W σ2 H2
        | .brk => Q .next σ2 H2
        | .ret v => Q (.ret v) σ2 H2)
    (fin : ∀ σ H, I [] σ H → K H ∧ Q .next σ H) : ∀ items σ H, I items σ H → forGo K bind body Q items σ H
  | [], σ, H, h => fin σ H h
  | x :: xs, σ, H, h => by
    obtain ⟨hK, σ', hb, hs⟩ := step x xs σ H h
    refine ⟨hK, ?_⟩
    rw [hb]
    exact hs (forGo K bind body Q xs) fun σ2 H2 h2 => for_ind I step fin xs σ2 H2 h2
end Mine
end
section
namespace Mine
open PySem PySem.Calls PyProof.Rows
noncomputable def spList : Spec := fun vs H Q _ => ∃ (n : Nat) (xs : List V), vs = [.ref n] ∧ H[n]? = some (.list xs) ∧ Q (.ref H.length) (H ++ [.list xs])
noncomputable def spAll : Spec := fun vs H Q _ => ∃ (n : Nat) (bs : List Bool), vs = [.ref n] ∧ H[n]? = some (.list (bs.map .bool)) ∧ Q (.bool (bs.all id)) H
noncomputable def spTuple : Spec := fun vs H Q _ => ∃ (n : Nat) (xs : List V), vs = [.ref n] ∧ H[n]? = some (.list xs) ∧ Q (.ref H.length) (H ++ [.tuple xs])
section
variable {C : Cx} {K : Nat}
theorem ok_tuple_call : Call1 C K spTuple (.type "tuple") := by
  intro vs H Q X h ρ s us A E S hus hA hE
  obtain ⟨n, xs, rfl, e1, h⟩ := h
  obtain ⟨u, rfl, hu⟩ := all2_one hus
  obtain ⟨a, rfl, ea, us, k, ho, hs, hl⟩ := S.lookup e1 hu
  refine call_tuple_list ⟨_, ho, rfl, k, rfl⟩ (fun h' hk => ?_) (lid_le (all2_size hs ▸ hl))
  have hn : s.heap.get? h'.objs.size = none := by
    cases e : s.heap.get? h'.objs.size with
    | none => rfl
    | some o => exact absurd (Heap.lt_size (hk _ _ e)) (Nat.lt_irrefl _)
  obtain ⟨S1, st1, v1⟩ := S.alloc (h' := h'.push { cls := .type "tuple", data := .seq us }) (tk := s.toks) (a := h'.objs.size) (o := .tuple xs) (fun b o e => Heap.get?_push_of_some _ (hk b o e)) hn (S.grow (h' := h') (tk := s.toks) hk).1.size_ne ⟨us, _, Heap.get?_push_size _ rfl, hs, hl⟩
  exact ⟨_, _, _, st1, S1, v1, h⟩
theorem ok_list_call : Call1 C K spList (.type "list") := by
  intro vs H Q X h ρ s us A E S hus hA hE
  obtain ⟨n, xs, rfl, e1, h⟩ := h
  obtain ⟨u, rfl, hu⟩ := all2_one hus
  obtain ⟨a, rfl, ea, us, k, ho, hs, hl⟩ := S.lookup e1 hu
  refine call_list_seq a (.inl rfl) ho rfl rfl (fun h' c' hk hD => ?_) (lid_le (all2_size hs ▸ hl))
  obtain ⟨S1, st1, v1⟩ := S.alloc (h' := h') (tk := s.toks) (a := s.heap.objs.size) (o := .list xs) hk (get_size _) S.size_ne ⟨us, c', hD, hs, hl⟩
  exact ⟨_, _, _, st1, S1, v1, h⟩
theorem bools_at {ρ : List Addr} : ∀ {bs : List Bool} {us : List Value}, All2 (VR C ρ) (bs.map .bool) us → us = bs.map Value.bool
  | [], _, .nil => rfl
  | _ :: _, _, .cons e r => by cases e; rw [bools_at r]; rfl
theorem ok_all (hc : C.calm) : Call1 C K spAll (.builtin "all") := by
  intro vs H Q X h ρ s us A E S hus hA hE
  obtain ⟨n, bs, rfl, e1, h⟩ := h
  obtain ⟨u, rfl, hu⟩ := all2_one hus
  obtain ⟨a, rfl, ea, us, k, ho, hs, hl⟩ := S.lookup e1 hu
  have hus := bools_at hs
  have hL : s.heap.IsList a us := ⟨_, ho, rfl, k, rfl⟩
  have hlt : a < s.heap.objs.size := Heap.lt_size ho
  refine call_all_walk (wpAny_pyIter_list hL ?_)
  refine ⟨_, _, _, _, _, _, fun i => (bs[i]?).getD true, rfl, Walks.list (A := A.in1) (hA.hc hc) _ a (Nat.ne_of_lt hlt) us, ⟨⟨_, Heap.get?_push_size _ rfl, rfl, rfl⟩, hL.push _⟩, ?_, fun h' tk hk => ?_⟩
  · intro i v s' Q' E' hP hQ
    have h1 : us.toList[i]? = some v := by rw [Array.getElem?_toList]; exact hP
    rw [hus, List.getElem?_map] at h1
    cases e : bs[i]? with
    | none => rw [e] at h1; cases h1
    | some b =>
      dsimp only at hQ
      rw [e] at h1 hQ
      cases h1
      exact wpAny_truthy_bool hQ
  · have hlen : us.size = bs.length := by rw [← Array.length_toList, hus]; simp
    have e2 : (List.range us.size).all (fun i => (bs[i]?).getD true) = bs.all id := by
      rw [hlen, Bool.eq_iff_iff, List.all_eq_true, List.all_eq_true]
      constructor
      · intro hh b hb'
        obtain ⟨i, hi, rfl⟩ := List.getElem_of_mem hb'
        have := hh i (by simpa using hi)
        rw [List.getElem?_eq_getElem hi] at this
        exact this
      · intro hh i hi
        have hi : i < bs.length := by simpa using hi
        rw [List.getElem?_eq_getElem hi]
        exact hh _ (List.getElem_mem _)
    rw [e2]
    obtain ⟨S1, st1⟩ := S.grow (h' := h') (tk := tk) (fun b o e => hk b o (by simp; exact Nat.ne_of_lt (Heap.lt_size e)) (Heap.get?_push_of_some _ e))
    exact ⟨ρ, H, _, st1, S1, vb _, h⟩
end
end Mine
end
section
namespace Mine
open PySem PySem.Calls PyProof.Rows
section
variable {prog : Program} {w : World} {A : Around} {E : Value → Shared → Prop} {s : Shared}
theorem sortLaw {κ : PyProof.Rows.KeyKind} {a₀ : Array Keyed} {st : SortSt} (hO : κ.OneLt) (h0 : KeysOf κ a₀) (hB : SBase a₀ st) (h2 : 2 ≤ a₀.size) (h : a₀.size < 64) :
    wpS (model prog w) A E s sortRuns' (fun _ st' => (arrOf st').Perm a₀ ∧ failedOf st' = none ∧ SortedToK κ (arrOf st') a₀.size) st := wpS_sortRunsK hO h0 hB h2 h fun st' a b c => ⟨a, b, c⟩
structure Left (a : Addr) (h h' : Heap) (xs : Array Value) : Prop where
  keep : ∀ b o, b ≠ a → h.get? b = some o → h'.get? b = some o
  obj : ∃ n, h'.get? a = some (seqObj "list" xs n)
theorem upd_keep {h : Heap} {a : Addr} {f : Obj → Obj} : ∀ b o, b ≠ a → h.get? b = some o → (h.update a f).get? b = some o := fun b o hb e => (Heap.get?_update_other h f (Ne.symm hb)).trans e
theorem sort_plain {κ : PyProof.Rows.KeyKind} (hO : κ.OneLt) {a : Addr} {vs : List Value} {n : Nat} {P : Fin → Shared → Prop} (ho : s.heap.get? a = some (seqObj "list" vs.toArray n))
    (h0 : KeysOf κ (pairsOf vs)) (hkk : 2 ≤ vs.length → keyKind' vs.toArray = pure oneType') (h64 : vs.length < 64)
    (h : ∀ (xs : Array Keyed) h', xs.Perm (pairsOf vs) → SortedToK κ xs (pairsOf vs).size → Left a s.heap h' (xs.map (·.2)) → P (.done (.ret .none)) { s with heap := h' }) :
    wpAny (model prog w) A (Builtin.«list.sort» ⟨[.ref a], []⟩) P E s := by
  rw [list_sort_plain]
  have ha : a < s.heap.objs.size := Heap.lt_size ho
  have hlt : vs.length ≤ sizeLine := Nat.le_trans (Nat.le_of_lt h64) (by decide)
  have hvs : vs.toArray.size ≤ sizeLine := hlt
  refine wpAny_bind (listItems_at ho rfl ?_)
  refine wpAny_bind (listUpdate_at ho rfl ?_ hvs (Nat.zero_le _))
  have k1 := upd_keep (h := s.heap) (a := a) (f := Obj.mapSeq fun _ => #[])
  obtain ⟨e1, ho1⟩ : ∃ e1, (s.heap.update a (Obj.mapSeq fun _ => #[])).get? a = some (seqObj "list" #[] e1) := ⟨_, get?_update_seq ho (fun _ => #[])⟩
  generalize s.heap.update a (Obj.mapSeq fun _ => #[]) = h1 at k1 ho1
  refine wpAny_bind (seqEpoch_at ho1 rfl ?_)
  refine wpAny_bind (wpAny_newTuple ?_ (by simpa using hvs))
  refine wpAny_bind (wpAny_newList ?_ (Nat.zero_le _))
  refine wpAny_holding ?_
  have k2 : ∀ b o, h1.get? b = some o → ((h1.push (seqObj "tuple" vs.toArray 0)).push (seqObj "list" #[] 0)).get? b = some o := fun b o e => Heap.get?_push_of_some _ (Heap.get?_push_of_some _ e)
  show wpAny (model prog w) A _ P E { s with heap := (h1.push (seqObj "tuple" vs.toArray 0)).push (seqObj "list" #[] 0) }
  generalize (h1.push (seqObj "tuple" vs.toArray 0)).push (seqObj "list" #[] 0) = h2 at k2
  have ho6 := k2 _ _ ho1
  dsimp only
  have fin : ∀ (xs : Array Keyed), xs.Perm (pairsOf vs) → SortedToK κ xs (pairsOf vs).size → P (.done (.ret .none)) { s with heap := h2.update a (Obj.mapSeq fun _ => xs.map (·.2)) } := fun xs hp hs => by
    refine h xs _ hp hs ⟨fun b o hb e => upd_keep b o hb (k2 b o (k1 b o hb e)), ?_⟩
    exact ⟨_, get?_update_seq ho6 (fun _ => xs.map (·.2))⟩
  by_cases h2' : vs.toArray.size < 2
  · rw [if_pos h2', if_pos h2']
    refine wpAny_bind (wpAny_pure ?_)
    rw [StateT.run_pure]
    refine wpAny_bind (wpAny_pure ?_)
    dsimp only
    refine wpAny_bind (seqEpoch_at ho6 rfl ?_)
    refine wpAny_bind (listUpdate_at ho6 rfl ?_ (Nat.zero_le _) (by rw [Array.size_map]; show (pairsOf vs).size ≤ _; rw [pairsOf_size]; exact Nat.le_succ_of_le hlt))
    simp only [bne_self_eq_false, Bool.false_eq_true, if_false]
    refine wpAny_pure (fin (pairsOf vs) (Array.Perm.refl _) ?_)
    intro i j hij hj
    have : i = j := by rw [pairsOf_size] at hj; simp at h2'; lia
    subst this; exact KeyOrd.kle_refl _
  · rw [if_neg h2', if_neg h2']
    have hkk' : keyKind' vs.toArray = pure oneType' := hkk (Nat.not_lt.mp h2')
    rw [hkk']
    refine wpAny_bind (wpAny_pure ?_)
    refine wpAny_bind (wpAny_mono (sortLaw (a₀ := pairsOf vs) (st := SortSt.mk' oneType' (vs.toArray.zip vs.toArray) #[] 7 none) hO h0 ⟨Array.Perm.refl _, rfl, rfl, rfl⟩ (by rw [pairsOf_size]; exact Nat.not_lt.mp h2') (by rw [pairsOf_size]; exact h64)) ?_ fun _ _ e => e)
    rintro ⟨⟨⟩, st'⟩ s' ⟨rfl, hp, hf, hs⟩
    dsimp only
    refine wpAny_bind (seqEpoch_at ho6 rfl ?_)
    refine wpAny_bind (listUpdate_at ho6 rfl ?_ (Nat.zero_le _) (by refine Nat.le_trans (Nat.le_of_eq ((Array.size_map ..).trans (hp.size_eq.trans (pairsOf_size _)))) ?_; exact Nat.le_succ_of_le hlt))
    rw [hf]
    simp only [bne_self_eq_false, Bool.false_eq_true, if_false]
    exact wpAny_pure (fin (arrOf st') hp hs)
end
noncomputable def keyT : Value → Txt
  | .str x _ => x.cps.toList
  | _ => []
noncomputable def SortQ (ts : List Txt) (H : AHeap) (Q : VPost) : Prop := ts.length < 64 ∧ ∀ ys : List Txt, ys.Perm ts → ys.Pairwise (fun a b => ¬ b < a) → Q (.ref H.length) (H ++ [.list (ys.map .str)])
noncomputable def spSorted : Spec := fun vs H Q _ => ∃ (n : Nat) (ts : List Txt), vs = [.ref n] ∧ H[n]? = some (.list (ts.map .str)) ∧ SortQ ts H Q
section
variable {C : Cx} {K : Nat}
theorem txts_key {ρ : List Addr} : ∀ {ts : List Txt} {us : List Value}, All2 (VR C ρ) (ts.map .str) us → us.map keyT = ts ∧ ∀ u ∈ us, VR C ρ (.str (keyT u)) u
  | [], _, .nil => ⟨rfl, fun _ h => nomatch h⟩
  | t :: ts, _, .cons ⟨ok, tk, e⟩ r => by
    cases e
    obtain ⟨h1, h2⟩ := txts_key r
    exact ⟨by rw [List.map_cons, h1]; rfl, List.forall_mem_cons.mpr ⟨⟨ok, tk, rfl⟩, h2⟩⟩
theorem vr_keys {ρ : List Addr} : ∀ (us : List Value), (∀ u ∈ us, VR C ρ (.str (keyT u)) u) → All2 (VR C ρ) ((us.map keyT).map .str) us
  | [], _ => .nil
  | u :: r, h => .cons (h u (.head _)) (vr_keys r fun x hx => h x (.tail _ hx))
theorem sorted_core {ρ : List Addr} {H : AHeap} {s : Shared} {A : Around} {E : Value → Shared → Prop} {Q : VPost} {arg : Value} {ts : List Txt} (S : Sim C ρ H s) (hl : ts.length ≤ lid) (hq : SortQ ts H Q)
    (hcol : ∀ R : List Value → Shared → Prop, (∀ us h' tk, us.map keyT = ts → (∀ u ∈ us, VR C ρ (.str (keyT u)) u) → (∀ b o, s.heap.get? b = some o → h'.get? b = some o) → R us { s with heap := h', toks := tk }) → wpAny C.M A.in1 (collect arg) R E s) : wpAny C.M A (call (.builtin "sorted") [arg]) (PV C ρ s Q) E s := by
  refine Calls.call_function_entry kind_sorted plain_sorted entry_sorted (args_sorted1 _) ?_
  unfold Builtin.«sorted»
  refine wpAny_bind (m := checkCount "sorted" 1 1 _) (wpAny_pure ?_)
  refine wpAny_bind (hcol _ fun us h' tk hk1 hk2 hk => ?_)
  have hst := strsAre_map us fun u hu => by obtain ⟨_, t, e⟩ := hk2 u hu; exact ⟨_, t, e⟩
  have hnl : us.length = ts.length := by have := congrArg List.length hk1; rw [List.length_map] at this; exact this
  have hn : us.length ≤ sizeLine := by rw [hnl]; exact lid_le hl
  refine wpAny_bind (wpAny_newList ?_ hn)
  have hDn : s.heap.get? h'.objs.size = none := by
    cases e : s.heap.get? h'.objs.size with
    | none => rfl
    | some o => exact absurd (Heap.lt_size (hk _ _ e)) (Nat.lt_irrefl _)
  have hsm : h'.objs.size ≠ sysModules := (S.grow (h' := h') (tk := tk) hk).1.size_ne
  have hD : (h'.push (seqObj "list" us.toArray 0)).get? h'.objs.size = some (seqObj "list" us.toArray 0) := Heap.get?_push_size _ rfl
  have hk' : ∀ b o, s.heap.get? b = some o → (h'.push (seqObj "list" us.toArray 0)).get? b = some o := fun b o e => Heap.get?_push_of_some _ (hk b o e)
  show wpAny C.M A.in1 _ _ E { s with heap := h'.push (seqObj "list" us.toArray 0), toks := tk }
  generalize h'.push (seqObj "list" us.toArray 0) = h2 at hD hk'
  generalize h'.objs.size = D at hD hDn hsm
  refine wpAny_bind (wpAny_holding (wpAny_call_entry slot_list_sort ⟨_, hD, rfl⟩ entry_list_sort ?_ (args_list_sort _)))
  refine sort_plain strKind_oneLt hD hst.keysOf (fun h2 => ?_) (by rw [hnl]; exact hq.1) fun ks h'' hp hsrt hleft => ?_
  · match us, hst, h2 with
    | [], _, h2 => simp at h2
    | [_], _, h2 => simp at h2
    | v₁ :: v₂ :: r, hst, _ => exact keyKind_strs hst
  · refine ⟨_, rfl, wpAny_pure ⟨_, rfl, ?_⟩⟩
    have hpl : ks.toList.Perm (us.zip us) := by rw [← pairsOf_toList]; exact Array.perm_iff_toList_perm.mp hp
    have hmem : ∀ p ∈ ks.toList, p.1 = p.2 ∧ p.1 ∈ us := fun p hp' => mem_zip_self (hpl.mem_iff.mp hp')
    have hout : (ks.map (·.2)).toList = ks.toList.map (·.1) := by
      rw [Array.toList_map]; exact List.map_congr_left fun p hp' => (hmem p hp').1.symm
    have hperm : ((ks.toList.map (·.1)).map keyT).Perm ts := by
      have h1 := (hpl.map (·.1)).map keyT
      rwa [List.map_fst_zip (Nat.le_refl _), hk1] at h1
    have hpw : ((ks.toList.map (·.1)).map keyT).Pairwise (fun a b => ¬ b < a) := by
      rw [List.map_map, List.pairwise_iff_getElem]
      intro i j hi hj hij
      have hi' : i < ks.size := by simpa using hi
      have hj' : j < ks.size := by simpa using hj
      have h1 := hsrt i j (Nat.le_of_lt hij) (by rw [← hp.size_eq]; exact hj')
      have kk : ∀ i (hi : i < ks.size), KK strKind ks i = keyT ks[i].1 := fun i hi => by
        unfold KK
        rw [Array.getElem?_eq_getElem hi]
        obtain ⟨ok, tk, e⟩ := hk2 _ (hmem ks[i] (by simp)).2
        show (strKind.keyOf ks[i].1).getD [] = _
        rw [e]; rfl
      rw [kk i hi', kk j hj'] at h1
      have h1 : decide (keyT ks[j].1 < keyT ks[i].1) = false := h1
      simpa using h1
    have hvr : All2 (VR C ρ) (((ks.toList.map (·.1)).map keyT).map .str) (ks.map (·.2)).toList := by
      rw [hout]
      exact vr_keys _ fun u hu => by
        obtain ⟨p, hp', rfl⟩ := List.mem_map.mp hu
        exact hk2 _ (hmem p hp').2
    obtain ⟨m, hob⟩ := hleft.obj
    obtain ⟨S1, st1, v1⟩ := S.alloc (h' := h'') (tk := tk) (a := D) (o := .list (((ks.toList.map (·.1)).map keyT).map .str)) (fun b x e => hleft.keep b x (fun q => by rw [q, hDn] at e; cases e) (hk' b x e)) hDn hsm
      ⟨_, m, hob, hvr, by rw [List.length_map, hperm.length_eq]; exact hl⟩
    exact ⟨_, _, _, st1, S1, v1, hq.2 _ hperm hpw⟩
theorem ok_sorted : Call1 C K spSorted (.builtin "sorted") := by
  intro vs H Q X h ρ s us A E S hus hA hE
  obtain ⟨n, ts, rfl, e1, h⟩ := h
  obtain ⟨u, rfl, hu⟩ := all2_one hus
  obtain ⟨a, rfl, ea, us, k, ho, hs, hl⟩ := S.lookup e1 hu
  obtain ⟨hk1, hk2⟩ := txts_key hs
  refine sorted_core S (by rw [List.length_map] at hl; exact hl) h fun R hR => collect_list (vs := us.toList) ⟨_, ho, rfl, k, rfl⟩ (hR _ _ s.toks hk1 hk2 fun b o e => ?_) (by rw [← hs.length]; exact lid_le hl)
  exact upd_keep b o (Nat.ne_of_lt (Heap.lt_size e)) (Heap.get?_push_of_some _ e)
end
end Mine
end
section
namespace Mine
open PySem PySem.Calls PyProof.Rows
noncomputable def tabE (T : Tab) : List (Nat × Spec) → Tab
  | [] => T
  | (n, sp) :: r => (tabE T r).add (nm n) sp
noncomputable def getE : List (Nat × Spec) → Nat → Option Spec
  | [], _ => none
  | (n, sp) :: r, m => bif Nat.beq m n then some sp else getE r m
theorem Has.ent {T : Tab} {m : Nat} {sp : Spec} : ∀ {l : List (Nat × Spec)}, getE l m = some sp → Has (tabE T l) (nm m) sp
  | [], h => nomatch h
  | (n, sp') :: r, h => by
    unfold getE at h
    cases e : Nat.beq m n with
    | true =>
      rw [e] at h
      cases Nat.eq_of_beq_eq_true e
      cases h
      exact ⟨if_pos rfl, if_pos rfl⟩
    | false =>
      rw [e] at h
      have ne : ¬ nm m = nm n := fun q => Nat.ne_of_beq_eq_false e (nm_inj.mp q)
      have ih : Has (tabE T r) (nm m) sp := Has.ent h
      exact ⟨(if_neg ne).trans ih.gv, (if_neg ne).trans ih.fn⟩
noncomputable def tabV (T : Tab) : List (Nat × V) → Tab
  | [] => T
  | (n, v) :: r => (tabV T r).val (nm n) v
noncomputable def getV : List (Nat × V) → Nat → Option V
  | [], _ => none
  | (n, v) :: r, m => bif Nat.beq m n then some v else getV r m
noncomputable def tabM (T : Tab) : List (MK × Nat × Spec) → Tab
  | [] => T
  | (k, n, sp) :: r => (tabM T r).meth k (nm n) sp
noncomputable def getM : List (MK × Nat × Spec) → MK → Nat → Option Spec
  | [], _, _ => none
  | (k, n, sp) :: r, kd, m => bif decide (kd = k) && Nat.beq m n then some sp else getM r kd m
theorem gvV {T : Tab} {m : Nat} {v : V} : ∀ {l : List (Nat × V)}, getV l m = some v → (tabV T l).gv (nm m) = some v
  | [], h => nomatch h
  | (n, w) :: r, h => by
    unfold getV at h
    cases e : Nat.beq m n with
    | true => rw [e] at h; cases Nat.eq_of_beq_eq_true e; cases h; exact if_pos rfl
    | false => rw [e] at h; exact (if_neg fun q => Nat.ne_of_beq_eq_false e (nm_inj.mp q)).trans (gvV h)
theorem gvM {T : Tab} : ∀ (l : List (MK × Nat × Spec)), (tabM T l).gv = T.gv
  | [] => rfl
  | (_, _, _) :: r => gvM r
theorem gvE {T : Tab} {m : Nat} {v : V} (k : T.gv (nm m) = some v) : ∀ {l : List (Nat × Spec)}, getE l m = none → (tabE T l).gv (nm m) = some v
  | [], _ => k
  | (n, sp') :: r, h => by
    unfold getE at h
    cases e : Nat.beq m n with
    | true => rw [e] at h; cases h
    | false =>
      rw [e] at h
      exact (if_neg fun q => Nat.ne_of_beq_eq_false e (nm_inj.mp q)).trans (gvE k h)
theorem gvT {T : Tab} {m : Nat} {v : V} {vl : List (Nat × V)} {ml : List (MK × Nat × Spec)} {l : List (Nat × Spec)} (h : getE l m = none) (k : getV vl m = some v) : (tabE (tabM (tabV T vl) ml) l).gv (nm m) = some v :=
  gvE (by rw [gvM]; exact gvV k) h
theorem metM {T : Tab} {kd : MK} {m : Nat} {sp : Spec} : ∀ {l : List (MK × Nat × Spec)}, getM l kd m = some sp → HasM (tabM T l) kd (nm m) sp
  | [], h => nomatch h
  | (k, n, sp') :: r, h => by
    unfold getM at h
    cases e : (decide (kd = k) && Nat.beq m n) with
    | true =>
      rw [e] at h
      obtain ⟨e1, e2⟩ := Bool.and_eq_true_iff.mp e
      cases of_decide_eq_true e1
      cases Nat.eq_of_beq_eq_true e2
      cases h
      exact ⟨if_pos ⟨rfl, rfl⟩, if_pos ⟨rfl, rfl⟩⟩
    | false =>
      rw [e] at h
      have ne : ¬ (kd = k ∧ nm m = nm n) := fun q => by
        rw [decide_eq_true q.1, nm_inj.mp q.2, Nat.beq_refl] at e; cases e
      have ih := metM (T := T) h
      exact ⟨(if_neg ne).trans ih.has, (if_neg ne).trans ih.mt⟩
theorem metE {T : Tab} {kd : MK} {m : Str} {sp : Spec} (k : HasM T kd m sp) : ∀ (l : List (Nat × Spec)), HasM (tabE T l) kd m sp
  | [] => k
  | (_, _) :: r => ⟨(metE k r).has, (metE k r).mt⟩
theorem HasM.met {T : Tab} {kd : MK} {m : Nat} {sp : Spec} {ml : List (MK × Nat × Spec)} {l : List (Nat × Spec)} (h : getM ml kd m = some sp) : HasM (tabE (tabM T ml) l) kd (nm m) sp := metE (metM h) l
section
variable {C : Cx} {T : Tab} {K : Nat}
noncomputable def ConstAt (C : Cx) (f : Str) (v : V) : Prop := ∃ u, C.G f = some u ∧ ∀ ρ, VR C ρ v u
theorem ConstAt.glob {n : Nat} {u : Value} (h : C.G (nm n) = some u) : ConstAt C (nm n) (.glob (nm n)) := ⟨u, h, fun _ => h⟩
theorem base_ok {srt : Spec} {cls : Str → Bool} {cat : Str → Str → Bool} {hev : Str → Nat → PE → Sg → AHeap → VPost → Prop} (hb : ∀ p ∈ biL, C.G p.1 = some p.2)
    (h8 : ∀ fs vs H Q X, srt vs H Q X → ∀ ρ s us A E, Sim (C.at fs) ρ H s → All2 (VR C ρ) vs us → AOk (C.at fs) K A → Takes (C.at fs) ρ s X E → wpAny C.M A (call (.builtin "sorted") us [(Str.ofString "key", .builtin "len")]) (PV (C.at fs) ρ s Q) E s)
    (h9 : ∀ c, cls c = true → C.calm ∧ ExcCls C c) (h10 : ∀ k c, cat k c = true → Caught C k c)
    (h11 : ∀ k a pe σ H Q, hev k a pe σ H Q → ∀ fs env e ρ s A, trE 60 env.kindOf e = some pe → FR (C.at fs) env σ ρ s.heap → Sim (C.at fs) ρ H s → A.handled = some (.ref a) → A.depth + K < recursionLimit → A.units + 5 * K + 200 < cLine →
      A.frames = some fs → XIs C ρ k a s.heap → wpAny C.M A (eval e env) (PV (C.at fs) ρ s Q) (fun _ _ => False) s) : TabOk C (T0 srt cls cat hev) K := by
  have g : ∀ i (h : i < biL.length), C.G (biL[i]).1 = some (biL[i]).2 := fun i h => hb _ (List.getElem_mem h)
  have s1 : Str.ofString "sorted" = (nm 3463330969587) := by decide +kernel
  have s2 : Str.ofString "len" = (nm 1815276) := by decide +kernel
  have s3 : Str.ofString "range" = (nm 27329802482) := by decide +kernel
  have s4 : Str.ofString "reversed" = (nm 56743180225065714) := by decide +kernel
  have s5 : Str.ofString "enumerate" = (nm 7343549747291846501) := by decide +kernel
  exact .base (by rw [s3]; exact g 7 (by decide)) (by rw [s4]; exact g 8 (by decide)) (by rw [s5]; exact g 9 (by decide)) (by rw [s1]; exact g 6 (by decide)) (by rw [s2]; exact g 0 (by decide)) h8 h9 h10 h11
theorem TabOk.entV {vl : List (Nat × V)} (h : TabOk C (tabV T vl) K) {n : Nat} {v : V} (k : ConstAt C (nm n) v) : TabOk C (tabV T ((n, v) :: vl)) K := by obtain ⟨_, h1, h2⟩ := k; exact h.val h1 h2
theorem TabOk.entM {ml : List (MK × Nat × Spec)} (h : TabOk C (tabM T ml) K) {k : MK} {n : Nat} {sp : Spec} {id : String} (hok : CallOk C K sp (.builtin id))
    (hg : ∀ fs v H ρ s u pl A (Q : Value × List Value → Shared → Prop) E, kindA v H = some k → Sim (C.at fs) ρ H s → VR C ρ v u → (∀ t, Q (.builtin id, [u]) { s with toks := t }) → wpAny C.M A (getMethod u (nm n) pl) Q E s) : TabOk C (tabM T ((k, n, sp) :: ml)) K := h.meth hok hg
theorem TabOk.entB {l : List (Nat × Spec)} (h : TabOk C (tabE T l) K) {n : Nat} {sp : Spec} {u : Value} (hu : C.G (nm n) = some u) (hc : Callee C u) (hok : CallOk C K sp u) : TabOk C (tabE T ((n, sp) :: l)) K := h.addB hu hc hok
theorem TabOk.ent {l : List (Nat × Spec)} (h : TabOk C (tabE T l) K) {n : Nat} {xs : List Str} {ps : PS} {sp : Spec} (hd : DefAt C (nm n) xs ps) (hc : Ct (tabE T l) xs ps sp) : TabOk C (tabE T ((n, sp) :: l)) (K + 1) := h.addF hd hc
end
end Mine
end
section
namespace Mine
open PySem
noncomputable def Tru (v : V) (q : Bool → Prop) : Prop := match truthyA v with | some b => q b | Option.none => False
noncomputable def SQ (T : Tab) (r : PS) (Q : SPost) (X : XPost) : SPost := fun fl σ H => match fl with | .next => semS T r σ H Q X | f => Q f σ H
noncomputable def RQ (Q : VPost) : SPost := fun fl _ H' => match fl with
  | .ret v => Q v H'
  | .next => Q .none H'
  | .brk => False
noncomputable def LQ (W : Sg → AHeap → Prop) (Q : SPost) : SPost := fun fl σ2 H2 => match fl with
  | .next => W σ2 H2
  | .brk => Q .next σ2 H2
  | .ret v => Q (.ret v) σ2 H2
noncomputable def Rng1 (v : V) (H : AHeap) (q : List Item → (AHeap → Prop) → AHeap → Prop) : Prop := match v with
  | .int j => 0 ≤ j ∧ j ≤ lid ∧ q ((intsFrom 0 j.toNat).map fun i => .one (.int i)) (fun _ => True) H
  | _ => False
noncomputable def Rng2 (u v : V) (H : AHeap) (q : List Item → (AHeap → Prop) → AHeap → Prop) : Prop := match u, v with
  | .int i, .int j => 0 ≤ i ∧ i ≤ lid ∧ 0 ≤ j ∧ j ≤ lid ∧ q ((intsFrom i (j - i).toNat).map fun i => .one (.int i)) (fun _ => True) H
  | _, _ => False
noncomputable def RngR (v : V) (H : AHeap) (q : List Item → (AHeap → Prop) → AHeap → Prop) : Prop := match v with
  | .int j => 0 ≤ j ∧ j ≤ lid ∧ q ((intsFrom 0 j.toNat).reverse.map fun i => .one (.int i)) (fun _ => True) H
  | _ => False
noncomputable def Neg (v : V) (q : V → Prop) : Prop := match v with | .int i => q (.int (-i)) | _ => False
section
variable {T : Tab} {σ : Sg} {H : AHeap} {Q : VPost} {X : XPost} {q : Bool → AHeap → Prop} {P : SPost} {W : Sg → AHeap → Prop}
theorem hit {x : Str} {v : V} : (σ.set x v) x = some v := if_pos rfl
theorem miss {a b : Nat} {v w : V} (k : σ (nm b) = some w) (h : Nat.beq b a = false) : (σ.set (nm a) v) (nm b) = some w := by
  rw [set_nm, if_neg (Nat.ne_of_beq_eq_false h)]; exact k
theorem e_name {x : Str} {v : V} (h : σ x = some v) (k : Q v H) : (sem T (.name x)).ev σ H Q X := by
  show (match σ x with | some v => Q v H | Option.none => False); rw [h]; exact k
theorem e_glob {x : Str} {v : V} (h : T.gv x = some v) (k : Q v H) : (sem T (.glob x)).ev σ H Q X := by
  show (match T.gv x with | some v => Q v H | Option.none => False); rw [h]; exact k
theorem e_none (k : Q .none H) : (sem T .none).ev σ H Q X := k
theorem e_bool {b : Bool} (k : Q (.bool b) H) : (sem T (.bool b)).ev σ H Q X := k
theorem e_int {i : Int} (k : Q (.int i) H) : (sem T (.int i)).ev σ H Q X := k
theorem e_str {x : Str} (k : Q (.str x.cps.toList) H) : (sem T (.str x)).ev σ H Q X := k
theorem e_bin {op : Operator} {l r : PE} (k : (sem T l).ev σ H (fun a H1 => (sem T r).ev σ H1 (fun b H2 => binA op a b H2 Q) X) X) : (sem T (.bin op l r)).ev σ H Q X := k
theorem e_cmp {op : CmpOp} {l r : PE} (k : (sem T l).ev σ H (fun a H1 => (sem T r).ev σ H1 (fun b H2 => cmpA op a b H2 fun c => Q (.bool c) H2) X) X) : (sem T (.cmp1 op l r)).ev σ H Q X := k
theorem t_cmp {op : CmpOp} {l r : PE} (k : (sem T l).ev σ H (fun a H1 => (sem T r).ev σ H1 (fun b H2 => cmpA op a b H2 fun c => q c H2) X) X) : (sem T (.cmp1 op l r)).tt σ H q X := k
theorem t_cmp2 {o1 o2 : CmpOp} {a b c : PE} (k : (sem T a).ev σ H (fun x H1 => (sem T b).ev σ H1 (fun y H2 => cmpA o1 x y H2 fun c1 =>
      if c1 then (sem T c).ev σ H2 (fun z H3 => cmpA o2 y z H3 fun c2 => q c2 H3) X else q false H2) X) X) : (sem T (.cmp2 o1 o2 a b c)).tt σ H q X := k
theorem t_and {l r : PE} (k : (sem T l).tt σ H (fun b H1 => if b then (sem T r).tt σ H1 q X else q false H1) X) : (sem T (.and l r)).tt σ H q X := k
theorem t_or {l r : PE} (k : (sem T l).tt σ H (fun b H1 => if b then q true H1 else (sem T r).tt σ H1 q X) X) : (sem T (.or l r)).tt σ H q X := k
theorem t_not {e : PE} (k : (sem T e).tt σ H (fun b H1 => q (!b) H1) X) : (sem T (.not e)).tt σ H q X := k
theorem e_and {l r : PE} (k : (sem T l).ev σ H (fun v H1 => Tru v fun b => if b then (sem T r).ev σ H1 Q X else Q v H1) X) : (sem T (.and l r)).ev σ H Q X := k
theorem e_or {l r : PE} (k : (sem T l).ev σ H (fun v H1 => Tru v fun b => if b then Q v H1 else (sem T r).ev σ H1 Q X) X) : (sem T (.or l r)).ev σ H Q X := k
theorem e_not {e : PE} (k : (sem T e).ev σ H (fun v H1 => Tru v fun b => Q (.bool !b) H1) X) : (sem T (.not e)).ev σ H Q X := k
theorem e_neg {e : PE} (k : (sem T e).ev σ H (fun v H1 => Neg v fun w => Q w H1) X) : (sem T (.neg e)).ev σ H Q X := k
theorem e_ite {c a b : PE} (k : (sem T c).tt σ H (fun t H1 => if t then (sem T a).ev σ H1 Q X else (sem T b).ev σ H1 Q X) X) : (sem T (.ite c a b)).ev σ H Q X := k
theorem t_name {x : Str} {v : V} (h : σ x = some v) (k : Tru v fun b => q b H) : (sem T (.name x)).tt σ H q X := by
  show (match σ x with | some v => _ | Option.none => False); rw [h]; exact k
theorem t_sub {o i : PE} (k : (sem T o).ev σ H (fun ov H1 => (sem T i).ev σ H1 (fun iv H2 => subA ov iv H2 fun v => Tru v fun b => q b H2) X) X) : (sem T (.sub o i)).tt σ H q X := k
theorem t_bool {b : Bool} (k : q b H) : (sem T (.bool b)).tt σ H q X := k
theorem tru_bool {b : Bool} {r : Bool → Prop} (k : r b) : Tru (.bool b) r := k
theorem e_call {g : Str} {args : PE} {sp : Spec} (h : Has T g sp) (k : (sem T args).el σ H (fun vs H1 => sp vs H1 Q X) X) : (sem T (.call (.glob g) args)).ev σ H Q X := by
  show (match T.gv g with | some v => _ | Option.none => False); rw [h.gv]; show (sem T args).el σ H (fun vs H1 => T.fn g vs H1 Q X) X; rw [h.fn]; exact k
theorem t_call {g : Str} {args : PE} {sp : Spec} (h : Has T g sp) (k : (sem T args).el σ H (fun vs H1 => sp vs H1 (fun v H2 => Tru v fun b => q b H2) X) X) : (sem T (.call (.glob g) args)).tt σ H q X :=
  e_call (Q := fun v H2 => Tru v fun b => q b H2) h k
theorem e_methN {x : Str} {args : PE} {m : Str} {v : V} {kd : MK} {sp : Spec} (hx : σ x = some v) (hk : kindA v H = some kd) (h : HasM T kd m sp) (k : (sem T args).el σ H (fun vs H2 => sp (v :: vs) H2 Q X) X) : (sem T (.meth (.name x) m args)).ev σ H Q X := by
  refine e_name (T := T) (X := X) (Q := fun ov H1 => match kindA ov H1 with
      | some kd => T.has kd m = true ∧ (sem T args).el σ H1 (fun vs H2 => T.mt kd m (ov :: vs) H2 Q X) X
      | Option.none => False) hx ?_
  rw [hk]; exact ⟨h.has, by rw [h.mt]; exact k⟩
theorem e_methS {x : Str} {args : PE} {m : Str} {sp : Spec} (h : HasM T .str m sp) (k : (sem T args).el σ H (fun vs H2 => sp (.str x.cps.toList :: vs) H2 Q X) X) : (sem T (.meth (.str x) m args)).ev σ H Q X :=
  ⟨h.has, by rw [h.mt]; exact k⟩
theorem e_srt {e : PE} {sp : Spec} (h : T.srt = sp) (k : (sem T e).ev σ H (fun v H1 => sp [v] H1 Q X) X) : (sem T (.sortLen e)).ev σ H Q X := by
  show (sem T e).ev σ H (fun v H1 => T.srt [v] H1 Q X) X; rw [h]; exact k
theorem l0 {q : List V → AHeap → Prop} (k : q [] H) : (sem T .nil).el σ H q X := k
theorem l1 {a : PE} {q : List V → AHeap → Prop} (k : (sem T a).ev σ H (fun v H1 => q [v] H1) X) : (sem T (.cons a .nil)).el σ H q X := k
theorem l2 {a b : PE} {q : List V → AHeap → Prop} (k : (sem T a).ev σ H (fun v H1 => (sem T b).ev σ H1 (fun w H2 => q [v, w] H2) X) X) : (sem T (.cons a (.cons b .nil))).el σ H q X := k
theorem lc {a t : PE} {q : List V → AHeap → Prop} (k : (sem T a).ev σ H (fun v H1 => (sem T t).el σ H1 (fun vs H2 => q (v :: vs) H2) X) X) : (sem T (.cons a t)).el σ H q X := k
theorem e_sub {o i : PE} (k : (sem T o).ev σ H (fun ov H1 => (sem T i).ev σ H1 (fun iv H2 => subA ov iv H2 fun v => Q v H2) X) X) : (sem T (.sub o i)).ev σ H Q X := k
theorem e_slice {o lo hi : PE} (k : (sem T o).ev σ H (fun ov H1 => (sem T lo).ev σ H1 (fun l H2 => (sem T hi).ev σ H2 (fun h H3 => sliceA ov l h H3 Q) X) X) X) : (sem T (.slice o lo hi)).ev σ H Q X := k
theorem e_list {es : PE} (k : (sem T es).el σ H (fun vs H1 => vs.length ≤ lid ∧ Q (.ref H1.length) (H1 ++ [.list vs])) X) : (sem T (.list es)).ev σ H Q X := k
theorem e_tuple {es : PE} (k : (sem T es).el σ H (fun vs H1 => vs.length ≤ lid ∧ Q (.ref H1.length) (H1 ++ [.tuple vs])) X) : (sem T (.tuple es)).ev σ H Q X := k
theorem e_comp0 {elt it : PE} {t : Tgt} (k : (sem T it).it σ H (fun items K H1 =>
      items.length ≤ lid ∧ compGo K (fun x H' => bindA t x H' σ) (fun _ H' q => q true H') (fun σ' H' q => (sem T elt).ev σ' H' q fun _ _ => False) (fun acc H' => Q (.ref H'.length) (H' ++ [.list acc])) items [] H1) X) : (sem T (.comp0 elt t it)).ev σ H Q X := k
theorem e_comp1 {elt it cond : PE} {t : Tgt} (k : (sem T it).it σ H (fun items K H1 =>
      items.length ≤ lid ∧ compGo K (fun x H' => bindA t x H' σ) (fun σ' H' q => (sem T cond).tt σ' H' q fun _ _ => False) (fun σ' H' q => (sem T elt).ev σ' H' q fun _ _ => False) (fun acc H' => Q (.ref H'.length) (H' ++ [.list acc])) items [] H1) X) : (sem T (.comp1 elt t it cond)).ev σ H Q X := k
theorem i_val {e : PE} {q : List Item → (AHeap → Prop) → AHeap → Prop} (k : (sem T e).ev σ H (fun v H1 => itemsA v H1 fun items K => q items K H1) X) : (sem T (.itVal e)).it σ H q X := k
theorem i_rng1 {e : PE} {q : List Item → (AHeap → Prop) → AHeap → Prop} (k : (sem T e).ev σ H (fun v H1 => Rng1 v H1 q) X) : (sem T (.itRange1 e)).it σ H q X := k
theorem i_rng2 {a b : PE} {q : List Item → (AHeap → Prop) → AHeap → Prop} (k : (sem T a).ev σ H (fun u H1 => (sem T b).ev σ H1 (fun v H2 => Rng2 u v H2 q) X) X) : (sem T (.itRange2 a b)).it σ H q X := k
theorem i_rev {e : PE} {q : List Item → (AHeap → Prop) → AHeap → Prop} (k : (sem T e).ev σ H (fun v H1 => RngR v H1 q) X) : (sem T (.itRev e)).it σ H q X := k
theorem rng1 {j : Int} {q : List Item → (AHeap → Prop) → AHeap → Prop} (h0 : 0 ≤ j) (h1 : j ≤ lid) (k : q ((intsFrom 0 j.toNat).map fun i => .one (.int i)) (fun _ => True) H) : Rng1 (.int j) H q := ⟨h0, h1, k⟩
theorem b_add {a b : Int} (k : Q (.int (a + b)) H) : binA .Add (.int a) (.int b) H Q := .add k
theorem b_sub {a b : Int} (k : Q (.int (a - b)) H) : binA .Sub (.int a) (.int b) H Q := .sub k
theorem b_mul {a b : Int} (h : a.natAbs < 2 ^ 63 ∨ b.natAbs < 2 ^ 63) (k : Q (.int (a * b)) H) : binA .Mult (.int a) (.int b) H Q := .mul h k
theorem b_div {a b : Int} (h : (decide (0 < b) && decide (b < 1073741824)) = true) (k : Q (.int (a / b)) H) : binA .FloorDiv (.int a) (.int b) H Q :=
  have h := Bool.and_eq_true_iff.mp h
  .div (of_decide_eq_true h.1) (of_decide_eq_true h.2) k
theorem b_mod {a b : Int} (h : 0 < b) (k : ∀ m, 0 ≤ m → m < b → Q (.int m) H) : binA .Mod (.int a) (.int b) H Q := .mod h (k _ (Int.emod_nonneg a (Int.ne_of_gt h)) (Int.emod_lt_of_pos a h))
theorem b_cat {t u : Txt} (h : t.length + u.length ≤ lid) (k : Q (.str (t ++ u)) H) : binA .Add (.str t) (.str u) H Q := .cat h k
theorem b_lcat {m n : Nat} {xs ys : List V} (h1 : H[m]? = some (.list xs)) (h2 : H[n]? = some (.list ys)) (h : xs.length + ys.length ≤ lid) (k : Q (.ref H.length) (H ++ [.list (xs ++ ys)])) : binA .Add (.ref m) (.ref n) H Q := .lcat h1 h2 h k
theorem c_lt {a b : Int} {r : Bool → Prop} (k : r (decide (a < b))) : cmpA .Lt (.int a) (.int b) H r := .lt k
theorem c_le {a b : Int} {r : Bool → Prop} (k : r (decide (a ≤ b))) : cmpA .LtE (.int a) (.int b) H r := .le k
theorem c_gt {a b : Int} {r : Bool → Prop} (k : r (decide (b < a))) : cmpA .Gt (.int a) (.int b) H r := .gt k
theorem c_ge {a b : Int} {r : Bool → Prop} (k : r (decide (b ≤ a))) : cmpA .GtE (.int a) (.int b) H r := .ge k
theorem c_eqi {a b : Int} {r : Bool → Prop} (k : r (decide (a = b))) : cmpA .Eq (.int a) (.int b) H r := .eq rfl rfl (by rw [int_beq]; exact k)
theorem c_nei {a b : Int} {r : Bool → Prop} (k : r (!decide (a = b))) : cmpA .NotEq (.int a) (.int b) H r := .ne rfl rfl (by rw [int_beq]; exact k)
theorem c_eqs {a b : Txt} {r : Bool → Prop} (k : r (decide (a = b))) : cmpA .Eq (.str a) (.str b) H r := .eq rfl rfl (by rw [str_beq]; exact k)
theorem c_nes {a b : Txt} {r : Bool → Prop} (k : r (!decide (a = b))) : cmpA .NotEq (.str a) (.str b) H r := .ne rfl rfl (by rw [str_beq]; exact k)
theorem c_is {a : V} {r : Bool → Prop} (k : r (decide (a = .none))) : cmpA .Is a .none H r := .is k
theorem c_isnot {a : V} {r : Bool → Prop} (k : r (!decide (a = .none))) : cmpA .IsNot a .none H r := .isn k
theorem b_last {n : Nat} {xs : List V} {p : V → Prop} (h : H[n]? = some (.list xs)) (h1 : 0 < xs.length) (hp : p (xs[xs.length - 1]'(Nat.sub_lt h1 Nat.one_pos))) : subA (.ref n) (.int (-1)) H p := by
  have e : (-1 + (xs.length : Int)).toNat = xs.length - 1 := by rw [Int.add_comm]; exact Int.toNat_sub xs.length 1
  exact .list (j := xs.length - 1) h (e ▸ Pl.neg (by decide) (Int.neg_le_neg (Int.ofNat_le.mpr h1))) (List.getElem?_eq_getElem _) hp
theorem b_sign {t : Txt} {k : Int} {p : V → Prop} (h0 : 0 ≤ k) (h1 : k < t.length) (hp : ∀ c ∈ t, p (.str [c])) : subA (.str t) (.int k) H p :=
  have hk : k.toNat < t.length := (Int.toNat_lt h0).mpr h1
  .str (.pos h0 h1) (by rw [List.drop_eq_getElem_cons hk]; exact hp _ (List.getElem_mem _))
theorem b_to {t : Txt} {j : Int} (h0 : 0 ≤ j) (k : Q (.str (t.take j.toNat)) H) : sliceA (.str t) .none (.int j) H Q := .str .none .int (by rw [cut_zero, take_clip _ h0]; exact k)
theorem b_from {t : Txt} {j : Int} (h0 : 0 ≤ j) (k : Q (.str (t.drop j.toNat)) H) : sliceA (.str t) (.int j) .none H Q := .str .int .none (by rw [cut_all, drop_clip _ h0]; exact k)
theorem b_lto {n : Nat} {xs : List V} {j : Int} (h : H[n]? = some (.list xs)) (h0 : 0 ≤ j) (k : Q (.ref H.length) (H ++ [.list (xs.take j.toNat)])) : sliceA (.ref n) .none (.int j) H Q := .list h .none .int (by rw [cut_zero, take_clip _ h0]; exact k)
theorem b_lfrom {n : Nat} {xs : List V} {j : Int} (h : H[n]? = some (.list xs)) (h0 : 0 ≤ j) (k : Q (.ref H.length) (H ++ [.list (xs.drop j.toNat)])) : sliceA (.ref n) (.int j) .none H Q := .list h .int .none (by rw [cut_all, drop_clip _ h0]; exact k)
theorem s_len {t : Txt} (k : Q (.int t.length) H) : spLen [.str t] H Q X := .str k
theorem s_lenl {n : Nat} {xs : List V} (h : H[n]? = some (.list xs)) (k : Q (.int xs.length) H) : spLen [.ref n] H Q X := .list h k
theorem s_append {n : Nat} {v : V} {xs : List V} (h0 : n ≠ 0) (h : H[n]? = some (.list xs)) (hl : xs.length < lid) (k : Q .none (H.set n (.list (xs ++ [v])))) : spAppend [.ref n, v] H Q X := ⟨n, v, xs, rfl, h0, h, hl, k⟩
theorem s_join {n : Nat} {ts : List Txt} (h : H[n]? = some (.list (ts.map .str))) (hl : (ts.map List.length).sum + ts.length ≤ lid) (k : Q (.str ts.flatten) H) : spJoin [.str [], .ref n] H Q X := ⟨n, ts, rfl, h, hl, k⟩
theorem i_list {n : Nat} {xs : List V} {p : List Item → (AHeap → Prop) → Prop} (h : H[n]? = some (.list xs)) (k : p (xs.map .one) (fun H' => H'[n]? = some (.list xs))) : itemsA (.ref n) H p := .list h k
theorem i_str {t : Txt} {p : List Item → (AHeap → Prop) → Prop} (k : p (t.map fun c => .one (.str [c])) (fun _ => True)) : itemsA (.str t) H p := .str k
theorem if_dec {p : Prop} [Decidable p] {A B : Prop} (h1 : p → A) (h0 : ¬ p → B) : if decide p = true then A else B := by
  by_cases h : p
  · rw [if_pos (by simpa using h)]; exact h1 h
  · rw [if_neg (by simpa using h)]; exact h0 h
theorem if_ndec {p : Prop} [Decidable p] {A B : Prop} (h1 : ¬ p → A) (h0 : p → B) : if (!decide p) = true then A else B := by
  by_cases h : p
  · rw [if_neg (by simpa using h)]; exact h0 h
  · rw [if_pos (by simpa using h)]; exact h1 h
theorem if_tt {A B : Prop} (k : A) : if true = true then A else B := k
theorem if_ff {A B : Prop} (k : B) : if false = true then A else B := k
theorem s_asg {x : Str} {e : PE} {b : PS} (k : (sem T e).ev σ H (fun v H1 => semS T b (σ.set x v) H1 P X) X) : semS T (.seq (.assign (.name x) e) b) σ H P X := k
theorem r_ret {e : PE} {b : PS} (k : (sem T e).ev σ H (fun v H1 => P (.ret v) σ H1) X) : semS T (.seq (.ret e) b) σ H P X := k
theorem r_raise {c : Str} {e : PE} {b : PS} (h : T.cls c = true) (k : (sem T e).ev σ H (fun _ H1 => X c H1) X) : semS T (.seq (.raise c e) b) σ H P X := ⟨h, k⟩
theorem s_exp {e : PE} {b : PS} (k : (sem T e).ev σ H (fun _ H1 => semS T b σ H1 P X) X) : semS T (.seq (.expr e) b) σ H P X := k
theorem s_ite {c : PE} {a b r : PS} (k : (sem T c).tt σ H (fun t H1 => if t then semS T a σ H1 (SQ T r P X) X else semS T b σ H1 (SQ T r P X) X) X) : semS T (.seq (.ite c a b) r) σ H P X := k
theorem r_for {t : Tgt} {it : PE} {b r : PS} (k : (sem T it).it σ H (fun items K H1 => forGo K (fun x H' σ' => bindA t x H' σ') (fun σ' H' q => semS T b σ' H' q X) (SQ T r P X) items σ H1) X) : semS T (.seq (.for_ t it b) r) σ H P X := k
theorem s_set {o i e : PE} {b : PS} (k : (sem T e).ev σ H (fun v H1 => (sem T o).ev σ H1 (fun ov H2 => (sem T i).ev σ H2 (fun iv H3 => setItemA ov iv v H3 fun H4 => semS T b σ H4 P X) X) X) X) : semS T (.seq (.setItem o i e) b) σ H P X := k
theorem e_dict0 (k : Q (.ref H.length) (H ++ [.dict [] 0])) : (sem T .dict0).ev σ H Q X := k
theorem s_skip (k : P .next σ H) : semS T .skip σ H P X := k
theorem sq_next {r : PS} (k : semS T r σ H P X) : SQ T r P X .next σ H := k
theorem sq_ret {r : PS} {v : V} (k : P (.ret v) σ H) : SQ T r P X (.ret v) σ H := k
theorem rq_ret {v : V} (k : Q v H) : RQ Q (.ret v) σ H := k
theorem lq_next (k : W σ H) : LQ W P .next σ H := k
theorem lq_ret {v : V} (k : P (.ret v) σ H) : LQ W P (.ret v) σ H := k
end
theorem ct1 {T : Tab} {x : Str} {ps : PS} {sp : Spec} (k : ∀ vs H Q X, sp vs H Q X → ∃ a, vs = [a] ∧ semS T ps (Sg.set (fun _ => none) x a) H (RQ Q) X) : Ct T [x] ps sp := fun vs H Q X h => by
  obtain ⟨a, rfl, k⟩ := k vs H Q X h; exact ⟨rfl, k⟩
theorem ct2 {T : Tab} {x y : Str} {ps : PS} {sp : Spec} (k : ∀ vs H Q X, sp vs H Q X → ∃ a b, vs = [a, b] ∧ semS T ps (Sg.set (Sg.set (fun _ => none) x a) y b) H (RQ Q) X) : Ct T [x, y] ps sp := fun vs H Q X h => by
  obtain ⟨a, b, rfl, k⟩ := k vs H Q X h; exact ⟨rfl, k⟩
theorem ct3 {T : Tab} {x y z : Str} {ps : PS} {sp : Spec} (k : ∀ vs H Q X, sp vs H Q X → ∃ a b c, vs = [a, b, c] ∧ semS T ps (Sg.set (Sg.set (Sg.set (fun _ => none) x a) y b) z c) H (RQ Q) X) : Ct T [x, y, z] ps sp := fun vs H Q X h => by
  obtain ⟨a, b, c, rfl, k⟩ := k vs H Q X h; exact ⟨rfl, k⟩
theorem for_inv {T : Tab} {X : XPost} {K : AHeap → Prop} {t : Tgt} {b r : PS} {P : SPost} (I : List Item → Sg → AHeap → Prop)
    (step : ∀ x xs σ H, I (x :: xs) σ H → K H ∧ ∃ σ', bindA t x H σ = some σ' ∧ ∀ W : Sg → AHeap → Prop, (∀ σ2 H2, I xs σ2 H2 → W σ2 H2) → semS T b σ' H (LQ W (SQ T r P X)) X)
    (fin : ∀ σ H, I [] σ H → K H ∧ semS T r σ H P X) {items : List Item} {σ : Sg} {H : AHeap} (h : I items σ H) : forGo K (fun x H' σ' => bindA t x H' σ') (fun σ' H' q => semS T b σ' H' q X) (SQ T r P X) items σ H :=
  for_ind I step fin items σ H h
end Mine
end
section
namespace Mine
open PySem PySem.Calls PyProof.Rows
noncomputable def ClsDefAt (C : Cx) (c : Str) (xs : List Str) (ps : PS) : Prop :=
  ∃ cl N mN f o name qual params body sc pm cd doc, C.G c = some (.ref cl) ∧ ClsAt C.base cl N mN ∧ mN "__init__" = some (.ref f) ∧ C.base.get? f = some o ∧ o.cls = .type "function" ∧ o.data = .func (methDef name qual params body sc pm cd doc) ∧ C.base.CodeRec cd qual ∧
    goodDef params sc = true ∧ trS 60 (fun x => sc.names.lookup x) body = some ps ∧ params.args.map (·.arg) = xs
noncomputable def spCls (sp : Spec) : Spec := fun vs H _ X => ∀ x, sp (.exc x :: vs) H (fun _ _ => False) X
section
variable {C : Cx} {T : Tab} {K : Nat}
theorem AOk.made {A : Around} (a : AOk C (K + 1) A) (cl : Addr) (us : List Value) : AOk C K (A.under (.builtin "type.__call__" ⟨.ref cl :: us, []⟩)) := by
  have e1 : (Code.builtin "type.__call__" ⟨.ref cl :: us, []⟩).weight = 1 := by kernel_rfl
  have e2 : (Code.builtin "type.__call__" ⟨.ref cl :: us, []⟩).cUnits = 1 := by kernel_rfl
  have e3 : (Code.builtin "type.__call__" ⟨.ref cl :: us, []⟩).envs = [] := by kernel_rfl
  refine ⟨a.h, a.hc, ?_, ?_, ?_⟩
  · show A.depth + (Code.builtin "type.__call__" ⟨.ref cl :: us, []⟩).weight + K < _
    have := a.d
    rw [e1]; lia
  · show A.units + (Code.builtin "type.__call__" ⟨.ref cl :: us, []⟩).cUnits + 5 * K + 200 < _
    have := a.u
    rw [e2]; lia
  · show pushEnvs (Code.builtin "type.__call__" ⟨.ref cl :: us, []⟩).envs A.frames = _
    rw [e3]; exact a.fr
theorem TabOk.addC (h : TabOk C T K) {c : Str} {xs : List Str} {ps : PS} {sp : Spec} (hd : ClsDefAt C c xs ps) (hc : Ct T xs ps sp) : TabOk C (T.add c (spCls sp)) (K + 2) := by
  obtain ⟨cl, N, mN, f, o, name, qual, params, body, sc, pm, cd, doc, h1, hcl, hi, h2, hfc, h3, h4, h5, h6, rfl⟩ := hd
  obtain ⟨nm, q, bs, sn, sub, col, dd, k0, k1, k2, k3, k5, hC⟩ := hcl.obj
  refine (h.mono (Nat.le_add_right K 2)).addB h1 (.inr (.inr (.inr ⟨cl, rfl, nm, q, N, bs, _, _, sn, sub, _, col, dd, k0, k1, k2, k3, k5, _, hC⟩))) fun fs vs H Q X hs ρ s us A E S hus hA hE => ?_
  obtain ⟨hp, g, d, tk, os⟩ := s
  refine wpAny_call_obj_init F.objNew (S.stays _ _ hC) (hcl.ns.keeps S.stays) hi (S.stays _ _ h2) hfc fun h' x dx hm => ?_
  obtain ⟨S1, st1⟩ := S.grow (h' := h') (tk := tk) hm.keeps
  refine wpAny_mono (wpAny_call (fn_code (C := C.at fs) (h.at fs) h2 h3 h4 h5 h6 (hc _ _ _ _ (hs x)) S1 (.cons rfl (st1.vrs hus)) (hA.made cl us) (hE.on st1))) (fun v s' p => ?_) fun _ _ x => x
  obtain ⟨_, _, _, _, _, _, q⟩ := p
  exact q.elim
theorem TabOk.entC {l : List (Nat × Spec)} (h : TabOk C (tabE T l) K) {n : Nat} {xs : List Str} {ps : PS} {sp : Spec} (hd : ClsDefAt C (Mine.nm n) xs ps) (hc : Ct (tabE T l) xs ps sp) : TabOk C (tabE T ((n, spCls sp) :: l)) (K + 2) := h.addC hd hc
theorem upper_one : ∀ c : Nat, 97 ≤ c → c ≤ 122 → Unicode.upperOf c = [c - 32] := by
  intro c h1 h2
  have : ∀ k, k < 26 → Unicode.upperOf (k + 97) = [k + 97 - 32] := by decide +kernel
  have h := this (c - 97) (by lia)
  rwa [Nat.sub_add_cancel h1] at h
theorem upper_is (t : Txt) (h : ∀ c ∈ t, 97 ≤ c ∧ c ≤ 122) : Txt.upper ⟨t.toArray⟩ = ⟨(t.map (· - 32)).toArray⟩ := by
  unfold Txt.upper placed
  have e : (t.toArray.mapIdx fun _ c => (Unicode.upperOf c).toArray) = t.toArray.map fun c => #[c - 32] := by
    refine Array.ext (by simp) fun i h1 h2 => ?_
    have hi : i < t.length := by simpa using h1
    rw [Array.getElem_mapIdx, Array.getElem_map, List.getElem_toArray, upper_one _ (h _ (List.getElem_mem hi)).1 (h _ (List.getElem_mem hi)).2]
  show (⟨(t.toArray.mapIdx fun _ c => (Unicode.upperOf c).toArray).flatten⟩ : Str) = _
  rw [e]
  congr 1
  apply Array.ext'
  rw [Array.toList_flatten, Array.toList_map, List.map_map]
  clear e h
  induction t with
  | nil => rfl
  | cons c t ih => exact congrArg (List.cons (c - 32)) ih
noncomputable def spUpper : Spec := fun vs H Q _ => ∃ t : Txt, vs = [.str t] ∧ (∀ c ∈ t, 97 ≤ c ∧ c ≤ 122) ∧ t.length ≤ 1000 ∧ Q (.str (t.map (· - 32))) H
theorem okT_up {t : Txt} (h : ∀ c ∈ t, 97 ≤ c ∧ c ≤ 122) (hl : t.length ≤ 1000) : okT (t.map (· - 32)) = true := by
  rw [okT_iff]
  refine ⟨by rw [List.length_map]; unfold lid; lia, fun c hc => ?_⟩
  obtain ⟨d, hd, rfl⟩ := List.mem_map.mp hc
  have := h d hd
  lia
theorem ok_upper : Call1 C K spUpper (.builtin "str.upper") := by
  intro vs H Q X h ρ s us A E S hus hA hE
  obtain ⟨t, rfl, ha, hl, hq⟩ := h
  obtain ⟨u, rfl, ok, tk, rfl⟩ := all2_one hus
  refine SC.upper ?_ ?_
  · rw [upper_is t ha, str_len, List.length_map]
    unfold Builtin.Str.tooLong
    rw [decide_eq_false_iff_not, sizeLine_eq]
    lia
  · rw [upper_is t ha]
    exact here S (vt (okT_up ha hl) _) hq
theorem get_upper : ∀ fs v H ρ s u pl A (Q : Value × List Value → Shared → Prop) E, kindA v H = some .str → Sim (C.at fs) ρ H s → VR C ρ v u → (∀ t, Q (.builtin "str.upper", [u]) { s with toks := t }) → wpAny C.M A (getMethod u (nm 30815303797) pl) Q E s := by
  intro fs v H ρ s u pl A Q E hk S hv h
  obtain ⟨t, rfl⟩ := kind_str hk
  obtain ⟨ok, tk, rfl⟩ := hv
  have e : (nm 30815303797) = Str.ofString "upper" := by decide +kernel
  rw [e]
  exact GM.upper (h s.toks)
end
end Mine
end
section
namespace Mine
open PySem PySem.Calls PyProof.Rows
noncomputable def bmV : List Value := [.type "ValueError", .type "Exception", .type "BaseException", .type "object"]
noncomputable def exQuiet : List Str := ["__init__", "__getattribute__", "__getattr__", "__class__"]
inductive TailX (h : Heap) : List Value → Prop
  | base : TailX h bmV
  | own {A : Addr} {c0 : Value} {dd : Option Addr} {cd : ClassData} {sl : Array (Option Value)} {mA : Str → Option Value} {tl : List Value} :
      h.get? A = some { cls := c0, dict := dd, data := .cls cd, slots := sl } → h.Ns cd.ns mA → (∀ n ∈ exQuiet, mA n = none) → TailX h tl → TailX h (.ref A :: tl)
noncomputable def ClsX (h : Heap) (C : Addr) (bm : List Value) : Prop := ∃ N nm q bs hdct sn sub ab col dd k0 k1 k2 k3 k5 newId mN, h.get? C = some (excClassObj nm q C N bs bm hdct sn sub ab col dd k0 k1 k2 k3 k5 newId) ∧ h.Ns N mN ∧ (∀ n ∈ exQuiet, mN n = none) ∧ TailX h bm
theorem TailX.keeps {h h' : Heap} {tl : List Value} (T : TailX h tl) (hk : ∀ b o, h.get? b = some o → h'.get? b = some o) : TailX h' tl := by
  induction T with
  | base => exact .base
  | own hA hN hq _ ih => exact .own (hk _ _ hA) (hN.keeps hk) hq ih
theorem ClsX.keeps {h h' : Heap} {C : Addr} {bm : List Value} (T : ClsX h C bm) (hk : ∀ b o, h.get? b = some o → h'.get? b = some o) : ClsX h' C bm := by
  obtain ⟨N, nm, q, bs, hdct, sn, sub, ab, col, dd, k0, k1, k2, k3, k5, newId, mN, h1, h2, h3, h4⟩ := T
  exact ⟨N, nm, q, bs, hdct, sn, sub, ab, col, dd, k0, k1, k2, k3, k5, newId, mN, hk _ _ h1, h2.keeps hk, h3, h4.keeps hk⟩
theorem TailX.has {h : Heap} {tl : List Value} (T : TailX h tl) {X : String} (hb : bmV.contains (.type X) = true) : tl.contains (.type X) = true := by
  induction T with
  | base => exact hb
  | own _ _ _ _ ih => rw [List.contains_cons, ih, Bool.or_true]
theorem lkV_class : typeLookup (.type "ValueError") "__class__" = pure (some (.builtin "object.__class__")) := by rw [typeLookup_type, builtinLookup_eq_fast]; kernel_rfl
section
variable {M : Model} {A : Around} {E : Value → Shared → Prop} {h : Heap} {g : Array GenState} {d : Drawn} {t : Nat} {os : OsState}
theorem along_tail {tl : List Value} {n : Str} {y : Option Value} {Q : Option Value → Shared → Prop} (hn : n ∈ exQuiet) (T : TailX h tl) (hrest : lookupAlong bmV n = pure y) (hq : Q y ⟨h, g, d, t, os⟩) :
    wpAny M A (lookupAlong tl n) Q E ⟨h, g, d, t, os⟩ := by
  induction T with
  | base => rw [hrest]; exact wpAny_pure hq
  | own hA hN hni _ ih =>
    rw [lookupAlong_cons]
    refine wpAny_bind (wpAny_classOwn_cls hA hN ?_)
    rw [hni n hn]
    exact ih
variable {nm q : Str} {C N : Addr} {bs bm : List Value} {hdct : Bool} {sn : List Str} {sub : List Value} {ab : Bool} {col : Option Bool} {dd : Option Addr} {k0 k1 k2 k3 k5 : Option Value} {newId : String} {mN : Str → Option Value}
theorem lookup_own {n : Str} {y : Option Value} {Q : Option Value → Shared → Prop} (hn : n ∈ exQuiet)
    (hC : h.get? C = some (excClassObj nm q C N bs bm hdct sn sub ab col dd k0 k1 k2 k3 k5 newId)) (hN : h.Ns N mN) (hmN : ∀ n ∈ exQuiet, mN n = none) (T : TailX h bm)
    (hB : typeLookup (.type "ValueError") n = pure y) (hq : Q y ⟨h, g, d, t, os⟩) : wpAny M A (typeLookup (.ref C) n) Q E ⟨h, g, d, t, os⟩ := by
  have hrest : lookupAlong bmV n = pure y := by rw [typeLookup_eq, F.attrBase_ValueError.mro] at hB; exact hB
  rw [typeLookup_eq]
  refine wpAny_bind (wpAny_mroOf_exc hC ?_)
  rw [lookupAlong_cons]
  refine wpAny_bind (wpAny_classOwn_exc hC hN ?_)
  rw [hmN n hn]
  exact along_tail hn T hrest hq
end
section
variable {prog : Program} {w : World} {A : Around} {E : Value → Shared → Prop} {h : Heap} {g : Array GenState} {d : Drawn} {t : Nat} {os : OsState} {a : Addr} {o : Obj} {nm q : Str} {C N : Addr} {bs bm : List Value} {hdct : Bool} {sn : List Str} {sub : List Value} {ab : Bool} {col : Option Bool} {dd : Option Addr} {k0 k1 k2 k3 k5 : Option Value} {newId : String} {mN : Str → Option Value}
theorem cls_get {R : Result → Shared → Prop} (hC : h.get? C = some (excClassObj nm q C N bs bm hdct sn sub ab col dd k0 k1 k2 k3 k5 newId)) (T : TailX h bm)
    (hx : h.get? a = some o) (hc : o.cls = .ref C) (hq : R (.ok (.ret (.ref C))) ⟨h, g, d, t, os⟩) :
    codeAny (model prog w) A (.call (.builtin "getset_descriptor.__get__") ⟨[.builtin "object.__class__", .ref a, .ref C], []⟩) R ⟨h, g, d, t, os⟩ := by
  have hT5 : (⟨h, g, d, t, os⟩ : Shared).TypeIs (.builtin "object.__class__") "getset_descriptor" := F.typeOf_object_class
  have hcB : (Value.ref C :: bm).contains (.type (".".intercalate ("object.__class__".cutAt '.').dropLast)) = true := by
    rw [F.owner_object_class, List.contains_cons, T.has rfl]; rfl
  refine codeAny_call_builtin F.slot_gs_get.plain F.entry_gs_get (F.slot_gs_get.check _ _ _ _ _ _ _ _ hT5 (F.args_gs_get _ _ _) ?_)
  repeat (any_goals (first | assumption | (with_reducible refine wpAny_loadPart_at hx ?_; rw [hc]) | (with_reducible refine wpAny_isSubtype_exc hC ?_; rw [hcB]) | wp_step))
  refine ⟨Code.quiet_builtin _ (by decide +kernel), codeAny_builtin F.entry_object_class ?_⟩
  repeat (any_goals (first | assumption | (with_reducible refine wpAny_loadPart_at hx ?_; rw [hc]) | wp_step))
theorem check_ga {nameV : Value} {Q : Unit → Shared → Prop} (hC : h.get? C = some (excClassObj nm q C N bs bm hdct sn sub ab col dd k0 k1 k2 k3 k5 newId)) (T : TailX h bm)
    (hx : h.get? a = some o) (hc : o.cls = .ref C) (hq : Q () ⟨h, g, d, t, os⟩) : wpAny (model prog w) A (checkBuiltinCall "BaseException.__getattribute__" ⟨[.ref a, nameV], []⟩) Q E ⟨h, g, d, t, os⟩ := by
  have hk : builtinKind "BaseException.__getattribute__" = some .slot := by decide +kernel
  have hsplit : splitId "BaseException.__getattribute__" = some ("BaseException", "__getattribute__") := by decide +kernel
  have hcB : (Value.ref C :: bm).contains (.type "BaseException") = true := by rw [List.contains_cons, T.has rfl]; rfl
  have ha := F.args_bexc_ga (.ref a) nameV
  simp only [checkBuiltinCall, hk, hsplit]
  refine wpAny_bind ?_
  · unfold isInstance
    repeat (first | (with_reducible refine wpAny_loadPart_at hx ?_; rw [hc]) | (with_reducible refine wpAny_isSubtype_exc hC ?_; rw [hcB]) | wp_step)
    exact hq
theorem cls_entry {tk : Tok} {Q : Fin → Shared → Prop} (hC : h.get? C = some (excClassObj nm q C N bs bm hdct sn sub ab col dd k0 k1 k2 k3 k5 newId)) (hN : h.Ns N mN)
    (hmN : ∀ n ∈ exQuiet, mN n = none) (T : TailX h bm) (hx : h.get? a = some o) (hc : o.cls = .ref C) (hq : Q (.done (.ret (.ref C))) ⟨h, g, d, t, os⟩) :
    wpAny (model prog w) A (Builtin.«object.__getattribute__» ⟨[.ref a, .str "__class__" tk], []⟩) Q E ⟨h, g, d, t, os⟩ := by
  have hT5 : (⟨h, g, d, t, os⟩ : Shared).TypeIs (.builtin "object.__class__") "getset_descriptor" := F.typeOf_object_class
  have f5 := F.typeOf_object_class
  have f6 := F.slot_gs_get.lookup
  have f7 := F.slot_gs_set.lookup
  have hmA : ("__class__" : Str) ∈ exQuiet := .tail _ (.tail _ (.tail _ (.head _)))
  repeat (any_goals (first | assumption | (with_reducible refine wpAny_loadPart_at hx ?_; rw [hc]) | with_reducible refine lookup_own hmA hC hN hmN T lkV_class ?_ | wp_step))
  refine cls_get hC T hx hc ?_
  repeat (any_goals (first | assumption | wp_step))
theorem cls_by {tk : Tok} {fill expr : Bool} {Q : Value → Shared → Prop} (hC : h.get? C = some (excClassObj nm q C N bs bm hdct sn sub ab col dd k0 k1 k2 k3 k5 newId)) (hN : h.Ns N mN)
    (hmN : ∀ n ∈ exQuiet, mN n = none) (T : TailX h bm) (hx : h.get? a = some o) (hc : o.cls = .ref C) (hq : Q (.ref C) ⟨h, g, d, t, os⟩) :
    wpAny (model prog w) A (getAttrBy (.ref a) (.str "__class__" tk) fill expr) Q E ⟨h, g, d, t, os⟩ := by
  have FB := F.attrBase_ValueError
  have f3 := FB.ga.bind (.ref a)
  have hx0 : (expr && onTheHeap (Value.builtin "BaseException.__getattribute__")) = false := by cases expr <;> rfl
  have hx2 : (Value.builtin "BaseException.__getattribute__" == Value.builtin "object.__getattribute__") = false := by decide +kernel
  have hx1 : (onTheHeap (Value.ref C) && Value.builtin "BaseException.__getattribute__" == Value.builtin "object.__getattribute__") = false := by rw [hx2]; rfl
  have hm1 : ("__getattribute__" : Str) ∈ exQuiet := .tail _ (.head _)
  have hm2 : ("__getattr__" : Str) ∈ exQuiet := .tail _ (.tail _ (.head _))
  repeat (any_goals (first | assumption | (with_reducible refine wpAny_loadPart_at hx ?_; rw [hc]) | with_reducible refine lookup_own hm1 hC hN hmN T FB.ga.lookup ?_ | with_reducible refine lookup_own hm2 hC hN hmN T FB.noGetattr ?_ | wp_step))
  refine codeAny_call_builtin FB.ga.plain F.entry_bexc_ga (check_ga hC T hx hc (cls_entry hC hN hmN T hx hc ?_))
  repeat (any_goals (first | assumption | wp_step))
theorem cls_attr {Q : Option Value → Shared → Prop} (hC : h.get? C = some (excClassObj nm q C N bs bm hdct sn sub ab col dd k0 k1 k2 k3 k5 newId)) (hN : h.Ns N mN)
    (hmN : ∀ n ∈ exQuiet, mN n = none) (T : TailX h bm) (hx : h.get? a = some o) (hc : o.cls = .ref C) (hq : Q (some (.ref C)) ⟨h, g, d, t + 1, os⟩) :
    wpAny (model prog w) A (getAttr? (.ref a) "__class__") Q E ⟨h, g, d, t, os⟩ := by
  unfold getAttr? getAttrBy?
  repeat (any_goals (first | assumption | with_reducible apply cls_by hC hN hmN T hx hc | wp_step))
theorem nested_own {D : Addr} {bd : List Value} {dep : Int} {tk : Tok} {Q : Fin → Shared → Prop} (hC : ClsX h C bm) (hD : ClsX h D bd) (hx : h.get? a = some o) (hc : o.cls = .ref C)
    (hq : ∀ t', Q (.done (.ret (.bool ((Value.ref C :: bm).contains (.ref D))))) ⟨h, g, d, t', os⟩) :
    wpAny (model prog w) A (Builtin.«isinstance.nested» ⟨[.ref a, .ref D, .int dep tk], []⟩) Q E ⟨h, g, d, t, os⟩ := by
  obtain ⟨N, nm, q, bs, hdct, sn, sub, ab, col, dd, k0, k1, k2, k3, k5, newId, mN, hC, hN, hmN, T⟩ := hC
  obtain ⟨N', nm', q', bs', hdct', sn', sub', ab', col', dd', k0', k1', k2', k3', k5', newId', mN', hD, hN', hmN', T'⟩ := hD
  by_cases e : C = D
  · subst e
    have hq' : Q (.done (.ret (.bool true))) ⟨h, g, d, t, os⟩ := by
      have := hq t
      rwa [List.contains_cons, show (Value.ref C == Value.ref C) = true from beq_self_eq_true _, Bool.true_or] at this
    have hb : (Value.ref C == Value.ref C) = true := beq_self_eq_true _
    repeat (any_goals (first | assumption | (with_reducible refine wpAny_loadPart_at hx ?_; rw [hc]) | wp_step))
  · have hb : (Value.ref C == Value.ref D) = false := beq_eq_false_iff_ne.mpr fun z => e (Value.ref.inj z)
    cases v : (Value.ref C :: bm).contains (.ref D) with
    | true =>
      rw [v] at hq
      have hq' := hq t
      repeat (any_goals (first | assumption | (with_reducible refine wpAny_loadPart_at hx ?_; rw [hc]) | with_reducible refine wpAny_loadPart_at hD ?_ | (with_reducible refine wpAny_isSubtype_exc hC ?_; rw [v]) | wp_step))
    | false =>
      rw [v] at hq
      have hq' := hq (t + 1)
      repeat (any_goals (first | assumption | (with_reducible refine wpAny_loadPart_at hx ?_; rw [hc]) | with_reducible refine wpAny_loadPart_at hD ?_ | with_reducible refine wpAny_loadPart_at hC ?_ | (with_reducible refine wpAny_isSubtype_exc hC ?_; rw [v]) | with_reducible apply cls_attr hC hN hmN T hx hc | wp_step))
theorem nested_val {dep : Int} {tk : Tok} {Q : Fin → Shared → Prop} (hC : ClsX h C bm) (hx : h.get? a = some o) (hc : o.cls = .ref C)
    (hq : Q (.done (.ret (.bool true))) ⟨h, g, d, t, os⟩) : wpAny (model prog w) A (Builtin.«isinstance.nested» ⟨[.ref a, .type "ValueError", .int dep tk], []⟩) Q E ⟨h, g, d, t, os⟩ := by
  obtain ⟨N, nm, q, bs, hdct, sn, sub, ab, col, dd, k0, k1, k2, k3, k5, newId, mN, hC, hN, hmN, T⟩ := hC
  have v : (Value.ref C :: bm).contains (.type "ValueError") = true := by rw [List.contains_cons, T.has rfl, Bool.or_true]
  have hb : (Value.ref C == Value.type "ValueError") = false := rfl
  have hty : typeOf (.type "ValueError") = pure (.type "type") := by kernel_rfl
  repeat (any_goals (first | assumption | (with_reducible refine wpAny_loadPart_at hx ?_; rw [hc]) | (with_reducible refine wpAny_isSubtype_exc hC ?_; rw [v]) | wp_step))
end
section
variable {prog : Program} {w : World} {A : Around} {E : Value → Shared → Prop} {s : Shared} {a C D : Addr} {o : Obj} {bm bd : List Value}
theorem isi_own {Q : Value → Shared → Prop} (hC : ClsX s.heap C bm) (hD : ClsX s.heap D bd) (hx : s.heap.get? a = some o) (hc : o.cls = .ref C) (hq : ∀ t', Q (.bool ((Value.ref C :: bm).contains (.ref D))) { s with toks := t' }) :
    wpAny (model prog w) A (call (.builtin "isinstance") [.ref a, .ref D]) Q E s :=
  call_isinstance (S := fun _ R s => (ClsX s.heap C bm ∧ ClsX s.heap D bd ∧ s.heap.get? a = some o) ∧ ∀ t', R (.ok (.ret (.bool ((Value.ref C :: bm).contains (.ref D))))) { s with toks := t' })
    (fun _ _ _ _ s hs => by obtain ⟨hp, g, d, t, os⟩ := s; exact isinstance_outer (nested_own hs.1.1 hs.1.2.1 hs.1.2.2 hc hs.2) (by intro q; cases q)) ⟨⟨hC, hD, hx⟩, hq⟩
theorem isi_val {Q : Value → Shared → Prop} (hC : ClsX s.heap C bm) (hx : s.heap.get? a = some o) (hc : o.cls = .ref C) (hq : Q (.bool true) s) :
    wpAny (model prog w) A (call (.builtin "isinstance") [.ref a, .type "ValueError"]) Q E s :=
  call_isinstance (S := fun _ R s => (ClsX s.heap C bm ∧ s.heap.get? a = some o) ∧ R (.ok (.ret (.bool true))) s)
    (fun _ _ _ _ s hs => by obtain ⟨hp, g, d, t, os⟩ := s; exact isinstance_outer (nested_val hs.1.1 hs.1.2 hc hs.2) (by intro q; cases q)) ⟨⟨hC, hx⟩, hq⟩
theorem matches_own {M : Model} {Q : Bool → Shared → Prop} (hC : ClsX s.heap C bm) (hD : ClsX s.heap D bd) (hx : s.heap.get? a = some o) (hc : o.cls = .ref C) (hin : (Value.ref C :: bm).contains (.ref D) = true) (hq : Q true s) :
    wpAny M A (excMatches (.ref a) (.ref D)) Q E s := by
  obtain ⟨h, g, d, t, os⟩ := s
  obtain ⟨N, nm, q, bs, hdct, sn, sub, ab, col, dd, k0, k1, k2, k3, k5, newId, mN, hC, hN, hmN, T⟩ := hC
  obtain ⟨N', nm', q', bs', hdct', sn', sub', ab', col', dd', k0', k1', k2', k3', k5', newId', mN', hD, hN', hmN', T'⟩ := hD
  have hcB : (Value.ref D :: bd).contains (.type "BaseException") = true := by rw [List.contains_cons, T'.has rfl, Bool.or_true]
  have f := tc_notTuple
  unfold excMatches
  repeat (first | (with_reducible refine wpAny_loadPart_at hx ?_; rw [hc]) | with_reducible refine wpAny_loadPart_at hD ?_ | (with_reducible refine wpAny_isSubtype_exc hD ?_; rw [hcB]) | (with_reducible refine wpAny_isSubtype_exc hC ?_; rw [hin]) | wp_step)
  exact hq
end
end Mine
end
section
namespace Mine
open PySem PySem.Calls PyProof.Rows
noncomputable def only (h : Heap) (p : Addr → Bool) : Heap := ⟨h.objs.mapIdx fun i o => if p i then o else { o with data := .freed }, h.life⟩
theorem only_get (h : Heap) (p : Addr → Bool) (b : Addr) : (only h p).get? b = if p b then h.get? b else none := by
  unfold only Heap.get?
  rw [Array.getElem?_mapIdx]
  cases h.objs[b]? with
  | none => simp
  | some o =>
    dsimp only [Option.map]
    cases p b with
    | true => rfl
    | false => rfl
section
variable {C : Cx}
noncomputable def handOnly (C : Cx) (a b : Addr) : Bool := (C.base.get? b).isSome || Nat.beq b a
theorem hand_old {s : Shared} (S : ∀ b o, C.base.get? b = some o → s.heap.get? b = some o) (a : Addr) : ∀ b o, C.base.get? b = some o → (only s.heap (handOnly C a)).get? b = some o := fun b o e => by
  rw [only_get, if_pos (by unfold handOnly; rw [e]; rfl)]; exact S b o e
theorem hand_back {s : Shared} (a : Addr) : ∀ b o, (only s.heap (handOnly C a)).get? b = some o → s.heap.get? b = some o ∧ (b = a ∨ ∃ o', C.base.get? b = some o') := fun b o e => by
  rw [only_get] at e
  split at e
  · rename_i h
    refine ⟨e, ?_⟩
    rcases Bool.or_eq_true_iff.mp h with h | h
    · exact .inr (Option.isSome_iff_exists.mp h)
    · exact .inl (Nat.eq_of_beq_eq_true h)
  · cases e
theorem hand_at {s : Shared} {a : Addr} {o : Obj} (ho : s.heap.get? a = some o) : (only s.heap (handOnly C a)).get? a = some o := by rw [only_get, if_pos (by unfold handOnly; rw [Nat.beq_refl, Bool.or_true])]; exact ho
noncomputable def Cx.hand (C : Cx) (s : Shared) (S : ∀ b o, C.base.get? b = some o → s.heap.get? b = some o) (a : Addr) : Cx := { C with
  base := only s.heap (handOnly C a)
  hg := C.hg.keeps (hand_old S a)
  hb := C.hb.keeps (hand_old S a)
  lim := C.lim.keeps (hand_old S a)
  calm := False }
theorem hev_ok {K : Nat} {Th : Str → Nat → Tab} {P : Str → Prop}
    (hK : ∀ k a s (S : ∀ b o, C.base.get? b = some o → s.heap.get? b = some o), P k → (∃ kk o, C.G k = some (.ref kk) ∧ s.heap.get? a = some o ∧ o.cls = .ref kk) → TabOk (C.hand s S a) (Th k a) K) :
    ∀ k a pe σ H Q, P k ∧ (sem (Th k a) pe).ev σ H Q (fun _ _ => False) → ∀ fs env e ρ s A, trE 60 env.kindOf e = some pe → FR (C.at fs) env σ ρ s.heap → Sim (C.at fs) ρ H s → A.handled = some (.ref a) → A.depth + K < recursionLimit → A.units + 5 * K + 200 < cLine →
      A.frames = some fs → XIs C ρ k a s.heap → wpAny C.M A (eval e env) (PV (C.at fs) ρ s Q) (fun _ _ => False) s := by
  intro k a pe σ H Q h fs env e ρ s A htr F S hA h1 h2 h3 hX
  obtain ⟨hPk, h⟩ := h
  obtain ⟨kk, o, vs, hG, ha1, ha2, ho, hcl, hd, hv2⟩ := hX
  have T' : TabOk ((C.hand s S.stays a).at fs) (Th k a) K := (hK k a s S.stays hPk ⟨kk, o, hG, ho, hcl⟩).at fs
  have out : ∀ b, C.base.get? b = none → (∀ ob, s.heap.get? b = some ob → ∀ ws, ob.data ≠ .fields ws) → (only s.heap (handOnly C a)).get? b = none := fun b hb hn => by
    cases q : (only s.heap (handOnly C a)).get? b with
    | none => rfl
    | some ob =>
      obtain ⟨z1, z2⟩ := hand_back a b ob q
      rcases z2 with rfl | ⟨o', z2⟩
      · rw [ho] at z1; cases z1; exact absurd hd (hn _ ho _)
      · rw [hb] at z2; cases z2
  have out2 : ∀ b, C.base.get? b = none → b ≠ a → (only s.heap (handOnly C a)).get? b = none := fun b hb hn => by
    cases q : (only s.heap (handOnly C a)).get? b with
    | none => rfl
    | some ob =>
      obtain ⟨z1, z2⟩ := hand_back a b ob q
      rcases z2 with rfl | ⟨o', z2⟩
      · exact absurd rfl hn
      · rw [hb] at z2; cases z2
  have S' : Sim ((C.hand s S.stays a).at fs) ρ H s := ⟨S.len, S.nodup, S.obj, fun b ob q => (hand_back a b ob q).1, fun i b e hi => out2 b (S.fresh i b e hi) fun q => ha1 (q ▸ List.mem_of_getElem? e), S.sm, S.gens, S.os, fun en he => by
    obtain ⟨x1, L, ob, x2, x3, x4, x5, es, ep, x6⟩ := S.frs en he
    exact ⟨x1, L, ob, x2, out L x3 fun ob' q ws => (by rw [x5] at q; cases q; rw [x6]; exact fun z => nomatch z), x4, x5, es, ep, x6⟩⟩
  have hbL : (only s.heap (handOnly C a)).get? env.locals = none := by
    obtain ⟨m, ⟨ob, es, ep, x5, x6, _⟩, _⟩ := F.ns
    exact out _ F.bL fun ob' q ws => by rw [x5] at q; cases q; rw [x6]; exact fun z => (nomatch z)
  have hbC : ∀ x c, env.cells.lookup x = some c → (only s.heap (handOnly C a)).get? c = none := fun x c hc => by
    obtain ⟨ov, ⟨ob, x5, x6⟩, _⟩ := F.cells x c hc
    exact out _ (F.bC x c hc) fun ob' q ws => by rw [x5] at q; cases q; rw [x6]; exact fun z => (nomatch z)
  have F' : FR ((C.hand s S.stays a).at fs) env σ ρ s.heap := ⟨F.dot, F.kind, F.glob, F.bl, F.ns, F.cells, F.has, F.nL, F.nC, F.apart, hbL, hbC⟩
  have ha' : (only s.heap (handOnly C a)).get? a = some o := hand_at ho
  have A' : AOk ((C.hand s S.stays a).at fs) K A := ⟨.inr ⟨a, hA, o, vs, kk, ha', hcl, hd, hv2⟩, fun z => z.elim, h1, h2, h3⟩
  refine wpAny_mono ((tr_ok T' 60 _ e pe htr env rfl).1 F' S' A' h fun e s' p => p.no) (fun u s' p => ?_) fun _ _ x => x
  obtain ⟨ρ', H', v, st, S2, hv, hq⟩ := p
  refine ⟨ρ', H', v, st, ⟨S2.len, S2.nodup, S2.obj, fun b ob q => S2.stays b ob (hand_old S.stays a b ob q), fun i b e hi => ?_, S2.sm, S2.gens, S2.os, fun en he => ?_⟩, hv, hq⟩
  · show C.base.get? b = none
    cases q : C.base.get? b with
    | none => rfl
    | some ob => have z := S2.fresh i b e hi; rw [show ((C.hand s S.stays a).at fs).base.get? b = some ob from hand_old S.stays a b ob q] at z; cases z
  · obtain ⟨x1, L, ob, x2, x3, x4⟩ := S2.frs en he
    refine ⟨x1, L, ob, x2, ?_, x4⟩
    show C.base.get? L = none
    cases q : C.base.get? L with
    | none => rfl
    | some ob' => rw [show ((C.hand s S.stays a).at fs).base.get? L = some ob' from hand_old S.stays a L ob' q] at x3; cases x3
theorem DefAt.hand {f : Str} {xs : List Str} {ps : PS} (d : DefAt C f xs ps) {s : Shared} (S : ∀ b o, C.base.get? b = some o → s.heap.get? b = some o) (a : Addr) : DefAt (C.hand s S a) f xs ps := by
  obtain ⟨fa, o, name, params, body, sc, pm, cd, doc, h1, h2, h3, h4, h5, h6, h7⟩ := d
  exact ⟨fa, o, name, params, body, sc, pm, cd, doc, h1, hand_old S a _ _ h2, h3, h4.keeps (hand_old S a), h5, h6, h7⟩
noncomputable def exL : List Nat := [447668609953986, 228276934, 443751641723074, 27321334740, 57362821026756558, 64623894148134862, 4014120237006, 487352530710722, 7484321937891833806]
structure ExAt (C : Cx) (ad : Nat → Addr) : Prop where
  g : ∀ n ∈ exL, C.G (nm n) = some (.ref (ad n))
  c : ∀ n ∈ exL, ClsX C.base (ad n) (.ref (ad 8277558478201501635) :: bmV)
  gc : C.G (nm 8277558478201501635) = some (.ref (ad 8277558478201501635))
  cc : ClsX C.base (ad 8277558478201501635) bmV
  inj : ∀ n ∈ exL, ∀ m ∈ exL, ad n = ad m → n = m
  nc : ∀ n ∈ exL, ad n ≠ ad 8277558478201501635
theorem ExAt.hand {ad : Nat → Addr} (x : ExAt C ad) {s : Shared} (S : ∀ b o, C.base.get? b = some o → s.heap.get? b = some o) (a : Addr) : ExAt (C.hand s S a) ad :=
  ⟨x.g, fun n hn => (x.c n hn).keeps (hand_old S a), x.gc, x.cc.keeps (hand_old S a), x.inj, x.nc⟩
theorem ExAt.at {ad : Nat → Addr} (x : ExAt C ad) (fs : List Env) : ExAt (C.at fs) ad := ⟨x.g, x.c, x.gc, x.cc, x.inj, x.nc⟩
theorem ExAt.caught {ad : Nat → Addr} (x : ExAt C ad) {n : Nat} (hn : n ∈ exL) : Caught C (nm n) (nm 8277558478201501635) := by
  refine ⟨_, x.gc, fun kk s a o A Q E hG hk ho hc hq => ?_⟩
  rw [x.g n hn] at hG; cases hG
  exact matches_own ((x.c n hn).keeps hk) (x.cc.keeps hk) ho hc (by simp) hq
inductive IsiE (k : Nat) (a : Nat) (H : AHeap) (Q : VPost) : List V → Prop
  | own {n : Nat} {b : Bool} : n ∈ exL → Nat.beq k n = b → Q (.bool b) H → IsiE k a H Q [.exc a, .glob (nm n)]
  | val : Q (.bool true) H → IsiE k a H Q [.exc a, .glob (nm 1059527485209827815638)]
noncomputable def spIsiE (k a : Nat) : Spec := fun vs H Q _ => IsiE k a H Q vs
theorem ok_isiE {K : Nat} {ad : Nat → Addr} (x : ExAt C ad) (hv : C.G (nm 1059527485209827815638) = some (.type "ValueError")) {k : Nat} (hk : k ∈ exL) {a : Nat} {o : Obj} (ho : C.base.get? a = some o) (hc : o.cls = .ref (ad k)) : Call1 C K (spIsiE k a) (.builtin "isinstance") := by
  intro vs H Q X h ρ s us A E S hus hA hE
  cases h with
  | @own n b hn hb hq =>
    subst hb
    obtain ⟨u, w, rfl, hu, hw⟩ := all2_two hus
    cases hu
    have hw : C.G (nm n) = some w := hw
    rw [x.g n hn] at hw; cases hw
    refine isi_own ((x.c k hk).keeps S.stays) ((x.c n hn).keeps S.stays) (S.stays _ _ ho) hc fun t' => ?_
    have e : (Value.ref (ad k) :: Value.ref (ad 8277558478201501635) :: bmV).contains (.ref (ad n)) = Nat.beq k n := by
      rw [List.contains_cons, List.contains_cons, show bmV.contains (.ref (ad n)) = false from rfl, show (Value.ref (ad n) == Value.ref (ad 8277558478201501635)) = false from beq_eq_false_iff_ne.mpr fun q => x.nc n hn (Value.ref.inj q), Bool.or_false, Bool.or_false]
      cases q : Nat.beq k n with
      | true => rw [Nat.eq_of_beq_eq_true q]; exact beq_self_eq_true _
      | false => exact beq_eq_false_iff_ne.mpr fun z => Nat.ne_of_beq_eq_false q (x.inj k hk n hn (Value.ref.inj z).symm)
    rw [e]
    exact ⟨ρ, H, _, StepG.toks t', S.toks t', vb _, hq⟩
  | val hq =>
    obtain ⟨u, w, rfl, hu, hw⟩ := all2_two hus
    cases hu
    have hw : C.G (nm 1059527485209827815638) = some w := hw
    rw [hv] at hw; cases hw
    exact isi_val ((x.c k hk).keeps S.stays) (S.stays _ _ ho) hc (here0 S (vb _) hq)
end
end Mine
end
section
namespace Mine
open PySem PySem.Calls PyProof.Rows PySem.W
noncomputable def gOf (mg mb : Str → Option Value) : Str → Option Value := fun x => match mg x with
  | some .none => none
  | some v => some v
  | none => (match mb x with
    | some .none => none
    | r => r)
theorem gOf_none {mg mb : Str → Option Value} (x : Str) : gOf mg mb x ≠ some .none := by
  unfold gOf
  cases mg x with
  | none =>
    dsimp only
    cases mb x with
    | none => exact fun h => nomatch h
    | some v => cases v <;> exact fun h => nomatch h
  | some v => cases v <;> exact fun h => nomatch h
theorem gOf_is {mg mb : Str → Option Value} (x : Str) (v : Value) (h : gOf mg mb x = some v) : mg x = some v ∨ (mg x = none ∧ mb x = some v) := by
  unfold gOf at h
  cases e : mg x with
  | none =>
    rw [e] at h
    dsimp only at h
    right
    refine ⟨rfl, ?_⟩
    cases e2 : mb x with
    | none => rw [e2] at h; cases h
    | some u => rw [e2] at h; cases u <;> first | exact h | cases h
  | some u =>
    rw [e] at h
    left
    cases u <;> first | exact h | cases h
noncomputable def cxOf (prog : Program) (w : World) (s : Shared) {p : Program} {loose : List Str} {mean : ExcName → Option Value} {mg mb : Str → Option Value} (T : Top p loose mean mg mb s.heap) : Cx where
  prog := prog
  w := w
  base := s.heap
  os := s.os
  G := gOf mg mb
  mg := mg
  mb := mb
  hg := T.g
  hb := T.b
  lim := T.nolimit
  hN := gOf_none
  hG := gOf_is
  frs := []
  calm := True
noncomputable def chk (ds : List DefRec) (f : Str) : Option (List Str × PS) := match ds.find? (fun d => d.name == f) with
  | some d => if goodDef d.params d.scope then (trS 60 (fun x => d.scope.names.lookup x) d.body).map fun ps => (d.params.args.map (·.arg), ps) else none
  | none => none
section
variable {prog : Program} {w : World} {s : Shared} {p : Program} {loose : List Str} {mean : ExcName → Option Value} {mg mb : Str → Option Value} (T : Top p loose mean mg mb s.heap)
theorem defAt_of {f : Str} {xs : List Str} {ps : PS} (h : chk (recsOf p) f = some (xs, ps)) : DefAt (cxOf prog w s T) f xs ps ∧ ∃ a, mg f = some (.ref a) := by
  unfold chk at h
  split at h
  · rename_i d hd
    split at h
    · rename_i hg
      cases ht : trS 60 (fun x => d.scope.names.lookup x) d.body with
      | none => rw [ht] at h; cases h
      | some ps' =>
        rw [ht] at h
        cases h
        have hn : d.name = f := beq_iff_eq.mp (List.find?_some (p := fun e : DefRec => e.name == f) hd)
        obtain ⟨a, o, pm, code, doc, h1, h2, h3, h4⟩ := T.fn d (List.mem_of_find?_eq_some hd)
        rw [hn] at h1
        refine ⟨⟨a, o, d.name, d.params, d.body, d.scope, pm, code, doc, ?_, h2, h3, h4, hg, ht, rfl⟩, a, h1⟩
        show gOf mg mb f = some (.ref a)
        unfold gOf
        rw [h1]
    · cases h
  · cases h
theorem boot_bi : ∀ p ∈ biL, bootBuiltins p.1 = some p.2 := by
  intro p hp
  simp only [biL, List.mem_cons, List.not_mem_nil, or_false] at hp
  rcases hp with rfl | rfl | rfl | rfl | rfl | rfl | rfl | rfl | rfl | rfl | rfl | rfl | rfl | rfl | rfl | rfl | rfl <;> kernel_rfl
noncomputable def freeOf (p : Program) (loose : List Str) (x : Str) : Bool := !startupNames.contains x && !loose.contains x && !((recsOf p).map (·.name)).contains x && !((litsOf p).map (·.1)).contains x && !((clssOf p loose).map (·.name)).contains x && x != Str.ofString "__name__"
theorem bi_of (h : (biL.all fun q => freeOf p loose q.1) = true) : ∀ q ∈ biL, (cxOf prog w s T).G q.1 = some q.2 := by
  intro q hq
  have hf := List.all_eq_true.mp h q hq
  unfold freeOf at hf
  simp only [Bool.and_eq_true, Bool.not_eq_true', List.contains_eq_mem, decide_eq_false_iff_not, bne_iff_ne] at hf
  obtain ⟨⟨⟨⟨⟨h1, h2⟩, h3⟩, h4⟩, h5⟩, h6⟩ := hf
  have hm := T.free q.1 h1 h2 h3 h4 h5
  have hb := (T.builtins q.1 h6).trans (boot_bi q hq)
  show gOf mg mb q.1 = some q.2
  unfold gOf
  rw [hm, hb]
  simp only [biL, List.mem_cons, List.not_mem_nil, or_false] at hq
  rcases hq with rfl | rfl | rfl | rfl | rfl | rfl | rfl | rfl | rfl | rfl | rfl | rfl | rfl | rfl | rfl | rfl | rfl <;> rfl
theorem ints_vr {C : Cx} {ρ : List Addr} : ∀ {vs : List Value} {ns : List Int}, IntsAre vs ns → All2 (VR C ρ) (ns.map .int) vs
  | _, _, .nil => .nil
  | _, _, .cons i t h => .cons ⟨t, rfl⟩ (ints_vr h)
theorem start_sim {l : Addr} {vs : List Value} {ns : List Int} {P : Params} (hw : Well P s.heap (.ref l) (ofPy (.list (ns.map .int)))) (hL : s.heap.IsList l vs.toArray) (hI : IntsAre vs ns) (hlen : ns.length ≤ 63) (hl : l ≠ sysModules) (hg : s.gens = #[]) :
    Sim (cxOf prog w s T) [l] [.list (ns.map .int)] s := by
  refine ⟨rfl, by simp, fun i a o e q => ?_, fun b o e => e, fun i a e hi => ?_, by simpa using Ne.symm hl, hg, rfl, fun _ h => nomatch h⟩
  · cases i with
    | zero =>
      simp at e q
      subst e q
      cases hw with
      | list ho _ =>
        obtain ⟨o', ho', _, n, hd⟩ := hL
        rw [ho] at ho'
        cases ho'
        simp only at hd
        injection hd with e1 e2
        refine ⟨_, _, ho, ?_, by simpa [lid] using Nat.le_trans hlen (by decide)⟩
        rw [e1]
        exact ints_vr hI
    | succ i => cases e
  · cases i with
    | zero => exact absurd rfl hi
    | succ i => cases e
theorem end_good {prog : Program} {c : ClaimW} {cl : Str → Option Addr} {mean' : ExcName → Option Value} {args : List WData} {ρ : List Addr} {u : Value} {s' : Shared} (hr : ∀ cls, c.raises args cls = false) (hp : c.post args (.bool true) args = true)
    (h : PV (cxOf prog w s T) ρ s (fun v _ => v = .bool true) u s') : GoodW c cl mean' args s (.ok (.ret u)) s' := by
  obtain ⟨ρ', H', v, st, S, hv, rfl⟩ := h
  have hv : u = .bool true := hv
  subst hv
  exact ⟨.inl ⟨_, .bool true, [], rfl, hr, .bool true, hp, fun _ => ⟨by simp, fun a ha => by cases ha⟩⟩, fun b o e => S.stays b o e, S.os, S.gens⟩
theorem law_done {prog : Program} {Tb : Tab} {K : Nat} {f : Str} {xs : List Str} {ps : PS} {fa l : Addr} {vs : List Value} {ns : List Int} {P : Params} {c : ClaimW} {cl : Str → Option Addr} {mean' : ExcName → Option Value} {args : List WData}
    (hT : TabOk (cxOf prog w s T) Tb K) (hK : K ≤ 200) (hd : chk (recsOf p) f = some (xs, ps)) (hct : Ct Tb xs ps spLaw) (hmg : mg f = some (.ref fa))
    (hw : Well P s.heap (.ref l) (ofPy (.list (ns.map .int)))) (hL : s.heap.IsList l vs.toArray) (hI : IntsAre vs ns) (hlen : ns.length ≤ 63) (hl : l ≠ sysModules) (hg : s.gens = #[])
    (hr : ∀ cls, c.raises args cls = false) (hp : c.post args (.bool true) args = true) : codeAny (model prog w) callerA (.call (.ref fa) ⟨[.ref l], []⟩) (GoodWG c cl mean' args s) s := by
  have S := start_sim (prog := prog) (w := w) T hw hL hI hlen hl hg
  obtain ⟨⟨a, o, name, params, body, sc, pm, cd, doc, h1, h2, h3, h4, h5, h6, rfl⟩, a', ha'⟩ := defAt_of (prog := prog) (w := w) T hd
  rw [hmg] at ha'
  cases ha'
  have e : fa = a := by
    have h1 : gOf mg mb f = some (.ref a) := h1
    unfold gOf at h1
    rw [hmg] at h1
    cases h1; rfl
  subst e
  have hA : AOk (cxOf prog w s T) (K + 1) callerA := ⟨.inl rfl, fun _ => rfl, by show 301 + (K + 1) < 1000; lia, by show 4 + 5 * (K + 1) + 200 < 9900; lia, rfl⟩
  refine codeAny_mono (fn_code (C := cxOf prog w s T) (qual := name) (E := fun _ _ => False) hT h2 h3 h4 h5 h6 (vs := [.ref 0]) (Q := fun v _ => v = .bool true) (X := fun _ _ => False) (hct _ _ _ _ ⟨rfl, ⟨ns, rfl⟩, fun _ => rfl⟩) S (.cons ⟨l, rfl, rfl⟩ .nil) hA fun _ _ p => p.no) ?_
  intro r s' h
  match r, h with
  | .ok (.ret v), h => exact GoodW.toG (end_good T hr hp h)
end
end Mine
end
section
namespace Mine
open PySem PySem.Calls PyProof.Rows PySem.W
noncomputable def exOk1 (h : Heap) (x : Str) (ch : List Str) : Bool := match h.clsAt mainGlobals x with
  | some (_, _, cd) => h.ownExcOk x ch bmV "ValueError.__new__" && exQuiet.all fun n => (h.nsMap cd.ns n).isNone
  | none => false
noncomputable def adr (h : Heap) (n : Nat) : Addr := match h.nsMap mainGlobals (nm n) with
  | some (.ref a) => a
  | _ => 0
noncomputable def exOk (h : Heap) : Bool := h.isNs mainGlobals && exOk1 h (nm 8277558478201501635) [] && (exL.all fun n => exOk1 h (nm n) [(nm 8277558478201501635)]) && decide ((exL.map (adr h)).Nodup) && exL.all fun n => !Nat.beq (adr h n) (adr h 8277558478201501635)
noncomputable def ExS (h : Heap) : Prop := ∃ (mg : Str → Option Value) (ad : Nat → Addr), h.Ns mainGlobals mg ∧ (∀ n ∈ exL, mg (nm n) = some (.ref (ad n)) ∧ ClsX h (ad n) (.ref (ad 8277558478201501635) :: bmV)) ∧ mg (nm 8277558478201501635) = some (.ref (ad 8277558478201501635)) ∧ ClsX h (ad 8277558478201501635) bmV ∧
  (∀ n ∈ exL, ∀ m ∈ exL, ad n = ad m → n = m) ∧ ∀ n ∈ exL, ad n ≠ ad 8277558478201501635
theorem ex1_of {h : Heap} {x : Str} {ch : List Str} (e : exOk1 h x ch = true) : ∃ C N nm q bs hdct sn sub ab col dd k0 k1 k2 k3 k5, h.nsMap mainGlobals x = some (.ref C) ∧
    h.get? C = some (excClassObj nm q C N bs ((ch.map fun n => (h.nsMap mainGlobals n).getD .none) ++ bmV) hdct sn sub ab col dd k0 k1 k2 k3 k5 "ValueError.__new__") ∧ h.Ns N (h.nsMap N) ∧ ∀ n ∈ exQuiet, h.nsMap N n = none := by
  unfold exOk1 at e
  cases hf : h.clsAt mainGlobals x with
  | none => rw [hf] at e; cases e
  | some z =>
    obtain ⟨C', o', cd'⟩ := z
    rw [hf] at e
    obtain ⟨e1, e2⟩ := Bool.and_eq_true_iff.mp e
    obtain ⟨C, N, nm, q, bs, hdct, sn, sub, ab, col, dd, k0, k1, k2, k3, k5, hb, hC, hN, _⟩ := Heap.ownExc_of_ok e1
    refine ⟨C, N, nm, q, bs, hdct, sn, sub, ab, col, dd, k0, k1, k2, k3, k5, hb, hC, hN, fun n hn => ?_⟩
    obtain ⟨hn', ho', hd'⟩ := Heap.clsAt_spec hf
    rw [hb] at hn'
    obtain rfl : C = C' := by injection hn' with q1; injection q1
    rw [hC] at ho'
    obtain rfl := Option.some.inj ho'
    obtain rfl : _ = cd' := by injection hd'
    exact Option.isNone_iff_eq_none.mp (List.all_eq_true.mp e2 n hn)
theorem adr_is {h : Heap} {n : Nat} {a : Addr} (e : h.nsMap mainGlobals (nm n) = some (.ref a)) : adr h n = a := by unfold adr; rw [e]
theorem ex_of {h : Heap} (e : exOk h = true) : ExS h := by
  unfold exOk at e
  obtain ⟨e, e5⟩ := Bool.and_eq_true_iff.mp e
  obtain ⟨e, e4⟩ := Bool.and_eq_true_iff.mp e
  obtain ⟨e, e3⟩ := Bool.and_eq_true_iff.mp e
  obtain ⟨e1, e2⟩ := Bool.and_eq_true_iff.mp e
  obtain ⟨C, N, nm', q, bs, hdct, sn, sub, ab, col, dd, k0, k1, k2, k3, k5, hb, hC, hN, hq⟩ := ex1_of e2
  have eC := adr_is hb
  have cC : ClsX h C bmV := ⟨N, nm', q, bs, hdct, sn, sub, ab, col, dd, k0, k1, k2, k3, k5, _, _, hC, hN, hq, .base⟩
  refine ⟨h.nsMap mainGlobals, adr h, .of_isNs e1, fun n hn => ?_, by rw [eC]; exact hb, by rw [eC]; exact cC, fun n hn m hm q => ?_, fun n hn q => ?_⟩
  · obtain ⟨C2, N2, nm2, q2, bs2, hdct2, sn2, sub2, ab2, col2, dd2, k02, k12, k22, k32, k52, hb2, hC2, hN2, hq2⟩ := ex1_of (List.all_eq_true.mp e3 n hn)
    rw [adr_is hb2, eC]
    have em : ([(nm 8277558478201501635)].map fun n => (h.nsMap mainGlobals n).getD .none) ++ bmV = .ref C :: bmV := by
      rw [List.map_cons, hb]; rfl
    rw [em] at hC2
    exact ⟨hb2, N2, nm2, q2, bs2, hdct2, sn2, sub2, ab2, col2, dd2, k02, k12, k22, k32, k52, _, _, hC2, hN2, hq2, .own hC hN hq .base⟩
  · have hnd := of_decide_eq_true e4
    have go : ∀ (l : List Nat), (l.map (adr h)).Nodup → n ∈ l → m ∈ l → n = m := by
      intro l
      induction l with
      | nil => intro _ h; cases h
      | cons x r ih =>
        intro hd h1 h2
        rw [List.map_cons, List.nodup_cons] at hd
        cases h1 with
        | head =>
          cases h2 with
          | head => rfl
          | tail _ h2 => exact absurd (q ▸ List.mem_map_of_mem h2) hd.1
        | tail _ h1 =>
          cases h2 with
          | head => exact absurd (q ▸ List.mem_map_of_mem h1) hd.1
          | tail _ h2 => exact ih hd.2 h1 h2
    exact go exL hnd hn hm
  · have := List.all_eq_true.mp e5 n hn
    rw [q, Nat.beq_refl] at this; cases this
theorem ExS.keeps {h h' : Heap} (x : ExS h) (k : ∀ b o, h.get? b = some o → h'.get? b = some o) : ExS h' := by
  obtain ⟨mg, ad, h1, h2, h3, h4, h5, h6⟩ := x
  exact ⟨mg, ad, h1.keeps k, fun n hn => ⟨(h2 n hn).1, (h2 n hn).2.keeps k⟩, h3, h4.keeps k, h5, h6⟩
noncomputable def exHook : Hook := ⟨Bool, fun s => exOk s.heap, fun _ => true, fun _ h => ExS h, fun _ _ e => ex_of e, fun _ _ _ x k => x.keeps k⟩
theorem ns_one {h : Heap} {a : Addr} {m m' : Str → Option Value} (x : h.Ns a m) (y : h.Ns a m') : m = m' := by
  obtain ⟨o, es, ep, h1, h2, _, h3⟩ := x
  obtain ⟨o', es', ep', k1, k2, _, k3⟩ := y
  rw [h1] at k1; cases k1
  rw [h2] at k2; cases k2
  funext n
  rw [← h3 n, ← k3 n]
section
variable {prog : Program} {w : World} {s : Shared} {p : Program} {loose : List Str} {mean : ExcName → Option Value} {mg mb : Str → Option Value} (T : Top p loose mean mg mb s.heap)
theorem g_ref {x : Str} {a : Addr} (h : mg x = some (.ref a)) : (cxOf prog w s T).G x = some (.ref a) := by show gOf mg mb x = _; unfold gOf; rw [h]
theorem exAt_of (x : ExS s.heap) : ∃ ad, ExAt (cxOf prog w s T) ad := by
  obtain ⟨mg', ad, h1, h2, h3, h4, h5, h6⟩ := x
  obtain rfl := ns_one T.g h1
  exact ⟨ad, fun n hn => g_ref T (h2 n hn).1, fun n hn => (h2 n hn).2, g_ref T h3, h4, h5, h6⟩
theorem excCls_of {x : Str} (h : specOf p x = some ("ValueError.__new__", bmV)) : ExcCls (cxOf prog w s T) x := by
  obtain ⟨kk, O, _⟩ := T.ownAt h
  exact ⟨kk, "ValueError", _, _, bmV, g_ref T O.bound, F.excBase_ValueError, O.own⟩
end
end Mine
end
section
namespace Mine
open PySem
local macro_rules | `(tactic| walk_at "nm") => `(tactic| (repeat (first | with_reducible exact hit | with_reducible assumption | (with_reducible apply miss; case h => with_unfolding_all rfl))))
local macro_rules | `(tactic| walk_at "ev") => `(tactic| (repeat (first | ((with_reducible first | apply e_name | apply t_name); case h => walk_at "nm") | (with_reducible first | apply e_int | apply e_str | apply e_none | apply e_bool | apply e_bin | apply l1 | apply l2 | apply l0 | apply lc | apply e_sub | apply e_slice | apply e_list | apply e_tuple | apply e_dict0 | apply e_cmp | apply e_and | apply e_not | apply e_or | apply e_neg | apply t_cmp | apply t_cmp2 | apply t_and | apply t_or | apply t_not | apply t_bool | apply t_sub | apply tru_bool | apply e_comp0 | apply e_comp1 | apply i_val | apply i_rng1 | apply i_rng2 | apply i_rev | apply b_add | apply b_sub | apply c_lt | apply c_le | apply c_gt | apply c_ge | apply c_eqi | apply c_nei | apply c_eqs | apply c_nes | apply c_is | apply c_isnot | apply s_len | apply if_tt | apply if_ff | apply r_ret | apply s_asg | apply s_exp | apply s_ite | apply s_set | apply s_skip | apply sq_next | apply sq_ret | apply lq_next | apply lq_ret | apply rq_ret | apply i_str) | ((with_reducible first | apply e_call | apply t_call | apply e_glob | apply e_methS | apply e_srt); case h => with_reducible assumption) | (with_reducible apply b_div; case h => with_unfolding_all rfl))))
noncomputable def x_is_sign : List Str := [(nm 27881272436)]
noncomputable def b_is_sign : PS := (.seq (.ret (.and (.call (.glob (nm 938756632654307293673)) (.cons (.name (nm 27881272436)) (.cons (.glob (nm 1882739)) .nil))) (.and (.cmp1 .Eq (.call (.glob (nm 1815276)) (.cons (.name (nm 27881272436)) .nil)) (.int 1)) (.cmp1 .In (.name (nm 27881272436)) (.glob (nm 367874058560204)))))) .skip)
noncomputable def x_is_word : List Str := [(nm 27881272436)]
noncomputable def b_is_word_1 : PS := (.seq (.ret (.call (.glob (nm 1783393)) (.cons (.comp0 (.call (.glob (nm 487352597740009)) (.cons (.name (nm 232387827)) .nil)) (.name (nm 232387827)) (.itVal (.name (nm 27881272436)))) .nil))) .skip)
noncomputable def b_is_word : PS := (.seq (.ite (.or (.not (.call (.glob (nm 938756632654307293673)) (.cons (.name (nm 27881272436)) (.cons (.glob (nm 1882739)) .nil)))) (.not (.cmp2 .LtE .LtE (.int 1) (.call (.glob (nm 1815276)) (.cons (.name (nm 27881272436)) .nil)) (.glob (nm 771200664775530178509))))) (.seq (.ret (.bool false)) .skip) .skip) b_is_word_1)
noncomputable def x_checked : List Str := [(nm 31081674743)]
noncomputable def b_checked_4 : PS := (.seq (.ret (.call (.glob (nm 3463330969587)) (.cons (.name (nm 27076163558)) .nil))) .skip)
noncomputable def b_checked_l1_2 : PS := (.seq (.expr (.meth (.name (nm 27076163558)) (nm 3465715398753) (.cons (.name (nm 211597303)) .nil))) .skip)
noncomputable def b_checked_l1_1 : PS := (.seq (.ite (.cmp1 .In (.name (nm 211597303)) (.name (nm 27076163558))) (.seq (.raise (nm 27321334740) (.str ⟨#[97, 32, 119, 111, 114, 100, 32, 116, 119, 105, 99, 101]⟩)) .skip) .skip) b_checked_l1_2)
noncomputable def b_checked_l1 : PS := (.seq (.ite (.not (.call (.glob (nm 443751708752361)) (.cons (.name (nm 211597303)) .nil))) (.seq (.raise (nm 443751641723074) (.str ⟨#[110, 111, 32, 119, 111, 114, 100]⟩)) .skip) .skip) b_checked_l1_1)
noncomputable def b_checked_3 : PS := (.seq (.for_ (.name (nm 211597303)) (.itVal (.name (nm 31081674743))) b_checked_l1) b_checked_4)
noncomputable def b_checked_2 : PS := (.seq (.assign (.name (nm 27076163558)) (.list .nil)) b_checked_3)
noncomputable def b_checked_1 : PS := (.seq (.ite (.cmp1 .Gt (.call (.glob (nm 1815276)) (.cons (.name (nm 31081674743)) .nil)) (.glob (nm 770486307810356553677))) (.seq (.raise (nm 228276934) (.str ⟨#[109, 111, 114, 101, 32, 116, 104, 97, 110, 32, 116, 119, 101, 108, 118, 101, 32, 119, 111, 114, 100, 115]⟩)) .skip) .skip) b_checked_2)
noncomputable def b_checked : PS := (.seq (.ite (.not (.call (.glob (nm 938756632654307293673)) (.cons (.name (nm 31081674743)) (.cons (.glob (nm 245167340)) .nil)))) (.seq (.raise (nm 447668609953986) (.str ⟨#[97, 32, 99, 111, 100, 101, 32, 105, 115, 32, 97, 32, 108, 105, 115, 116, 32, 111, 102, 32, 119, 111, 114, 100, 115]⟩)) .skip) .skip) b_checked_1)
noncomputable def x_law_at : List Str := [(nm 137989276334399845594719), (nm 3702244537951)]
noncomputable def b_law_at : PS := (.seq (.ite (.cmp1 .Lt (.name (nm 3702244537951)) (.call (.glob (nm 1815276)) (.cons (.name (nm 137989276334399845594719)) .nil))) (.seq (.ret (.sub (.name (nm 137989276334399845594719)) (.name (nm 3702244537951)))) .skip) .skip) (.seq (.ret (.int 0)) .skip))
noncomputable def x_law_mixed : List Str := [(nm 7843466381129971295), (nm 3702244537951)]
noncomputable def b_law_mixed_1 : PS := (.seq (.ret (.bin .Mod (.bin .Mult (.name (nm 135526128861644626359903)) (.name (nm 135526128861644626359903))) (.int 2147483629))) .skip)
noncomputable def b_law_mixed : PS := (.seq (.assign (.name (nm 135526128861644626359903)) (.bin .Mod (.bin .Mult (.bin .Add (.bin .Add (.name (nm 7843466381129971295)) (.bin .Mult (.int 7919) (.name (nm 3702244537951)))) (.int 3)) (.int 48271)) (.int 2147483647))) b_law_mixed_1)
noncomputable def x_law_signs : List Str := [(nm 7843466381129971295)]
noncomputable def b_law_signs_2 : PS := (.seq (.ret (.meth (.str ⟨#[]⟩) (nm 232421354) (.cons (.comp0 (.sub (.name (nm 7339670703038821983)) (.bin .Mod (.bin .Add (.bin .FloorDiv (.name (nm 7843466381129971295)) (.int 6)) (.bin .Mult (.bin .Add (.int 1) (.bin .Mod (.bin .FloorDiv (.name (nm 7843466381129971295)) (.int 156)) (.int 25))) (.name (nm 3702244537951)))) (.int 26))) (.name (nm 3702244537951)) (.itRange1 (.name (nm 8781323754941216351)))) .nil))) .skip)
noncomputable def b_law_signs_1 : PS := (.seq (.assign (.name (nm 8781323754941216351)) (.sub (.list (.cons (.int 2) (.cons (.int 1) (.cons (.int 2) (.cons (.int 3) (.cons (.int 2) (.cons (.int 5) .nil))))))) (.bin .Mod (.name (nm 7843466381129971295)) (.int 6)))) b_law_signs_2)
noncomputable def b_law_signs : PS := (.seq (.assign (.name (nm 7339670703038821983)) (.str ⟨#[97, 98, 99, 100, 101, 102, 103, 104, 105, 106, 107, 108, 109, 110, 111, 112, 113, 114, 115, 116, 117, 118, 119, 120, 121, 122]⟩)) b_law_signs_1)
noncomputable def x_law_word : List Str := [(nm 7843466381129971295), (nm 32292397438104887858748106241631)]
noncomputable def b_law_word_1 : PS := (.seq (.ret (.meth (.str ⟨#[]⟩) (nm 232421354) (.cons (.comp0 (.sub (.name (nm 32292397438104887858748106241631)) (.bin .Mod (.bin .FloorDiv (.call (.glob (nm 929683040243566540383)) (.cons (.name (nm 7843466381129971295)) (.cons (.name (nm 3667884799583)) .nil))) (.int 64)) (.call (.glob (nm 1815276)) (.cons (.name (nm 32292397438104887858748106241631)) .nil)))) (.name (nm 3667884799583)) (.itRange1 (.name (nm 7346962664154232415)))) .nil))) .skip)
noncomputable def b_law_word : PS := (.seq (.assign (.name (nm 7346962664154232415)) (.sub (.list (.cons (.int 1) (.cons (.int 2) (.cons (.int 3) (.cons (.int 2) (.cons (.int 4) (.cons (.bin .Add (.int 1) (.bin .Mod (.bin .FloorDiv (.name (nm 7843466381129971295)) (.int 8)) (.int 10))) (.cons (.int 3) (.cons (.int 2) .nil))))))))) (.bin .Mod (.name (nm 7843466381129971295)) (.int 8)))) b_law_word_1)
noncomputable def x_law_any_word : List Str := [(nm 7843466381129971295)]
noncomputable def b_law_any_word_3 : PS := (.seq (.ret (.name (nm 252284354984115859945804035679))) .skip)
noncomputable def b_law_any_word_l1_1 : PS := (.seq (.assign (.name (nm 252284354984187917196244579935)) (.bin .FloorDiv (.name (nm 252284354984187917196244579935)) (.int 26))) .skip)
noncomputable def b_law_any_word_l1 : PS := (.seq (.assign (.name (nm 252284354984115859945804035679)) (.bin .Add (.name (nm 252284354984115859945804035679)) (.sub (.str ⟨#[97, 98, 99, 100, 101, 102, 103, 104, 105, 106, 107, 108, 109, 110, 111, 112, 113, 114, 115, 116, 117, 118, 119, 120, 121, 122]⟩) (.bin .Mod (.name (nm 252284354984187917196244579935)) (.int 26))))) b_law_any_word_l1_1)
noncomputable def b_law_any_word_2 : PS := (.seq (.for_ (.name (nm 3667884799583)) (.itRange1 (.bin .Add (.int 1) (.bin .Mod (.name (nm 7843466381129971295)) (.int 10)))) b_law_any_word_l1) b_law_any_word_3)
noncomputable def b_law_any_word_1 : PS := (.seq (.assign (.name (nm 252284354984187917196244579935)) (.bin .FloorDiv (.name (nm 7843466381129971295)) (.int 10))) b_law_any_word_2)
noncomputable def b_law_any_word : PS := (.seq (.assign (.name (nm 252284354984115859945804035679)) (.str ⟨#[]⟩)) b_law_any_word_1)
noncomputable def x_law_more : List Str := [(nm 32292397438104173501782932616799), (nm 7843466381129971295), (nm 32292397438104887858748106241631)]
noncomputable def b_law_more_4 : PS := (.seq (.ret (.slice (.sub (.bin .Add (.name (nm 7339670703038821983)) (.list (.cons (.slice (.name (nm 57345570095265375)) (.name (nm 15398215025955758113584735)) .none) (.cons (.slice (.name (nm 57345570095265375)) .none (.bin .Add (.name (nm 15398215025955758113584735)) (.int 1))) (.cons (.bin .Add (.slice (.name (nm 57345570095265375)) (.name (nm 15398215025955758113584735)) .none) (.name (nm 1058801290007509759583))) .nil))))) (.bin .Mod (.name (nm 7843466381129971295)) (.int 8))) .none (.int 10))) .skip)
noncomputable def b_law_more_3 : PS := (.seq (.assign (.name (nm 7339670703038821983)) (.list (.cons (.bin .Add (.name (nm 57345570095265375)) (.name (nm 1058801290007509759583))) (.cons (.bin .Add (.name (nm 57345570095265375)) (.name (nm 1058801290007509759583))) (.cons (.bin .Add (.name (nm 1058801290007509759583)) (.name (nm 57345570095265375))) (.cons (.bin .Add (.name (nm 57345570095265375)) (.call (.glob (nm 7270427996206954079)) (.cons (.bin .FloorDiv (.name (nm 7843466381129971295)) (.int 8)) (.cons (.name (nm 32292397438104887858748106241631)) .nil)))) (.cons (.bin .Add (.call (.glob (nm 7270427996206954079)) (.cons (.bin .FloorDiv (.name (nm 7843466381129971295)) (.int 8)) (.cons (.name (nm 32292397438104887858748106241631)) .nil))) (.name (nm 57345570095265375))) .nil))))))) b_law_more_4)
noncomputable def b_law_more_2 : PS := (.seq (.assign (.name (nm 15398215025955758113584735)) (.bin .Mod (.bin .FloorDiv (.name (nm 7843466381129971295)) (.int 1352)) (.call (.glob (nm 1815276)) (.cons (.name (nm 57345570095265375)) .nil)))) b_law_more_3)
noncomputable def b_law_more_1 : PS := (.seq (.assign (.name (nm 1058801290007509759583)) (.sub (.name (nm 32292397438104173501782932616799)) (.bin .Mod (.bin .FloorDiv (.name (nm 7843466381129971295)) (.int 104)) (.call (.glob (nm 1815276)) (.cons (.name (nm 32292397438104173501782932616799)) .nil))))) b_law_more_2)
noncomputable def b_law_more : PS := (.seq (.assign (.name (nm 57345570095265375)) (.sub (.name (nm 32292397438104173501782932616799)) (.bin .Mod (.bin .FloorDiv (.name (nm 7843466381129971295)) (.int 8)) (.call (.glob (nm 1815276)) (.cons (.name (nm 32292397438104173501782932616799)) .nil))))) b_law_more_1)
noncomputable def x_law_chain : List Str := [(nm 137989276334399845594719), (nm 1078262421209535247967), (nm 32292397438104887858748106241631)]
noncomputable def b_law_chain_5 : PS := (.seq (.ret (.bin .Add (.slice (.name (nm 32292397438104173501782932616799)) (.name (nm 7991030221786084959)) .none) (.slice (.name (nm 32292397438104173501782932616799)) .none (.name (nm 7991030221786084959))))) .skip)
noncomputable def b_law_chain_4 : PS := (.seq (.assign (.name (nm 7991030221786084959)) (.bin .Mod (.call (.glob (nm 513532042442335)) (.cons (.name (nm 137989276334399845594719)) (.cons (.bin .Add (.name (nm 1078262421209535247967)) (.int 2)) .nil))) (.call (.glob (nm 1815276)) (.cons (.name (nm 32292397438104173501782932616799)) .nil)))) b_law_chain_5)
noncomputable def b_law_chain_3 : PS := (.seq (.ite (.cmp1 .Eq (.bin .Mod (.bin .FloorDiv (.call (.glob (nm 513532042442335)) (.cons (.name (nm 137989276334399845594719)) (.cons (.name (nm 1078262421209535247967)) .nil))) (.int 280)) (.int 2)) (.int 1)) (.seq (.expr (.meth (.name (nm 32292397438104173501782932616799)) (nm 3465715398753) (.cons (.sub (.name (nm 1068460336826721793631)) (.neg (.int 1))) .nil))) .skip) .skip) b_law_chain_4)
noncomputable def b_law_chain_2 : PS := (.seq (.assign (.name (nm 32292397438104173501782932616799)) (.bin .Add (.list (.cons (.sub (.name (nm 1068460336826721793631)) (.int 0)) .nil)) (.comp0 (.bin .Add (.sub (.name (nm 1068460336826721793631)) (.bin .Sub (.name (nm 3702244537951)) (.int 1))) (.sub (.name (nm 1068460336826721793631)) (.name (nm 3702244537951)))) (.name (nm 3702244537951)) (.itRange2 (.int 1) (.call (.glob (nm 1815276)) (.cons (.name (nm 1068460336826721793631)) .nil)))))) b_law_chain_3)
noncomputable def b_law_chain_l1 : PS := (.seq (.expr (.meth (.name (nm 1068460336826721793631)) (nm 3465715398753) (.cons (.slice (.call (.glob (nm 7270427996206954079)) (.cons (.call (.glob (nm 929683040243566540383)) (.cons (.call (.glob (nm 513532042442335)) (.cons (.name (nm 137989276334399845594719)) (.cons (.bin .Add (.bin .Add (.name (nm 1078262421209535247967)) (.int 2)) (.bin .Mod (.name (nm 3702244537951)) (.int 6))) .nil))) (.cons (.name (nm 3702244537951)) .nil))) (.cons (.name (nm 32292397438104887858748106241631)) .nil))) .none (.int 5)) .nil))) .skip)
noncomputable def b_law_chain_1 : PS := (.seq (.for_ (.name (nm 3702244537951)) (.itRange1 (.bin .Add (.int 2) (.bin .Mod (.bin .FloorDiv (.call (.glob (nm 513532042442335)) (.cons (.name (nm 137989276334399845594719)) (.cons (.name (nm 1078262421209535247967)) .nil))) (.int 40)) (.int 7)))) b_law_chain_l1) b_law_chain_2)
noncomputable def b_law_chain : PS := (.seq (.assign (.name (nm 1068460336826721793631)) (.list .nil)) b_law_chain_1)
noncomputable def x_law_words : List Str := [(nm 137989276334399845594719), (nm 1078262421209535247967)]
noncomputable def b_law_words_5 : PS := (.seq (.ret (.name (nm 32292397438104173501782932616799))) .skip)
noncomputable def b_law_words_l1_3 : PS := (.seq (.ite (.cmp1 .NotIn (.name (nm 252284354984115859945804035679)) (.name (nm 32292397438104173501782932616799))) (.seq (.expr (.meth (.name (nm 32292397438104173501782932616799)) (nm 3465715398753) (.cons (.name (nm 252284354984115859945804035679)) .nil))) .skip) .skip) .skip)
noncomputable def b_law_words_l1_2 : PS := (.seq (.ite (.cmp1 .Eq (.bin .Mod (.bin .FloorDiv (.name (nm 7843466381129971295)) (.int 10)) (.int 4)) (.int 1)) (.seq (.assign (.name (nm 252284354984115859945804035679)) (.call (.glob (nm 1951640654478162685372954207)) (.cons (.bin .Add (.name (nm 57345570095265375)) (.name (nm 3702244537951))) .nil))) .skip) (.seq (.ite (.and (.cmp1 .NotEq (.name (nm 32292397438104173501782932616799)) (.list .nil)) (.cmp1 .Eq (.bin .Mod (.bin .FloorDiv (.call (.glob (nm 929683040243566540383)) (.cons (.name (nm 57345570095265375)) (.cons (.name (nm 3702244537951)) .nil))) (.int 1000)) (.int 2)) (.int 1))) (.seq (.assign (.name (nm 252284354984115859945804035679)) (.call (.glob (nm 7342485246647498335)) (.cons (.name (nm 32292397438104173501782932616799)) (.cons (.call (.glob (nm 929683040243566540383)) (.cons (.name (nm 57345570095265375)) (.cons (.bin .Add (.name (nm 3702244537951)) (.int 20)) .nil))) (.cons (.name (nm 32292397438104887858748106241631)) .nil))))) .skip) .skip) .skip)) b_law_words_l1_3)
noncomputable def b_law_words_l1_1 : PS := (.seq (.assign (.name (nm 252284354984115859945804035679)) (.call (.glob (nm 7270427996206954079)) (.cons (.call (.glob (nm 929683040243566540383)) (.cons (.name (nm 57345570095265375)) (.cons (.name (nm 3702244537951)) .nil))) (.cons (.name (nm 32292397438104887858748106241631)) .nil)))) b_law_words_l1_2)
noncomputable def b_law_words_l1 : PS := (.seq (.assign (.name (nm 57345570095265375)) (.call (.glob (nm 513532042442335)) (.cons (.name (nm 137989276334399845594719)) (.cons (.bin .Add (.bin .Add (.name (nm 1078262421209535247967)) (.int 2)) (.bin .Mod (.name (nm 3702244537951)) (.int 6))) .nil)))) b_law_words_l1_1)
noncomputable def b_law_words_4 : PS := (.seq (.for_ (.name (nm 3702244537951)) (.itRange1 (.sub (.list (.cons (.int 2) (.cons (.int 3) (.cons (.int 4) (.cons (.int 5) (.cons (.int 3) (.cons (.int 2) (.cons (.int 6) (.cons (.int 1) (.cons (.int 0) (.cons (.int 12) .nil))))))))))) (.bin .Mod (.name (nm 7843466381129971295)) (.int 10)))) b_law_words_l1) b_law_words_5)
noncomputable def b_law_words_l2 : PS := (.seq (.ite (.cmp1 .NotIn (.name (nm 252284354984115859945804035679)) (.name (nm 32292397438104173501782932616799))) (.seq (.expr (.meth (.name (nm 32292397438104173501782932616799)) (nm 3465715398753) (.cons (.name (nm 252284354984115859945804035679)) .nil))) .skip) .skip) .skip)
noncomputable def b_law_words_3 : PS := (.seq (.ite (.cmp1 .Eq (.bin .Mod (.bin .FloorDiv (.name (nm 7843466381129971295)) (.int 10)) (.int 4)) (.int 2)) (.seq (.for_ (.name (nm 252284354984115859945804035679)) (.itVal (.call (.glob (nm 1022192038397693425247)) (.cons (.name (nm 137989276334399845594719)) (.cons (.name (nm 1078262421209535247967)) (.cons (.name (nm 32292397438104887858748106241631)) .nil))))) b_law_words_l2) (.seq (.ret (.name (nm 32292397438104173501782932616799))) .skip)) .skip) b_law_words_4)
noncomputable def b_law_words_2 : PS := (.seq (.assign (.name (nm 32292397438104173501782932616799)) (.list .nil)) b_law_words_3)
noncomputable def b_law_words_1 : PS := (.seq (.assign (.name (nm 32292397438104887858748106241631)) (.call (.glob (nm 1068672569199679796831)) (.cons (.call (.glob (nm 513532042442335)) (.cons (.name (nm 137989276334399845594719)) (.cons (.bin .Add (.name (nm 1078262421209535247967)) (.int 1)) .nil))) .nil))) b_law_words_2)
noncomputable def b_law_words : PS := (.seq (.assign (.name (nm 7843466381129971295)) (.call (.glob (nm 513532042442335)) (.cons (.name (nm 137989276334399845594719)) (.cons (.name (nm 1078262421209535247967)) .nil)))) b_law_words_1)
structure Wd (n : Nat) (t : Txt) : Prop where
  pos : 1 ≤ t.length
  le : t.length ≤ n
  abc : ∀ c ∈ t, 97 ≤ c ∧ c ≤ 122
theorem Wd.up {n m : Nat} {t : Txt} (h : Wd n t) (k : n ≤ m) : Wd m t := ⟨h.pos, Nat.le_trans h.le k, h.abc⟩
noncomputable def Ws (H : AHeap) (n : Nat) (ws : List Txt) : Prop := H[n]? = some (.list (ws.map .str))
noncomputable def Scr (H : AHeap) : Prop := ∃ is : List Int, H[0]? = some (.list (is.map .int))
theorem Scr.keep {H H' : AHeap} (h : Scr H) (k : Keep H H') : Scr H' := by obtain ⟨is, e⟩ := h; exact ⟨is, k.get e⟩
structure Cd (ws : List Txt) : Prop where
  le : ws.length ≤ 12
  wd : ∀ w ∈ ws, Wd 10 w
  nd : ws.Nodup
noncomputable def spAt : Spec := fun vs H Q _ => ∃ k : Int, vs = [.ref 0, .int k] ∧ 0 ≤ k ∧ Scr H ∧ ∀ i, Q (.int i) H
noncomputable def spMixed : Spec := fun vs H Q _ => ∃ c k : Int, vs = [.int c, .int k] ∧ ∀ m : Int, 0 ≤ m → m < 2147483629 → Q (.int m) H
noncomputable def spSigns : Spec := fun vs H Q _ => ∃ c : Int, vs = [.int c] ∧ ∀ t H', Wd 5 t → Keep H H' → Q (.str t) H'
noncomputable def spWord : Spec := fun vs H Q _ => ∃ (c : Int) (s : Txt), vs = [.int c, .str s] ∧ Wd 5 s ∧ ∀ t H', Wd 10 t → Keep H H' → Q (.str t) H'
noncomputable def spAnyW : Spec := fun vs H Q _ => ∃ c : Int, vs = [.int c] ∧ ∀ t, Wd 10 t → Q (.str t) H
theorem Scr.pos {H : AHeap} (h : Scr H) : H.length ≠ 0 := by obtain ⟨is, e⟩ := h; exact Nat.ne_of_gt (Nat.lt_of_le_of_lt (Nat.zero_le _) (lt_of_get e))
theorem pos_cast {n : Nat} (h : 1 ≤ n) : (0 : Int) < (n : Int) := Int.ofNat_lt.mpr h
theorem toNat_pos1 {j : Int} (h : 1 ≤ j) : 1 ≤ j.toNat := by lia
theorem small63 {i : Int} (h0 : 0 ≤ i) (h1 : i < 9223372036854775808) : i.natAbs < 2 ^ 63 := by lia
theorem wd_of {t : Txt} {j : Int} {m : Nat} (e : t.length = j.toNat) (h0 : 1 ≤ j) (h1 : j ≤ m) (ha : ∀ c ∈ t, 97 ≤ c ∧ c ≤ 122) : Wd m t := ⟨e ▸ toNat_pos1 h0, e ▸ Int.toNat_le.mpr h1, ha⟩
theorem ints_le {j : Int} (h : j ≤ lid) : ((intsFrom 0 j.toNat).map fun i => Item.one (.int i)).length ≤ lid := by rw [List.length_map, intsFrom_len]; exact Int.toNat_le.mpr h
theorem cat_le {a b m n : Nat} (h : a ≤ m) (k : b ≤ n) (e : Nat.ble (m + n) lid = true) : a + b ≤ lid := Nat.le_trans (Nat.add_le_add h k) (Nat.le_of_ble_eq_true e)
section
variable {T : Tab}
theorem ct_law_at (h1 : Has T (nm 1815276) spLen) : Ct T x_law_at b_law_at spAt := by
  refine ct2 fun vs H Q X h => ?_
  obtain ⟨k, rfl, h0, ⟨is, hs⟩, h⟩ := h
  refine ⟨_, _, rfl, ?_⟩
  refine s_ite ?_
  walk_at "ev"
  refine s_lenl hs ?_
  walk_at "ev"
  refine if_dec (fun hk => ?_) fun _ => ?_
  · walk_at "ev"
    refine st_any hs h0 hk fun v hv => ?_
    obtain ⟨i, _, rfl⟩ := List.mem_map.mp hv
    exact h i
  · walk_at "ev"
    exact h 0
theorem ct_law_mixed : Ct T x_law_mixed b_law_mixed spMixed := by
  refine ct2 fun vs H Q X h => ?_
  obtain ⟨c, k, rfl, h⟩ := h
  refine ⟨_, _, rfl, ?_⟩
  refine s_asg ?_
  walk_at "ev"
  refine b_mul (.inl (by decide)) ?_
  walk_at "ev"
  refine b_mul (.inr (by decide)) ?_
  walk_at "ev"
  refine b_mod (by decide) fun m m0 m1 => ?_
  refine r_ret ?_
  walk_at "ev"
  refine b_mul (.inl (small63 m0 (Int.lt_trans m1 (by decide)))) ?_
  walk_at "ev"
  exact b_mod (by decide) fun r r0 r1 => h r r0 r1
noncomputable def inR (lo hi : Int) : V → Bool
  | .int j => decide (lo ≤ j) && decide (j ≤ hi)
  | _ => false
theorem any_int {H : AHeap} {n : Nat} {xs : List V} {k : Int} {p : V → Prop} (lo hi : Int) (h : H[n]? = some (.list xs)) (h0 : 0 ≤ k) (h1 : k < xs.length) (ha : xs.all (inR lo hi) = true) (hp : ∀ j, lo ≤ j → j ≤ hi → p (.int j)) : subA (.ref n) (.int k) H p :=
  st_any h h0 h1 fun v hv => by
    have := List.all_eq_true.mp ha v hv
    cases v <;> first | cases this | skip
    simp only [inR, Bool.and_eq_true, decide_eq_true_eq] at this
    exact hp _ this.1 this.2
theorem comp_rngA {H : AHeap} {σ : Sg} {X : XPost} {y : Str} {elt : PE} {Q : List V → AHeap → Prop} {a : Int} {j : Nat} (P : V → Prop)
    (he : ∀ i : Int, a ≤ i → i < a + j → ∀ H', Keep H H' → ∀ q : VPost, (∀ v H'', P v → Keep H' H'' → q v H'') → (sem T elt).ev (σ.set y (.int i)) H' q X)
    (hQ : ∀ vs H', vs.length = j → (∀ v ∈ vs, P v) → Keep H H' → Q vs H') :
    compGo (fun _ => True) (fun x H' => bindA (.name y) x H' σ) (fun _ H' q => q true H') (fun σ' H' q => (sem T elt).ev σ' H' q X) Q ((intsFrom a j).map fun i => .one (.int i)) [] H := by
  refine comp_map (P := fun _ v => P v) _ _ _ (fun _ _ => trivial) (fun x hx H' k => ?_) fun vs H' ha k => ?_
  · obtain ⟨i, hi, rfl⟩ := List.mem_map.mp hx
    have := intsFrom_mem hi
    exact ⟨_, rfl, fun q hq => he i this.1 this.2 H' k q hq⟩
  · have hl := ha.length
    rw [List.length_map, intsFrom_len] at hl
    exact hQ vs H' hl.symm (fun v hv => by obtain ⟨_, _, h⟩ := ha.right v hv; exact h) k
theorem comp_rng {H : AHeap} {σ : Sg} {X : XPost} {y : Str} {elt : PE} {Q : List V → AHeap → Prop} {j : Nat} (P : V → Prop)
    (he : ∀ i : Int, 0 ≤ i → i < j → ∀ H', Keep H H' → ∀ q : VPost, (∀ v H'', P v → Keep H' H'' → q v H'') → (sem T elt).ev (σ.set y (.int i)) H' q X)
    (hQ : ∀ vs H', vs.length = j → (∀ v ∈ vs, P v) → Keep H H' → Q vs H') :
    compGo (fun _ => True) (fun x H' => bindA (.name y) x H' σ) (fun _ H' q => q true H') (fun σ' H' q => (sem T elt).ev σ' H' q X) Q ((intsFrom 0 j).map fun i => .one (.int i)) [] H :=
  comp_rngA P (fun i i0 i1 => he i i0 (by lia)) hQ
noncomputable def LetV (v : V) : Prop := ∃ c, v = .str [c] ∧ 97 ≤ c ∧ c ≤ 122
theorem txts_let : ∀ (vs : List V), (∀ v ∈ vs, LetV v) → ∃ t : Txt, vs = (t.map fun c => [c]).map .str ∧ t.length = vs.length ∧ ∀ c ∈ t, 97 ≤ c ∧ c ≤ 122
  | [], _ => ⟨[], rfl, rfl, fun _ h => nomatch h⟩
  | v :: r, h => by
    obtain ⟨c, rfl, hc⟩ := h v (.head _)
    obtain ⟨t, e, l, a⟩ := txts_let r fun w hw => h w (.tail _ hw)
    exact ⟨c :: t, by rw [e]; rfl, congrArg (· + 1) l, List.forall_mem_cons.mpr ⟨hc, a⟩⟩
theorem flat_one : ∀ t : Txt, (t.map fun c => [c]).flatten = t
  | [] => rfl
  | c :: r => congrArg (c :: ·) (flat_one r)
theorem sum_one : ∀ t : Txt, ((t.map fun c => [c]).map List.length).sum = t.length
  | [] => rfl
  | c :: r => by simp only [List.map_cons, List.sum_cons, sum_one r, List.length_cons, List.length_nil]; lia
theorem j_let {H : AHeap} {Q : VPost} {X : XPost} {n : Nat} {vs : List V} (h : H[n]? = some (.list vs)) (hl : vs.length ≤ 1000) (hv : ∀ v ∈ vs, LetV v) (k : ∀ t : Txt, t.length = vs.length → (∀ c ∈ t, 97 ≤ c ∧ c ≤ 122) → Q (.str t) H) : spJoin [.str [], .ref n] H Q X := by
  obtain ⟨t, e, l, a⟩ := txts_let vs hv
  rw [e] at h
  refine s_join h (by rw [sum_one, List.length_map, l]; unfold lid; lia) ?_
  rw [flat_one]
  exact k t l a
theorem abc26 : ∀ c ∈ (Str.mk #[97, 98, 99, 100, 101, 102, 103, 104, 105, 106, 107, 108, 109, 110, 111, 112, 113, 114, 115, 116, 117, 118, 119, 120, 121, 122]).cps.toList, 97 ≤ c ∧ c ≤ 122 := by decide
theorem ct_law_signs (h1 : HasM T .str (nm 232421354) spJoin) : Ct T x_law_signs b_law_signs spSigns := by
  refine ct1 fun vs H Q X h => ?_
  obtain ⟨c, rfl, h⟩ := h
  refine ⟨_, rfl, ?_⟩
  refine s_asg ?_
  walk_at "ev"
  refine s_asg ?_
  walk_at "ev"
  refine ⟨by decide, ?_⟩
  walk_at "ev"
  refine b_mod (by decide) fun m m0 m1 => any_int 1 5 get_new m0 m1 rfl fun j j0 j1 => ?_
  refine r_ret ?_
  walk_at "ev"
  have hj : j ≤ lid := Int.le_trans j1 (by decide)
  refine rng1 (Int.le_trans (by decide) j0) hj ⟨ints_le hj, ?_⟩
  refine comp_rng LetV (fun i i0 i1 H' k' q hq => ?_) fun vs H' hl hv k' => ?_
  · walk_at "ev"
    refine b_mod (by decide) fun a a0 a1 => ?_
    walk_at "ev"
    refine b_mul (.inl (small63 (Int.add_nonneg (by decide) a0) (Int.lt_trans (Int.add_lt_add_left a1 1) (by decide)))) ?_
    walk_at "ev"
    refine b_mod (by decide) fun b b0 b1 => ?_
    exact b_sign b0 b1 fun c hc => hq _ _ ⟨c, rfl, abc26 c hc⟩ (Keep.refl _)
  · refine j_let get_new (by rw [hl]; exact Int.toNat_le.mpr (Int.le_trans j1 (by decide))) hv fun t ht ha => ?_
    exact h t _ (wd_of (ht.trans hl) j0 j1 ha) ((Keep.new _ _).trans (k'.trans (Keep.new _ _)))
theorem ct_law_word (h1 : HasM T .str (nm 232421354) spJoin) (h2 : Has T (nm 929683040243566540383) spMixed) (h3 : Has T (nm 1815276) spLen) : Ct T x_law_word b_law_word spWord := by
  refine ct2 fun vs H Q X h => ?_
  obtain ⟨c, s, rfl, hs, h⟩ := h
  have hs1 := hs.pos
  have hs2 := hs.le
  refine ⟨_, _, rfl, ?_⟩
  refine s_asg ?_
  walk_at "ev"
  refine b_mod (by decide) fun a a0 a1 => ?_
  walk_at "ev"
  refine ⟨Nat.le_of_ble_eq_true rfl, ?_⟩
  walk_at "ev"
  refine b_mod (by decide) fun m m0 m1 => any_int 1 10 get_new m0 m1 (by simp [inR]; lia) fun j j0 j1 => ?_
  refine r_ret ?_
  walk_at "ev"
  have hj : j ≤ lid := Int.le_trans j1 (by decide)
  refine rng1 (Int.le_trans (by decide) j0) hj ⟨ints_le hj, ?_⟩
  refine comp_rng LetV (fun i i0 i1 H' k' q hq => ?_) fun vs H' hl hv k' => ?_
  · walk_at "ev"
    refine ⟨_, _, rfl, fun m _ _ => ?_⟩
    walk_at "ev"
    refine b_mod (pos_cast hs1) fun b b0 b1 => ?_
    exact b_sign b0 b1 fun c hc => hq _ _ ⟨c, rfl, hs.abc c hc⟩ (Keep.refl _)
  · refine j_let get_new (by rw [hl]; exact Int.toNat_le.mpr (Int.le_trans j1 (by decide))) hv fun t ht ha => ?_
    exact h t _ (wd_of (ht.trans hl) j0 j1 ha) ((Keep.new _ _).trans (k'.trans (Keep.new _ _)))
theorem ct_law_any_word : Ct T x_law_any_word b_law_any_word spAnyW := by
  refine ct1 fun vs H Q X h => ?_
  obtain ⟨c, rfl, h⟩ := h
  refine ⟨_, rfl, ?_⟩
  refine s_asg ?_
  walk_at "ev"
  refine s_asg ?_
  walk_at "ev"
  refine r_for ?_
  walk_at "ev"
  refine b_mod (by decide) fun m m0 m1 => ?_
  walk_at "ev"
  have hm10 : 1 + m ≤ 10 := Int.add_le_add_left (Int.le_sub_one_of_lt m1) 1
  have hm11 : (1 + m).toNat ≤ 10 := Int.toNat_le.mpr hm10
  refine rng1 (Int.add_nonneg (by decide) m0) (Int.le_trans hm10 (by decide)) ?_
  refine for_inv (fun xs σ H' => H' = H ∧ ∃ (t : Txt) (i : Int), σ (nm 252284354984115859945804035679) = some (.str t) ∧ σ (nm 252284354984187917196244579935) = some (.int i) ∧ t.length + xs.length = (1 + m).toNat ∧ (∀ c ∈ t, 97 ≤ c ∧ c ≤ 122) ∧ ∀ x ∈ xs, ∃ v, x = .one v) ?_ ?_ ⟨rfl, [], _, by walk_at "nm", hit, by rw [List.length_map, intsFrom_len, List.length_nil, Nat.zero_add], (fun _ h => nomatch h), ?_⟩
  · rintro x xs σ H' ⟨rfl, t, i, e1, e2, hl, ha, hx⟩
    obtain ⟨v, rfl⟩ := hx x (.head _)
    rw [List.length_cons] at hl
    refine ⟨trivial, _, rfl, fun W hW => ?_⟩
    refine s_asg ?_
    walk_at "ev"
    refine b_mod (by decide) fun b b0 b1 => b_sign b0 b1 fun c hc => ?_
    refine b_cat (Nat.le_trans (Nat.le_trans (Nat.add_le_add_left (Nat.le_add_left 1 _) _) (Nat.le_of_eq hl)) (Nat.le_trans hm11 (by decide))) ?_
    refine s_asg ?_
    walk_at "ev"
    refine hW _ _ ⟨rfl, t ++ [c], _, by walk_at "nm", hit, by rw [List.length_append, List.length_singleton, Nat.add_right_comm]; exact hl, fun d hd => ?_, fun y hy => hx y (.tail _ hy)⟩
    rcases List.mem_append.mp hd with hd | hd
    · exact ha d hd
    · rw [List.mem_singleton.mp hd]; exact abc26 c hc
  · rintro σ H' ⟨rfl, t, i, e1, e2, hl, ha, hx⟩
    refine ⟨trivial, ?_⟩
    refine r_ret ?_
    walk_at "ev"
    exact h t (wd_of hl (Int.le_add_of_nonneg_right m0) hm10 ha)
  · intro x hx
    obtain ⟨i, _, rfl⟩ := List.mem_map.mp hx
    exact ⟨_, rfl⟩
theorem Wd.cat {a b : Nat} {t u : Txt} (h : Wd a t) (k : Wd b u) : Wd (a + b) (t ++ u) := by
  refine ⟨by rw [List.length_append]; exact Nat.le_trans h.pos (Nat.le_add_right _ _), by rw [List.length_append]; exact Nat.add_le_add h.le k.le, fun c hc => ?_⟩
  rcases List.mem_append.mp hc with hc | hc
  · exact h.abc c hc
  · exact k.abc c hc
theorem Wd.drop {a i : Nat} {t : Txt} (h : Wd a t) (hi : i < t.length) : Wd a (t.drop i) := by
  exact ⟨by rw [List.length_drop]; exact Nat.sub_pos_of_lt hi, by rw [List.length_drop]; exact Nat.le_trans (Nat.sub_le _ _) h.le, fun c hc => h.abc c (List.mem_of_mem_drop hc)⟩
theorem Wd.take {a i : Nat} {t : Txt} (h : Wd a t) (hi : 1 ≤ i) : Wd i (t.take i) := by
  exact ⟨by rw [List.length_take]; exact Nat.le_min.mpr ⟨hi, h.pos⟩, by rw [List.length_take]; exact Nat.min_le_left _ _, fun c hc => h.abc c (List.mem_of_mem_take hc)⟩
noncomputable def WV (n : Nat) (v : V) : Prop := ∃ t, v = .str t ∧ Wd n t
theorem all_nil {P : V → Prop} : ∀ v ∈ ([] : List V), P v := fun _ h => nomatch h
theorem all_cons {P : V → Prop} {a : V} {l : List V} (h : P a) (k : ∀ v ∈ l, P v) : ∀ v ∈ a :: l, P v := fun v hv => by
  cases hv with
  | head => exact h
  | tail _ hv => exact k v hv
theorem all_app {P : V → Prop} {a l : List V} (h : ∀ v ∈ a, P v) (k : ∀ v ∈ l, P v) : ∀ v ∈ a ++ l, P v := fun v hv => (List.mem_append.mp hv).elim (h v) (k v)
theorem all_map {P : V → Prop} {ws : List Txt} (h : ∀ w ∈ ws, P (.str w)) : ∀ v ∈ ws.map V.str, P v := fun v hv => by
  obtain ⟨w, hw, rfl⟩ := List.mem_map.mp hv; exact h w hw
theorem any_wd {H : AHeap} {n : Nat} {ws : List Txt} {k : Int} {p : V → Prop} (h : Ws H n ws) (h0 : 0 ≤ k) (h1 : k < ws.length) (hw : ∀ w ∈ ws, p (.str w)) : subA (.ref n) (.int k) H p :=
  st_any h h0 (by rw [List.length_map]; exact h1) (all_map hw)
theorem len_ws {H : AHeap} {n : Nat} {ws : List Txt} {Q : VPost} {X : XPost} (h : Ws H n ws) (k : Q (.int ws.length) H) : spLen [.ref n] H Q X := s_lenl h (by rw [List.length_map]; exact k)
theorem Ws.keep {H H' : AHeap} {n : Nat} {ws : List Txt} (h : Ws H n ws) (k : Keep H H') : Ws H' n ws := k.get h
noncomputable def spMore : Spec := fun vs H Q _ => ∃ (n : Nat) (c : Int) (s : Txt) (ws : List Txt), vs = [.ref n, .int c, .str s] ∧ Ws H n ws ∧ 1 ≤ ws.length ∧ (∀ w ∈ ws, Wd 10 w) ∧ Wd 5 s ∧ ∀ t H', Wd 10 t → Keep H H' → Q (.str t) H'
theorem ct_law_more (h1 : Has T (nm 7270427996206954079) spWord) (h2 : Has T (nm 1815276) spLen) : Ct T x_law_more b_law_more spMore := by
  refine ct3 fun vs H Q X h => ?_
  obtain ⟨n, c, s, ws, rfl, hn, hne, hw, hs, h⟩ := h
  refine ⟨_, _, _, rfl, ?_⟩
  refine s_asg ?_
  walk_at "ev"
  refine len_ws hn ?_
  refine b_mod (pos_cast hne) fun a a0 a1 => any_wd hn a0 a1 fun one h_one => ?_
  refine s_asg ?_
  walk_at "ev"
  refine len_ws hn ?_
  refine b_mod (pos_cast hne) fun b b0 b1 => any_wd hn b0 b1 fun other h_other => ?_
  replace h_one := hw _ h_one
  replace h_other := hw _ h_other
  have p1 := h_one.pos
  have p2 := h_one.le
  have q2 := h_other.le
  refine s_asg ?_
  walk_at "ev"
  refine b_mod (pos_cast p1) fun i i0 i1 => ?_
  refine s_asg ?_
  walk_at "ev"
  refine b_cat (cat_le p2 q2 rfl) ?_
  walk_at "ev"
  refine b_cat (cat_le p2 q2 rfl) ?_
  walk_at "ev"
  refine b_cat (cat_le q2 p2 rfl) ?_
  walk_at "ev"
  refine ⟨_, _, rfl, hs, fun t1 H1 w1 k1 => ?_⟩
  refine b_cat (cat_le p2 w1.le rfl) ?_
  walk_at "ev"
  refine ⟨_, _, rfl, hs, fun t2 H2 w2 k2 => ?_⟩
  walk_at "ev"
  refine b_cat (cat_le w2.le p2 rfl) ?_
  walk_at "ev"
  refine ⟨Nat.le_of_ble_eq_true rfl, ?_⟩
  refine r_ret ?_
  walk_at "ev"
  refine b_from i0 ?_
  walk_at "ev"
  refine b_to (Int.add_nonneg i0 (by decide)) ?_
  walk_at "ev"
  refine b_from i0 ?_
  walk_at "ev"
  have hd : Wd 10 (one.drop i.toNat) := h_one.drop ((Int.toNat_lt i0).mpr i1)
  refine b_cat (cat_le hd.le q2 rfl) ?_
  walk_at "ev"
  refine ⟨Nat.le_of_ble_eq_true rfl, ?_⟩
  refine b_lcat ((Keep.new _ _).get get_new) get_new (Nat.le_of_ble_eq_true rfl) ?_
  walk_at "ev"
  refine b_mod (by decide) fun m m0 m1 => ?_
  have up : ∀ {a : Nat} {t : Txt}, Wd a t → a ≤ 20 → WV 20 (.str t) := fun h k => ⟨_, rfl, h.up k⟩
  have all : ∀ v ∈ ([.str (one ++ other), .str (one ++ other), .str (other ++ one), .str (one ++ t1), .str (t2 ++ one)] ++ [.str (one.drop i.toNat), .str (one.take (i + 1).toNat), .str (one.drop i.toNat ++ other)] : List V), WV 20 v :=
    all_app (all_cons (up (h_one.cat h_other) (by decide)) <| all_cons (up (h_one.cat h_other) (by decide)) <| all_cons (up (h_other.cat h_one) (by decide)) <| all_cons (up (h_one.cat w1) (by decide)) <| all_cons (up (w2.cat h_one) (by decide)) all_nil)
      (all_cons (up hd (by decide)) <| all_cons (up (h_one.take (toNat_pos1 (Int.le_add_of_nonneg_left i0))) (Int.toNat_le.mpr (Int.le_trans (Int.add_one_le_of_lt i1) (Int.ofNat_le.mpr (Nat.le_trans p2 (by decide)))))) <| all_cons (up (hd.cat h_other) (by decide)) all_nil)
  refine st_any get_new m0 m1 fun v hv => ?_
  obtain ⟨t, rfl, ht⟩ := all v hv
  walk_at "ev"
  refine b_to (by decide) ?_
  exact h _ _ (ht.take (by decide)) (k1.trans (k2.trans ((Keep.new _ _).trans ((Keep.new _ _).trans (Keep.new _ _)))))
noncomputable def pd (w : Txt) : PyData := .str ⟨w.toArray⟩
theorem rdL_str {H : AHeap} {n : Nat} : ∀ ws : List Txt, rdL (rd H n) (ws.map .str) = some (ws.map pd)
  | [] => rfl
  | w :: r => by rw [List.map_cons, List.map_cons, rdL, rdL_str r]; cases n <;> rfl
theorem rd_ws {H : AHeap} {n : Nat} {ws : List Txt} (h : Ws H n ws) : rd H 6 (.ref n) = some (.list (ws.map pd)) := by rw [rd_list h, rdL_str]; rfl
theorem eqv_ws : ∀ ws us : List Txt, PyData.eqv (.list (ws.map pd)) (.list (us.map pd)) = decide (ws = us) := by
  have go : ∀ ws us : List Txt, PyData.eqvAll (ws.map pd) (us.map pd) = decide (ws = us) := by
    intro ws
    induction ws with
    | nil => intro us; cases us <;> rfl
    | cons a r ih =>
      intro us
      cases us with
      | nil => rfl
      | cons b t =>
        show (PyData.eqv (pd a) (pd b) && PyData.eqvAll (r.map pd) (t.map pd)) = _
        rw [ih, show PyData.eqv (pd a) (pd b) = decide (a = b) from str_beq a b, Bool.eq_iff_iff]
        simp
  exact go
theorem c_eqw {H : AHeap} {n m : Nat} {ws us : List Txt} {r : Bool → Prop} (h1 : Ws H n ws) (h2 : Ws H m us) (k : r (decide (ws = us))) : cmpA .Eq (.ref n) (.ref m) H r :=
  .eq (rd_ws h1) (rd_ws h2) (by rw [eqv_ws]; exact k)
theorem c_new {H : AHeap} {n m : Nat} {ws us : List Txt} {r : Bool → Prop} (h1 : Ws H n ws) (h2 : Ws H m us) (k : r (!decide (ws = us))) : cmpA .NotEq (.ref n) (.ref m) H r :=
  .ne (rd_ws h1) (rd_ws h2) (by rw [eqv_ws]; exact k)
theorem any_str (w : Txt) : ∀ ws : List Txt, ((ws.map pd).any fun x => PyData.eqv x (pd w)) = decide (w ∈ ws)
  | [] => rfl
  | a :: r => by
    rw [List.map_cons, List.any_cons, any_str w r, show PyData.eqv (pd a) (pd w) = decide (a = w) from str_beq a w, Bool.eq_iff_iff]
    simp only [Bool.or_eq_true, decide_eq_true_eq, List.mem_cons]
    exact or_congr eq_comm Iff.rfl
theorem c_inw {H : AHeap} {n : Nat} {ws : List Txt} {w : Txt} {r : Bool → Prop} (h : Ws H n ws) (k : r (decide (w ∈ ws))) : cmpA .In (.str w) (.ref n) H r :=
  .inL (d := pd w) (rd_ws h) rfl (by rw [any_str]; exact k)
theorem c_ninw {H : AHeap} {n : Nat} {ws : List Txt} {w : Txt} {r : Bool → Prop} (h : Ws H n ws) (k : r (!decide (w ∈ ws))) : cmpA .NotIn (.str w) (.ref n) H r :=
  .ninL (d := pd w) (rd_ws h) rfl (by rw [any_str]; exact k)
theorem kind_l {H : AHeap} {n : Nat} {xs : List V} (h : H[n]? = some (.list xs)) : kindA (.ref n) H = some .list := by unfold kindA; dsimp only; rw [h]
theorem Ws.push {H : AHeap} {n : Nat} {ws : List Txt} (h : Ws H n ws) (w : Txt) : Ws (H.set n (.list (ws.map .str ++ [.str w]))) n (ws ++ [w]) := by
  unfold Ws
  rw [List.getElem?_set_self (lt_of_get h), List.map_append]; rfl
theorem s_push {n : Nat} {w : Txt} {ws : List Txt} {H : AHeap} {Q : VPost} {X : XPost} (h0 : n ≠ 0) (h1 : Ws H n ws) (h2 : ws.length < lid) (k : Q .none (H.set n (.list (ws.map .str ++ [.str w])))) : spAppend [.ref n, .str w] H Q X :=
  s_append h0 h1 (by rw [List.length_map]; exact h2) k
theorem all_ws {n : Nat} : ∀ xs : List V, (∀ v ∈ xs, WV n v) → ∃ ws : List Txt, xs = ws.map .str ∧ ∀ w ∈ ws, Wd n w
  | [], _ => ⟨[], rfl, fun _ h => nomatch h⟩
  | v :: r, h => by
    obtain ⟨t, rfl, ht⟩ := h v (.head _)
    obtain ⟨ws, rfl, hw⟩ := all_ws r fun w hw => h w (.tail _ hw)
    refine ⟨t :: ws, rfl, fun w hw' => ?_⟩
    cases hw' with
    | head => exact ht
    | tail _ hw' => exact hw w hw'
theorem WV.up {n m : Nat} {v : V} (h : WV n v) (k : n ≤ m) : WV m v := by obtain ⟨t, e, w⟩ := h; exact ⟨t, e, w.up k⟩
theorem neg_int {i : Int} {q : V → Prop} (k : q (.int (-i))) : Neg (.int i) q := k
theorem any_last {H : AHeap} {n : Nat} {ws : List Txt} {p : V → Prop} (h : Ws H n ws) (h1 : 1 ≤ ws.length) (hw : ∀ w ∈ ws, p (.str w)) : subA (.ref n) (.int (-1)) H p :=
  b_last h (by rw [List.length_map]; exact h1) (all_map hw _ (List.getElem_mem _))
theorem rng2 {H : AHeap} {i j : Int} {q : List Item → (AHeap → Prop) → AHeap → Prop} (h0 : 0 ≤ i) (h1 : i ≤ lid) (h2 : 0 ≤ j) (h3 : j ≤ lid) (k : q ((intsFrom i (j - i).toNat).map fun i => .one (.int i)) (fun _ => True) H) : Rng2 (.int i) (.int j) H q := ⟨h0, h1, h2, h3, k⟩
noncomputable def spChain : Spec := fun vs H Q _ => ∃ (k : Int) (s : Txt), vs = [.ref 0, .int k, .str s] ∧ 0 ≤ k ∧ Scr H ∧ Wd 5 s ∧
  ∀ ws p H', ws.length ≤ 9 → (∀ w ∈ ws, Wd 10 w) → H.length ≤ p → Ws H' p ws → Keep H H' → Q (.ref p) H'
theorem ct_law_chain (h1 : Has T (nm 513532042442335) spAt) (h2 : Has T (nm 929683040243566540383) spMixed) (h3 : Has T (nm 1815276) spLen) (h4 : HasM T .list (nm 3465715398753) spAppend) (h5 : Has T (nm 7270427996206954079) spWord) : Ct T x_law_chain b_law_chain spChain := by
  refine ct3 fun vs H Q X h => ?_
  obtain ⟨k, s, rfl, k0, hs, hw, h⟩ := h
  have hl0 : H.length ≠ 0 := hs.pos
  refine ⟨_, _, _, rfl, ?_⟩
  refine s_asg ?_
  walk_at "ev"
  refine ⟨Nat.zero_le _, ?_⟩
  have kH : Keep H (H ++ [.list []]) := Keep.new _ _
  have fin : ∀ σ H' ws p, σ (nm 137989276334399845594719) = some (.ref 0) → σ (nm 1078262421209535247967) = some (.int k) → σ (nm 32292397438104173501782932616799) = some (.ref p) → Keep H H' → Ws H' p ws → 1 ≤ ws.length → ws.length ≤ 9 → (∀ w ∈ ws, Wd 10 w) → semS T b_law_chain_4 σ H' (RQ Q) X := by
    intro σ H' ws p e1 e2 e3 kp hp l1 l2 hw
    refine s_asg ?_
    walk_at "ev"
    refine ⟨_, rfl, Int.add_nonneg k0 (by decide), hs.keep kp, fun i => ?_⟩
    walk_at "ev"
    refine len_ws hp ?_
    refine b_mod (pos_cast l1) fun j j0 j1 => ?_
    refine r_ret ?_
    walk_at "ev"
    refine b_lfrom hp j0 ?_
    walk_at "ev"
    refine b_lto ((Keep.new _ _).get hp) j0 ?_
    rw [← List.map_drop, ← List.map_take]
    refine b_lcat ((Keep.new _ _).get get_new) get_new ?_ ?_
    · rw [List.length_map, List.length_map, List.length_drop, List.length_take]; exact Nat.le_trans (Nat.add_le_add (Nat.le_trans (Nat.sub_le _ _) l2) (Nat.le_trans (Nat.min_le_right _ _) l2)) (by decide)
    rw [← List.map_append]
    refine h (ws.drop j.toNat ++ ws.take j.toNat) _ _ ?_ (fun w hw' => ?_) ?_ get_new (kp.trans ((Keep.new _ _).trans ((Keep.new _ _).trans (Keep.new _ _))))
    · rw [List.length_append, Nat.add_comm, ← List.length_append, List.take_append_drop]; exact l2
    · rcases List.mem_append.mp hw' with q | q
      · exact hw w (List.mem_of_mem_drop q)
      · exact hw w (List.mem_of_mem_take q)
    · exact (kp.trans ((Keep.new _ _).trans (Keep.new _ _))).le
  refine r_for ?_
  walk_at "ev"
  refine ⟨_, rfl, k0, hs.keep kH, fun i => ?_⟩
  walk_at "ev"
  refine b_mod (by decide) fun j j0 j1 => ?_
  walk_at "ev"
  have hj8 : 2 + j ≤ 8 := Int.add_le_add_left (Int.le_sub_one_of_lt j1) 2
  have hj9 : (2 + j).toNat ≤ 8 := Int.toNat_le.mpr hj8
  have hj2 : 2 ≤ (2 + j).toNat := (Int.le_toNat (Int.add_nonneg (by decide) j0)).mpr (Int.le_add_of_nonneg_right j0)
  refine rng1 (Int.add_nonneg (by decide) j0) (Int.le_trans hj8 (by decide)) ?_
  refine for_inv (fun xs σ H' => Keep H H' ∧ (∃ rs, Ws H' H.length rs ∧ rs.length + xs.length = (2 + j).toNat ∧ ∀ r ∈ rs, Wd 5 r) ∧ (σ (nm 1068460336826721793631) = some (.ref H.length) ∧ σ (nm 137989276334399845594719) = some (.ref 0) ∧ σ (nm 1078262421209535247967) = some (.int k) ∧ σ (nm 32292397438104887858748106241631) = some (.str s)) ∧ ∀ x ∈ xs, ∃ i : Int, x = .one (.int i) ∧ 0 ≤ i) ?_ ?_ ⟨kH, ⟨[], get_new, by rw [List.length_map, intsFrom_len, List.length_nil, Nat.zero_add], fun _ h => nomatch h⟩, ⟨by walk_at "nm", by walk_at "nm", by walk_at "nm", by walk_at "nm"⟩, ?_⟩
  · rintro x xs σ H' ⟨kp, ⟨rs, hr, hl, hm⟩, ⟨e1, e2, e3, e4⟩, hx⟩
    obtain ⟨i, rfl, i0⟩ := hx x (.head _)
    rw [List.length_cons] at hl
    refine ⟨trivial, _, rfl, fun W hW => ?_⟩
    refine s_exp (e_methN (by walk_at "nm") (kind_l hr) h4 (l1 ?_))
    walk_at "ev"
    refine b_mod (by decide) fun a a0 a1 => ?_
    walk_at "ev"
    refine ⟨_, rfl, Int.add_nonneg (Int.add_nonneg k0 (by decide)) a0, hs.keep kp, fun b => ?_⟩
    walk_at "ev"
    refine ⟨_, _, rfl, fun c _ _ => ?_⟩
    walk_at "ev"
    refine ⟨_, _, rfl, hw, fun t H2 ht k2 => ?_⟩
    walk_at "ev"
    refine b_to (by decide) ?_
    have hr2 : Ws H2 H.length rs := hr.keep k2
    refine s_push hl0 hr2 (Nat.lt_of_lt_of_le (Nat.lt_of_lt_of_le (Nat.lt_of_lt_of_le (Nat.lt_add_of_pos_right (Nat.succ_pos _)) (Nat.le_of_eq hl)) hj9) (by decide)) ?_
    walk_at "ev"
    refine hW _ _ ⟨(kp.trans k2).set (Nat.le_refl _), ⟨_, hr2.push _, by rw [List.length_append, List.length_singleton, Nat.add_right_comm]; exact hl, fun r hr' => ?_⟩, ⟨by walk_at "nm", by walk_at "nm", by walk_at "nm", by walk_at "nm"⟩, fun y hy => hx y (.tail _ hy)⟩
    rcases List.mem_append.mp hr' with hr' | hr'
    · exact hm r hr'
    · rw [List.mem_singleton.mp hr']; exact ht.take (by decide)
  · rintro σ H' ⟨kp, ⟨rs, hr, hl, hm⟩, ⟨e1, e2, e3, e4⟩, hx⟩
    refine ⟨trivial, ?_⟩
    rw [List.length_nil, Nat.add_zero] at hl
    have r8 : rs.length ≤ 8 := hl ▸ hj9
    have r2 : 2 ≤ rs.length := hl ▸ hj2
    have r1 : (1 : Int) ≤ rs.length := Int.ofNat_le.mpr (Nat.le_of_succ_le r2)
    have rI : ((rs.length : Nat) : Int) ≤ lid := Int.ofNat_le.mpr (Nat.le_trans r8 (by decide))
    have rJ : ((rs.length : Int) - 1).toNat ≤ 8 := Int.toNat_le.mpr (Int.le_trans (Int.sub_le_self _ (by decide)) (Int.ofNat_le.mpr r8))
    refine s_asg ?_
    walk_at "ev"
    refine any_wd hr (by decide) (pos_cast (Nat.le_of_succ_le r2)) fun l0 hl0' => ?_
    refine ⟨Nat.le_of_ble_eq_true rfl, ?_⟩
    walk_at "ev"
    have hr2 : Ws (H' ++ [AObj.list [V.str l0]]) H.length rs := hr.keep (Keep.new _ _)
    refine len_ws hr2 ?_
    refine rng2 (by decide) (by decide) (Int.natCast_nonneg _) rI ⟨by rw [List.length_map, intsFrom_len]; exact Nat.le_trans rJ (by decide), ?_⟩
    refine comp_rngA (WV 10) (fun i i0 i1 H2 k2 q hq => ?_) fun vs H2 hvl hv k2 => ?_
    · have hi : i < rs.length := by rw [Int.toNat_of_nonneg (Int.sub_nonneg_of_le r1), Int.add_comm, Int.sub_add_cancel] at i1; exact i1
      walk_at "ev"
      refine any_wd (hr2.keep k2) (Int.sub_nonneg_of_le i0) (Int.lt_of_le_of_lt (Int.sub_le_self _ (by decide)) hi) fun u hu => ?_
      walk_at "ev"
      refine any_wd (hr2.keep k2) (Int.le_trans (by decide) i0) hi fun w hw' => ?_
      have q1 := hm u hu
      have q2 := hm w hw'
      refine b_cat (cat_le q1.le q2.le rfl) ?_
      exact hq _ _ ⟨_, rfl, q1.cat q2⟩ (Keep.refl _)
    · refine b_lcat ((k2.trans (Keep.new _ _)).get get_new) get_new ?_ ?_
      · rw [List.length_singleton, hvl]; exact Nat.le_trans (Nat.add_le_add_left rJ 1) (by decide)
      obtain ⟨ws, hws, hwd⟩ := all_ws ([V.str l0] ++ vs) (all_app (all_cons ⟨_, rfl, (hm l0 hl0').up (by decide)⟩ all_nil) hv)
      have hwl : ws.length = (1 : Nat) + vs.length := by
        have := congrArg List.length hws
        rw [List.length_append, List.length_map, List.length_singleton] at this; exact this.symm
      have hw9 : ws.length ≤ 9 := hwl.symm ▸ hvl.symm ▸ Nat.add_le_add_left rJ 1
      have hw8 : ws.length ≤ 8 := by
        rw [hwl, hvl, Nat.add_comm]
        exact Int.ofNat_le.mp (by rw [Int.natCast_add, Int.toNat_of_nonneg (Int.sub_nonneg_of_le r1)]; exact (Int.sub_add_cancel _ _).symm ▸ Int.ofNat_le.mpr r8)
      have hw1 : 1 ≤ ws.length := hwl.symm ▸ Nat.le_add_right _ _
      rw [hws]
      have kp2 : Keep H' _ := (Keep.new _ _).trans (k2.trans ((Keep.new _ [AObj.list vs]).trans (Keep.new _ [AObj.list (ws.map V.str)])))
      have hp : Ws _ _ ws := get_new (H := H2 ++ [AObj.list vs]) (o := .list (ws.map .str))
      have hpl : H.length ≤ (H2 ++ [AObj.list vs]).length := (kp.trans ((Keep.new _ _).trans (k2.trans (Keep.new _ _)))).le
      refine s_ite ?_
      walk_at "ev"
      refine ⟨_, rfl, k0, hs.keep (kp.trans kp2), fun i => ?_⟩
      walk_at "ev"
      refine b_mod (by decide) fun a a0 a1 => ?_
      walk_at "ev"
      refine if_dec (fun _ => ?_) fun _ => ?_
      · refine s_exp (e_methN (by walk_at "nm") (kind_l hp) h4 (l1 ?_))
        walk_at "ev"
        refine neg_int ?_
        refine any_last (hr.keep kp2) (Nat.le_of_succ_le r2) fun w hw' => ?_
        refine s_push (Nat.ne_of_gt (Nat.lt_of_lt_of_le (Nat.pos_of_ne_zero hl0) hpl)) hp (Nat.lt_of_le_of_lt hw9 (by decide)) ?_
        walk_at "ev"
        refine fin _ _ _ _ (by walk_at "nm") (by walk_at "nm") (by walk_at "nm") ((kp.trans kp2).set hpl) (hp.push w) ?_ ?_ ?_
        · rw [List.length_append, List.length_singleton]; exact Nat.le_add_left _ _
        · rw [List.length_append, List.length_singleton]; exact Nat.succ_le_succ hw8
        · intro u hu
          rcases List.mem_append.mp hu with hu | hu
          · exact hwd u hu
          · rw [List.mem_singleton.mp hu]; exact (hm w hw').up (by decide)
      · walk_at "ev"
        exact fin _ _ ws _ (by walk_at "nm") (by walk_at "nm") (by walk_at "nm") (kp.trans kp2) hp hw1 hw9 hwd
  · intro x hx
    obtain ⟨i, hi, rfl⟩ := List.mem_map.mp hx
    exact ⟨_, rfl, (intsFrom_mem hi).1⟩
end
noncomputable def spWords : Spec := fun vs H Q _ => ∃ k : Int, vs = [.ref 0, .int k] ∧ 0 ≤ k ∧ Scr H ∧ ∀ ws p H', Cd ws → H.length ≤ p → Ws H' p ws → Keep H H' → Q (.ref p) H'
section
variable {T : Tab}
theorem add_word {σ : Sg} {H H0 : AHeap} {P : SPost} {X : XPost} {w : Txt} {q : Nat} {us : List Txt} (h4 : HasM T .list (nm 3465715398753) spAppend) (e1 : σ (nm 252284354984115859945804035679) = some (.str w)) (e2 : σ (nm 32292397438104173501782932616799) = some (.ref q)) (hq : q ≠ 0)
    (hu : Ws H q us) (hl : us.length ≤ 1000) (hn : us.Nodup) (ha : ∀ u ∈ us, Wd 10 u) (hw : Wd 10 w) (kp : Keep H0 H) (hq0 : H0.length ≤ q)
    (k : ∀ H' us', (∀ i, i ≠ q → H'[i]? = H[i]?) → Keep H0 H' → Ws H' q us' → us'.length ≤ us.length + 1 → us'.Nodup → (∀ u ∈ us', Wd 10 u) → P .next σ H') : semS T b_law_words_l2 σ H P X := by
  refine s_ite ?_
  walk_at "ev"
  refine c_ninw hu ?_
  refine if_ndec (fun hnw => ?_) fun _ => ?_
  · refine s_exp (e_methN (by walk_at "nm") (kind_l hu) h4 (l1 ?_))
    walk_at "ev"
    refine s_push hq hu (Nat.lt_of_le_of_lt hl (by decide)) ?_
    walk_at "ev"
    refine k _ _ (fun i hi => List.getElem?_set_ne (Ne.symm hi)) (kp.set hq0) (hu.push w) (by rw [List.length_append]; exact Nat.le_refl _) ?_ ?_
    · rw [List.nodup_append]
      refine ⟨hn, by simp, fun a ha' b hb => ?_⟩
      rw [List.mem_singleton.mp hb]
      exact fun e => hnw (e ▸ ha')
    · intro u hu'
      rcases List.mem_append.mp hu' with hu' | hu'
      · exact ha u hu'
      · rw [List.mem_singleton.mp hu']; exact hw
  · walk_at "ev"
    exact k _ us (fun _ _ => rfl) kp hu (Nat.le_succ _) hn ha
theorem ct_law_words (h1 : Has T (nm 513532042442335) spAt) (h2 : Has T (nm 929683040243566540383) spMixed) (h3 : Has T (nm 1068672569199679796831) spSigns) (h4 : HasM T .list (nm 3465715398753) spAppend) (h5 : Has T (nm 7270427996206954079) spWord) (h6 : Has T (nm 1951640654478162685372954207) spAnyW) (h7 : Has T (nm 7342485246647498335) spMore) (h8 : Has T (nm 1022192038397693425247) spChain) : Ct T x_law_words b_law_words spWords := by
  refine ct2 fun vs H Q X h => ?_
  obtain ⟨k, rfl, k0, hs, h⟩ := h
  have hl0 : H.length ≠ 0 := hs.pos
  refine ⟨_, _, rfl, ?_⟩
  refine s_asg ?_
  walk_at "ev"
  refine ⟨_, rfl, k0, hs, fun cell => ?_⟩
  refine s_asg ?_
  walk_at "ev"
  refine ⟨_, rfl, Int.add_nonneg k0 (by decide), hs, fun c1 => ?_⟩
  walk_at "ev"
  refine ⟨_, rfl, fun s H1 hsg k1 => ?_⟩
  refine s_asg ?_
  walk_at "ev"
  refine ⟨Nat.zero_le _, ?_⟩
  have kH : Keep H (H1 ++ [.list []]) := k1.trans (Keep.new _ _)
  have hq := k1.le
  have hH1 : H1.length ≠ 0 := Nat.ne_of_gt (Nat.lt_of_lt_of_le (Nat.pos_of_ne_zero hl0) hq)
  have fin : ∀ σ H' ws, σ (nm 32292397438104173501782932616799) = some (.ref H1.length) → Keep H H' → Ws H' H1.length ws → ws.length ≤ 12 → ws.Nodup → (∀ w ∈ ws, Wd 10 w) → ∀ (r : PS) (P : SPost), (∀ v, Q v H' → P (.ret v) σ H') → semS T (.seq (.ret (.name (nm 32292397438104173501782932616799))) r) σ H' P X := by
    intro σ H' ws e kp hp hl hn hw r P hP
    walk_at "ev"
    exact hP _ (h ws _ H' ⟨hl, hw, hn⟩ hq hp kp)
  refine s_ite ?_
  walk_at "ev"
  refine b_mod (by decide) fun a a0 a1 => ?_
  walk_at "ev"
  refine if_dec (fun _ => ?_) fun _ => ?_
  · refine r_for ?_
    walk_at "ev"
    refine ⟨_, _, rfl, k0, hs.keep kH, hsg, fun ws p H2 hwl hw hp hpw k2 => ?_⟩
    refine i_list hpw ?_
    have hne : p ≠ H1.length := by rw [List.length_append, List.length_singleton] at hp; exact Nat.ne_of_gt hp
    refine for_inv (fun xs σ H' => Keep H H' ∧ Ws H' p ws ∧ (∃ us, Ws H' H1.length us ∧ us.length + xs.length ≤ 12 ∧ us.Nodup ∧ ∀ u ∈ us, Wd 10 u) ∧ σ (nm 32292397438104173501782932616799) = some (.ref H1.length) ∧ ∀ x ∈ xs, ∃ w, x = .one (.str w) ∧ Wd 10 w) ?_ ?_ ⟨kH.trans k2, hpw, ⟨[], k2.get get_new, by rw [List.length_map, List.length_map, List.length_nil, Nat.zero_add]; exact Nat.le_trans hwl (by decide), List.nodup_nil, fun _ h => nomatch h⟩, by walk_at "nm", ?_⟩
    · rintro x xs σ H' ⟨kp, hpw', ⟨us, hu, hl, hn, ha⟩, e1, hx⟩
      obtain ⟨w, rfl, hw'⟩ := hx x (.head _)
      rw [List.length_cons] at hl
      refine ⟨hpw', _, rfl, fun W hW => ?_⟩
      refine add_word h4 hit (by walk_at "nm") hH1 hu (Nat.le_trans (Nat.le_trans (Nat.le_add_right _ _) hl) (by decide)) hn ha hw' kp hq fun H3 us' ho k3 hu' hl' hn' ha' => ?_
      exact hW _ _ ⟨k3, (ho p hne).trans hpw', ⟨us', hu', Nat.le_trans (Nat.add_le_add_right hl' _) (by rw [Nat.add_right_comm]; exact hl), hn', ha'⟩, by walk_at "nm", fun y hy => hx y (.tail _ hy)⟩
    · rintro σ H' ⟨kp, hpw', ⟨us, hu, hl, hn, ha⟩, e1, hx⟩
      exact ⟨hpw', fin σ H' us e1 kp hu hl hn ha _ _ fun _ h => h⟩
    · intro x hx
      obtain ⟨v, hv, rfl⟩ := List.mem_map.mp hx
      obtain ⟨w, hw', rfl⟩ := List.mem_map.mp hv
      exact ⟨w, rfl, hw w hw'⟩
  · walk_at "ev"
    refine r_for ?_
    walk_at "ev"
    refine ⟨Nat.le_of_ble_eq_true rfl, ?_⟩
    walk_at "ev"
    have kH2 : ∀ l, Keep H (H1 ++ [.list []] ++ [.list l]) := fun l => kH.trans (Keep.new _ _)
    refine b_mod (by decide) fun m m0 m1 => any_int 0 12 get_new m0 m1 rfl fun j j0 j1 => ?_
    refine rng1 j0 (Int.le_trans j1 (by decide)) ?_
    refine for_inv (fun xs σ H' => Keep H H' ∧ (∃ us, Ws H' H1.length us ∧ us.length + xs.length ≤ 12 ∧ us.Nodup ∧ ∀ u ∈ us, Wd 10 u) ∧ (σ (nm 32292397438104173501782932616799) = some (.ref H1.length) ∧ σ (nm 137989276334399845594719) = some (.ref 0) ∧ σ (nm 1078262421209535247967) = some (.int k) ∧ σ (nm 7843466381129971295) = some (.int cell) ∧ σ (nm 32292397438104887858748106241631) = some (.str s)) ∧ ∀ x ∈ xs, ∃ i : Int, x = .one (.int i) ∧ 0 ≤ i) ?_ ?_ ⟨kH2 _, ⟨[], (Keep.new _ _).get get_new, by rw [List.length_map, intsFrom_len, List.length_nil, Nat.zero_add]; exact Int.toNat_le.mpr j1, List.nodup_nil, fun _ h => nomatch h⟩, ⟨by walk_at "nm", by walk_at "nm", by walk_at "nm", by walk_at "nm", by walk_at "nm"⟩, ?_⟩
    · rintro x xs σ H' ⟨kp, ⟨us, hu, hl, hn, ha⟩, ⟨e1, e2, e3, e4, e5⟩, hx⟩
      obtain ⟨i, rfl, i0⟩ := hx x (.head _)
      rw [List.length_cons] at hl
      refine ⟨trivial, _, rfl, fun W hW => ?_⟩
      have step : ∀ σ' H2 w, σ' (nm 252284354984115859945804035679) = some (.str w) → σ' (nm 32292397438104173501782932616799) = some (.ref H1.length) → σ' (nm 137989276334399845594719) = some (.ref 0) → σ' (nm 1078262421209535247967) = some (.int k) → σ' (nm 7843466381129971295) = some (.int cell) → σ' (nm 32292397438104887858748106241631) = some (.str s) → Wd 10 w → Keep H' H2 →
          semS T b_law_words_l1_3 σ' H2 (LQ W (SQ T b_law_words_5 (RQ Q) X)) X := by
        intro σ' H2 w f0 f1 f2 f3 f4 f5 hw' k2
        refine add_word h4 f0 f1 hH1 (hu.keep k2) (Nat.le_trans (Nat.le_trans (Nat.le_add_right _ _) hl) (by decide)) hn ha hw' (kp.trans k2) hq fun H3 us' ho k3 hu' hl' hn' ha' => ?_
        exact hW _ _ ⟨k3, ⟨us', hu', Nat.le_trans (Nat.add_le_add_right hl' _) (by rw [Nat.add_right_comm]; exact hl), hn', ha'⟩, ⟨f1, f2, f3, f4, f5⟩, fun y hy => hx y (.tail _ hy)⟩
      refine s_asg ?_
      walk_at "ev"
      refine b_mod (by decide) fun b b0 b1 => ?_
      walk_at "ev"
      refine ⟨_, rfl, Int.add_nonneg (Int.add_nonneg k0 (by decide)) b0, hs.keep kp, fun one => ?_⟩
      refine s_asg ?_
      walk_at "ev"
      refine ⟨_, _, rfl, fun c _ _ => ?_⟩
      walk_at "ev"
      refine ⟨_, _, rfl, hsg, fun t H2 ht k2 => ?_⟩
      refine s_ite ?_
      walk_at "ev"
      refine b_mod (by decide) fun d d0 d1 => ?_
      walk_at "ev"
      refine if_dec (fun _ => ?_) fun _ => ?_
      · walk_at "ev"
        refine ⟨_, rfl, fun t2 ht2 => ?_⟩
        walk_at "ev"
        exact step _ _ t2 (by walk_at "nm") (by walk_at "nm") (by walk_at "nm") (by walk_at "nm") (by walk_at "nm") (by walk_at "nm") ht2 k2
      · walk_at "ev"
        refine ⟨Nat.zero_le _, ?_⟩
        refine c_new (us := []) (hu.keep (k2.trans (Keep.new _ _))) get_new ?_
        have k3 : Keep H' (H2 ++ [.list []]) := k2.trans (Keep.new _ _)
        have no : ∀ {σ'' : Sg}, σ'' = σ'' → True := fun _ => trivial
        refine if_ndec (fun hne => ?_) fun _ => ?_
        · walk_at "ev"
          refine ⟨_, _, rfl, fun e _ _ => ?_⟩
          walk_at "ev"
          refine b_mod (by decide) fun f f0 f1 => ?_
          walk_at "ev"
          refine if_dec (fun _ => ?_) fun _ => ?_
          · walk_at "ev"
            refine ⟨_, _, rfl, fun g _ _ => ?_⟩
            walk_at "ev"
            refine ⟨_, _, _, us, rfl, hu.keep k3, ?_, ha, hsg, fun t2 H4 ht2 k4 => ?_⟩
            · cases us with
              | nil => exact (hne rfl).elim
              | cons _ _ => simp
            walk_at "ev"
            exact step _ _ t2 (by walk_at "nm") (by walk_at "nm") (by walk_at "nm") (by walk_at "nm") (by walk_at "nm") (by walk_at "nm") ht2 (k3.trans k4)
          · walk_at "ev"
            exact step _ _ t (by walk_at "nm") (by walk_at "nm") (by walk_at "nm") (by walk_at "nm") (by walk_at "nm") (by walk_at "nm") ht k3
        · walk_at "ev"
          exact step _ _ t (by walk_at "nm") (by walk_at "nm") (by walk_at "nm") (by walk_at "nm") (by walk_at "nm") (by walk_at "nm") ht k3
    · rintro σ H' ⟨kp, ⟨us, hu, hl, hn, ha⟩, ⟨e1, e2, e3, e4, e5⟩, hx⟩
      exact ⟨trivial, fin σ H' us e1 kp hu hl hn ha _ _ fun _ h => h⟩
    · intro x hx
      obtain ⟨i, hi, rfl⟩ := List.mem_map.mp hx
      exact ⟨_, rfl, (intsFrom_mem hi).1⟩
theorem if_t {b : Bool} {A B : Prop} (h : b = true) (k : A) : if b = true then A else B := by rw [if_pos h]; exact k
theorem if_f {b : Bool} {A B : Prop} (h : b = false) (k : B) : if b = true then A else B := by rw [if_neg (by rw [h]; decide)]; exact k
noncomputable def az : Str := ⟨#[97, 98, 99, 100, 101, 102, 103, 104, 105, 106, 107, 108, 109, 110, 111, 112, 113, 114, 115, 116, 117, 118, 119, 120, 121, 122]⟩
theorem s_sorted {H : AHeap} {Q : VPost} {X : XPost} {n : Nat} {ws : List Txt} (h : Ws H n ws) (hl : ws.length < 64) (k : ∀ ys : List Txt, ys.Perm ws → ys.Pairwise (fun a b => ¬ b < a) → Q (.ref H.length) (H ++ [.list (ys.map .str)])) : spSorted [.ref n] H Q X := ⟨n, ws, rfl, h, hl, k⟩
end
noncomputable def x_counted : List Str := [(nm 31081674743), (nm 245248756)]
noncomputable def b_counted : PS := (.seq (.assign (.name (nm 1817583)) (.call (.glob (nm 443303916565603)) (.cons (.name (nm 31081674743)) .nil))) (.seq (.assign (.name (nm 27076163558)) (.bin .Add (.bin .Mult (.list (.cons (.int 0) .nil)) (.call (.glob (nm 1815276)) (.cons (.name (nm 245248756)) .nil))) (.list (.cons (.int 1) .nil)))) (.seq (.for_ (.name (nm 27321202288)) (.itRev (.call (.glob (nm 1815276)) (.cons (.name (nm 245248756)) .nil))) (.seq (.setItem (.name (nm 27076163558)) (.name (nm 27321202288)) (.call (.glob (nm 1800947)) (.cons (.comp0 (.sub (.name (nm 27076163558)) (.bin .Add (.name (nm 27321202288)) (.call (.glob (nm 1815276)) (.cons (.name (nm 211597303)) .nil)))) (.name (nm 211597303)) (.itVal (.call (.glob (nm 65732100365268983)) (.cons (.name (nm 1817583)) (.cons (.name (nm 245248756)) (.cons (.name (nm 27321202288)) .nil)))))) .nil))) .skip)) (.seq (.ret (.name (nm 27076163558))) .skip))))
noncomputable def x_parting : List Str := [(nm 31081674743), (nm 245248756), (nm 3944329476846)]
noncomputable def b_parting : PS := (.seq (.assign (.name (nm 1817583)) (.call (.glob (nm 443303916565603)) (.cons (.name (nm 31081674743)) .nil))) (.seq (.assign (.name (nm 255570157)) (.call (.glob (nm 443306355816419)) (.cons (.name (nm 1817583)) (.cons (.name (nm 245248756)) .nil)))) (.seq (.ite (.or (.not (.call (.glob (nm 938756632654307293673)) (.cons (.name (nm 3944329476846)) (.cons (.glob (nm 1914729)) .nil)))) (.or (.call (.glob (nm 938756632654307293673)) (.cons (.name (nm 3944329476846)) (.cons (.glob (nm 228325346)) .nil))) (.not (.cmp2 .LtE .Lt (.int 0) (.name (nm 3944329476846)) (.sub (.name (nm 255570157)) (.int 0)))))) (.seq (.raise (nm 64623894148134862) (.str ⟨#[110, 111, 32, 110, 117, 109, 98, 101, 114, 32, 111, 102, 32, 97, 32, 112, 97, 114, 116, 105, 110, 103]⟩)) .skip) .skip) (.seq (.assign (.name (nm 27076163558)) (.list .nil)) (.seq (.assign (.name (nm 27321202288)) (.int 0)) (.seq (.while_ (.cmp1 .Lt (.name (nm 27321202288)) (.call (.glob (nm 1815276)) (.cons (.name (nm 245248756)) .nil))) (.seq (.assign (.name (nm 213612531)) (.call (.glob (nm 65732100365268983)) (.cons (.name (nm 1817583)) (.cons (.name (nm 245248756)) (.cons (.name (nm 27321202288)) .nil))))) (.seq (.while_ (.cmp1 .GtE (.name (nm 3944329476846)) (.sub (.name (nm 255570157)) (.bin .Add (.name (nm 27321202288)) (.call (.glob (nm 1815276)) (.cons (.sub (.name (nm 213612531)) (.int 0)) .nil))))) (.seq (.assign (.name (nm 3944329476846)) (.bin .Sub (.name (nm 3944329476846)) (.sub (.name (nm 255570157)) (.bin .Add (.name (nm 27321202288)) (.call (.glob (nm 1815276)) (.cons (.sub (.name (nm 213612531)) (.int 0)) .nil)))))) (.seq (.assign (.name (nm 213612531)) (.slice (.name (nm 213612531)) (.int 1) .none)) .skip))) (.seq (.expr (.meth (.name (nm 27076163558)) (nm 3465715398753) (.cons (.sub (.name (nm 213612531)) (.int 0)) .nil))) (.seq (.assign (.name (nm 27321202288)) (.bin .Add (.name (nm 27321202288)) (.call (.glob (nm 1815276)) (.cons (.sub (.name (nm 213612531)) (.int 0)) .nil)))) .skip))))) (.seq (.ret (.name (nm 27076163558))) .skip)))))))
noncomputable def x_may_begin : List Str := [(nm 31081674743), (nm 245248756)]
noncomputable def b_may_begin : PS := (.seq (.assign (.name (nm 1817583)) (.call (.glob (nm 443303916565603)) (.cons (.name (nm 31081674743)) .nil))) (.seq (.assign (.name (nm 27352724596)) (.bin .Mult (.list (.cons (.bool false) .nil)) (.bin .Add (.call (.glob (nm 1815276)) (.cons (.name (nm 245248756)) .nil)) (.int 1)))) (.seq (.setItem (.name (nm 27352724596)) (.int 0) (.bool true)) (.seq (.for_ (.name (nm 27321202288)) (.itRange1 (.call (.glob (nm 1815276)) (.cons (.name (nm 245248756)) .nil))) (.seq (.ite (.sub (.name (nm 27352724596)) (.name (nm 27321202288))) (.seq (.for_ (.name (nm 211597303)) (.itVal (.call (.glob (nm 65732100365268983)) (.cons (.name (nm 1817583)) (.cons (.name (nm 245248756)) (.cons (.name (nm 27321202288)) .nil))))) (.seq (.setItem (.name (nm 27352724596)) (.bin .Add (.name (nm 27321202288)) (.call (.glob (nm 1815276)) (.cons (.name (nm 211597303)) .nil))) (.bool true)) .skip)) (.seq (.for_ (.name (nm 211597303)) (.itVal (.name (nm 1817583))) (.seq (.ite (.cmp1 .IsNot (.call (.glob (nm 452440421413612)) (.cons (.name (nm 211597303)) (.cons (.slice (.name (nm 245248756)) (.name (nm 27321202288)) .none) .nil))) .none) (.seq (.ret (.bool true)) .skip) .skip) .skip)) .skip)) .skip) .skip)) (.seq (.ret (.sub (.name (nm 27352724596)) (.call (.glob (nm 1815276)) (.cons (.name (nm 245248756)) .nil)))) .skip)))))
noncomputable def x_least : List Str := [(nm 31081674743)]
noncomputable def b_least : PS := (.seq (.assign (.name (nm 245166818)) (.call (.glob (nm 1651436)) (.cons (.call (.glob (nm 443303916565603)) (.cons (.name (nm 31081674743)) .nil)) .nil))) (.seq (.ret (.call (.glob (nm 244905188)) (.cons (.comp0 (.tuple (.cons (.name (nm 245166834)) (.cons (.sub (.sub (.name (nm 245166818)) (.name (nm 245166834))) (.int 0)) .nil))) (.name (nm 245166834)) (.itVal (.name (nm 245166818)))) .nil))) .skip))
noncomputable def x_double : List Str := [(nm 31081674743)]
noncomputable def b_double : PS := (.seq (.assign (.name (nm 245166818)) (.call (.glob (nm 1651436)) (.cons (.call (.glob (nm 443303916565603)) (.cons (.name (nm 31081674743)) .nil)) .nil))) (.seq (.ite (.cmp1 .NotIn (.str ⟨#[]⟩) (.name (nm 245166818))) (.seq (.ret .none) .skip) .skip) (.seq (.assign (.tup [(nm 3604769125100), (nm 1668975), (nm 30815173231), (nm 245166834)]) (.sub (.name (nm 245166818)) (.str ⟨#[]⟩))) (.seq (.ite (.cmp1 .Gt (.call (.glob (nm 1815276)) (.cons (.sub (.name (nm 1668975)) (.int 0)) .nil)) (.call (.glob (nm 1815276)) (.cons (.sub (.name (nm 30815173231)) (.int 0)) .nil))) (.seq (.assign (.tup [(nm 1668975), (nm 30815173231)]) (.tuple (.cons (.name (nm 30815173231)) (.cons (.name (nm 1668975)) .nil)))) .skip) .skip) (.seq (.ret (.tuple (.cons (.meth (.str ⟨#[]⟩) (nm 232421354) (.cons (.name (nm 1668975)) .nil)) (.cons (.call (.glob (nm 245167340)) (.cons (.name (nm 1668975)) .nil)) (.cons (.call (.glob (nm 245167340)) (.cons (.name (nm 30815173231)) .nil)) .nil))))) .skip)))))
noncomputable def x_heights : List Str := [(nm 31081674743)]
noncomputable def b_heights : PS := (.seq (.assign (.name (nm 1817583)) (.call (.glob (nm 443303916565603)) (.cons (.name (nm 31081674743)) .nil))) (.seq (.assign (.name (nm 27076163558)) (.call (.glob (nm 443304220898035)) (.cons (.name (nm 1817583)) .nil))) (.seq (.ret (.call (.glob (nm 244905188)) (.cons (.comp0 (.tuple (.cons (.name (nm 245166834)) (.cons (.meth (.name (nm 27076163558)) (nm 1913575) (.cons (.name (nm 245166834)) (.cons .none .nil))) .nil))) (.name (nm 245166834)) (.itVal (.call (.glob (nm 1651436)) (.cons (.name (nm 1817583)) .nil)))) .nil))) .skip)))
noncomputable def x_wait : List Str := [(nm 31081674743)]
noncomputable def b_wait : PS := (.seq (.assign (.name (nm 1817583)) (.call (.glob (nm 443303916565603)) (.cons (.name (nm 31081674743)) .nil))) (.seq (.assign (.name (nm 27076163558)) (.call (.glob (nm 443304220898035)) (.cons (.name (nm 1817583)) .nil))) (.seq (.assign (.name (nm 245166818)) (.int 0)) (.seq (.for_ (.tup [(nm 1668975), (nm 30815173231)]) (.itVal (.call (.glob (nm 31379191905)) (.cons (.name (nm 1817583)) .nil))) (.seq (.assign (.name (nm 245166818)) (.call (.glob (nm 1978605)) (.cons (.name (nm 245166818)) (.cons (.call (.glob (nm 3463326495859)) (.cons (.name (nm 1668975)) (.cons (.name (nm 30815173231)) .nil))) .nil)))) .skip)) (.seq (.for_ (.tup [(nm 3604769125100), (nm 1668975), (nm 30815173231), (nm 245166834)]) (.itVal (.call (.glob (nm 29774967522)) (.cons (.name (nm 1817583)) .nil))) (.seq (.ite (.cmp1 .NotIn (.name (nm 245166834)) (.name (nm 27076163558))) (.seq (.ret .none) .skip) .skip) (.seq (.assign (.name (nm 245166818)) (.call (.glob (nm 1978605)) (.cons (.name (nm 245166818)) (.cons (.bin .Add (.call (.glob (nm 1815276)) (.cons (.sub (.name (nm 30815173231)) (.int 0)) .nil)) (.sub (.name (nm 27076163558)) (.name (nm 245166834)))) .nil)))) .skip))) (.seq (.ret (.name (nm 245166818))) .skip))))))
noncomputable def x_late : List Str := [(nm 31081674743)]
noncomputable def b_late : PS := (.seq (.assign (.name (nm 1817583)) (.call (.glob (nm 443303916565603)) (.cons (.name (nm 31081674743)) .nil))) (.seq (.ite (.cmp1 .Lt (.call (.glob (nm 1815276)) (.cons (.name (nm 1817583)) .nil)) (.int 2)) (.seq (.ret .none) .skip) .skip) (.seq (.assign (.name (nm 245168109)) (.call (.glob (nm 245002487)) (.cons (.name (nm 1817583)) .nil))) (.seq (.ite (.cmp1 .Is (.name (nm 245168109)) .none) (.seq (.raise (nm 4014120237006) (.str ⟨#[97, 32, 99, 111, 100, 101, 32, 119, 105, 116, 104, 111, 117, 116, 32, 97, 32, 119, 97, 105, 116]⟩)) .skip) .skip) (.seq (.assign (.name (nm 27076163558)) (.call (.glob (nm 443304220898035)) (.cons (.name (nm 1817583)) .nil))) (.seq (.for_ (.tup [(nm 1668975), (nm 30815173231)]) (.itVal (.call (.glob (nm 31379191905)) (.cons (.name (nm 1817583)) .nil))) (.seq (.ite (.cmp1 .Eq (.call (.glob (nm 3463326495859)) (.cons (.name (nm 1668975)) (.cons (.name (nm 30815173231)) .nil))) (.name (nm 245168109))) (.seq (.ret (.tuple (.cons (.list (.cons (.name (nm 1668975)) .nil)) (.cons (.list (.cons (.name (nm 30815173231)) .nil)) .nil)))) .skip) .skip) .skip)) (.seq (.assign (.name (nm 213612531)) (.comp1 (.name (nm 27356854899)) (.name (nm 27356854899)) (.itVal (.call (.glob (nm 29774967522)) (.cons (.name (nm 1817583)) .nil))) (.cmp1 .Eq (.bin .Add (.call (.glob (nm 1815276)) (.cons (.sub (.sub (.name (nm 27356854899)) (.int 2)) (.int 0)) .nil)) (.sub (.name (nm 27076163558)) (.sub (.name (nm 27356854899)) (.int 3)))) (.name (nm 245168109))))) (.seq (.assign (.tup [(nm 3604769125100), (nm 1668975), (nm 30815173231), (nm 245166834)]) (.sub (.name (nm 213612531)) (.int 0))) (.seq (.assign (.tup [(nm 3465723654882), (nm 504875798280934)]) (.call (.glob (nm 29779293299)) (.cons (.name (nm 245166834)) (.cons (.name (nm 1817583)) (.cons (.name (nm 27076163558)) .nil))))) (.seq (.ret (.tuple (.cons (.bin .Add (.name (nm 1668975)) (.name (nm 3465723654882))) (.cons (.bin .Add (.name (nm 30815173231)) (.name (nm 504875798280934))) .nil)))) .skip))))))))))
noncomputable def x_ring : List Str := [(nm 31081674743)]
noncomputable def b_ring : PS := (.seq (.assign (.name (nm 1817583)) (.call (.glob (nm 443303916565603)) (.cons (.name (nm 31081674743)) .nil))) (.seq (.ite (.cmp1 .IsNot (.call (.glob (nm 245002487)) (.cons (.name (nm 1817583)) .nil)) .none) (.seq (.ret .none) .skip) .skip) (.seq (.assign (.name (nm 27076163558)) (.call (.glob (nm 443304220898035)) (.cons (.name (nm 1817583)) .nil))) (.seq (.assign (.name (nm 3978726767219)) (.slice (.comp1 (.tuple (.cons (.name (nm 27356854899)) (.cons (.int 0) .nil))) (.name (nm 27356854899)) (.itVal (.call (.glob (nm 29774967522)) (.cons (.name (nm 1817583)) .nil))) (.cmp1 .NotIn (.sub (.name (nm 27356854899)) (.int 3)) (.name (nm 27076163558)))) .none (.int 1))) (.seq (.assign (.name (nm 31115244274)) (.list .nil)) (.seq (.while_ (.cmp1 .NotIn (.sub (.sub (.sub (.name (nm 3978726767219)) (.neg (.int 1))) (.int 0)) (.int 3)) (.name (nm 31115244274))) (.seq (.expr (.meth (.name (nm 31115244274)) (nm 3465715398753) (.cons (.sub (.sub (.sub (.name (nm 3978726767219)) (.neg (.int 1))) (.int 0)) (.int 3)) .nil))) (.seq (.expr (.meth (.name (nm 3978726767219)) (nm 3465715398753) (.cons (.call (.glob (nm 289538620124902665257003841397)) (.cons (.sub (.name (nm 3978726767219)) (.neg (.int 1))) (.cons (.name (nm 1817583)) (.cons (.name (nm 27076163558)) .nil)))) .nil))) .skip))) (.seq (.ret (.call (.glob (nm 217823986)) (.cons (.name (nm 3978726767219)) .nil))) .skip)))))))
noncomputable def x_law_is_word : List Str := [(nm 957993226293642557023)]
noncomputable def b_law_is_word : PS := (.seq (.ite (.or (.not (.call (.glob (nm 938756632654307293673)) (.cons (.name (nm 957993226293642557023)) (.cons (.glob (nm 1882739)) .nil)))) (.not (.cmp2 .LtE .LtE (.int 1) (.call (.glob (nm 1815276)) (.cons (.name (nm 957993226293642557023)) .nil)) (.int 10)))) (.seq (.ret (.bool false)) .skip) .skip) (.seq (.ret (.cmp1 .Eq (.comp1 (.name (nm 7984784961380578911)) (.name (nm 7984784961380578911)) (.itVal (.name (nm 957993226293642557023))) (.cmp1 .NotIn (.name (nm 7984784961380578911)) (.str ⟨#[97, 98, 99, 100, 101, 102, 103, 104, 105, 106, 107, 108, 109, 110, 111, 112, 113, 114, 115, 116, 117, 118, 119, 120, 121, 122]⟩))) (.list .nil))) .skip))
noncomputable def x_law_called : List Str := [(nm 68547669436954207), (nm 4133426872077361586670994527385183)]
noncomputable def b_law_called_5 : PS := (.seq (.ret (.call (.glob (nm 3944333472466)) (.cons (.name (nm 4133426872077361586670994527385183)) .nil))) .skip)
noncomputable def b_law_called_4 : PS := (.seq (.ite (.cmp1 .Lt (.name (nm 68547669436954207)) (.int 9)) (.seq (.ret (.call (.sub (.list (.cons (.glob (nm 213725420)) (.cons (.glob (nm 217822450)) .nil))) (.bin .Sub (.name (nm 68547669436954207)) (.int 7))) (.cons (.name (nm 4133426872077361586670994527385183)) .nil))) .skip) .skip) b_law_called_5)
noncomputable def b_law_called_3 : PS := (.seq (.ite (.cmp1 .Lt (.name (nm 68547669436954207)) (.int 7)) (.seq (.ret (.call (.sub (.list (.cons (.glob (nm 509789213455080)) (.cons (.glob (nm 245002487)) .nil))) (.bin .Sub (.name (nm 68547669436954207)) (.int 5))) (.cons (.name (nm 4133426872077361586670994527385183)) .nil))) .skip) .skip) b_law_called_4)
noncomputable def b_law_called_2 : PS := (.seq (.ite (.cmp1 .Lt (.name (nm 68547669436954207)) (.int 5)) (.seq (.ret (.call (.sub (.list (.cons (.glob (nm 31381287660)) (.cons (.glob (nm 3499532056548)) .nil))) (.bin .Sub (.name (nm 68547669436954207)) (.int 3))) (.cons (.name (nm 4133426872077361586670994527385183)) .nil))) .skip) .skip) b_law_called_3)
noncomputable def b_law_called_1 : PS := (.seq (.ite (.cmp1 .Eq (.name (nm 68547669436954207)) (.int 2)) (.seq (.ret (.call (.glob (nm 456806792737008)) (.cons (.name (nm 4133426872077361586670994527385183)) (.cons (.str ⟨#[97, 98]⟩) (.cons .none .nil))))) .skip) .skip) b_law_called_2)
noncomputable def b_law_called : PS := (.seq (.ite (.cmp1 .Lt (.name (nm 68547669436954207)) (.int 2)) (.seq (.ret (.call (.sub (.list (.cons (.glob (nm 443306355816419)) (.cons (.glob (nm 7985901584913428717)) .nil))) (.name (nm 68547669436954207))) (.cons (.name (nm 4133426872077361586670994527385183)) (.cons (.str ⟨#[97, 98]⟩) .nil)))) .skip) .skip) b_law_called_1)
noncomputable def x_Reader__init__ : List Str := [(nm 215692019), (nm 31081674743)]
noncomputable def b_Reader__init__ : PS := (.seq (.stuck (.call (.glob (nm 443303916565603)) (.cons (.name (nm 31081674743)) .nil))) .skip)
noncomputable def isC (c : Nat) : Bool := decide (97 ≤ c ∧ c ≤ 122)
noncomputable def isW : V → Bool
  | .str t => decide (1 ≤ t.length ∧ t.length ≤ 10) && t.all isC
  | _ => false
theorem isW_str (t : Txt) : isW (.str t) = (decide (1 ≤ t.length ∧ t.length ≤ 10) && t.all isC) := rfl
inductive Tg (H : AHeap) : V → Prop
  | none : Tg H .none
  | int (i : Int) : Tg H (.int i)
  | bool (b : Bool) : Tg H (.bool b)
  | str (t : Txt) (h : t.length ≤ 1000) : Tg H (.str t)
  | list {n : Nat} {xs : List V} (h : H[n]? = some (.list xs)) : Tg H (.ref n)
  | tuple {n : Nat} {xs : List V} (h : H[n]? = some (.tuple xs)) : Tg H (.ref n)
  | dict {n ep : Nat} {es : List (Txt × V)} (h : H[n]? = some (.dict es ep)) : Tg H (.ref n)
theorem Tg.keep {H H' : AHeap} {v : V} (h : Tg H v) (k : Keep H H') : Tg H' v := by
  cases h with
  | none => exact .none
  | int i => exact .int i
  | bool b => exact .bool b
  | str t h => exact .str t h
  | list h => exact .list (k.get h)
  | tuple h => exact .tuple (k.get h)
  | dict h => exact .dict (k.get h)
noncomputable def cFull : Nat := 228276934
noncomputable def cCode : Nat := 447668609953986
noncomputable def cWord : Nat := 443751641723074
noncomputable def cTwice : Nat := 27321334740
noncomputable def dueL : List Txt → List V → Option Nat
  | _, [] => none
  | acc, x :: r => if isW x then (match x with
    | .str t => if t ∈ acc then some cTwice else dueL (acc ++ [t]) r
    | _ => some cWord) else some cWord
theorem dueL_str (acc : List Txt) (t : Txt) (r : List V) : dueL acc (.str t :: r) = if isW (.str t) then (if t ∈ acc then some cTwice else dueL (acc ++ [t]) r) else some cWord := rfl
theorem dueL_bad {acc : List Txt} {x : V} {r : List V} (h : isW x = false) : dueL acc (x :: r) = some cWord := by
  have e : dueL acc (x :: r) = if isW x then (match x with
    | .str t => if t ∈ acc then some cTwice else dueL (acc ++ [t]) r
    | _ => some cWord) else some cWord := by cases x <;> rfl
  rw [e, h]; rfl
noncomputable def lstOf (H : AHeap) (v : V) : Option (List V) := match v with
  | .ref n => (match H[n]? with
    | some (.list xs) => some xs
    | _ => none)
  | _ => none
noncomputable def dueX : Option (List V) → Option Nat
  | none => some cCode
  | some xs => if 12 < xs.length then some cFull else dueL [] xs
noncomputable def dueV (H : AHeap) (v : V) : Option Nat := dueX (lstOf H v)
structure Tl (H : AHeap) (v : V) : Prop where
  tg : Tg H v
  it : ∀ xs, lstOf H v = some xs → xs.length ≤ 1000 ∧ ∀ x ∈ xs, Tg H x
theorem lst_list {H : AHeap} {n : Nat} {xs : List V} (h : H[n]? = some (.list xs)) : lstOf H (.ref n) = some xs := by unfold lstOf; dsimp only; rw [h]
theorem lst_tuple {H : AHeap} {n : Nat} {xs : List V} (h : H[n]? = some (.tuple xs)) : lstOf H (.ref n) = none := by unfold lstOf; dsimp only; rw [h]
theorem lst_dict {H : AHeap} {n ep : Nat} {es : List (Txt × V)} (h : H[n]? = some (.dict es ep)) : lstOf H (.ref n) = none := by unfold lstOf; dsimp only; rw [h]
theorem lst_keep {H H' : AHeap} {v : V} (h : Tg H v) (k : Keep H H') : lstOf H' v = lstOf H v := by
  cases h with
  | none => rfl
  | int i => rfl
  | bool b => rfl
  | str t => rfl
  | list h => rw [lst_list h, lst_list (k.get h)]
  | tuple h => rw [lst_tuple h, lst_tuple (k.get h)]
  | dict h => rw [lst_dict h, lst_dict (k.get h)]
theorem Tl.keep {H H' : AHeap} {v : V} (h : Tl H v) (k : Keep H H') : Tl H' v := ⟨h.tg.keep k, fun xs e => by
  rw [lst_keep h.tg k] at e
  exact ⟨(h.it xs e).1, fun x hx => ((h.it xs e).2 x hx).keep k⟩⟩
theorem Tl.due {H H' : AHeap} {v : V} (h : Tl H v) (k : Keep H H') : dueV H' v = dueV H v := by unfold dueV; rw [lst_keep h.tg k]
noncomputable def Lst (H : AHeap) (v : V) (ws : List Txt) : Prop := ∃ n, v = .ref n ∧ Ws H n ws
theorem wd_isW {t : Txt} : Wd 10 t ↔ isW (.str t) = true := by
  constructor
  · intro h
    rw [isW_str, Bool.and_eq_true, decide_eq_true_eq, List.all_eq_true]
    exact ⟨⟨h.pos, h.le⟩, fun c hc => decide_eq_true (h.abc c hc)⟩
  · intro h
    rw [isW_str, Bool.and_eq_true, decide_eq_true_eq, List.all_eq_true] at h
    exact ⟨h.1.1, h.1.2, fun c hc => of_decide_eq_true (h.2 c hc)⟩
theorem dueL_good : ∀ (rs acc : List Txt), (∀ w ∈ rs, Wd 10 w) → (acc ++ rs).Nodup → dueL acc (rs.map .str) = none
  | [], _, _, _ => rfl
  | w :: rs, acc, hw, hn => by
    rw [List.map_cons, dueL_str, if_pos (wd_isW.mp (hw w (.head _))), if_neg fun hm => (List.nodup_append.mp hn).2.2 w hm w (.head _) rfl]
    exact dueL_good rs (acc ++ [w]) (fun u hu => hw u (.tail _ hu)) (by rw [List.append_assoc]; exact hn)
theorem due_good {H : AHeap} {v : V} {ws : List Txt} (h : Lst H v ws) (hc : Cd ws) : dueV H v = none := by
  obtain ⟨n, rfl, hn⟩ := h
  unfold dueV dueX
  rw [lst_list hn]
  dsimp only
  rw [if_neg (by rw [List.length_map]; have := hc.le; lia)]
  exact dueL_good ws [] hc.wd hc.nd
section
variable {T : Tab}
theorem az_mem (c : Nat) : decide (c ∈ az.cps.toList) = isC c := by
  unfold isC
  rw [decide_eq_decide]
  constructor
  · intro h
    have : ∀ d ∈ az.cps.toList, 97 ≤ d ∧ d ≤ 122 := by decide +kernel
    exact this c h
  · intro h
    have : ∀ k, k < 26 → k + 97 ∈ az.cps.toList := by decide +kernel
    have := this (c - 97) (by lia)
    rwa [Nat.sub_add_cancel h.1] at this
noncomputable def spSign2 : Spec := fun vs H Q _ => ∃ c : Nat, vs = [.str [c]] ∧ Q (.bool (isC c)) H
theorem ct_is_sign2 (h1 : Has T (nm 938756632654307293673) spIsi) (h2 : Has T (nm 1815276) spLen) (g1 : T.gv (nm 1882739) = some (.glob (nm 1882739))) (g2 : T.gv (nm 367874058560204) = some (.str az.cps.toList)) : Ct T x_is_sign b_is_sign spSign2 := by
  refine ct1 fun vs H Q X h => ?_
  obtain ⟨c, rfl, h⟩ := h
  refine ⟨_, rfl, ?_⟩
  refine r_ret ?_
  walk_at "ev"
  refine IsiA.str ?_
  walk_at "ev"
  refine if_t rfl ?_
  walk_at "ev"
  refine .inS ?_
  rw [az_mem]
  walk_at "ev"
  exact h
noncomputable def spIsWord2 : Spec := fun vs H Q _ => ∃ v : V, vs = [v] ∧ Tg H v ∧ ∀ H', Keep H H' → Q (.bool (isW v)) H'
theorem ct_is_word2 (h1 : Has T (nm 938756632654307293673) spIsi) (h2 : Has T (nm 1815276) spLen) (h3 : Has T (nm 487352597740009) spSign2) (h4 : Has T (nm 1783393) spAll) (g1 : T.gv (nm 1882739) = some (.glob (nm 1882739))) (g2 : T.gv (nm 771200664775530178509) = some (.int 10)) : Ct T x_is_word b_is_word spIsWord2 := by
  refine ct1 fun vs H Q X h => ?_
  obtain ⟨v, rfl, hv, h⟩ := h
  refine ⟨_, rfl, ?_⟩
  refine s_ite ?_
  walk_at "ev"
  cases hv with
  | none =>
    refine IsiA.nstr ?_
    walk_at "ev"
    refine if_t rfl ?_
    refine if_tt ?_
    walk_at "ev"
    exact h _ (Keep.refl _)
  | int i =>
    refine IsiA.istr ?_
    walk_at "ev"
    refine if_t rfl ?_
    refine if_tt ?_
    walk_at "ev"
    exact h _ (Keep.refl _)
  | bool b =>
    refine IsiA.bstr ?_
    walk_at "ev"
    refine if_t rfl ?_
    refine if_tt ?_
    walk_at "ev"
    exact h _ (Keep.refl _)
  | list e =>
    refine IsiA.lstr e ?_
    walk_at "ev"
    refine if_t rfl ?_
    refine if_tt ?_
    walk_at "ev"
    exact h _ (Keep.refl _)
  | tuple e =>
    refine IsiA.tstr e ?_
    walk_at "ev"
    refine if_t rfl ?_
    refine if_tt ?_
    walk_at "ev"
    exact h _ (Keep.refl _)
  | dict e =>
    refine IsiA.dstr e ?_
    walk_at "ev"
    refine if_t rfl ?_
    refine if_tt ?_
    walk_at "ev"
    exact h _ (Keep.refl _)
  | str t ht =>
    refine IsiA.str ?_
    walk_at "ev"
    refine if_f rfl ?_
    walk_at "ev"
    have fls : ¬ (1 ≤ t.length ∧ t.length ≤ 10) → isW (.str t) = false := fun hn => by rw [isW_str, decide_eq_false hn]; rfl
    refine if_dec (fun h0 => ?_) fun h0 => ?_
    · walk_at "ev"
      refine if_ndec (fun hn => ?_) fun hy => ?_
      · walk_at "ev"
        have := h _ (Keep.refl _)
        rwa [fls (fun q => hn (by lia))] at this
      · walk_at "ev"
        refine r_ret ?_
        walk_at "ev"
        refine ⟨by rw [List.length_map]; unfold lid; lia, ?_⟩
        refine comp_map (P := fun x v => ∃ c, x = .one (.str [c]) ∧ v = .bool (isC c)) _ _ _ (fun _ _ => trivial) (fun x hx H' k' => ?_) fun vs H' ha k' => ?_
        · obtain ⟨c, hc, rfl⟩ := List.mem_map.mp hx
          refine ⟨_, rfl, fun q hq => ?_⟩
          walk_at "ev"
          exact ⟨c, rfl, hq _ _ ⟨c, rfl, rfl⟩ (Keep.refl _)⟩
        · have go : ∀ (t : Txt) (vs : List V), All2 (fun x v => ∃ c, x = Item.one (.str [c]) ∧ v = .bool (isC c)) (t.map fun c => Item.one (.str [c])) vs → vs = (t.map isC).map .bool := by
            intro t
            induction t with
            | nil => intro vs h; cases h; rfl
            | cons c t ih =>
              intro vs h
              cases h with
              | cons h1 h2 => obtain ⟨d, e1, rfl⟩ := h1; cases e1; rw [ih _ h2]; rfl
          rw [go t vs ha]
          refine ⟨H'.length, t.map isC, rfl, get_new, ?_⟩
          have := h _ (k'.trans (Keep.new _ [AObj.list ((t.map isC).map .bool)]))
          have e : isW (.str t) = (t.map isC).all id := by
            rw [isW_str, decide_eq_true (p := 1 ≤ t.length ∧ t.length ≤ 10) (by lia), Bool.true_and, List.all_map]; rfl
          rwa [e] at this
    · refine if_t rfl ?_
      walk_at "ev"
      have := h _ (Keep.refl _)
      rwa [fls (fun q => h0 (by lia))] at this
noncomputable def spChk : Spec := fun vs H Q X => ∃ v : V, vs = [v] ∧ Tl H v ∧ 1 ≤ H.length ∧
  (∀ ws ys p H', Lst H v ws → Cd ws → ys.Perm ws → ys.Pairwise (fun a b => ¬ b < a) → H.length ≤ p → Ws H' p ys → Keep H H' → Q (.ref p) H') ∧ ∀ c H', dueV H v = some c → Keep H H' → X (nm c) H'
theorem ct_checked2 (h1 : Has T (nm 938756632654307293673) spIsi) (h2 : Has T (nm 1815276) spLen) (h3 : Has T (nm 443751708752361) spIsWord2) (h4 : HasM T .list (nm 3465715398753) spAppend) (h5 : Has T (nm 3463330969587) spSorted) (g1 : T.gv (nm 245167340) = some (.glob (nm 245167340))) (g2 : T.gv (nm 770486307810356553677) = some (.int 12))
    (c1 : T.cls (nm 447668609953986) = true) (c2 : T.cls (nm 228276934) = true) (c3 : T.cls (nm 443751641723074) = true) (c4 : T.cls (nm 27321334740) = true) : Ct T x_checked b_checked spChk := by
  refine ct1 fun vs H Q X h => ?_
  obtain ⟨v, rfl, hT, hl1, hQ, hX⟩ := h
  refine ⟨_, rfl, ?_⟩
  refine s_ite ?_
  walk_at "ev"
  have no : lstOf H v = none → X (nm 447668609953986) H := fun e => hX cCode H (by unfold dueV; rw [e]; rfl) (Keep.refl _)
  cases hT.tg with
  | none =>
    refine IsiA.nlist ?_
    walk_at "ev"
    refine if_t rfl ?_
    exact r_raise c1 (e_str (no rfl))
  | int i =>
    refine IsiA.ilist ?_
    walk_at "ev"
    refine if_t rfl ?_
    exact r_raise c1 (e_str (no rfl))
  | bool b =>
    refine IsiA.blist ?_
    walk_at "ev"
    refine if_t rfl ?_
    exact r_raise c1 (e_str (no rfl))
  | str t =>
    refine IsiA.slist ?_
    walk_at "ev"
    refine if_t rfl ?_
    exact r_raise c1 (e_str (no rfl))
  | tuple e =>
    refine IsiA.tlist e ?_
    walk_at "ev"
    refine if_t rfl ?_
    exact r_raise c1 (e_str (no (lst_tuple e)))
  | dict e =>
    refine IsiA.dlist e ?_
    walk_at "ev"
    refine if_t rfl ?_
    exact r_raise c1 (e_str (no (lst_dict e)))
  | @list n xs e =>
    have el := lst_list e
    obtain ⟨hxl, hxs⟩ := hT.it xs el
    refine IsiA.list e ?_
    walk_at "ev"
    refine if_f rfl ?_
    walk_at "ev"
    refine s_ite ?_
    walk_at "ev"
    refine s_lenl e ?_
    walk_at "ev"
    refine if_dec (fun hgt => ?_) fun hle => ?_
    · exact r_raise c2 (e_str (hX cFull H (by unfold dueV dueX; rw [el]; dsimp only; rw [if_pos (by lia)]) (Keep.refl _)))
    have hle : ¬ 12 < xs.length := by lia
    have hdue : ∀ c, dueL [] xs = some c → dueV H (.ref n) = some c := fun c ec => by unfold dueV dueX; rw [el]; dsimp only; rw [if_neg hle]; exact ec
    walk_at "ev"
    refine s_asg ?_
    walk_at "ev"
    refine ⟨Nat.zero_le _, ?_⟩
    refine r_for ?_
    walk_at "ev"
    have kH : Keep H (H ++ [.list []]) := Keep.new _ _
    refine i_list (kH.get e) ?_
    refine for_inv (fun is σ H' => Keep H H' ∧ (∃ us rs, xs = us.map .str ++ rs ∧ is = rs.map .one ∧ Ws H' H.length us ∧ (∀ u ∈ us, Wd 10 u) ∧ us.Nodup ∧ dueL us rs = dueL [] xs) ∧ σ (nm 27076163558) = some (.ref H.length)) ?_ ?_
      ⟨kH, ⟨[], xs, rfl, rfl, get_new, (fun _ h => nomatch h), List.nodup_nil, rfl⟩, by walk_at "nm"⟩
    · rintro x is σ H' ⟨kp, ⟨us, rs, ex, ei, hu, hw, hnd, hd⟩, e1⟩
      cases rs with
      | nil => cases ei
      | cons x rs =>
        obtain ⟨rfl, rfl⟩ := List.cons.inj ei
        have hx : Tg H x := hxs x (by rw [ex]; simp)
        have hul : us.length ≤ 12 := by have := congrArg List.length ex; rw [List.length_append, List.length_map] at this; lia
        refine ⟨kp.get e, _, rfl, fun W hW => ?_⟩
        refine s_ite ?_
        walk_at "ev"
        refine ⟨x, rfl, hx.keep kp, fun H2 k2 => ?_⟩
        cases hb : isW x with
        | false =>
          walk_at "ev"
          refine if_t rfl ?_
          refine r_raise c3 (e_str (hX cWord H2 (hdue _ (by rw [← hd]; exact dueL_bad hb)) (kp.trans k2)))
        | true =>
          walk_at "ev"
          refine if_f rfl ?_
          walk_at "ev"
          obtain ⟨t, rfl⟩ : ∃ t, x = .str t := by cases x <;> first | exact ⟨_, rfl⟩ | cases hb
          have hwt : Wd 10 t := wd_isW.mpr hb
          refine s_ite ?_
          walk_at "ev"
          refine c_inw (hu.keep k2) ?_
          refine if_dec (fun hm => ?_) fun hm => ?_
          · refine r_raise c4 (e_str (hX cTwice H2 (hdue _ ?_) (kp.trans k2)))
            rw [← hd, dueL_str, if_pos hb, if_pos hm]
          · walk_at "ev"
            refine s_exp (e_methN (by walk_at "nm") (kind_l (hu.keep k2)) h4 (l1 ?_))
            walk_at "ev"
            refine s_push (by lia) (hu.keep k2) (Nat.lt_of_le_of_lt hul (by decide)) ?_
            walk_at "ev"
            refine hW _ _ ⟨(kp.trans k2).set (Nat.le_refl _), ⟨us ++ [t], rs, by rw [ex, List.map_append, List.append_assoc]; rfl, rfl, (hu.keep k2).push t, ?_, ?_, ?_⟩, by walk_at "nm"⟩
            · intro u hu'
              rcases List.mem_append.mp hu' with hu' | hu'
              · exact hw u hu'
              · rw [List.mem_singleton.mp hu']; exact hwt
            · rw [List.nodup_append]
              refine ⟨hnd, by simp, fun a ha b hb' => ?_⟩
              rw [List.mem_singleton.mp hb']
              exact fun q => hm (q ▸ ha)
            · rw [← hd, dueL_str, if_pos hb, if_neg hm]
    · rintro σ H' ⟨kp, ⟨us, rs, ex, ei, hu, hw, hnd, hd⟩, e1⟩
      refine ⟨kp.get e, ?_⟩
      cases rs with
      | cons _ _ => cases ei
      | nil =>
        rw [List.append_nil] at ex
        have hl : us.length ≤ 12 := by have := congrArg List.length ex; rw [List.length_map] at this; lia
        refine r_ret ?_
        walk_at "ev"
        refine s_sorted hu (Nat.lt_of_le_of_lt hl (by decide)) fun ys hp hs => ?_
        exact hQ us ys _ _ ⟨n, rfl, by unfold Ws; rw [e, ex]⟩ ⟨hl, hw, hnd⟩ hp hs kp.le get_new (kp.trans (Keep.new _ _))
end
noncomputable def x_law_words_of : List Str := [(nm 3496086107743)]
noncomputable def b_law_words_of : PS := (.seq (.assign (.name (nm 7339670703038821983)) (.list (.cons (.tuple (.cons (.str ⟨#[99, 111, 100, 101]⟩) (.cons (.call (.glob (nm 938756632654307293673)) (.cons (.name (nm 3496086107743)) (.cons (.glob (nm 447668609953986)) .nil))) .nil))) (.cons (.tuple (.cons (.str ⟨#[102, 117, 108, 108]⟩) (.cons (.call (.glob (nm 938756632654307293673)) (.cons (.name (nm 3496086107743)) (.cons (.glob (nm 228276934)) .nil))) .nil))) (.cons (.tuple (.cons (.str ⟨#[119, 111, 114, 100]⟩) (.cons (.call (.glob (nm 938756632654307293673)) (.cons (.name (nm 3496086107743)) (.cons (.glob (nm 443751641723074)) .nil))) .nil))) .nil))))) (.seq (.assign (.name (nm 7339670703038821983)) (.bin .Add (.name (nm 7339670703038821983)) (.list (.cons (.tuple (.cons (.str ⟨#[116, 119, 105, 99, 101]⟩) (.cons (.call (.glob (nm 938756632654307293673)) (.cons (.name (nm 3496086107743)) (.cons (.glob (nm 27321334740)) .nil))) .nil))) (.cons (.tuple (.cons (.str ⟨#[116, 104, 101, 114, 101]⟩) (.cons (.call (.glob (nm 938756632654307293673)) (.cons (.name (nm 3496086107743)) (.cons (.glob (nm 57362821026756558)) .nil))) .nil))) .nil))))) (.seq (.assign (.name (nm 7339670703038821983)) (.bin .Add (.name (nm 7339670703038821983)) (.list (.cons (.tuple (.cons (.str ⟨#[110, 117, 109, 98, 101, 114]⟩) (.cons (.call (.glob (nm 938756632654307293673)) (.cons (.name (nm 3496086107743)) (.cons (.glob (nm 64623894148134862)) .nil))) .nil))) (.cons (.tuple (.cons (.str ⟨#[119, 97, 105, 116]⟩) (.cons (.call (.glob (nm 938756632654307293673)) (.cons (.name (nm 3496086107743)) (.cons (.glob (nm 4014120237006)) .nil))) .nil))) .nil))))) (.seq (.assign (.name (nm 7339670703038821983)) (.bin .Add (.name (nm 7339670703038821983)) (.list (.cons (.tuple (.cons (.str ⟨#[115, 105, 103, 110]⟩) (.cons (.call (.glob (nm 938756632654307293673)) (.cons (.name (nm 3496086107743)) (.cons (.glob (nm 487352530710722)) .nil))) .nil))) (.cons (.tuple (.cons (.str ⟨#[114, 101, 97, 100, 105, 110, 103]⟩) (.cons (.call (.glob (nm 938756632654307293673)) (.cons (.name (nm 3496086107743)) (.cons (.glob (nm 7484321937891833806)) .nil))) .nil))) .nil))))) (.seq (.ret (.comp1 (.name (nm 252284354984115859945804035679)) (.tup [(nm 252284354984115859945804035679), (nm 8352390834288096863)]) (.itVal (.name (nm 7339670703038821983))) (.and (.name (nm 8352390834288096863)) (.call (.glob (nm 938756632654307293673)) (.cons (.name (nm 3496086107743)) (.cons (.glob (nm 1059527485209827815638)) .nil)))))) .skip)))))
noncomputable def x_law_said : List Str := [(nm 68547669436954207), (nm 4133426872077361586670994527385183)]
noncomputable def b_law_said : PS := (.seq (.tryr (.seq (.ite (.cmp1 .Eq (.name (nm 68547669436954207)) (.int 10)) (.seq (.ret (.tuple (.cons (.str ⟨#[103, 111, 111, 100]⟩) (.cons (.call (.glob (nm 443303916565603)) (.cons (.name (nm 4133426872077361586670994527385183)) .nil)) .nil)))) .skip) .skip) (.seq (.expr (.call (.glob (nm 118998566096252406625887)) (.cons (.name (nm 68547669436954207)) (.cons (.name (nm 4133426872077361586670994527385183)) .nil)))) .skip)) (nm 8277558478201501635) (nm 3496086107743) (.tuple (.cons (.str ⟨#[114, 101, 102, 117, 115, 101, 100]⟩) (.cons (.call (.glob (nm 1989854007520408181499524703)) (.cons (.name (nm 3496086107743)) .nil)) .nil)))) (.seq (.ret (.tuple (.cons (.str ⟨#[103, 111, 111, 100]⟩) (.cons .none .nil)))) .skip))
section
variable {T : Tab}
theorem e_callG {σ : Sg} {H : AHeap} {Q : VPost} {X : XPost} {g : Str} {args : PE} (hg : T.gv g = some (.glob g)) (k : (sem T args).el σ H (fun vs H1 => T.fn g vs H1 Q X) X) : (sem T (.call (.glob g) args)).ev σ H Q X := by
  show (match T.gv g with | some v => _ | Option.none => False); rw [hg]; exact k
noncomputable def CV (T : Tab) (σ : Sg) (args : PE) (Q : VPost) (X : XPost) : VPost := fun fv H1 => match fv with
  | .glob g => (sem T args).el σ H1 (fun vs H2 => T.fn g vs H2 Q X) X
  | _ => False
theorem e_callX {σ : Sg} {H : AHeap} {Q : VPost} {X : XPost} {f args : PE} (k : (sem T f).ev σ H (CV T σ args Q X) X) : (sem T (.call f args)).ev σ H Q X := k
theorem cv_glob {σ : Sg} {H : AHeap} {Q : VPost} {X : XPost} {g : Str} {args : PE} {sp : Spec} (h : Has T g sp) (k : (sem T args).el σ H (fun vs H2 => sp vs H2 Q X) X) : CV T σ args Q X (.glob g) H := by
  show (sem T args).el σ H (fun vs H2 => T.fn g vs H2 Q X) X; rw [h.fn]; exact k
theorem r_stuck {σ : Sg} {H : AHeap} {P : SPost} {X : XPost} {e : PE} {b : PS} (k : (sem T e).ev σ H (fun _ _ => False) X) : semS T (.seq (.stuck e) b) σ H P X := k
theorem r_try {σ : Sg} {H : AHeap} {P : SPost} {X : XPost} {b r : PS} {c x : Str} {h : PE} (k : semS T b σ H (SQ T r P X) (fun k H1 => T.cat k c = true ∧ ∀ a, T.hev k a h (Sg.set (fun _ => none) x (.exc a)) H1 fun v H2 => P (.ret v) (fun _ => none) H2)) : semS T (.seq (.tryr b c x h) r) σ H P X := k
theorem b_two {H : AHeap} {n : Nat} {a b : V} {k : Int} {p : V → Prop} (h : H[n]? = some (.list [a, b])) (h0 : 0 ≤ k) (h1 : k ≤ 1) (pa : k = 0 → p a) (pb : k = 1 → p b) : subA (.ref n) (.int k) H p := by
  have : k = 0 ∨ k = 1 := by lia
  rcases this with rfl | rfl
  · exact .list (j := 0) h (.pos (k := 0) (by decide) (by show (0 : Int) < ((2 : Nat) : Int); decide)) rfl (pa rfl)
  · exact .list (j := 1) h (.pos (k := 1) (by decide) (by show (1 : Int) < ((2 : Nat) : Int); decide)) rfl (pb rfl)
noncomputable def spBad1 : Spec := fun vs H _ X => ∃ v c, vs = [v] ∧ Tl H v ∧ 1 ≤ H.length ∧ dueV H v = some c ∧ ∀ H', Keep H H' → X (nm c) H'
noncomputable def spBad2 : Spec := fun vs H _ X => ∃ v a c, vs = [v, a] ∧ Tl H v ∧ 1 ≤ H.length ∧ dueV H v = some c ∧ ∀ H', Keep H H' → X (nm c) H'
noncomputable def spBad3 : Spec := fun vs H _ X => ∃ v a b c, vs = [v, a, b] ∧ Tl H v ∧ 1 ≤ H.length ∧ dueV H v = some c ∧ ∀ H', Keep H H' → X (nm c) H'
noncomputable def spInit : Spec := fun vs H _ X => ∃ a v c, vs = [a, v] ∧ Tl H v ∧ 1 ≤ H.length ∧ dueV H v = some c ∧ ∀ H', Keep H H' → X (nm c) H'
theorem chk_bad {H : AHeap} {Q : VPost} {X : XPost} {v : V} {c : Nat} (hT : Tl H v) (hl : 1 ≤ H.length) (hd : dueV H v = some c) (hX : ∀ H', Keep H H' → X (nm c) H') : spChk [v] H Q X :=
  ⟨v, rfl, hT, hl, (fun ws ys p H' hL hC _ _ _ _ _ => by rw [due_good hL hC] at hd; cases hd), fun c' H' e k => by rw [hd] at e; cases e; exact hX H' k⟩
theorem ct_countedB (h1 : Has T (nm 443303916565603) spChk) : Ct T x_counted b_counted spBad2 := by
  refine ct2 fun vs H Q X h => ?_
  obtain ⟨v, a, c, rfl, hT, hl, hd, hX⟩ := h
  refine ⟨_, _, rfl, ?_⟩
  refine s_asg ?_
  walk_at "ev"
  exact chk_bad hT hl hd hX
theorem ct_may_beginB (h1 : Has T (nm 443303916565603) spChk) : Ct T x_may_begin b_may_begin spBad2 := by
  refine ct2 fun vs H Q X h => ?_
  obtain ⟨v, a, c, rfl, hT, hl, hd, hX⟩ := h
  refine ⟨_, _, rfl, ?_⟩
  refine s_asg ?_
  walk_at "ev"
  exact chk_bad hT hl hd hX
theorem ct_partingB (h1 : Has T (nm 443303916565603) spChk) : Ct T x_parting b_parting spBad3 := by
  refine ct3 fun vs H Q X h => ?_
  obtain ⟨v, a, b, c, rfl, hT, hl, hd, hX⟩ := h
  refine ⟨_, _, _, rfl, ?_⟩
  refine s_asg ?_
  walk_at "ev"
  exact chk_bad hT hl hd hX
theorem ct_leastB (h1 : Has T (nm 443303916565603) spChk) (g : T.gv (nm 1651436) = some (.glob (nm 1651436))) : Ct T x_least b_least spBad1 := by
  refine ct1 fun vs H Q X h => ?_
  obtain ⟨v, c, rfl, hT, hl, hd, hX⟩ := h
  refine ⟨_, rfl, ?_⟩
  refine s_asg ?_
  walk_at "ev"
  refine e_callG g ?_
  walk_at "ev"
  exact chk_bad hT hl hd hX
theorem ct_doubleB (h1 : Has T (nm 443303916565603) spChk) (g : T.gv (nm 1651436) = some (.glob (nm 1651436))) : Ct T x_double b_double spBad1 := by
  refine ct1 fun vs H Q X h => ?_
  obtain ⟨v, c, rfl, hT, hl, hd, hX⟩ := h
  refine ⟨_, rfl, ?_⟩
  refine s_asg ?_
  walk_at "ev"
  refine e_callG g ?_
  walk_at "ev"
  exact chk_bad hT hl hd hX
theorem ct_heightsB (h1 : Has T (nm 443303916565603) spChk) : Ct T x_heights b_heights spBad1 := by
  refine ct1 fun vs H Q X h => ?_
  obtain ⟨v, c, rfl, hT, hl, hd, hX⟩ := h
  refine ⟨_, rfl, ?_⟩
  refine s_asg ?_
  walk_at "ev"
  exact chk_bad hT hl hd hX
theorem ct_waitB (h1 : Has T (nm 443303916565603) spChk) : Ct T x_wait b_wait spBad1 := by
  refine ct1 fun vs H Q X h => ?_
  obtain ⟨v, c, rfl, hT, hl, hd, hX⟩ := h
  refine ⟨_, rfl, ?_⟩
  refine s_asg ?_
  walk_at "ev"
  exact chk_bad hT hl hd hX
theorem ct_lateB (h1 : Has T (nm 443303916565603) spChk) : Ct T x_late b_late spBad1 := by
  refine ct1 fun vs H Q X h => ?_
  obtain ⟨v, c, rfl, hT, hl, hd, hX⟩ := h
  refine ⟨_, rfl, ?_⟩
  refine s_asg ?_
  walk_at "ev"
  exact chk_bad hT hl hd hX
theorem ct_ringB (h1 : Has T (nm 443303916565603) spChk) : Ct T x_ring b_ring spBad1 := by
  refine ct1 fun vs H Q X h => ?_
  obtain ⟨v, c, rfl, hT, hl, hd, hX⟩ := h
  refine ⟨_, rfl, ?_⟩
  refine s_asg ?_
  walk_at "ev"
  exact chk_bad hT hl hd hX
theorem ct_reader_init (h1 : Has T (nm 443303916565603) spChk) : Ct T x_Reader__init__ b_Reader__init__ spInit := by
  refine ct2 fun vs H Q X h => ?_
  obtain ⟨a, v, c, rfl, hT, hl, hd, hX⟩ := h
  refine ⟨_, _, rfl, ?_⟩
  refine r_stuck ?_
  walk_at "ev"
  exact chk_bad hT hl hd hX
noncomputable def spCalled : Spec := fun vs H _ X => ∃ (w : Int) (v : V) (c : Nat), vs = [.int w, v] ∧ 0 ≤ w ∧ w ≤ 9 ∧ Tl H v ∧ 1 ≤ H.length ∧ dueV H v = some c ∧ ∀ H', Keep H H' → X (nm c) H'
theorem ct_law_called (h1 : Has T (nm 443306355816419) spBad2) (h2 : Has T (nm 7985901584913428717) spBad2) (h3 : Has T (nm 456806792737008) spBad3) (h4 : Has T (nm 31381287660) spBad1) (h5 : Has T (nm 3499532056548) spBad1) (h6 : Has T (nm 509789213455080) spBad1) (h7 : Has T (nm 245002487) spBad1) (h8 : Has T (nm 213725420) spBad1) (h9 : Has T (nm 217822450) spBad1) (h10 : Has T (nm 3944333472466) (spCls spInit)) :
    Ct T x_law_called b_law_called spCalled := by
  refine ct2 fun vs H Q X h => ?_
  obtain ⟨w, v, c, rfl, w0, w9, hT, hl, hd, hX⟩ := h
  have g1 := h1.gv
  have g2 := h2.gv
  have g4 := h4.gv
  have g5 := h5.gv
  have g6 := h6.gv
  have g7 := h7.gv
  have g8 := h8.gv
  have g9 := h9.gv
  have bad1 : ∀ (H1 : AHeap) (Q1 : VPost), Keep H H1 → spBad1 [v] H1 Q1 X := fun H1 Q1 k => ⟨v, c, rfl, hT.keep k, Nat.le_trans hl k.le, by rw [hT.due k]; exact hd, fun H2 k2 => hX H2 (k.trans k2)⟩
  have bad2 : ∀ (H1 : AHeap) (Q1 : VPost) (a : V), Keep H H1 → spBad2 [v, a] H1 Q1 X := fun H1 Q1 a k => ⟨v, a, c, rfl, hT.keep k, Nat.le_trans hl k.le, by rw [hT.due k]; exact hd, fun H2 k2 => hX H2 (k.trans k2)⟩
  refine ⟨_, _, rfl, ?_⟩
  refine s_ite ?_
  walk_at "ev"
  refine if_dec (fun q1 => ?_) fun q1 => ?_
  · refine r_ret (e_callX ?_)
    walk_at "ev"
    refine ⟨Nat.le_of_ble_eq_true rfl, ?_⟩
    refine b_two get_new w0 (by lia) (fun _ => cv_glob h1 ?_) (fun _ => cv_glob h2 ?_)
    · walk_at "ev"
      exact bad2 _ _ _ (Keep.new _ _)
    · walk_at "ev"
      exact bad2 _ _ _ (Keep.new _ _)
  walk_at "ev"
  refine s_ite ?_
  walk_at "ev"
  refine if_dec (fun q2 => ?_) fun q2 => ?_
  · refine r_ret ?_
    walk_at "ev"
    exact ⟨v, _, _, c, rfl, hT, hl, hd, hX⟩
  walk_at "ev"
  refine s_ite ?_
  walk_at "ev"
  refine if_dec (fun q3 => ?_) fun q3 => ?_
  · refine r_ret (e_callX ?_)
    walk_at "ev"
    refine ⟨Nat.le_of_ble_eq_true rfl, ?_⟩
    walk_at "ev"
    refine b_two get_new (by lia) (by lia) (fun _ => cv_glob h4 ?_) (fun _ => cv_glob h5 ?_)
    · walk_at "ev"
      exact bad1 _ _ (Keep.new _ _)
    · walk_at "ev"
      exact bad1 _ _ (Keep.new _ _)
  walk_at "ev"
  refine s_ite ?_
  walk_at "ev"
  refine if_dec (fun q4 => ?_) fun q4 => ?_
  · refine r_ret (e_callX ?_)
    walk_at "ev"
    refine ⟨Nat.le_of_ble_eq_true rfl, ?_⟩
    walk_at "ev"
    refine b_two get_new (by lia) (by lia) (fun _ => cv_glob h6 ?_) (fun _ => cv_glob h7 ?_)
    · walk_at "ev"
      exact bad1 _ _ (Keep.new _ _)
    · walk_at "ev"
      exact bad1 _ _ (Keep.new _ _)
  walk_at "ev"
  refine s_ite ?_
  walk_at "ev"
  refine if_dec (fun q5 => ?_) fun q5 => ?_
  · refine r_ret (e_callX ?_)
    walk_at "ev"
    refine ⟨Nat.le_of_ble_eq_true rfl, ?_⟩
    walk_at "ev"
    refine b_two get_new (by lia) (by lia) (fun _ => cv_glob h8 ?_) (fun _ => cv_glob h9 ?_)
    · walk_at "ev"
      exact bad1 _ _ (Keep.new _ _)
    · walk_at "ev"
      exact bad1 _ _ (Keep.new _ _)
  walk_at "ev"
  refine r_ret ?_
  walk_at "ev"
  exact fun x => ⟨_, v, c, rfl, hT, hl, hd, hX⟩
theorem new_ob (H : AHeap) (o : AObj) : ∃ H', H ++ [o] = H' ∧ Keep H H' ∧ H'[H.length]? = some o := ⟨_, rfl, Keep.new _ _, get_new⟩
theorem bind2 {H : AHeap} {σ : Sg} {n : Nat} {x y : Str} {u v : V} (h : H[n]? = some (.tuple [u, v])) : bindA (.tup [x, y]) (.one (.ref n)) H σ = some ((σ.set x u).set y v) := bind_tup h rfl
section
variable {K : AHeap → Prop} {bind : Item → AHeap → Option Sg} {test : Sg → AHeap → (Bool → AHeap → Prop) → Prop} {elt : Sg → AHeap → VPost → Prop} {Q : List V → AHeap → Prop} {x : Item} {xs : List Item} {acc : List V} {H : AHeap} {σ : Sg} {v : V}
theorem cg_if {b : Bool} (hK : K H) (hb : bind x H = some σ) (ht : ∀ q : Bool → AHeap → Prop, q b H → test σ H q) (he : ∀ q : VPost, q v H → elt σ H q) (k : compGo K bind test elt Q xs (acc ++ if b then [v] else []) H) : compGo K bind test elt Q (x :: xs) acc H := by
  refine ⟨hK, ?_⟩
  rw [hb]
  refine ht _ ?_
  cases b with
  | true => exact he _ k
  | false => rw [if_neg Bool.false_ne_true, List.append_nil] at k; exact k
theorem cg_end (hK : K H) (k : Q acc H) : compGo K bind test elt Q [] acc H := ⟨hK, k⟩
end
theorem fitI {b : Bool} {A : Prop} {H : AHeap} {q : Bool → AHeap → Prop} (hq : q b H) (k : q true H → A) : if b = true then A else q false H := by
  cases b with
  | true => exact k hq
  | false => exact hq
noncomputable def four : List Nat := [cCode, cFull, cWord, cTwice]
noncomputable def nameOf (k : Nat) : Txt := if k = cCode then [99, 111, 100, 101] else if k = cFull then [102, 117, 108, 108] else if k = cWord then [119, 111, 114, 100] else [116, 119, 105, 99, 101]
noncomputable def spWordsOf (k a : Nat) : Spec := fun vs H Q _ => vs = [.exc a] ∧ ∀ p H', H.length ≤ p → Ws H' p [nameOf k] → Keep H H' → Q (.ref p) H'
theorem ct_law_words_of {k a : Nat} (hk : k ∈ four) (h1 : Has T (nm 938756632654307293673) (spIsiE k a)) (g1 : T.gv (nm 447668609953986) = some (.glob (nm 447668609953986))) (g2 : T.gv (nm 228276934) = some (.glob (nm 228276934))) (g3 : T.gv (nm 443751641723074) = some (.glob (nm 443751641723074))) (g4 : T.gv (nm 27321334740) = some (.glob (nm 27321334740))) (g5 : T.gv (nm 57362821026756558) = some (.glob (nm 57362821026756558))) (g6 : T.gv (nm 64623894148134862) = some (.glob (nm 64623894148134862))) (g7 : T.gv (nm 4014120237006) = some (.glob (nm 4014120237006))) (g8 : T.gv (nm 487352530710722) = some (.glob (nm 487352530710722))) (g9 : T.gv (nm 7484321937891833806) = some (.glob (nm 7484321937891833806))) (g10 : T.gv (nm 1059527485209827815638) = some (.glob (nm 1059527485209827815638))) :
    Ct T x_law_words_of b_law_words_of (spWordsOf k a) := by
  refine ct1 fun vs H Q X h => ?_
  obtain ⟨rfl, h⟩ := h
  refine ⟨_, rfl, ?_⟩
  refine s_asg ?_
  walk_at "ev"
  refine .own (b := Nat.beq k 447668609953986) (by decide) rfl ?_
  refine ⟨Nat.le_of_ble_eq_true rfl, ?_⟩
  obtain ⟨H1, e1, k1, t1⟩ := new_ob H (.tuple [(.str (Str.mk #[99, 111, 100, 101]).cps.toList), .bool (Nat.beq k 447668609953986)])
  rw [e1]
  walk_at "ev"
  refine .own (b := Nat.beq k 228276934) (by decide) rfl ?_
  refine ⟨Nat.le_of_ble_eq_true rfl, ?_⟩
  obtain ⟨H2, e2, k2, t2⟩ := new_ob H1 (.tuple [(.str (Str.mk #[102, 117, 108, 108]).cps.toList), .bool (Nat.beq k 228276934)])
  rw [e2]
  walk_at "ev"
  refine .own (b := Nat.beq k 443751641723074) (by decide) rfl ?_
  refine ⟨Nat.le_of_ble_eq_true rfl, ?_⟩
  obtain ⟨H3, e3, k3, t3⟩ := new_ob H2 (.tuple [(.str (Str.mk #[119, 111, 114, 100]).cps.toList), .bool (Nat.beq k 443751641723074)])
  rw [e3]
  walk_at "ev"
  refine ⟨Nat.le_of_ble_eq_true rfl, ?_⟩
  obtain ⟨H4, e4, k4, l4⟩ := new_ob H3 (.list [.ref H.length, .ref H1.length, .ref H2.length])
  rw [e4]
  refine s_asg ?_
  walk_at "ev"
  refine .own (b := Nat.beq k 27321334740) (by decide) rfl ?_
  refine ⟨Nat.le_of_ble_eq_true rfl, ?_⟩
  obtain ⟨H5, e5, k5, t5⟩ := new_ob H4 (.tuple [(.str (Str.mk #[116, 119, 105, 99, 101]).cps.toList), .bool (Nat.beq k 27321334740)])
  rw [e5]
  walk_at "ev"
  refine .own (b := Nat.beq k 57362821026756558) (by decide) rfl ?_
  refine ⟨Nat.le_of_ble_eq_true rfl, ?_⟩
  obtain ⟨H6, e6, k6, t6⟩ := new_ob H5 (.tuple [(.str (Str.mk #[116, 104, 101, 114, 101]).cps.toList), .bool (Nat.beq k 57362821026756558)])
  rw [e6]
  walk_at "ev"
  refine ⟨Nat.le_of_ble_eq_true rfl, ?_⟩
  obtain ⟨H7, e7, k7, l7⟩ := new_ob H6 (.list [.ref H4.length, .ref H5.length])
  rw [e7]
  refine b_lcat ((k5.trans (k6.trans k7)).get l4) l7 (Nat.le_of_ble_eq_true rfl) ?_
  obtain ⟨H8, e8, k8, l8⟩ := new_ob H7 (.list ([.ref H.length, .ref H1.length, .ref H2.length] ++ [.ref H4.length, .ref H5.length]))
  rw [e8]
  refine s_asg ?_
  walk_at "ev"
  refine .own (b := Nat.beq k 64623894148134862) (by decide) rfl ?_
  refine ⟨Nat.le_of_ble_eq_true rfl, ?_⟩
  obtain ⟨H9, e9, k9, t9⟩ := new_ob H8 (.tuple [(.str (Str.mk #[110, 117, 109, 98, 101, 114]).cps.toList), .bool (Nat.beq k 64623894148134862)])
  rw [e9]
  walk_at "ev"
  refine .own (b := Nat.beq k 4014120237006) (by decide) rfl ?_
  refine ⟨Nat.le_of_ble_eq_true rfl, ?_⟩
  obtain ⟨H10, e10, k10, t10⟩ := new_ob H9 (.tuple [(.str (Str.mk #[119, 97, 105, 116]).cps.toList), .bool (Nat.beq k 4014120237006)])
  rw [e10]
  walk_at "ev"
  refine ⟨Nat.le_of_ble_eq_true rfl, ?_⟩
  obtain ⟨H11, e11, k11, l11⟩ := new_ob H10 (.list [.ref H8.length, .ref H9.length])
  rw [e11]
  refine b_lcat ((k9.trans (k10.trans k11)).get l8) l11 (Nat.le_of_ble_eq_true rfl) ?_
  obtain ⟨H12, e12, k12, l12⟩ := new_ob H11 (.list (([.ref H.length, .ref H1.length, .ref H2.length] ++ [.ref H4.length, .ref H5.length]) ++ [.ref H8.length, .ref H9.length]))
  rw [e12]
  refine s_asg ?_
  walk_at "ev"
  refine .own (b := Nat.beq k 487352530710722) (by decide) rfl ?_
  refine ⟨Nat.le_of_ble_eq_true rfl, ?_⟩
  obtain ⟨H13, e13, k13, t13⟩ := new_ob H12 (.tuple [(.str (Str.mk #[115, 105, 103, 110]).cps.toList), .bool (Nat.beq k 487352530710722)])
  rw [e13]
  walk_at "ev"
  refine .own (b := Nat.beq k 7484321937891833806) (by decide) rfl ?_
  refine ⟨Nat.le_of_ble_eq_true rfl, ?_⟩
  obtain ⟨H14, e14, k14, t14⟩ := new_ob H13 (.tuple [(.str (Str.mk #[114, 101, 97, 100, 105, 110, 103]).cps.toList), .bool (Nat.beq k 7484321937891833806)])
  rw [e14]
  walk_at "ev"
  refine ⟨Nat.le_of_ble_eq_true rfl, ?_⟩
  obtain ⟨H15, e15, k15, l15⟩ := new_ob H14 (.list [.ref H12.length, .ref H13.length])
  rw [e15]
  refine b_lcat ((k13.trans (k14.trans k15)).get l12) l15 (Nat.le_of_ble_eq_true rfl) ?_
  obtain ⟨H16, e16, k16, l16⟩ := new_ob H15 (.list ((([.ref H.length, .ref H1.length, .ref H2.length] ++ [.ref H4.length, .ref H5.length]) ++ [.ref H8.length, .ref H9.length]) ++ [.ref H12.length, .ref H13.length]))
  rw [e16]
  refine r_ret ?_
  walk_at "ev"
  have m14 := k15.trans k16
  have m13 := k14.trans m14
  have m12 := k13.trans m13
  have m10 := (k11.trans k12).trans m12
  have m9 := k10.trans m10
  have m8 := k9.trans m9
  have m6 := (k7.trans k8).trans m8
  have m5 := k6.trans m6
  have m4 := k5.trans m5
  have m3 := k4.trans m4
  have m2 := k3.trans m3
  have m1 := k2.trans m2
  refine i_list l16 ⟨Nat.le_of_ble_eq_true rfl, ?_⟩
  refine cg_if l16 (bind2 (m1.get t1)) (fun q hq => by walk_at "ev"; refine fitI hq fun hq => ?_; walk_at "ev"; exact IsiE.val hq) (fun q hq => by walk_at "ev"; exact hq) ?_
  refine cg_if l16 (bind2 (m2.get t2)) (fun q hq => by walk_at "ev"; refine fitI hq fun hq => ?_; walk_at "ev"; exact IsiE.val hq) (fun q hq => by walk_at "ev"; exact hq) ?_
  refine cg_if l16 (bind2 (m3.get t3)) (fun q hq => by walk_at "ev"; refine fitI hq fun hq => ?_; walk_at "ev"; exact IsiE.val hq) (fun q hq => by walk_at "ev"; exact hq) ?_
  refine cg_if l16 (bind2 (m5.get t5)) (fun q hq => by walk_at "ev"; refine fitI hq fun hq => ?_; walk_at "ev"; exact IsiE.val hq) (fun q hq => by walk_at "ev"; exact hq) ?_
  refine cg_if l16 (bind2 (m6.get t6)) (fun q hq => by walk_at "ev"; refine fitI hq fun hq => ?_; walk_at "ev"; exact IsiE.val hq) (fun q hq => by walk_at "ev"; exact hq) ?_
  refine cg_if l16 (bind2 (m9.get t9)) (fun q hq => by walk_at "ev"; refine fitI hq fun hq => ?_; walk_at "ev"; exact IsiE.val hq) (fun q hq => by walk_at "ev"; exact hq) ?_
  refine cg_if l16 (bind2 (m10.get t10)) (fun q hq => by walk_at "ev"; refine fitI hq fun hq => ?_; walk_at "ev"; exact IsiE.val hq) (fun q hq => by walk_at "ev"; exact hq) ?_
  refine cg_if l16 (bind2 (m13.get t13)) (fun q hq => by walk_at "ev"; refine fitI hq fun hq => ?_; walk_at "ev"; exact IsiE.val hq) (fun q hq => by walk_at "ev"; exact hq) ?_
  refine cg_if l16 (bind2 (m14.get t14)) (fun q hq => by walk_at "ev"; refine fitI hq fun hq => ?_; walk_at "ev"; exact IsiE.val hq) (fun q hq => by walk_at "ev"; exact hq) ?_
  refine cg_end l16 ?_
  walk_at "ev"
  refine h _ _ ((k1.trans m1)).le ?_ ((k1.trans m1).trans (Keep.new _ _))
  unfold four at hk
  simp only [List.mem_cons, List.not_mem_nil, or_false] at hk
  rcases hk with rfl | rfl | rfl | rfl <;> exact get_new
theorem due_four {H : AHeap} {v : V} {c : Nat} (h : dueV H v = some c) : c ∈ four := by
  have goL : ∀ (xs : List V) (acc : List Txt), dueL acc xs = some c → c ∈ four := by
    intro xs
    induction xs with
    | nil => intro acc h; cases h
    | cons x r ih =>
      intro acc h
      cases hb : isW x with
      | false => rw [dueL_bad hb] at h; cases h; unfold four; simp
      | true =>
        obtain ⟨t, rfl⟩ : ∃ t, x = .str t := by cases x <;> first | exact ⟨_, rfl⟩ | cases hb
        rw [dueL_str, if_pos hb] at h
        split at h
        · cases h; unfold four; simp
        · exact ih _ h
  unfold dueV dueX at h
  split at h
  · cases h; unfold four; simp
  · split at h
    · cases h; unfold four; simp
    · exact goL _ _ h
noncomputable def refT : Txt := [114, 101, 102, 117, 115, 101, 100]
noncomputable def goodT : Txt := [103, 111, 111, 100]
noncomputable def spSaid : Spec := fun vs H Q _ => ∃ (w : Int) (v : V), vs = [.int w, v] ∧ 0 ≤ w ∧ w ≤ 10 ∧ Tl H v ∧ 1 ≤ H.length ∧
  (∀ c p q H', dueV H v = some c → H'[p]? = some (.tuple [.str refT, .ref q]) → Ws H' q [nameOf c] → Keep H H' → Q (.ref p) H') ∧
  (dueV H v = none → w = 10 ∧ ∀ ws ys p q H', Lst H v ws → Cd ws → ys.Perm ws → ys.Pairwise (fun a b => ¬ b < a) → H'[p]? = some (.tuple [.str goodT, .ref q]) → H.length ≤ q → Ws H' q ys → Keep H H' → Q (.ref p) H')
theorem ct_law_said {Th : Nat → Nat → Tab} (h1 : Has T (nm 443303916565603) spChk) (h2 : Has T (nm 118998566096252406625887) spCalled) (h3 : ∀ k ∈ four, T.cat (nm k) (nm 8277558478201501635) = true) (h4 : ∀ k ∈ four, ∀ a pe σ H Q, (sem (Th k a) pe).ev σ H Q (fun _ _ => False) → T.hev (nm k) a pe σ H Q)
    (t1 : ∀ k ∈ four, ∀ a, Has (Th k a) (nm 1989854007520408181499524703) (spWordsOf k a)) : Ct T x_law_said b_law_said spSaid := by
  refine ct2 fun vs H Q X h => ?_
  obtain ⟨w, v, rfl, w0, w10, hT, hl, hb, hg⟩ := h
  refine ⟨_, _, rfl, ?_⟩
  refine r_try ?_
  have hX : ∀ c, dueV H v = some c → ∀ H1, Keep H H1 → T.cat (nm c) (nm 8277558478201501635) = true ∧ ∀ a, T.hev (nm c) a (.tuple (.cons (.str ⟨#[114, 101, 102, 117, 115, 101, 100]⟩) (.cons (.call (.glob (nm 1989854007520408181499524703)) (.cons (.name (nm 3496086107743)) .nil)) .nil))) (Sg.set (fun _ => none) (nm 3496086107743) (.exc a)) H1 fun v H2 => RQ Q (.ret v) (fun _ => none) H2 := fun c hd H1 k1 => by
    have hc := due_four hd
    refine ⟨h3 c hc, fun a => h4 c hc a _ _ _ _ ?_⟩
    have t1 := t1 c hc a
    walk_at "ev"
    refine ⟨rfl, fun q H2 _ hq k2 => ⟨Nat.le_of_ble_eq_true rfl, ?_⟩⟩
    exact hb c _ q _ hd get_new (hq.keep (Keep.new _ _)) (k1.trans (k2.trans (Keep.new _ _)))
  refine s_ite ?_
  walk_at "ev"
  refine if_dec (fun e10 => ?_) fun e10 => ?_
  · refine r_ret ?_
    walk_at "ev"
    refine ⟨v, rfl, hT, hl, fun ws ys q H1 hL hC hp hs hq hy k1 => ⟨Nat.le_of_ble_eq_true rfl, ?_⟩, fun c H1 hd k1 => hX c hd H1 k1⟩
    exact (hg (due_good hL hC)).2 ws ys _ q _ hL hC hp hs get_new hq (hy.keep (Keep.new _ _)) (k1.trans (Keep.new _ _))
  · walk_at "ev"
    cases hd : dueV H v with
    | none => exact absurd (hg hd).1 e10
    | some c => exact ⟨w, v, c, rfl, w0, by lia, hT, hl, hd, fun H1 k1 => hX c hd H1 k1⟩
end
noncomputable def x_law_odd : List Str := [(nm 252284354984115859945804035679), (nm 7843466381129971295)]
noncomputable def b_law_odd_4 : PS := (.seq (.ret (.sub (.name (nm 7339670703038821983)) (.bin .Mod (.name (nm 7843466381129971295)) (.int 12)))) .skip)
noncomputable def b_law_odd_3 : PS := (.seq (.assign (.name (nm 7339670703038821983)) (.bin .Add (.name (nm 7339670703038821983)) (.list (.cons (.list (.cons (.name (nm 252284354984115859945804035679)) .nil)) (.cons (.tuple (.cons (.name (nm 252284354984115859945804035679)) .nil)) (.cons (.meth (.name (nm 252284354984115859945804035679)) (nm 30815303797) .nil) (.cons (.bin .Add (.bin .Add (.slice (.name (nm 252284354984115859945804035679)) .none (.name (nm 15398215025955758113584735))) (.name (nm 7984784961380578911))) (.slice (.name (nm 252284354984115859945804035679)) (.bin .Add (.name (nm 15398215025955758113584735)) (.int 1)) .none)) (.cons .dict0 (.cons (.name (nm 7984784961380578911)) .nil))))))))) b_law_odd_4)
noncomputable def b_law_odd_2 : PS := (.seq (.assign (.name (nm 7339670703038821983)) (.list (.cons (.str ⟨#[]⟩) (.cons (.bin .Add (.bin .Add (.slice (.name (nm 252284354984115859945804035679)) .none (.name (nm 15398215025955758113584735))) (.name (nm 7984784961380578911))) (.slice (.name (nm 252284354984115859945804035679)) (.name (nm 15398215025955758113584735)) .none)) (.cons (.slice (.bin .Add (.name (nm 252284354984115859945804035679)) (.str ⟨#[97, 98, 99, 100, 101, 102, 103, 104, 105, 106, 107]⟩)) .none (.int 11)) (.cons .none (.cons (.int 7) (.cons (.bool true) .nil)))))))) b_law_odd_3)
noncomputable def b_law_odd_1 : PS := (.seq (.assign (.name (nm 7984784961380578911)) (.sub (.str ⟨#[65, 66, 90, 48, 32, 45, 95, 46, 64, 91, 96, 123]⟩) (.bin .Mod (.bin .FloorDiv (.name (nm 7843466381129971295)) (.int 176)) (.int 12)))) b_law_odd_2)
noncomputable def b_law_odd : PS := (.seq (.assign (.name (nm 15398215025955758113584735)) (.bin .Mod (.bin .FloorDiv (.name (nm 7843466381129971295)) (.int 16)) (.bin .Add (.call (.glob (nm 1815276)) (.cons (.name (nm 252284354984115859945804035679)) .nil)) (.int 1)))) b_law_odd_1)
noncomputable def x_law_due : List Str := [(nm 4133426872077361586670994527385183)]
noncomputable def b_law_due_3 : PS := (.seq (.ret (.str ⟨#[]⟩)) .skip)
noncomputable def b_law_due_l1_1 : PS := (.seq (.ite (.cmp1 .In (.sub (.name (nm 4133426872077361586670994527385183)) (.name (nm 3702244537951))) (.slice (.name (nm 4133426872077361586670994527385183)) .none (.name (nm 3702244537951)))) (.seq (.ret (.str ⟨#[116, 119, 105, 99, 101]⟩)) .skip) .skip) .skip)
noncomputable def b_law_due_l1 : PS := (.seq (.ite (.not (.call (.glob (nm 15247192613084085414819423)) (.cons (.sub (.name (nm 4133426872077361586670994527385183)) (.name (nm 3702244537951))) .nil))) (.seq (.ret (.str ⟨#[119, 111, 114, 100]⟩)) .skip) .skip) b_law_due_l1_1)
noncomputable def b_law_due_2 : PS := (.seq (.for_ (.name (nm 3702244537951)) (.itRange1 (.call (.glob (nm 1815276)) (.cons (.name (nm 4133426872077361586670994527385183)) .nil))) b_law_due_l1) b_law_due_3)
noncomputable def b_law_due_1 : PS := (.seq (.ite (.cmp1 .Gt (.call (.glob (nm 1815276)) (.cons (.name (nm 4133426872077361586670994527385183)) .nil)) (.int 12)) (.seq (.ret (.str ⟨#[102, 117, 108, 108]⟩)) .skip) .skip) b_law_due_2)
noncomputable def b_law_due : PS := (.seq (.ite (.not (.call (.glob (nm 938756632654307293673)) (.cons (.name (nm 4133426872077361586670994527385183)) (.cons (.glob (nm 245167340)) .nil)))) (.seq (.ret (.str ⟨#[99, 111, 100, 101]⟩)) .skip) .skip) b_law_due_1)
noncomputable def x_law_things : List Str := [(nm 137989276334399845594719), (nm 32292397438104173501782932616799)]
noncomputable def b_law_things_7 : PS := (.seq (.ret (.sub (.list (.cons (.call (.glob (nm 27340323572)) (.cons (.name (nm 32292397438104173501782932616799)) .nil)) (.cons .none (.cons (.str ⟨#[97, 98]⟩) (.cons .dict0 (.cons (.int 5) (.cons (.bool true) .nil))))))) (.bin .Mod (.bin .FloorDiv (.name (nm 7843466381129971295)) (.int 8)) (.int 6)))) .skip)
noncomputable def b_law_things_6 : PS := (.seq (.ite (.cmp1 .Eq (.name (nm 68547669436954207)) (.int 6)) (.seq (.assign (.name (nm 252284354984187917196244579935)) (.comp0 (.call (.glob (nm 1951640654478162685372954207)) (.cons (.bin .Add (.bin .Mult (.int 10) (.name (nm 3702244537951))) (.int 2)) .nil)) (.name (nm 3702244537951)) (.itRange1 (.int 13)))) (.seq (.ret (.bin .Add (.bin .Add (.name (nm 32292397438104173501782932616799)) (.slice (.name (nm 252284354984187917196244579935)) (.call (.glob (nm 1815276)) (.cons (.name (nm 32292397438104173501782932616799)) .nil)) .none)) (.slice (.list (.cons .none .nil)) .none (.bin .Mod (.bin .FloorDiv (.name (nm 7843466381129971295)) (.int 8)) (.int 2))))) .skip)) .skip) b_law_things_7)
noncomputable def b_law_things_5 : PS := (.seq (.ite (.and (.cmp1 .Eq (.name (nm 68547669436954207)) (.int 5)) (.cmp1 .NotEq (.name (nm 32292397438104173501782932616799)) (.list .nil))) (.seq (.assign (.name (nm 938753914656213464671)) (.sub (.name (nm 32292397438104173501782932616799)) (.bin .Mod (.bin .FloorDiv (.name (nm 7843466381129971295)) (.int 8)) (.call (.glob (nm 1815276)) (.cons (.name (nm 32292397438104173501782932616799)) .nil))))) (.seq (.ret (.bin .Add (.bin .Add (.slice (.name (nm 32292397438104173501782932616799)) .none (.name (nm 15398215025955758113584735))) (.list (.cons (.name (nm 938753914656213464671)) .nil))) (.slice (.name (nm 32292397438104173501782932616799)) (.name (nm 15398215025955758113584735)) .none))) .skip)) .skip) b_law_things_6)
noncomputable def b_law_things_4 : PS := (.seq (.ite (.cmp1 .Lt (.name (nm 68547669436954207)) (.int 5)) (.seq (.ret (.bin .Add (.bin .Add (.slice (.name (nm 32292397438104173501782932616799)) .none (.name (nm 15398215025955758113584735))) (.list (.cons (.call (.glob (nm 56738639676733023)) (.cons (.sub (.bin .Add (.name (nm 32292397438104173501782932616799)) (.list (.cons (.str ⟨#[97, 98]⟩) .nil))) (.name (nm 15398215025955758113584735))) (.cons (.bin .FloorDiv (.name (nm 7843466381129971295)) (.int 8)) .nil))) .nil))) (.slice (.name (nm 32292397438104173501782932616799)) (.name (nm 15398215025955758113584735)) .none))) .skip) .skip) b_law_things_5)
noncomputable def b_law_things_3 : PS := (.seq (.ite (.cmp1 .Lt (.name (nm 68547669436954207)) (.int 2)) (.seq (.ret (.call (.glob (nm 245167340)) (.cons (.name (nm 32292397438104173501782932616799)) .nil))) .skip) .skip) b_law_things_4)
noncomputable def b_law_things_2 : PS := (.seq (.assign (.name (nm 68547669436954207)) (.bin .Mod (.name (nm 7843466381129971295)) (.int 8))) b_law_things_3)
noncomputable def b_law_things_1 : PS := (.seq (.assign (.name (nm 15398215025955758113584735)) (.bin .Mod (.call (.glob (nm 513532042442335)) (.cons (.name (nm 137989276334399845594719)) (.cons (.int 9) .nil))) (.bin .Add (.call (.glob (nm 1815276)) (.cons (.name (nm 32292397438104173501782932616799)) .nil)) (.int 1)))) b_law_things_2)
noncomputable def b_law_things : PS := (.seq (.assign (.name (nm 7843466381129971295)) (.call (.glob (nm 513532042442335)) (.cons (.name (nm 137989276334399845594719)) (.cons (.int 8) .nil)))) b_law_things_1)
theorem isi_list {H : AHeap} {Q : VPost} {v : V} (h : Tg H v) (k : Q (.bool (lstOf H v).isSome) H) : IsiA H Q [v, .glob (nm 245167340)] := by
  cases h with
  | none => exact .nlist k
  | int i => exact .ilist k
  | bool b => exact .blist k
  | str t => exact .slist k
  | list e => rw [lst_list e] at k; exact .list e k
  | tuple e => rw [lst_tuple e] at k; exact .tlist e k
  | dict e => rw [lst_dict e] at k; exact .dlist e k
theorem lst_ref {H : AHeap} {v : V} {xs : List V} (h : Tg H v) (el : lstOf H v = some xs) : ∃ n, v = .ref n ∧ H[n]? = some (.list xs) := by
  cases h with
  | none => cases el
  | int i => cases el
  | bool b => cases el
  | str t => cases el
  | list e => rw [lst_list e] at el; cases el; exact ⟨_, rfl, e⟩
  | tuple e => rw [lst_tuple e] at el; cases el
  | dict e => rw [lst_dict e] at el; cases el
noncomputable def isS : V → Bool
  | .str _ => true
  | _ => false
theorem isi_str {H : AHeap} {Q : VPost} {v : V} (h : Tg H v) (k : Q (.bool (isS v)) H) : IsiA H Q [v, .glob (nm 1882739)] := by
  cases h with
  | none => exact .nstr k
  | int i => exact .istr k
  | bool b => exact .bstr k
  | str t => exact .str k
  | list e => exact .lstr e k
  | tuple e => exact .tstr e k
  | dict e => exact .dstr e k
section
variable {T : Tab}
noncomputable def spOdd : Spec := fun vs H Q _ => ∃ (w : Txt) (c : Int), vs = [.str w, .int c] ∧ Wd 10 w ∧ ∀ v H', Tg H' v → Keep H H' → Q v H'
theorem ct_law_odd (h1 : Has T (nm 1815276) spLen) (h2 : HasM T .str (nm 30815303797) spUpper) : Ct T x_law_odd b_law_odd spOdd := by
  refine ct2 fun vs H Q X h => ?_
  obtain ⟨w, c, rfl, hw, h⟩ := h
  have hl := hw.le
  refine ⟨_, _, rfl, ?_⟩
  refine s_asg ?_
  walk_at "ev"
  refine b_mod (by lia) fun i i0 i1 => ?_
  have t1 : (w.take i.toNat).length ≤ 10 := by rw [List.length_take]; lia
  have d1 : (w.drop i.toNat).length ≤ 10 := by rw [List.length_drop]; lia
  have d2 : (w.drop (i + 1).toNat).length ≤ 10 := by rw [List.length_drop]; lia
  have c1 : ∀ {a b : Txt} {m n : Nat}, a.length ≤ m → b.length ≤ n → (a ++ b).length ≤ m + n := fun h k => by rw [List.length_append]; lia
  refine s_asg ?_
  walk_at "ev"
  refine b_mod (by decide) fun j j0 j1 => b_sign j0 j1 fun s _ => ?_
  have hs1 : ([s] : Txt).length ≤ 1 := Nat.le_refl 1
  refine s_asg ?_
  walk_at "ev"
  refine b_to i0 ?_
  walk_at "ev"
  refine b_cat (cat_le t1 hs1 rfl) ?_
  walk_at "ev"
  refine b_from i0 ?_
  refine b_cat (cat_le (c1 t1 hs1) d1 rfl) ?_
  walk_at "ev"
  refine b_cat (cat_le hl (Nat.le_refl 11) rfl) ?_
  walk_at "ev"
  refine b_to (by decide) ?_
  walk_at "ev"
  refine ⟨Nat.le_of_ble_eq_true rfl, ?_⟩
  have tail : ∀ (σ : Sg) (G : AHeap) (n : Nat) (xs : List V), σ (nm 252284354984115859945804035679) = some (.str w) → σ (nm 15398215025955758113584735) = some (.int i) → σ (nm 7984784961380578911) = some (.str [s]) → σ (nm 7843466381129971295) = some (.int c) → σ (nm 7339670703038821983) = some (.ref n) → G[n]? = some (.list xs) → xs.length = 6 → (∀ v ∈ xs, Tg G v) → Keep H G → semS T b_law_odd_3 σ G (RQ Q) X := by
    intro σ G n xs f1 f2 f3 f4 f5 hG hx6 hxs kG
    refine s_asg ?_
    walk_at "ev"
    refine ⟨Nat.le_of_ble_eq_true rfl, ?_⟩
    obtain ⟨B, eB, kB, oB⟩ := new_ob G (.list [.str w])
    rw [eB]
    walk_at "ev"
    refine ⟨Nat.le_of_ble_eq_true rfl, ?_⟩
    obtain ⟨C, eC, kC, oC⟩ := new_ob B (.tuple [.str w])
    rw [eC]
    walk_at "ev"
    refine e_methN (by walk_at "nm") rfl h2 (l0 ?_)
    refine ⟨w, rfl, hw.abc, by lia, ?_⟩
    walk_at "ev"
    refine b_to i0 ?_
    walk_at "ev"
    refine b_cat (cat_le t1 hs1 rfl) ?_
    walk_at "ev"
    refine b_from (by lia) ?_
    refine b_cat (cat_le (c1 t1 hs1) d2 rfl) ?_
    walk_at "ev"
    obtain ⟨D, eD, kD, oD⟩ := new_ob C (.dict [] 0)
    rw [eD]
    refine ⟨Nat.le_of_ble_eq_true rfl, ?_⟩
    have kGD := kB.trans (kC.trans kD)
    refine b_lcat ((kGD.trans (Keep.new _ _)).get hG) get_new (by rw [hx6]; exact Nat.le_of_ble_eq_true rfl) ?_
    refine r_ret ?_
    walk_at "ev"
    refine b_mod (by decide) fun m m0 m1 => ?_
    have kE : ∀ {G : AHeap} {a b : AObj}, Keep G ((G ++ [a]) ++ [b]) := (Keep.new _ _).trans (Keep.new _ _)
    refine st_any get_new m0 (by rw [List.length_append, hx6]; exact m1) fun v hv => h v _ (Tg.keep ?_ kE) (kG.trans (kGD.trans kE))
    refine all_app (P := Tg D) (fun v hv => (hxs v hv).keep kGD) (all_cons (.list ((kC.trans kD).get oB)) <| all_cons (.tuple (kD.get oC)) <| all_cons (.str _ ?_) <| all_cons (.str _ (Nat.le_trans (c1 (c1 t1 hs1) d2) (by decide))) <| all_cons (.dict oD) <| all_cons (.str _ (by show 1 ≤ 1000; decide)) all_nil) v hv
    rw [List.length_map]; lia
  refine tail _ _ _ _ (by walk_at "nm") (by walk_at "nm") (by walk_at "nm") (by walk_at "nm") hit get_new rfl ?_ (Keep.new _ _)
  refine all_cons (.str _ (by decide)) <| all_cons (.str _ (Nat.le_trans (c1 (c1 t1 hs1) d1) (by decide))) <| all_cons (.str _ ?_) <| all_cons .none <| all_cons (.int _) <| all_cons (.bool _) all_nil
  rw [List.length_take]; exact Nat.le_trans (Nat.min_le_left _ _) (by decide)
noncomputable def notC : Item → Bool
  | .one (.str [c]) => !isC c
  | _ => false
theorem notC_one (c : Nat) : notC (.one (.str [c])) = !isC c := rfl
noncomputable def spLIW : Spec := fun vs H Q _ => ∃ v : V, vs = [v] ∧ Tg H v ∧ ∀ H', Keep H H' → Q (.bool (isW v)) H'
theorem ct_law_is_word (h1 : Has T (nm 938756632654307293673) spIsi) (h2 : Has T (nm 1815276) spLen) (g1 : T.gv (nm 1882739) = some (.glob (nm 1882739))) : Ct T x_law_is_word b_law_is_word spLIW := by
  refine ct1 fun vs H Q X h => ?_
  obtain ⟨v, rfl, hv, h⟩ := h
  refine ⟨_, rfl, ?_⟩
  refine s_ite ?_
  walk_at "ev"
  refine isi_str hv ?_
  walk_at "ev"
  cases hS : isS v with
  | false =>
    refine if_t rfl ?_
    refine if_tt ?_
    walk_at "ev"
    have := h _ (Keep.refl _)
    rwa [show isW v = false by cases v <;> first | rfl | cases hS] at this
  | true =>
    obtain ⟨t, rfl⟩ : ∃ t, v = .str t := by cases v <;> first | exact ⟨_, rfl⟩ | cases hS
    refine if_f rfl ?_
    walk_at "ev"
    have fls : ¬ (1 ≤ t.length ∧ t.length ≤ 10) → isW (.str t) = false := fun hn => by rw [isW_str, decide_eq_false hn]; rfl
    refine if_dec (fun h0 => ?_) fun h0 => ?_
    · walk_at "ev"
      refine if_ndec (fun hn => ?_) fun hy => ?_
      · walk_at "ev"
        have := h _ (Keep.refl _)
        rwa [fls (fun q => hn (by lia))] at this
      · walk_at "ev"
        refine ⟨by rw [List.length_map]; unfold lid; lia, ?_⟩
        refine comp_filter (p := notC) (P := fun x v => ∃ c, x = .one (.str [c]) ∧ v = .str [c]) _ _ _ (fun _ _ => trivial) (fun x hx H' k' => ?_) fun vs H' ha k' => ?_
        · obtain ⟨c, hc, rfl⟩ := List.mem_map.mp hx
          refine ⟨_, rfl, fun q hq => ?_, fun _ H1 k1 q hq => ?_⟩
          · walk_at "ev"
            refine .ninS ?_
            have := hq H' (Keep.refl _)
            rwa [notC_one, ← az_mem c] at this
          · walk_at "ev"
            exact hq _ _ ⟨c, rfl, rfl⟩ (Keep.refl _)
        · have go : ∀ (t : Txt) (vs : List V), All2 (fun x v => ∃ c, x = Item.one (.str [c]) ∧ v = .str [c]) ((t.map fun c => Item.one (.str [c])).filter notC) vs → vs = ((t.filter fun c => !isC c).map fun c => [c]).map .str := by
            intro t
            induction t with
            | nil => intro vs h; cases h; rfl
            | cons c t ih =>
              intro vs h
              rw [List.map_cons] at h
              cases hc : isC c with
              | true =>
                rw [List.filter_cons_of_neg (by rw [notC_one, hc]; decide)] at h
                rw [List.filter_cons_of_neg (by rw [hc]; decide)]
                exact ih _ h
              | false =>
                rw [List.filter_cons_of_pos (by rw [notC_one, hc]; rfl)] at h
                rw [List.filter_cons_of_pos (by rw [hc]; rfl)]
                cases h with
                | cons h1 h2 => obtain ⟨d, e1, rfl⟩ := h1; cases e1; rw [ih _ h2]; rfl
          rw [List.nil_append, go t vs ha]
          walk_at "ev"
          refine ⟨Nat.zero_le _, ?_⟩
          refine c_eqw (us := []) ((Keep.new _ _).get get_new) get_new ?_
          have := h _ (k'.trans ((Keep.new _ [AObj.list (((t.filter fun c => !isC c).map fun c => [c]).map .str)]).trans (Keep.new _ [AObj.list []])))
          have e : isW (.str t) = decide (((t.filter fun c => !isC c).map fun c => [c]) = []) := by
            rw [isW_str, decide_eq_true (p := 1 ≤ t.length ∧ t.length ≤ 10) (by lia), Bool.true_and, Bool.eq_iff_iff, decide_eq_true_eq, List.map_eq_nil_iff, List.filter_eq_nil_iff, List.all_eq_true]
            simp
          rwa [e] at this
    · refine if_t rfl ?_
      walk_at "ev"
      have := h _ (Keep.refl _)
      rwa [fls (fun q => h0 (by lia))] at this
theorem intsFrom_cons (a : Int) (n : Nat) : intsFrom a (n + 1) = a :: intsFrom (a + 1) n := by
  unfold intsFrom
  rw [List.range_succ_eq_map, List.map_cons, List.map_map]
  refine congr (congrArg _ (by simp)) (List.map_congr_left fun i _ => ?_)
  simp only [Function.comp, Int.natCast_succ]
  lia
noncomputable def dueT : Option Nat → Txt
  | none => []
  | some c => nameOf c
noncomputable def spDue : Spec := fun vs H Q _ => ∃ v : V, vs = [v] ∧ Tl H v ∧ ∀ H', Keep H H' → Q (.str (dueT (dueV H v))) H'
theorem ct_law_due (h1 : Has T (nm 938756632654307293673) spIsi) (h2 : Has T (nm 1815276) spLen) (h3 : Has T (nm 15247192613084085414819423) spLIW) (g1 : T.gv (nm 245167340) = some (.glob (nm 245167340))) : Ct T x_law_due b_law_due spDue := by
  refine ct1 fun vs H Q X h => ?_
  obtain ⟨v, rfl, hT, h⟩ := h
  refine ⟨_, rfl, ?_⟩
  refine s_ite ?_
  walk_at "ev"
  refine isi_list hT.tg ?_
  walk_at "ev"
  cases el : lstOf H v with
  | none =>
    refine if_t rfl ?_
    walk_at "ev"
    have := h _ (Keep.refl _)
    unfold dueV at this
    rw [el] at this
    exact this
  | some xs =>
    obtain ⟨hxl, hxs⟩ := hT.it xs el
    obtain ⟨n, rfl, e⟩ := lst_ref hT.tg el
    refine if_f rfl ?_
    walk_at "ev"
    refine s_ite ?_
    walk_at "ev"
    refine s_lenl e ?_
    walk_at "ev"
    refine if_dec (fun hgt => ?_) fun hle => ?_
    · walk_at "ev"
      have := h _ (Keep.refl _)
      unfold dueV at this
      rw [el, show dueX (some xs) = some cFull by unfold dueX; dsimp only; rw [if_pos (by lia)]] at this
      exact this
    have hle : ¬ 12 < xs.length := by lia
    replace h : ∀ H' d, dueL [] xs = d → Keep H H' → Q (.str (dueT d)) H' := fun H' d ec k => by
      have := h H' k
      unfold dueV at this
      rwa [el, show dueX (some xs) = d by unfold dueX; dsimp only; rw [if_neg hle]; exact ec] at this
    walk_at "ev"
    refine r_for ?_
    walk_at "ev"
    refine s_lenl e ?_
    refine rng1 (Int.natCast_nonneg _) (by unfold lid; lia) ?_
    refine for_inv (fun is σ H' => Keep H H' ∧ (∃ us rs, xs = us.map .str ++ rs ∧ is = (intsFrom us.length rs.length).map (fun i => .one (.int i)) ∧ dueL us rs = dueL [] xs) ∧ σ (nm 4133426872077361586670994527385183) = some (.ref n)) ?_ ?_
      ⟨Keep.refl _, ⟨[], xs, rfl, rfl, rfl⟩, by walk_at "nm"⟩
    · rintro x is σ H' ⟨kp, ⟨us, rs, ex, ei, hd⟩, e1⟩
      cases rs with
      | nil => cases ei
      | cons x rs =>
        rw [List.length_cons, intsFrom_cons] at ei
        obtain ⟨rfl, rfl⟩ := List.cons.inj ei
        have hx : Tg H x := hxs x (by rw [ex]; simp)
        have hxg : xs[us.length]? = some x := by rw [ex, List.getElem?_append_right (by rw [List.length_map]; exact Nat.le_refl _), List.length_map, Nat.sub_self]; rfl
        have hlt : us.length < xs.length := (List.getElem?_eq_some_iff.mp hxg).1
        have sub : ∀ (G : AHeap) (p : V → Prop), Keep H G → p x → subA (.ref n) (.int us.length) G p := fun G p kg hp => .list (j := us.length) (kg.get e) (.pos (k := (us.length : Int)) (Int.natCast_nonneg _) (Int.ofNat_lt.mpr hlt)) hxg hp
        refine ⟨trivial, _, rfl, fun W hW => ?_⟩
        refine s_ite ?_
        walk_at "ev"
        refine sub _ _ kp ?_
        refine ⟨x, rfl, hx.keep kp, fun H2 k2 => ?_⟩
        cases hb : isW x with
        | false =>
          walk_at "ev"
          refine if_t rfl ?_
          walk_at "ev"
          exact h _ (some cWord) (by rw [← hd]; exact dueL_bad hb) (kp.trans k2)
        | true =>
          walk_at "ev"
          refine if_f rfl ?_
          walk_at "ev"
          obtain ⟨t, rfl⟩ : ∃ t, x = .str t := by cases x <;> first | exact ⟨_, rfl⟩ | cases hb
          refine s_ite ?_
          walk_at "ev"
          refine sub _ _ (kp.trans k2) ?_
          walk_at "ev"
          refine b_lto ((kp.trans k2).get e) (Int.natCast_nonneg _) ?_
          have et : xs.take (us.length : Int).toNat = us.map .str := by
            rw [ex]; exact List.take_left' (by rw [List.length_map]; rfl)
          rw [et]
          refine c_inw (ws := us) get_new ?_
          refine if_dec (fun hm => ?_) fun hm => ?_
          · walk_at "ev"
            exact h _ (some cTwice) (by rw [← hd, dueL_str, if_pos hb, if_pos hm]) ((kp.trans k2).trans (Keep.new _ _))
          · walk_at "ev"
            refine hW _ _ ⟨(kp.trans k2).trans (Keep.new _ _), ⟨us ++ [t], rs, by rw [ex, List.map_append, List.append_assoc]; rfl, ?_, ?_⟩, by walk_at "nm"⟩
            · rw [List.length_append]; rfl
            · rw [← hd, dueL_str, if_pos hb, if_neg hm]
    · rintro σ H' ⟨kp, ⟨us, rs, ex, ei, hd⟩, e1⟩
      refine ⟨trivial, ?_⟩
      cases rs with
      | cons _ _ => rw [List.length_cons, intsFrom_cons] at ei; cases ei
      | nil =>
        refine r_ret ?_
        walk_at "ev"
        exact h _ none (by rw [← hd]; rfl) kp
end
inductive Tk (H : AHeap) : V → Prop
  | list {n : Nat} {xs : List V} (h : H[n]? = some (.list xs)) (hl : xs.length ≤ 1000) (hx : ∀ x ∈ xs, Tg H x) : Tk H (.ref n)
  | tuple {n : Nat} {ws : List Txt} (h : H[n]? = some (.tuple (ws.map .str))) : Tk H (.ref n)
  | dict {n ep : Nat} (h : H[n]? = some (.dict [] ep)) : Tk H (.ref n)
  | none : Tk H .none
  | str (t : Txt) (h : t.length ≤ 1000) : Tk H (.str t)
  | int (i : Int) : Tk H (.int i)
  | bool (b : Bool) : Tk H (.bool b)
theorem Tk.tl {H : AHeap} {v : V} (h : Tk H v) : Tl H v := by
  cases h with
  | list h hl hx => exact ⟨.list h, fun xs e => by rw [lst_list h] at e; cases e; exact ⟨hl, hx⟩⟩
  | tuple h => exact ⟨.tuple h, fun xs e => by rw [lst_tuple h] at e; cases e⟩
  | dict h => exact ⟨.dict h, fun xs e => by rw [lst_dict h] at e; cases e⟩
  | none => exact ⟨.none, fun xs e => nomatch e⟩
  | str t h => exact ⟨.str t h, fun xs e => nomatch e⟩
  | int i => exact ⟨.int i, fun xs e => nomatch e⟩
  | bool b => exact ⟨.bool b, fun xs e => nomatch e⟩
theorem Tk.keep {H H' : AHeap} {v : V} (h : Tk H v) (k : Keep H H') : Tk H' v := by
  cases h with
  | list h hl hx => exact .list (k.get h) hl fun x hx' => (hx x hx').keep k
  | tuple h => exact .tuple (k.get h)
  | dict h => exact .dict (k.get h)
  | none => exact .none
  | str t h => exact .str t h
  | int i => exact .int i
  | bool b => exact .bool b
section
variable {T : Tab}
noncomputable def spThings : Spec := fun vs H Q _ => ∃ (n : Nat) (ws : List Txt), vs = [.ref 0, .ref n] ∧ Scr H ∧ Ws H n ws ∧ Cd ws ∧ ∀ v H', Tk H' v → Keep H H' → Q v H'
theorem tg_wd {H : AHeap} {t : Txt} (h : Wd 10 t) : Tg H (.str t) := .str t (Nat.le_trans h.le (by decide))
theorem tg_ws {H : AHeap} {ws : List Txt} (h : ∀ w ∈ ws, Wd 10 w) : ∀ v ∈ ws.map V.str, Tg H v := all_map fun w hw => tg_wd (h w hw)
theorem ct_law_things (h1 : Has T (nm 513532042442335) spAt) (h2 : Has T (nm 1815276) spLen) (h3 : Has T (nm 245167340) spList) (h4 : Has T (nm 27340323572) spTuple) (h5 : Has T (nm 56738639676733023) spOdd) (h6 : Has T (nm 1951640654478162685372954207) spAnyW) : Ct T x_law_things b_law_things spThings := by
  refine ct2 fun vs H Q X h => ?_
  obtain ⟨n, ws, rfl, hs, hn, hC, h⟩ := h
  have hl := hC.le
  have hml : (ws.map V.str).length = ws.length := List.length_map ..
  have htk : ∀ k, ((ws.map V.str).take k).length ≤ 12 := fun k => by rw [List.length_take, hml]; lia
  have hdr : ∀ k, ((ws.map V.str).drop k).length ≤ 12 := fun k => by rw [List.length_drop, hml]; lia
  have gT : ∀ {G : AHeap} (k : Nat), ∀ v ∈ (ws.map V.str).take k, Tg G v := fun k v hv => tg_ws hC.wd v (List.mem_of_mem_take hv)
  have gD : ∀ {G : AHeap} (k : Nat), ∀ v ∈ (ws.map V.str).drop k, Tg G v := fun k v hv => tg_ws hC.wd v (List.mem_of_mem_drop hv)
  refine ⟨_, _, rfl, ?_⟩
  refine s_asg ?_
  walk_at "ev"
  refine ⟨_, rfl, by decide, hs, fun cell => ?_⟩
  refine s_asg ?_
  walk_at "ev"
  refine ⟨_, rfl, by decide, hs, fun a => ?_⟩
  walk_at "ev"
  refine len_ws hn ?_
  walk_at "ev"
  refine b_mod (by lia) fun i i0 i1 => ?_
  have three : ∀ (v : V) (G : AHeap) (P : VPost) (p q : Nat), (∀ v H', Tk H' v → Keep H H' → P v H') → Keep H G → Tg G v → G[p]? = some (.list ((ws.map .str).take i.toNat)) → G[q]? = some (.list [v]) → ∀ (e : PE) (σ : Sg), σ (nm 32292397438104173501782932616799) = some (.ref n) → σ (nm 15398215025955758113584735) = some (.int i) → (sem T (.slice (.name (nm 32292397438104173501782932616799)) (.name (nm 15398215025955758113584735)) .none)).ev σ (G ++ [.list ((ws.map .str).take i.toNat ++ [v])]) (fun b H2 => binA .Add (.ref G.length) b H2 P) X := by
    intro v G P p q hP kG hv hp hq e σ f1 f2
    walk_at "ev"
    refine b_lfrom ((kG.trans (Keep.new _ _)).get hn) i0 ?_
    have k2 : Keep G ((G ++ [.list ((ws.map .str).take i.toNat ++ [v])]) ++ [.list ((ws.map .str).drop i.toNat)]) := (Keep.new _ _).trans (Keep.new _ _)
    refine b_lcat ((Keep.new _ _).get get_new) get_new ?_ ?_
    · have := htk i.toNat
      have := hdr i.toNat
      rw [List.length_append, List.length_singleton]; unfold lid; lia
    · refine hP _ _ (.list get_new ?_ ?_) (kG.trans (k2.trans (Keep.new _ _)))
      · have := htk i.toNat
        have := hdr i.toNat
        rw [List.length_append, List.length_append, List.length_singleton]; lia
      · exact all_app (all_app (gT _) (all_cons (hv.keep (k2.trans (Keep.new _ _))) all_nil)) (gD _)
  refine s_asg ?_
  walk_at "ev"
  refine b_mod (by decide) fun way w0 w1 => ?_
  refine s_ite ?_
  walk_at "ev"
  refine if_dec (fun _ => ?_) fun _ => ?_
  · walk_at "ev"
    refine ⟨n, _, rfl, hn, ?_⟩
    walk_at "ev"
    exact h _ _ (.list get_new (by rw [hml]; lia) (tg_ws hC.wd)) (Keep.new _ _)
  walk_at "ev"
  refine s_ite ?_
  walk_at "ev"
  refine if_dec (fun _ => ?_) fun _ => ?_
  · walk_at "ev"
    refine b_lto hn i0 ?_
    obtain ⟨A, eA, kA, oA⟩ := new_ob H (.list ((ws.map .str).take i.toNat))
    rw [eA]
    walk_at "ev"
    refine ⟨Nat.le_of_ble_eq_true rfl, ?_⟩
    refine b_lcat ((kA.trans (Keep.new _ _)).get hn) get_new (by rw [hml]; exact Nat.le_trans (Nat.add_le_add_right hl 1) (by decide)) ?_
    walk_at "ev"
    refine any_wd (ws := ws ++ [[97, 98]]) (by unfold Ws; rw [List.map_append]; exact get_new) i0 (by rw [List.length_append, List.length_singleton]; exact i1) fun w hw => ?_
    walk_at "ev"
    refine ⟨w, _, rfl, ?_, fun v B hv kB => ?_⟩
    · rcases List.mem_append.mp hw with hw | hw
      · exact hC.wd w hw
      · rw [List.mem_singleton.mp hw]; exact ⟨by decide, by decide, by decide⟩
    refine ⟨Nat.le_of_ble_eq_true rfl, ?_⟩
    have kAB : Keep A B := (Keep.new _ _).trans ((Keep.new _ _).trans kB)
    obtain ⟨C, eC, kC, oC⟩ := new_ob B (.list [v])
    rw [eC]
    refine b_lcat ((kAB.trans kC).get oA) oC (by have := htk i.toNat; rw [List.length_singleton]; unfold lid; lia) ?_
    refine three v C _ _ _ (fun v H' hv k => ?_) (kA.trans (kAB.trans kC)) (hv.keep kC) ((kAB.trans kC).get oA) oC .none _ (by walk_at "nm") (by walk_at "nm")
    walk_at "ev"
    exact h v H' hv k
  walk_at "ev"
  refine s_ite ?_
  walk_at "ev"
  have rest : ∀ (σ : Sg) (G : AHeap), Keep H G → σ (nm 32292397438104173501782932616799) = some (.ref n) → σ (nm 68547669436954207) = some (.int way) → σ (nm 7843466381129971295) = some (.int cell) → semS T b_law_things_6 σ G (RQ Q) X := by
    intro σ G kG f1 f2 f3
    refine s_ite ?_
    walk_at "ev"
    refine if_dec (fun _ => ?_) fun _ => ?_
    · refine s_asg ?_
      walk_at "ev"
      refine rng1 (by decide) (by decide) ⟨ints_le (by decide), ?_⟩
      refine comp_rng (WV 10) (fun k k0 k1 H' k' q hq => ?_) fun vs H' hvl hv k' => ?_
      · walk_at "ev"
        refine b_mul (.inl (by decide)) ?_
        walk_at "ev"
        exact ⟨_, rfl, fun t ht => hq _ _ ⟨t, rfl, ht⟩ (Keep.refl _)⟩
      · obtain ⟨A, eA, kA, oA⟩ := new_ob H' (.list vs)
        rw [eA]
        have kHA := kG.trans (k'.trans kA)
        have hv13 : vs.length = 13 := hvl
        have hvT : ∀ (G : AHeap), ∀ v ∈ vs, Tg G v := fun G v hv' => by obtain ⟨t, rfl, ht⟩ := hv v hv'; exact tg_wd ht
        refine r_ret ?_
        walk_at "ev"
        refine len_ws (kHA.get hn) ?_
        refine b_lfrom oA (Int.natCast_nonneg _) ?_
        have hdl : (vs.drop (ws.length : Int).toNat).length ≤ 13 := by rw [List.length_drop]; lia
        obtain ⟨B, eB, kB, oB⟩ := new_ob A (.list (vs.drop (ws.length : Int).toNat))
        rw [eB]
        refine b_lcat ((kHA.trans kB).get hn) oB (by rw [hml]; unfold lid; lia) ?_
        obtain ⟨C, eC, kC, oC⟩ := new_ob B (.list (ws.map .str ++ vs.drop (ws.length : Int).toNat))
        rw [eC]
        walk_at "ev"
        refine ⟨Nat.le_of_ble_eq_true rfl, ?_⟩
        walk_at "ev"
        refine b_mod (by decide) fun m m0 m1 => ?_
        refine b_lto get_new m0 ?_
        have htn : ([V.none].take m.toNat).length ≤ 1 := by rw [List.length_take]; exact Nat.min_le_right _ _
        refine b_lcat (((Keep.new _ _).trans (Keep.new _ _)).get oC) get_new (by rw [List.length_append, hml]; unfold lid; lia) ?_
        walk_at "ev"
        refine h _ _ (.list get_new (by rw [List.length_append, List.length_append, hml]; lia) ?_) (kHA.trans (kB.trans (kC.trans ((Keep.new _ _).trans ((Keep.new _ _).trans (Keep.new _ _))))))
        exact all_app (all_app (tg_ws hC.wd) fun v hv' => hvT _ v (List.mem_of_mem_drop hv')) fun v hv' => by
          rw [List.mem_singleton.mp (List.mem_of_mem_take hv')]; exact .none
    · walk_at "ev"
      refine r_ret ?_
      walk_at "ev"
      refine ⟨n, _, rfl, kG.get hn, ?_⟩
      obtain ⟨A, eA, kA, oA⟩ := new_ob G (.tuple (ws.map .str))
      rw [eA]
      walk_at "ev"
      obtain ⟨B, eB, kB, oB⟩ := new_ob A (.dict [] 0)
      rw [eB]
      refine ⟨Nat.le_of_ble_eq_true rfl, ?_⟩
      walk_at "ev"
      refine b_mod (by decide) fun m m0 m1 => ?_
      refine st_any get_new m0 m1 fun v hv => h v _ (Tk.keep (H := B) ?_ (Keep.new _ _)) (kG.trans (kA.trans (kB.trans (Keep.new _ _))))
      exact all_cons (P := Tk B) (.tuple (kB.get oA)) (all_cons .none (all_cons (.str _ (by decide)) (all_cons (.dict oB) (all_cons (.int _) (all_cons (.bool _) all_nil))))) v hv
  refine if_dec (fun _ => ?_) fun _ => ?_
  · walk_at "ev"
    refine ⟨Nat.zero_le _, ?_⟩
    refine c_new (us := []) (hn.keep (Keep.new _ _)) get_new ?_
    refine if_ndec (fun hne => ?_) fun _ => ?_
    · have hwl : 1 ≤ ws.length := by cases ws with
        | nil => exact (hne rfl).elim
        | cons _ _ => simp
      obtain ⟨Z, eZ, kZ, oZ⟩ := new_ob H (.list [])
      rw [eZ]
      refine s_asg ?_
      walk_at "ev"
      refine len_ws (kZ.get hn) ?_
      refine b_mod (pos_cast hwl) fun b b0 b1 => any_wd (kZ.get hn) b0 b1 fun w hw => ?_
      walk_at "ev"
      refine b_lto (kZ.get hn) i0 ?_
      obtain ⟨A, eA, kA, oA⟩ := new_ob Z (.list ((ws.map .str).take i.toNat))
      rw [eA]
      walk_at "ev"
      refine ⟨Nat.le_of_ble_eq_true rfl, ?_⟩
      obtain ⟨C, eC, kC, oC⟩ := new_ob A (.list [.str w])
      rw [eC]
      refine b_lcat (kC.get oA) oC (by have := htk i.toNat; rw [List.length_singleton]; unfold lid; lia) ?_
      refine three (.str w) C _ _ _ (fun v H' hv k => ?_) (kZ.trans (kA.trans kC)) (tg_wd (hC.wd w hw)) (kC.get oA) oC .none _ (by walk_at "nm") (by walk_at "nm")
      walk_at "ev"
      exact h v H' hv k
    · walk_at "ev"
      exact rest _ _ (Keep.new _ _) (by walk_at "nm") (by walk_at "nm") (by walk_at "nm")
  · refine if_ff ?_
    walk_at "ev"
    exact rest _ _ (Keep.refl _) (by walk_at "nm") (by walk_at "nm") (by walk_at "nm")
end
noncomputable def x_law : List Str := [(nm 137989276334399845594719)]
noncomputable def b_law_9 : PS := (.seq (.ret (.cmp1 .Eq (.name (nm 118997990761571808736863)) (.name (nm 4133426872077361586670994527385183)))) .skip)
noncomputable def b_law_l1 : PS := (.seq (.ite (.cmp1 .NotEq (.call (.glob (nm 7265299736536053343)) (.cons (.name (nm 68547669436954207)) (.cons (.name (nm 118997990761571808736863)) .nil))) (.tuple (.cons (.str ⟨#[114, 101, 102, 117, 115, 101, 100]⟩) (.cons (.list (.cons (.name (nm 1970971523313980915569948255)) .nil)) .nil)))) (.seq (.ret (.bool false)) .skip) .skip) .skip)
noncomputable def b_law_8 : PS := (.seq (.for_ (.name (nm 68547669436954207)) (.itRange1 (.int 10)) b_law_l1) b_law_9)
noncomputable def b_law_7 : PS := (.seq (.ite (.cmp1 .NotEq (.tuple (.cons (.name (nm 252284354984110731686133134943)) (.cons (.name (nm 930329895887808525919)) .nil))) (.tuple (.cons (.str ⟨#[114, 101, 102, 117, 115, 101, 100]⟩) (.cons (.list (.cons (.name (nm 1970971523313980915569948255)) .nil)) .nil)))) (.seq (.ret (.bool false)) .skip) .skip) b_law_8)
noncomputable def b_law_6 : PS := (.seq (.ite (.cmp1 .Eq (.name (nm 1970971523313980915569948255)) (.str ⟨#[]⟩)) (.seq (.ite (.or (.cmp1 .NotEq (.name (nm 252284354984110731686133134943)) (.str ⟨#[103, 111, 111, 100]⟩)) (.or (.not (.call (.glob (nm 938756632654307293673)) (.cons (.name (nm 930329895887808525919)) (.cons (.glob (nm 245167340)) .nil)))) (.or (.cmp1 .NotEq (.name (nm 930329895887808525919)) (.call (.glob (nm 3463330969587)) (.cons (.name (nm 4133426872077361586670994527385183)) .nil))) (.cmp1 .NotEq (.name (nm 118997990761571808736863)) (.name (nm 4133426872077361586670994527385183)))))) (.seq (.ret (.bool false)) .skip) .skip) (.seq (.expr (.meth (.name (nm 930329895887808525919)) (nm 3465715398753) (.cons (.str ⟨#[]⟩) .nil))) (.seq (.ret (.and (.cmp1 .Eq (.name (nm 118997990761571808736863)) (.name (nm 4133426872077361586670994527385183))) (.cmp1 .Eq (.call (.glob (nm 7265299736536053343)) (.cons (.int 10) (.cons (.name (nm 118997990761571808736863)) .nil))) (.tuple (.cons (.str ⟨#[103, 111, 111, 100]⟩) (.cons (.call (.glob (nm 3463330969587)) (.cons (.name (nm 4133426872077361586670994527385183)) .nil)) .nil)))))) .skip))) .skip) b_law_7)
noncomputable def b_law_5 : PS := (.seq (.assign (.tup [(nm 252284354984110731686133134943), (nm 930329895887808525919)]) (.call (.glob (nm 7265299736536053343)) (.cons (.int 10) (.cons (.name (nm 118997990761571808736863)) .nil)))) b_law_6)
noncomputable def b_law_l2_1 : PS := (.seq (.ite (.or (.not (.call (.glob (nm 938756632654307293673)) (.cons (.name (nm 7267050193407211103)) (.cons (.glob (nm 228325346)) .nil)))) (.cmp1 .NotEq (.name (nm 7267050193407211103)) (.call (.glob (nm 15247192613084085414819423)) (.cons (.name (nm 957993226293642557023)) .nil)))) (.seq (.ret (.bool false)) .skip) .skip) .skip)
noncomputable def b_law_l2 : PS := (.seq (.assign (.name (nm 7267050193407211103)) (.call (.glob (nm 443751708752361)) (.cons (.name (nm 957993226293642557023)) .nil))) b_law_l2_1)
noncomputable def b_law_4 : PS := (.seq (.ite (.call (.glob (nm 938756632654307293673)) (.cons (.name (nm 4133426872077361586670994527385183)) (.cons (.glob (nm 245167340)) .nil))) (.seq (.for_ (.name (nm 957993226293642557023)) (.itVal (.name (nm 4133426872077361586670994527385183))) b_law_l2) .skip) .skip) b_law_5)
noncomputable def b_law_3 : PS := (.seq (.assign (.name (nm 118997990761571808736863)) (.ite (.call (.glob (nm 938756632654307293673)) (.cons (.name (nm 4133426872077361586670994527385183)) (.cons (.glob (nm 245167340)) .nil))) (.call (.glob (nm 245167340)) (.cons (.name (nm 4133426872077361586670994527385183)) .nil)) (.name (nm 4133426872077361586670994527385183)))) b_law_4)
noncomputable def b_law_2 : PS := (.seq (.assign (.name (nm 1970971523313980915569948255)) (.call (.glob (nm 57375978463721055)) (.cons (.name (nm 4133426872077361586670994527385183)) .nil))) b_law_3)
noncomputable def b_law_1 : PS := (.seq (.assign (.name (nm 4133426872077361586670994527385183)) (.call (.glob (nm 136726029608795942450783)) (.cons (.name (nm 137989276334399845594719)) (.cons (.name (nm 32292397438104173501782932616799)) .nil)))) b_law_2)
noncomputable def b_law : PS := (.seq (.assign (.name (nm 32292397438104173501782932616799)) (.call (.glob (nm 1067958212234506171999)) (.cons (.name (nm 137989276334399845594719)) (.cons (.int 0) .nil)))) b_law_1)
theorem sort_one {xs ys ws : List Txt} (h1 : xs.Perm ws) (h2 : ys.Perm ws) (s1 : xs.Pairwise fun a b => ¬ b < a) (s2 : ys.Pairwise fun a b => ¬ b < a) : xs = ys :=
  List.Perm.eq_of_pairwise (fun a b _ _ p q => List.le_antisymm p q) s1 s2 (h1.trans h2.symm)
theorem name_ne (c : Nat) : nameOf c ≠ [] := by
  unfold nameOf
  split
  · decide
  · split
    · decide
    · split <;> decide
theorem vstr_inj : ∀ {ws us : List Txt}, ws.map V.str = us.map V.str → ws = us
  | [], [], _ => rfl
  | [], _ :: _, h => nomatch h
  | _ :: _, [], h => nomatch h
  | a :: r, b :: t, h => by
    obtain ⟨h1, h2⟩ := List.cons.inj h
    cases h1
    rw [vstr_inj h2]
theorem Ws.one {H : AHeap} {n : Nat} {ws us : List Txt} (h : Ws H n ws) (k : Ws H n us) : ws = us := by
  unfold Ws at h k
  rw [h] at k
  injection k with k
  injection k with k
  exact vstr_inj k
theorem rd_pair {H : AHeap} {p q : Nat} {t : Txt} {ws : List Txt} (h : H[p]? = some (.tuple [.str t, .ref q])) (hq : Ws H q ws) : rd H 6 (.ref p) = some (.tuple [pd t, .list (ws.map pd)]) := by
  show H[p]?.bind (rdO (rd H 5)) = _
  rw [h]
  show (rdL (rd H 5) [.str t, .ref q]).map PyData.tuple = _
  rw [rdL, rdL, rd_list hq, rdL_str]
  rfl
theorem eqv_pair (a b : Txt) (ws us : List Txt) : PyData.eqv (.tuple [pd a, .list (ws.map pd)]) (.tuple [pd b, .list (us.map pd)]) = (decide (a = b) && decide (ws = us)) := by
  show (PyData.eqv (pd a) (pd b) && (PyData.eqv (.list (ws.map pd)) (.list (us.map pd)) && true)) = _
  rw [eqv_ws, Bool.and_true, show PyData.eqv (pd a) (pd b) = decide (a = b) from str_beq a b]
theorem c_eqp {H : AHeap} {p p' q q' : Nat} {t : Txt} {ws : List Txt} {r : Bool → Prop} (h : H[p]? = some (.tuple [.str t, .ref q])) (hq : Ws H q ws) (h' : H[p']? = some (.tuple [.str t, .ref q'])) (hq' : Ws H q' ws) (k : r true) : cmpA .Eq (.ref p) (.ref p') H r :=
  .eq (rd_pair h hq) (rd_pair h' hq') (by rw [eqv_pair, decide_eq_true rfl, decide_eq_true rfl]; exact k)
theorem c_nep {H : AHeap} {p p' q q' : Nat} {t : Txt} {ws : List Txt} {r : Bool → Prop} (h : H[p]? = some (.tuple [.str t, .ref q])) (hq : Ws H q ws) (h' : H[p']? = some (.tuple [.str t, .ref q'])) (hq' : Ws H q' ws) (k : r false) : cmpA .NotEq (.ref p) (.ref p') H r :=
  .ne (rd_pair h hq) (rd_pair h' hq') (by rw [eqv_pair, decide_eq_true rfl, decide_eq_true rfl]; exact k)
theorem bool_ne {H : AHeap} {b : Bool} {r : Bool → Prop} (k : r false) : cmpA .NotEq (.bool b) (.bool b) H r := .ne rfl rfl (by cases b <;> exact k)
inductive Sm (H : AHeap) : V → V → Prop
  | list {n m : Nat} {xs : List V} (h : H[n]? = some (.list xs)) (k : H[m]? = some (.list xs)) : Sm H (.ref n) (.ref m)
  | one {v : V} (h : Tk H v) (e : lstOf H v = none) : Sm H v v
theorem Sm.keep {H H' : AHeap} {u v : V} (h : Sm H u v) (k : Keep H H') : Sm H' u v := by
  cases h with
  | list h1 h2 => exact .list (k.get h1) (k.get h2)
  | one h e => exact .one (h.keep k) (by rw [lst_keep h.tl.tg k]; exact e)
theorem Sm.lst {H : AHeap} {u v : V} {ws : List Txt} (h : Sm H u v) (k : Lst H u ws) : ∃ n m, u = .ref n ∧ v = .ref m ∧ Ws H n ws ∧ Ws H m ws := by
  obtain ⟨n, rfl, hn⟩ := k
  generalize hu : V.ref n = u at h
  cases h with
  | list h1 h2 =>
    cases hu
    unfold Ws at hn
    rw [h1] at hn
    cases hn
    exact ⟨_, _, rfl, rfl, h1, h2⟩
  | one h e => subst hu; rw [lst_list hn] at e; cases e
theorem Sm.eq {H : AHeap} {u v : V} {r : Bool → Prop} (h : Sm H u v) (k : r true) : cmpA .Eq u v H r := by
  cases h with
  | list h1 h2 => exact .eqL h1 h2 k
  | one h e =>
    cases h with
    | list h => rw [lst_list h] at e; cases e
    | @tuple n ws h =>
      have hr : rd H 6 (.ref n) = some (.tuple (ws.map pd)) := by
        show H[n]?.bind (rdO (rd H 5)) = _
        rw [h]
        show (rdL (rd H 5) (ws.map .str)).map PyData.tuple = _
        rw [rdL_str]; rfl
      exact .eq hr hr (by rw [show PyData.eqv (.tuple (ws.map pd)) (.tuple (ws.map pd)) = true from (eqv_ws ws ws).trans (decide_eq_true rfl)]; exact k)
    | dict h => exact .eqD h h ⟨rfl, fun _ he => nomatch he⟩ k
    | none => exact .eq rfl rfl k
    | str t => exact c_eqs (by rw [decide_eq_true rfl]; exact k)
    | int i => exact c_eqi (by rw [decide_eq_true rfl]; exact k)
    | bool b => exact .eq rfl rfl (by cases b <;> exact k)
section
variable {T : Tab}
noncomputable def UN (T : Tab) (σ : Sg) (x y : Str) (r : PS) (P : SPost) (X : XPost) : VPost := fun v H1 => match bindA (.tup [x, y]) (.one v) H1 σ with
  | some σ' => semS T r σ' H1 P X
  | Option.none => False
theorem r_un2 {σ : Sg} {H : AHeap} {P : SPost} {X : XPost} {x y : Str} {e : PE} {r : PS} (k : (sem T e).ev σ H (UN T σ x y r P X) X) : semS T (.seq (.assign (.tup [x, y]) e) r) σ H P X := by
  show (sem T e).ev σ H (fun v H1 => match bindA (.tup [x, y]) (.one v) H1 σ with | some σ' => semS T r σ' H1 P X | Option.none => False) X
  exact k
theorem un2 {σ : Sg} {H : AHeap} {P : SPost} {X : XPost} {x y : Str} {r : PS} {p : Nat} {u v : V} (h : H[p]? = some (.tuple [u, v])) (k : semS T r ((σ.set x u).set y v) H P X) : UN T σ x y r P X (.ref p) H := by
  unfold UN; rw [bind2 h]; exact k
theorem law02_tail (h1 : Has T (nm 7265299736536053343) spSaid) (h2 : Has T (nm 938756632654307293673) spIsi) (h3 : Has T (nm 3463330969587) spSorted) (h4 : HasM T .list (nm 3465715398753) spAppend) (g1 : T.gv (nm 245167340) = some (.glob (nm 245167340))) {σ : Sg} {H : AHeap} {Q : VPost} {X : XPost} {hv tv : V} {d : Option Nat}
    (e1 : σ (nm 118997990761571808736863) = some hv) (e2 : σ (nm 4133426872077361586670994527385183) = some tv) (e3 : σ (nm 1970971523313980915569948255) = some (.str (dueT d))) (hT : Tl H hv) (hS : Sm H hv tv) (hl : 1 ≤ H.length) (hd : dueV H hv = d) (hQ : ∀ H', Q (.bool true) H') : semS T b_law_5 σ H (RQ Q) X := by
  refine r_un2 ?_
  walk_at "ev"
  cases d with
  | none =>
    refine ⟨10, hv, rfl, by decide, by decide, hT, hl, (fun c p q H' e => by rw [hd] at e; cases e), fun _ => ⟨rfl, fun ws ys p q H1 hL hC hp hs ht hq hy k1 => ?_⟩⟩
    obtain ⟨n, m, rfl, rfl, hn, hm⟩ := hS.lst hL
    have h64 : ws.length < 64 := Nat.lt_of_le_of_lt hC.le (by decide)
    refine un2 ht ?_
    refine s_ite ?_
    walk_at "ev"
    refine if_dec (fun _ => ?_) fun hne => absurd rfl hne
    refine s_ite ?_
    walk_at "ev"
    refine if_ndec (fun hne => absurd rfl hne) fun _ => ?_
    walk_at "ev"
    refine .list hy ?_
    walk_at "ev"
    refine if_f rfl ?_
    walk_at "ev"
    refine s_sorted (hm.keep k1) h64 fun zs pz sz => ?_
    obtain ⟨H2, eA, k2, oA⟩ := new_ob H1 (.list (zs.map .str))
    rw [eA]
    refine c_new (hy.keep k2) oA ?_
    refine if_ndec (fun hne => absurd (sort_one hp pz hs sz) hne) fun _ => ?_
    have k12 := k1.trans k2
    walk_at "ev"
    refine c_new (hn.keep k12) (hm.keep k12) ?_
    refine if_ndec (fun hne => absurd rfl hne) fun _ => ?_
    walk_at "ev"
    refine s_exp (e_methN (by walk_at "nm") (kind_l (hy.keep k2)) h4 (l1 ?_))
    walk_at "ev"
    refine s_push (by lia) (hy.keep k2) (by rw [hp.length_eq]; exact Nat.lt_trans h64 (by decide)) ?_
    have k3 : Keep H (H2.set q (.list (ys.map .str ++ [.str []]))) := k12.set hq
    generalize H2.set q (.list (ys.map .str ++ [.str []])) = H3 at k3 ⊢
    walk_at "ev"
    refine c_eqw (hn.keep k3) (hm.keep k3) ?_
    walk_at "ev"
    refine if_dec (fun _ => ?_) fun hne => absurd rfl hne
    walk_at "ev"
    refine ⟨10, _, rfl, by decide, by decide, hT.keep k3, Nat.le_trans hl k3.le, (fun c p q H' e => by rw [hT.due k3, hd] at e; cases e), fun _ => ⟨rfl, fun ws' ys' p' q' H4 hL' hC' hp' hs' ht' hq' hy' k4 => ?_⟩⟩
    obtain ⟨n', en, hn'⟩ := hL'
    cases en
    obtain rfl := hn'.one (hn.keep k3)
    walk_at "ev"
    refine s_sorted (hm.keep (k3.trans k4)) h64 fun us pu su => ?_
    obtain rfl := sort_one hp' pu hs' su
    refine ⟨Nat.le_of_ble_eq_true rfl, ?_⟩
    have k5 : ∀ {a b : AObj}, Keep H4 ((H4 ++ [a]) ++ [b]) := (Keep.new _ _).trans (Keep.new _ _)
    refine c_eqp (k5.get ht') (hy'.keep k5) get_new ((Keep.new _ _).get get_new) ?_
    walk_at "ev"
    exact hQ _
  | some c =>
    refine ⟨10, hv, rfl, by decide, by decide, hT, hl, (fun c' p q H1 e ht hq k1 => ?_), fun e => by rw [hd] at e; cases e⟩
    rw [hd] at e; cases e
    refine un2 ht ?_
    refine s_ite ?_
    walk_at "ev"
    refine if_dec (fun he => absurd he (name_ne c)) fun _ => ?_
    walk_at "ev"
    refine s_ite ?_
    walk_at "ev"
    refine ⟨Nat.le_of_ble_eq_true rfl, ?_⟩
    obtain ⟨A, eA, kA, oA⟩ := new_ob H1 (.tuple [.str refT, .ref q])
    rw [eA]
    walk_at "ev"
    refine ⟨Nat.le_of_ble_eq_true rfl, ?_⟩
    obtain ⟨B, eB, kB, oB⟩ := new_ob A (.list [.str (dueT (some c))])
    rw [eB]
    refine ⟨Nat.le_of_ble_eq_true rfl, ?_⟩
    refine c_nep (ws := [nameOf c]) ((kB.trans (Keep.new _ _)).get oA) (hq.keep (kA.trans (kB.trans (Keep.new _ _)))) get_new ((Keep.new _ _).get oB) ?_
    refine if_ff ?_
    walk_at "ev"
    refine r_for ?_
    walk_at "ev"
    refine rng1 (by decide) (by decide) ?_
    refine for_inv (fun is σ' G => Keep H G ∧ (σ' (nm 118997990761571808736863) = some hv ∧ σ' (nm 4133426872077361586670994527385183) = some tv ∧ σ' (nm 1970971523313980915569948255) = some (.str (dueT (some c)))) ∧ ∀ x ∈ is, ∃ i : Int, x = .one (.int i) ∧ 0 ≤ i ∧ i ≤ 9) ?_ ?_
      ⟨k1.trans (kA.trans (kB.trans (Keep.new _ _))), ⟨by walk_at "nm", by walk_at "nm", by walk_at "nm"⟩, fun x hx => ?_⟩
    · rintro x is σ' G ⟨kG, ⟨f1, f2, f3⟩, hx⟩
      obtain ⟨i, rfl, i0, i9⟩ := hx x (.head _)
      refine ⟨trivial, _, rfl, fun W hW => ?_⟩
      refine s_ite ?_
      walk_at "ev"
      refine ⟨i, hv, rfl, i0, by lia, hT.keep kG, Nat.le_trans hl kG.le, (fun c' p q H2 e ht hq k2 => ?_), fun e => by rw [hT.due kG, hd] at e; cases e⟩
      rw [hT.due kG, hd] at e; cases e
      walk_at "ev"
      refine ⟨Nat.le_of_ble_eq_true rfl, ?_⟩
      refine ⟨Nat.le_of_ble_eq_true rfl, ?_⟩
      have k5 : ∀ {a b : AObj}, Keep H2 ((H2 ++ [a]) ++ [b]) := (Keep.new _ _).trans (Keep.new _ _)
      refine c_nep (ws := [nameOf c]) (k5.get ht) (hq.keep k5) get_new ((Keep.new _ _).get get_new) ?_
      refine if_ff ?_
      walk_at "ev"
      exact hW _ _ ⟨kG.trans (k2.trans k5), ⟨by walk_at "nm", by walk_at "nm", by walk_at "nm"⟩, fun y hy => hx y (.tail _ hy)⟩
    · rintro σ' G ⟨kG, ⟨f1, f2, f3⟩, hx⟩
      refine ⟨trivial, ?_⟩
      refine r_ret ?_
      walk_at "ev"
      refine (hS.keep kG).eq ?_
      walk_at "ev"
      exact hQ _
    · obtain ⟨i, hi, rfl⟩ := List.mem_map.mp hx
      have := intsFrom_mem hi
      exact ⟨i, rfl, this.1, by have := this.2; lia⟩
theorem ct_law02 (h1 : Has T (nm 1067958212234506171999) spWords) (h2 : Has T (nm 136726029608795942450783) spThings) (h3 : Has T (nm 57375978463721055) spDue) (h4 : Has T (nm 245167340) spList) (h5 : Has T (nm 938756632654307293673) spIsi) (h6 : Has T (nm 443751708752361) spIsWord2) (h7 : Has T (nm 15247192613084085414819423) spLIW) (h8 : Has T (nm 7265299736536053343) spSaid) (h9 : Has T (nm 3463330969587) spSorted) (h10 : HasM T .list (nm 3465715398753) spAppend)
    (g2 : T.gv (nm 228325346) = some (.glob (nm 228325346))) : Ct T x_law b_law spLaw := by
  have g1 := h4.gv
  refine ct1 fun vs H Q X h => ?_
  obtain ⟨rfl, hs, hQ⟩ := h
  have hs : Scr H := hs
  refine ⟨_, rfl, ?_⟩
  refine s_asg ?_
  walk_at "ev"
  refine ⟨0, rfl, by decide, hs, fun ws p H1 hC hp hw k1 => ?_⟩
  refine s_asg ?_
  walk_at "ev"
  refine ⟨p, ws, rfl, hs.keep k1, hw, hC, fun v H2 hv k2 => ?_⟩
  have hl2 : 1 ≤ H2.length := Nat.le_trans (Nat.pos_of_ne_zero hs.pos) (k1.trans k2).le
  refine s_asg ?_
  walk_at "ev"
  refine ⟨v, rfl, hv.tl, fun H3 k3 => ?_⟩
  have hdu : dueV H3 v = dueV H2 v := hv.tl.due k3
  replace hv := hv.keep k3
  have hl3 : 1 ≤ H3.length := Nat.le_trans hl2 k3.le
  refine s_asg ?_
  refine e_ite ?_
  walk_at "ev"
  refine isi_list hv.tl.tg ?_
  walk_at "ev"
  cases el : lstOf H3 v with
  | none =>
    refine if_f rfl ?_
    walk_at "ev"
    refine s_ite ?_
    walk_at "ev"
    refine isi_list hv.tl.tg ?_
    walk_at "ev"
    rw [el]
    refine if_f rfl ?_
    walk_at "ev"
    exact law02_tail h8 h5 h9 h10 g1 (d := dueV H2 v) (by walk_at "nm") (by walk_at "nm") (by walk_at "nm") hv.tl (.one hv el) hl3 hdu hQ
  | some xs =>
    obtain ⟨n, rfl, e⟩ := lst_ref hv.tl.tg el
    obtain ⟨hxl, hxs⟩ := hv.tl.it xs el
    refine if_t rfl ?_
    walk_at "ev"
    refine ⟨n, xs, rfl, e, ?_⟩
    obtain ⟨G, eG, kG, oG⟩ := new_ob H3 (.list xs)
    rw [eG]
    refine s_ite ?_
    walk_at "ev"
    refine .list (kG.get e) ?_
    walk_at "ev"
    refine r_for ?_
    walk_at "ev"
    refine i_list (kG.get e) ?_
    refine for_inv (fun is σ G' => Keep G G' ∧ (σ (nm 118997990761571808736863) = some (.ref H3.length) ∧ σ (nm 4133426872077361586670994527385183) = some (.ref n) ∧ σ (nm 1970971523313980915569948255) = some (.str (dueT (dueV H2 (.ref n))))) ∧ ∀ x ∈ is, ∃ y, x = .one y ∧ Tg H3 y) ?_ ?_
      ⟨Keep.refl _, ⟨by walk_at "nm", by walk_at "nm", by walk_at "nm"⟩, fun x hx => ?_⟩
    · rintro x is σ' G' ⟨kp, ⟨f1, f2, f3⟩, hx⟩
      obtain ⟨y, rfl, hy⟩ := hx x (.head _)
      refine ⟨(kG.trans kp).get e, _, rfl, fun W hW => ?_⟩
      refine s_asg ?_
      walk_at "ev"
      refine ⟨y, rfl, hy.keep (kG.trans kp), fun G1 q1 => ?_⟩
      refine s_ite ?_
      walk_at "ev"
      refine .bbool ?_
      walk_at "ev"
      refine if_f rfl ?_
      walk_at "ev"
      refine ⟨y, rfl, hy.keep ((kG.trans kp).trans q1), fun G2 q2 => ?_⟩
      refine bool_ne ?_
      refine if_ff ?_
      walk_at "ev"
      exact hW _ _ ⟨kp.trans (q1.trans q2), ⟨by walk_at "nm", by walk_at "nm", by walk_at "nm"⟩, fun z hz => hx z (.tail _ hz)⟩
    · rintro σ' G' ⟨kp, ⟨f1, f2, f3⟩, hx⟩
      have kk := kG.trans kp
      refine ⟨kk.get e, ?_⟩
      walk_at "ev"
      refine law02_tail h8 h5 h9 h10 g1 (d := dueV H2 (.ref n)) (by walk_at "nm") (by walk_at "nm") (by walk_at "nm") ⟨.list (kp.get oG), fun ys ey => ?_⟩ (.list (kp.get oG) (kk.get e)) (Nat.le_trans hl3 kk.le) ?_ hQ
      · rw [lst_list (kp.get oG)] at ey; cases ey
        exact ⟨hxl, fun x hx' => (hxs x hx').keep kk⟩
      · rw [← hdu]; unfold dueV; rw [lst_list (kp.get oG), el]
    · obtain ⟨y, hy, rfl⟩ := List.mem_map.mp hx
      exact ⟨y, rfl, hxs y hy⟩
end
end Mine
end
section
namespace Mine
open PySem PyProof.Rows PySem.W
section
variable {prog : Program} {w : World} {s : Shared} {p : Program} {loose : List Str} {mean : ExcName → Option Value} {mg mb : Str → Option Value} (T : Top p loose mean mg mb s.heap)
theorem constI {x : Str} {i : Int} (h : valOf p x = some (.int i)) : ConstAt (cxOf prog w s T) x (.int i) := by
  obtain ⟨v, h1, h2⟩ := T.const x _ h
  have h3 := h2 s.heap
  cases h3
  exact ⟨_, by show gOf mg mb x = _; unfold gOf; rw [h1], fun ρ => ⟨_, rfl⟩⟩
theorem constS {x w' : Str} (h : valOf p x = some (.str w')) (ok : okT w'.cps.toList = true) : ConstAt (cxOf prog w s T) x (.str w'.cps.toList) := by
  obtain ⟨v, h1, h2⟩ := T.const x _ h
  have h3 := h2 s.heap
  cases h3
  exact ⟨_, by show gOf mg mb x = _; unfold gOf; rw [h1], fun ρ => ⟨ok, _, rfl⟩⟩
end
end Mine
end
section
namespace Mine
open PySem PyProof.Rows PySem.W
noncomputable def chkC (cs : List ClsRec) (c : Str) : Option (List Str × PS) := match cs.find? (fun d => d.name == c) with
  | some d => (match d.meths.find? (fun m => m.name == ("__init__" : Str)) with
    | some m => if goodDef m.params m.scope then (trS 60 (fun x => m.scope.names.lookup x) m.body).map fun ps => (m.params.args.map (·.arg), ps) else none
    | none => none)
  | none => none
section
variable {prog : Program} {w : World} {s : Shared} {p : Program} {loose : List Str} {mean : ExcName → Option Value} {mg mb : Str → Option Value} (T : Top p loose mean mg mb s.heap)
theorem clsDef_of (TE : TopE p loose mg s.heap) {c : Str} {xs : List Str} {ps : PS} (h : chkC (plainsOf p loose) c = some (xs, ps)) : ClsDefAt (cxOf prog w s T) c xs ps := by
  unfold chkC at h
  split at h
  · rename_i d hd
    split at h
    · rename_i m hm
      split at h
      · rename_i hg
        cases ht : trS 60 (fun x => m.scope.names.lookup x) m.body with
        | none => rw [ht] at h; cases h
        | some ps' =>
          rw [ht] at h
          cases h
          have hn : d.name = c := beq_iff_eq.mp (List.find?_some (p := fun e : ClsRec => e.name == c) hd)
          have hm' : m.name = ("__init__" : Str) := beq_iff_eq.mp (List.find?_some (p := fun e : MethRec => e.name == ("__init__" : Str)) hm)
          obtain ⟨K, N, mN, h1, P⟩ := TE d (List.mem_of_find?_eq_some hd)
          obtain ⟨f, o, pm, cd, doc, q1, q2, q3, q4, q5⟩ := P.meths m (List.mem_of_find?_eq_some hm)
          rw [hn] at h1
          rw [hm'] at q1
          exact ⟨K, N, mN, f, o, _, _, _, _, _, pm, cd, doc, g_ref T h1, P.cls, q1, q2, q3, q4, q5, hg, ht, rfl⟩
      · cases h
    · cases h
  · cases h
theorem glob_of {n : Nat} (h : ((recsOf p).any fun d => d.name == nm n) = true) : ConstAt (cxOf prog w s T) (nm n) (.glob (nm n)) := by
  obtain ⟨d, hd, e⟩ := List.any_eq_true.mp h
  obtain ⟨a, o, pm, code, doc, h1, _⟩ := T.fn d hd
  rw [beq_iff_eq.mp e] at h1
  exact ConstAt.glob (g_ref T h1)
end
theorem four_ex : ∀ c ∈ four, c ∈ exL := by decide +kernel
noncomputable def Th (c a : Nat) : Tab := tabE (tabM (tabV (T0 spNo (fun _ => false) (fun _ _ => false) (fun _ _ _ _ _ _ => False)) [(1059527485209827815638, .glob (nm 1059527485209827815638)), (7484321937891833806, .glob (nm 7484321937891833806)), (487352530710722, .glob (nm 487352530710722)), (4014120237006, .glob (nm 4014120237006)), (64623894148134862, .glob (nm 64623894148134862)), (57362821026756558, .glob (nm 57362821026756558)), (27321334740, .glob (nm 27321334740)), (443751641723074, .glob (nm 443751641723074)), (228276934, .glob (nm 228276934)), (447668609953986, .glob (nm 447668609953986))]) []) [(1989854007520408181499524703, spWordsOf c a), (938756632654307293673, spIsiE c a)]
theorem th_ok {C : Cx} {ad : Nat → Addr} (hb : ∀ p ∈ biL, C.G p.1 = some p.2) (x : ExAt C ad) (d : DefAt C (nm 1989854007520408181499524703) x_law_words_of b_law_words_of) {c : Nat} (hc4 : c ∈ four) : ∀ k a s (S : ∀ b o, C.base.get? b = some o → s.heap.get? b = some o), k = nm c →
    (∃ kk o, C.G k = some (.ref kk) ∧ s.heap.get? a = some o ∧ o.cls = .ref kk) → TabOk (C.hand s S a) (Th c a) 1 := by
  rintro k a s S rfl ⟨kk, o, hG, ho, hc⟩
  have g : ∀ i (h : i < biL.length), (C.hand s S a).G (biL[i]).1 = some (biL[i]).2 := fun i h => hb _ (List.getElem_mem h)
  rw [x.g c (four_ex c hc4)] at hG
  cases hG
  have x' := x.hand S a
  have t : TabOk (C.hand s S a) (tabV (T0 spNo (fun _ => false) (fun _ _ => false) (fun _ _ _ _ _ _ => False)) []) 0 := base_ok hb (fun _ _ _ _ _ h => h.elim) (fun _ h => nomatch h) (fun _ _ h => nomatch h) (fun _ _ _ _ _ _ h => h.elim)
  replace t := t.entV (ConstAt.glob (n := 447668609953986) (x'.g _ (by decide)))
  replace t := t.entV (ConstAt.glob (n := 228276934) (x'.g _ (by decide)))
  replace t := t.entV (ConstAt.glob (n := 443751641723074) (x'.g _ (by decide)))
  replace t := t.entV (ConstAt.glob (n := 27321334740) (x'.g _ (by decide)))
  replace t := t.entV (ConstAt.glob (n := 57362821026756558) (x'.g _ (by decide)))
  replace t := t.entV (ConstAt.glob (n := 64623894148134862) (x'.g _ (by decide)))
  replace t := t.entV (ConstAt.glob (n := 4014120237006) (x'.g _ (by decide)))
  replace t := t.entV (ConstAt.glob (n := 487352530710722) (x'.g _ (by decide)))
  replace t := t.entV (ConstAt.glob (n := 7484321937891833806) (x'.g _ (by decide)))
  replace t := t.entV (ConstAt.glob (n := 1059527485209827815638) (g 16 (by decide)))
  replace t : TabOk (C.hand s S a) (tabM (tabV (T0 spNo (fun _ => false) (fun _ _ => false) (fun _ _ _ _ _ _ => False)) _) []) 0 := t
  replace t : TabOk (C.hand s S a) (tabE (tabM (tabV (T0 spNo (fun _ => false) (fun _ _ => false) (fun _ _ _ _ _ _ => False)) _) []) []) 0 := t
  replace t := t.entB (n := 938756632654307293673) (g 1 (by decide)) (.inl ⟨_, rfl⟩) (fun fs => ok_isiE (C := (C.hand s S a).at fs) (x'.at fs) (g 16 (by decide)) (k := c) (four_ex c hc4) (hand_at ho) hc)
  exact t.ent (d.hand S a) (ct_law_words_of (a := a) hc4 (.ent rfl) (gvT rfl rfl) (gvT rfl rfl) (gvT rfl rfl) (gvT rfl rfl) (gvT rfl rfl) (gvT rfl rfl) (gvT rfl rfl) (gvT rfl rfl) (gvT rfl rfl) (gvT rfl rfl))
noncomputable def cls4 (k : Str) : Bool := four.any fun c => decide (k = nm c)
theorem cls4_of {c : Nat} (h : c ∈ four) : cls4 (nm c) = true := List.any_eq_true.mpr ⟨c, h, decide_eq_true rfl⟩
theorem of_cls4 {k : Str} (h : cls4 k = true) : ∃ c ∈ four, k = nm c := by
  obtain ⟨c, hc, e⟩ := List.any_eq_true.mp h
  exact ⟨c, hc, of_decide_eq_true e⟩
noncomputable def hev4 : Str → Nat → PE → Sg → AHeap → VPost → Prop := fun k a pe σ H Q => ∃ c, c ∈ four ∧ k = nm c ∧ (sem (Th c a) pe).ev σ H Q fun _ _ => False
theorem walk02 {C : Cx} {ad : Nat → Addr} (hb : ∀ p ∈ biL, C.G p.1 = some p.2) (hc : C.calm) (x : ExAt C ad) (xc1 : ExcCls C (nm 447668609953986)) (xc2 : ExcCls C (nm 228276934)) (xc3 : ExcCls C (nm 443751641723074)) (xc4 : ExcCls C (nm 27321334740)) (d0 : DefAt C (nm 1989854007520408181499524703) x_law_words_of b_law_words_of)
    (dR : ClsDefAt C (nm 3944333472466) x_Reader__init__ b_Reader__init__) (cL : ConstAt C (nm 1651436) (.glob (nm 1651436))) (c1 : ConstAt C (nm 367874058560204) (.str az.cps.toList)) (c2 : ConstAt C (nm 771200664775530178509) (.int 10)) (c3 : ConstAt C (nm 770486307810356553677) (.int 12))
    (d1 : DefAt C (nm 487352597740009) x_is_sign b_is_sign) (d2 : DefAt C (nm 443751708752361) x_is_word b_is_word) (d3 : DefAt C (nm 443303916565603) x_checked b_checked)
    (d4 : DefAt C (nm 443306355816419) x_counted b_counted) (d5 : DefAt C (nm 7985901584913428717) x_may_begin b_may_begin) (d6 : DefAt C (nm 456806792737008) x_parting b_parting) (d7 : DefAt C (nm 31381287660) x_least b_least) (d8 : DefAt C (nm 3499532056548) x_double b_double) (d9 : DefAt C (nm 509789213455080) x_heights b_heights) (d10 : DefAt C (nm 245002487) x_wait b_wait) (d11 : DefAt C (nm 213725420) x_late b_late) (d12 : DefAt C (nm 217822450) x_ring b_ring)
    (d13 : DefAt C (nm 513532042442335) x_law_at b_law_at) (d14 : DefAt C (nm 929683040243566540383) x_law_mixed b_law_mixed) (d15 : DefAt C (nm 1068672569199679796831) x_law_signs b_law_signs) (d16 : DefAt C (nm 7270427996206954079) x_law_word b_law_word) (d17 : DefAt C (nm 1951640654478162685372954207) x_law_any_word b_law_any_word) (d18 : DefAt C (nm 7342485246647498335) x_law_more b_law_more) (d19 : DefAt C (nm 1022192038397693425247) x_law_chain b_law_chain) (d20 : DefAt C (nm 1067958212234506171999) x_law_words b_law_words)
    (d21 : DefAt C (nm 56738639676733023) x_law_odd b_law_odd) (d22 : DefAt C (nm 15247192613084085414819423) x_law_is_word b_law_is_word) (d23 : DefAt C (nm 57375978463721055) x_law_due b_law_due) (d24 : DefAt C (nm 136726029608795942450783) x_law_things b_law_things) (d25 : DefAt C (nm 118998566096252406625887) x_law_called b_law_called) (d26 : DefAt C (nm 7265299736536053343) x_law_said b_law_said) : ∃ T, TabOk C T 29 ∧ Ct T x_law b_law spLaw := by
  have g : ∀ i (h : i < biL.length), C.G (biL[i]).1 = some (biL[i]).2 := fun i h => hb _ (List.getElem_mem h)
  have t : TabOk C (tabV (T0 spNo cls4 (fun k c => cls4 k && decide (c = (nm 8277558478201501635))) hev4) []) 1 :=
    base_ok hb (fun _ _ _ _ _ h => h.elim) (fun k h => ⟨hc, by
      obtain ⟨c, h4, rfl⟩ := of_cls4 h
      unfold four at h4
      simp only [List.mem_cons, List.not_mem_nil, or_false] at h4
      rcases h4 with rfl | rfl | rfl | rfl
      · exact xc1
      · exact xc2
      · exact xc3
      · exact xc4⟩) (fun k c h => by
      obtain ⟨h1, h2⟩ := Bool.and_eq_true_iff.mp h
      obtain ⟨n, h4, rfl⟩ := of_cls4 h1
      rw [of_decide_eq_true h2]
      exact x.caught (four_ex n h4)) fun k a pe σ H Q h => by
        obtain ⟨c, h4, e, h⟩ := h
        exact hev_ok (Th := fun _ a => Th c a) (P := fun k => k = nm c) (th_ok hb x d0 h4) k a pe σ H Q ⟨e, h⟩
  replace t := (((t.entV c1).entV c2).entV c3).entV cL
  replace t := t.entV (ConstAt.glob (n := 1882739) (g 14 (by decide)))
  replace t := t.entV (ConstAt.glob (n := 228325346) (g 15 (by decide)))
  replace t : TabOk C (tabM (tabV (T0 _ _ _ _) _) []) 1 := t
  replace t := t.entM (k := .str) (n := 232421354) (fun _ => ok_join) get_join
  replace t := t.entM (k := .list) (n := 3465715398753) (fun _ => ok_append) get_append
  replace t := t.entM (k := .str) (n := 30815303797) (fun _ => ok_upper) get_upper
  replace t : TabOk C (tabE (tabM (tabV (T0 _ _ _ _) _) _) []) 1 := t
  replace t := t.entB (n := 1815276) (g 0 (by decide)) (.inl ⟨_, rfl⟩) (fun fs => ok_len)
  replace t := t.entB (n := 938756632654307293673) (g 1 (by decide)) (.inl ⟨_, rfl⟩) (fun fs => ok_isi (C := C.at fs) (g 14 (by decide)) (g 11 (by decide)) (g 12 (by decide)) (g 10 (by decide)) (g 13 (by decide)) (g 15 (by decide)))
  replace t := t.entB (n := 1783393) (g 5 (by decide)) (.inl ⟨_, rfl⟩) (fun fs => ok_all (C := C.at fs) hc)
  replace t := t.entB (n := 3463330969587) (g 6 (by decide)) (.inl ⟨_, rfl⟩) (fun fs => ok_sorted)
  replace t := t.entB (n := 245167340) (g 11 (by decide)) (.inr (.inl ⟨_, rfl⟩)) (fun fs => ok_list_call)
  replace t := t.entB (n := 27340323572) (g 12 (by decide)) (.inr (.inl ⟨_, rfl⟩)) (fun fs => ok_tuple_call)
  replace t := t.ent d1 (ct_is_sign2 (.ent rfl) (.ent rfl) (gvT rfl rfl) (gvT rfl rfl))
  replace t := t.ent d2 (ct_is_word2 (.ent rfl) (.ent rfl) (.ent rfl) (.ent rfl) (gvT rfl rfl) (gvT rfl rfl))
  replace t := t.ent d3 (ct_checked2 (.ent rfl) (.ent rfl) (.ent rfl) (.met rfl) (.ent rfl) (Has.ent (sp := spList) rfl).gv (gvT rfl rfl) (cls4_of (c := cCode) (.head _)) (cls4_of (c := cFull) (.tail _ (.head _))) (cls4_of (c := cWord) (.tail _ (.tail _ (.head _)))) (cls4_of (c := cTwice) (.tail _ (.tail _ (.tail _ (.head _))))))
  replace t := t.ent d4 (ct_countedB (.ent rfl))
  replace t := t.ent d5 (ct_may_beginB (.ent rfl))
  replace t := t.ent d6 (ct_partingB (.ent rfl))
  replace t := t.ent d7 (ct_leastB (.ent rfl) (gvT rfl rfl))
  replace t := t.ent d8 (ct_doubleB (.ent rfl) (gvT rfl rfl))
  replace t := t.ent d9 (ct_heightsB (.ent rfl))
  replace t := t.ent d10 (ct_waitB (.ent rfl))
  replace t := t.ent d11 (ct_lateB (.ent rfl))
  replace t := t.ent d12 (ct_ringB (.ent rfl))
  replace t := t.entC dR (ct_reader_init (.ent rfl))
  replace t := t.ent d13 (ct_law_at (.ent rfl))
  replace t := t.ent d14 (ct_law_mixed)
  replace t := t.ent d15 (ct_law_signs (.met rfl))
  replace t := t.ent d16 (ct_law_word (.met rfl) (.ent rfl) (.ent rfl))
  replace t := t.ent d17 (ct_law_any_word)
  replace t := t.ent d18 (ct_law_more (.ent rfl) (.ent rfl))
  replace t := t.ent d19 (ct_law_chain (.ent rfl) (.ent rfl) (.ent rfl) (.met rfl) (.ent rfl))
  replace t := t.ent d20 (ct_law_words (.ent rfl) (.ent rfl) (.ent rfl) (.met rfl) (.ent rfl) (.ent rfl) (.ent rfl) (.ent rfl))
  replace t := t.ent d21 (ct_law_odd (.ent rfl) (.met rfl))
  replace t := t.ent d22 (ct_law_is_word (.ent rfl) (.ent rfl) (gvT rfl rfl))
  replace t := t.ent d23 (ct_law_due (.ent rfl) (.ent rfl) (.ent rfl) (Has.ent (sp := spList) rfl).gv)
  replace t := t.ent d24 (ct_law_things (.ent rfl) (.ent rfl) (.ent rfl) (.ent rfl) (.ent rfl) (.ent rfl))
  replace t := t.ent d25 (ct_law_called (.ent rfl) (.ent rfl) (.ent rfl) (.ent rfl) (.ent rfl) (.ent rfl) (.ent rfl) (.ent rfl) (.ent rfl) (.ent rfl))
  replace t := t.ent d26 (ct_law_said (Th := Th) (.ent rfl) (.ent rfl) (fun k hk => by show (cls4 (nm k) && decide ((nm 8277558478201501635) = (nm 8277558478201501635))) = true; rw [cls4_of hk, decide_eq_true rfl]; rfl) (fun k hk _ _ _ _ _ h => ⟨k, hk, rfl, h⟩) (fun _ _ _ => .ent rfl))
  exact ⟨_, t, ct_law02 (.ent rfl) (.ent rfl) (.ent rfl) (.ent rfl) (.ent rfl) (.ent rfl) (.ent rfl) (.ent rfl) (.ent rfl) (.met rfl) (gvT rfl rfl)⟩
end Mine
end
open PySem PySem.W PyProof.Rows Mine
theorem Mine.hd0 : ∀ w, Lk PySem.Challenge.rw_uf020005_02.row.prog 7890 (lkA PySem.Challenge.rw_uf020005_02.row.prog (Hook.obs exHook)) w = some ((true, true), Hook.val exHook w) := by
  intro w
  kernel_rfl
set_option maxHeartbeats 8000000 in
theorem PySem.Challenge.cw_uf020005_02_holds : PySem.Challenge.rw_uf020005_02.Holds := by
  w_on
  refine holds_law said_well fun said => ?_
  refine holds_open (q := qv) (loose := lv) (Xt := xt) (XP := XL qv []) (Yf := Hook.obs exHook) (Ya := Hook.val exHook) (YP := Hook.says exHook) (N := 7890) (left_tree hd0 hd2 hd1) (Hook.of exHook) (Hook.keeps exHook) (fun s e => xl_of s (Bool.and_eq_true_iff.mp e).1) XL.keeps (by rfl) (by rfl) (by rfl) (fun s e => recFacts_of (Bool.and_eq_true_iff.mp e).2) (by rfl) said (by decide +kernel) ⟨rfl, rfl, rfl, rfl, rfl, by decide +kernel⟩ ?hw ?hc
  case hw => w_witness2
  intro w s₀ s₁ mg mb G Y fa o pm cd doc dV kV ho hd hcd hD hmg hg args vals as hpre hlay hrd hwl hlo
  have hlo' := hlo
  refine Ground.open G ?_
  intro T B D TE TW
  clear B D TW hD hcd hd ho G
  wrow_args hpre hlay hrd hwl hlo
  refine enter_call ?_
  rename_i ns _ _ _ _ _ as1 as2 l vs as3 hL ra w1 r0 hI _ hc1 _
  have hl : l ≠ sysModules := by
    have : l ∈ as1 := by cases r0 <;> simp
    exact fun q => by have := hlo' l (List.mem_append_left _ this); rw [q] at this; cases this
  have hb := bi_of (prog := Challenge.rw_uf020005_02.row.prog) (w := w) T (by decide +kernel)
  obtain ⟨ad, hx⟩ := exAt_of (prog := Challenge.rw_uf020005_02.row.prog) (w := w) T Y
  obtain ⟨Tb, hT, hct⟩ := walk02 hb trivial hx (excCls_of T (by kernel_rfl)) (excCls_of T (by kernel_rfl)) (excCls_of T (by kernel_rfl)) (excCls_of T (by kernel_rfl)) (defAt_of T (by kernel_rfl)).1 (clsDef_of T TE (by kernel_rfl)) (glob_of T (by kernel_rfl)) (constS (w' := az) T (by kernel_rfl) (by decide +kernel)) (constI T (by kernel_rfl)) (constI T (by kernel_rfl)) (defAt_of T (by kernel_rfl)).1 (defAt_of T (by kernel_rfl)).1 (defAt_of T (by kernel_rfl)).1 (defAt_of T (by kernel_rfl)).1 (defAt_of T (by kernel_rfl)).1 (defAt_of T (by kernel_rfl)).1 (defAt_of T (by kernel_rfl)).1 (defAt_of T (by kernel_rfl)).1 (defAt_of T (by kernel_rfl)).1 (defAt_of T (by kernel_rfl)).1 (defAt_of T (by kernel_rfl)).1 (defAt_of T (by kernel_rfl)).1 (defAt_of T (by kernel_rfl)).1 (defAt_of T (by kernel_rfl)).1 (defAt_of T (by kernel_rfl)).1 (defAt_of T (by kernel_rfl)).1 (defAt_of T (by kernel_rfl)).1 (defAt_of T (by kernel_rfl)).1 (defAt_of T (by kernel_rfl)).1 (defAt_of T (by kernel_rfl)).1 (defAt_of T (by kernel_rfl)).1 (defAt_of T (by kernel_rfl)).1 (defAt_of T (by kernel_rfl)).1 (defAt_of T (by kernel_rfl)).1 (defAt_of T (by kernel_rfl)).1 (defAt_of T (by kernel_rfl)).1
  exact law_done T hT (by decide) (f := nm 1962220) (by kernel_rfl) hct hmg w1 hL hI (by omega) hl hg (fun _ => rfl) (by kernel_rfl)
