import PyProof.Rows.All
import Wide.All
import OpenK.AllK
import Wide.FinOn
import HandS.ForMost
import HandS.Wide
import HandS.SortInts
import HandS.TupLe
import HandS.Gcd
import PyProof.TupleOfSeq
import KE.KRevSl
import KE.DataEq
import HandS.TupSets
import KE.KDictPairs
import HandS.TupAny
import HandS.IsInst
import HandS.Codes
import HandS.Walk
import HandS.Zip
import HandS.TupMul
import HandS.Style
import HandS.Exc
import HandS.ExcOwn
import HandS.Flow
import HandS.Conv
import KE.GoesEnum
import KE.GoesZip
import KE.GoesMore
import KE.KTurns
import HandS.ListItems
import HandS.More
import HandS.WordsExc
import HandS.Ends
import PySem.Challenge.RW_howeverlaid_k24_alike_places
set_option Elab.async false
set_option linter.all false
set_option maxRecDepth 100000
set_option maxHeartbeats 2000000
/-! SoX: back to front (a list's, a tuple's copy), the ints of a tuple put in order. -/
namespace PYX
open PySem PySem.Spec PyProof.Rows
section
variable {prog : Program} {w : World} {A : Around} {E : Value → Shared → Prop} {s : Shared}
theorem app_rev {sl : Addr} {vk : Value} {n : Nat} {Q : Int × Int × Nat → Shared → Prop} (hs : s.heap.IsSliceOf sl .none .none vk) (pk : IsPart vk (some (-1)))
    (h : Q ((n : Int) - 1, -1, n) s) : wpAny (model prog w) A (Builtin.Slice.sliceApplied (.ref sl) (pure (n : Int))) Q E s := by
  obtain ⟨ob, hob, hcl, hda⟩ := id hs
  unfold Builtin.Slice.sliceApplied Builtin.Slice.sliceFields
  refine wpAny_bind (wpAny_bind (wpAny_field hob hda (x := .none) rfl (wpAny_bind (wpAny_field hob hda (x := .none) rfl (wpAny_bind (wpAny_field hob hda (x := vk) rfl (wpAny_pure ?_)))))))
  refine wpAny_bind (HT.slicePart_ pk ?_)
  show wpAny _ _ (if ((-1 : Int) == 0) = true then _ else _) _ _ s
  rw [if_neg (by decide)]
  refine wpAny_bind (slicePart_none (wpAny_bind (slicePart_none (wpAny_bind (wpAny_pure ?_)))))
  have e1 : Builtin.Slice.sliceAdjust none none (-1) (n : Int) = ((n : Int) - 1, -1) := rfl
  have e2 : Builtin.Slice.slicePlaces ((n : Int) - 1) (-1) (-1) = n := by
    unfold Builtin.Slice.slicePlaces
    rw [if_neg (by decide)]
    by_cases hn : n = 0
    · subst hn; rfl
    · rw [if_pos (by omega), show (- -1 : Int) = 1 by decide, Int.ediv_one]
      omega
  show wpAny _ _ (match Builtin.Slice.sliceAdjust none none (-1) (n : Int) with | (lo, hi) => pure (lo, (-1 : Int), Builtin.Slice.slicePlaces lo hi (-1))) _ _ s
  rw [e1]
  show wpAny _ _ (pure ((n : Int) - 1, (-1 : Int), Builtin.Slice.slicePlaces ((n : Int) - 1) (-1) (-1))) _ _ s
  rw [e2]
  exact wpAny_pure h
theorem fm_same {α β : Type} {f g : α → Option β} : ∀ {l : List α}, (∀ x, x ∈ l → f x = g x) → l.filterMap f = l.filterMap g
  | [], _ => rfl
  | a :: l, h => by
    rw [List.filterMap_cons, List.filterMap_cons, h a (by simp), fm_same (l := l) fun x hx => h x (by simp [hx])]
theorem pick_back (xs : Array Value) : ((List.range xs.size).filterMap fun (m : Nat) => xs[(((xs.size : Int) - 1) + (m : Int) * (-1)).toNat]?).toArray = xs.toList.reverse.toArray := by
  congr 1
  have e : (List.range xs.size).filterMap (fun (m : Nat) => xs[(((xs.size : Int) - 1) + (m : Int) * (-1)).toNat]?) = ((List.range xs.size).map fun k => xs.size - 1 - k).filterMap (fun k => xs[k]?) := by
    rw [List.filterMap_map]
    refine fm_same fun m hm => ?_
    have := List.mem_range.mp hm
    show xs[_]? = xs[_]?
    congr 1
    show _ = xs.size - 1 - m
    omega
  rw [e, PySem.W.krv_range, List.filterMap_reverse, PySem.W.krv_all]
theorem get_back {t sl : Addr} {items : Array Value} {vk : Value} {Q : Value → Shared → Prop} (ht : IsTup s.heap t items) (hs : s.heap.IsSliceOf sl .none .none vk) (pk : IsPart vk (some (-1)))
    (h : Q (.ref s.heap.objs.size) { s with heap := s.heap.push { cls := .type "tuple", data := .seq items.toList.reverse.toArray } }) (hz : items.size ≤ sizeLine) : wpAny (model prog w) A (getItem (.ref t) (.ref sl)) Q E s := by
  have hk : sizeOk (.seq items.toList.reverse.toArray) := by
    show items.toList.reverse.toArray.size ≤ sizeLine
    rw [List.size_toArray, List.length_reverse, Array.length_toList]; exact hz
  obtain ⟨ob, hob, hcl, hda⟩ := id hs
  have hT : s.TypeIs (.ref sl) "slice" := ⟨ob, hob, hcl⟩
  unfold getItem
  try with_reducible refine wpAny_holding ?_
  first | refine wpAny_bind (wpAny_pure ?_) | skip
  refine wpAny_bind (wpAny_sequenceKey ht.typeIs (by decide) ?_)
  refine wpAny_bind (wpAny_callSpecial?_slot (name := Str.ofString "__getitem__") ht.typeIs PyProof.Rows.slot_tuple_getitem
    (wpAny_call_entry PyProof.Rows.slot_tuple_getitem ht.typeIs PyProof.Rows.entry_tuple_getitem ?_ (PyProof.Rows.args_tuple_getitem _ _)))
  show wpAny _ _ (Builtin.Tuple.tupleItemsOf (.ref t) >>= _) _ _ s
  refine wpAny_bind (PyProof.Rows.tupleItemsOf_ ht ?_)
  refine wpAny_bind (wpAny_typeOf hT ?_)
  rw [if_pos (by decide)]
  refine wpAny_bind (app_rev hs pk ?_)
  show wpAny _ _ (if ((((items.size : Nat) : Int) - 1 == 0 && (-1 : Int) == 1 && items.size == items.size)) = true then _ else _) _ _ s
  rw [if_neg (by rw [show ((-1 : Int) == 1) = false from rfl, Bool.and_false, Bool.false_and]; decide), pick_back]
  first
    | exact wpAny_bind (m := Builtin.Tuple.tupleExact _) (wpAny_newObj_type (wpAny_pure ⟨_, rfl, wpAny_pure h⟩) hk)
    | exact wpAny_bind (m := Builtin.Tuple.tupleExact _) (wpAny_newObj_type (wpAny_bind (wpAny_pure (wpAny_pure ⟨_, rfl, wpAny_pure h⟩))) hk)
    | exact wpAny_bind (wpAny_bind (m := Builtin.Tuple.tupleExact _) (wpAny_newObj_type (wpAny_pure (wpAny_pure ⟨_, rfl, wpAny_pure h⟩)) hk))
    | exact wpAny_bind (wpAny_bind (m := Builtin.Tuple.tupleExact _) (wpAny_newObj_type (wpAny_pure ⟨_, rfl, wpAny_pure h⟩) hk))
theorem gather {l : Addr} {vs : List Value} {Q : List Value → Shared → Prop} (ht : IsTup s.heap l vs.toArray) (hz : vs.length ≤ sizeLine)
    (h : ∀ h', (∀ b o, s.heap.get? b = some o → h'.get? b = some o) → s.heap.objs.size ≤ h'.objs.size → Q vs { s with heap := h' }) : wpAny (model prog w) A (collect (.ref l)) Q E s := by
  obtain ⟨ob, hob, hcl, nn, hda⟩ := id ht
  unfold collect
  refine wpAny_bind (wpAny_runValue (codeAny_builtin entry_proto_collect' ?_))
  show wpAny _ _ (do again (.builtin "list.__iadd__" ⟨[← newList [], .ref l], []⟩)) _ _ s
  refine wpAny_bind (wpAny_newList (wpAny_pure ⟨Code.quiet_builtin _ (by decide +kernel), codeAny_builtin entry_list_iadd' ?_⟩))
  show wpAny _ _ (Builtin.List.listExtendWith (.ref s.heap.objs.size) (.ref l) (.ref s.heap.objs.size)) _ _ { s with heap := s.heap.push (seqObj "list" #[] 0) }
  unfold Builtin.List.listExtendWith
  have ho' : (s.heap.push (seqObj "list" #[] 0)).get? l = some ob := Heap.get?_push_of_some _ hob
  refine wpAny_bind (wpAny_typeOf (T := "tuple") ⟨ob, ho', hcl⟩ ?_)
  rw [if_pos (by rw [show (Value.type "tuple" == Value.type "tuple") = true from rfl]; simp)]
  refine wpAny_bind (listItems_at ho' hda ?_)
  refine wpAny_bind (listItems_at (xs := #[]) (n := 0) (Heap.get?_push_size _ rfl) rfl ?_)
  rw [if_neg (by simp)]
  refine wpAny_bind (listUpdate_at (xs := #[]) (n := 0) (Heap.get?_push_size _ rfl) rfl ?_ (Nat.zero_le _) (by show (#[] ++ vs.toArray).size ≤ sizeLine + 1; simp only [Array.size_append, List.size_toArray, List.length_nil]; omega))
  refine wpAny_pure ?_
  show wpAny (model prog w) A (do
      let o ← load s.heap.objs.size
      match o.data with
      | .seq xs _ => pure xs.toList
      | _ => unsupported "internal:collect") Q E { s with heap := (s.heap.push (seqObj "list" #[] 0)).update s.heap.objs.size (Obj.mapSeq (· ++ vs.toArray)) }
  refine wpAny_bind (wpAny_load (get?_update_seq (Heap.get?_push_size _ rfl) _) ?_)
  show wpAny _ _ (pure ((#[] : Array Value) ++ vs.toArray).toList) Q E _
  rw [show ((#[] : Array Value) ++ vs.toArray).toList = vs by simp]
  refine wpAny_pure (h _ (fun b o q => ?_) (by rw [Heap.size_update, size_push']; exact Nat.le_succ _))
  rw [Heap.get?_update_ne _ _ _ _ (Nat.ne_of_lt (Heap.lt_size q))]
  exact Heap.get?_push_of_some _ q
/-- what stands behind a call of sorted: the collected list, then the ordered one -/
theorem srt_tup {l : Addr} {vs : List Value} {ltv : Value → Value → Bool} {Q : Value → Shared → Prop} (O : SrtO.Swo ltv) (hl : IsTup s.heap l vs.toArray) (hz : vs.length ≤ sizeLine)
    (hS : 2 ≤ vs.length → ∀ (h₁ : Heap) (a : Addr), h₁.get? a = some (seqObj "list" vs.toArray 0) → (∀ b o, s.heap.get? b = some o → b ≠ a ∧ h₁.get? b = some o) → SrtO.SortableO prog w A.in1.in1 { s with heap := h₁ } a vs ltv)
    (h : ∀ (out : List Value) (h₂ : Heap) (a : Addr) (ep : Nat), SrtO.Srtd ltv out → SrtO.Stb ltv out vs → (∀ b o, s.heap.get? b = some o → h₂.get? b = some o) → s.heap.objs.size ≤ a → h₂.get? a = some (seqObj "list" out.toArray ep) → Q (.ref a) { s with heap := h₂ }) :
    wpAny (model prog w) A (call (.builtin "sorted") [.ref l]) Q E s := by
  obtain ⟨ob, hob, hcl, nn, hda⟩ := id hl
  refine Calls.call_function_entry kind_sorted plain_sorted entry_sorted (args_sorted1 _) ?_
  unfold Builtin.«sorted»
  refine wpAny_bind (m := checkCount "sorted" 1 1 _) (wpAny_pure ?_)
  refine wpAny_bind (gather hl hz fun h' keep hsz => ?_)
  refine wpAny_bind (wpAny_newList ?_ hz)
  have hoL : (h'.push (seqObj "list" vs.toArray 0)).get? h'.objs.size = some (seqObj "list" vs.toArray 0) := Heap.get?_push_size _ rfl
  have hlt : ∀ b o, s.heap.get? b = some o → b < h'.objs.size := fun b o q => Heap.lt_size (keep b o q)
  have kp : ∀ b o, s.heap.get? b = some o → b ≠ h'.objs.size ∧ (h'.push (seqObj "list" vs.toArray 0)).get? b = some o := fun b o q => ⟨Nat.ne_of_lt (hlt b o q), Heap.get?_push_of_some _ (keep b o q)⟩
  show wpAny _ _ _ _ _ { s with heap := h'.push (seqObj "list" vs.toArray 0) }
  refine wpAny_bind (wpAny_holding (wpAny_call_entry slot_list_sort ⟨_, hoL, rfl⟩ entry_list_sort (SrtO.list_sort_ord O hoL hz (fun h2 => hS h2 _ _ hoL kp) fun out hs hb => ⟨_, rfl, ?_⟩) (args_list_sort _)))
  obtain ⟨ep, he⟩ := sortedHeap_at (vs := vs) (out := out.toArray) hoL
  refine wpAny_pure ⟨_, rfl, h out _ _ ep hs hb (fun b o q => ?_) ?_ he⟩
  · rw [sortedHeap_old (kp b o q).1 (by rw [size_push']; exact Nat.lt_succ_of_lt (hlt b o q))]
    exact (kp b o q).2
  · exact hsz
end
end PYX
namespace PYX
open PySem PySem.Spec PyProof.Rows L2
section
variable {X : Cx}
theorem cr_sortT : CallR X (.builtin "sorted") (fun vs H Q => ∃ (a : Addr) (ns : List Int), vs = [V.ref a] ∧ SqT X.K H a (ns.map V.int) ∧ ∀ (ns' : List Int) (p : Addr), ns'.Perm ns → ns'.Pairwise (· ≤ ·) → H p = none → Q (.ref p) (upd H p (.lst (ns'.map V.int)))) := by
  intro pins s σ H vs us Q I r h
  obtain ⟨a, ns, rfl, hs, q⟩ := h
  obtain ⟨its, rv, hl, hz⟩ := I.tuple hs
  rw [Vals.ref1 r]
  have hi := rv.ints
  refine srt_tup SrtO.swo_int hl (by rw [← rv.length]; exact hz) (fun h2 h₁ a' _ _ => SrtO.ints_sortable hi h2) fun out h₂ b ep h1 h2 kp hsz he => ?_
  obtain ⟨k1, k2, k3⟩ := SrtO.ints_out hi h1 h2
  have hlen : ((out.map SrtO.iv).map V.int).length ≤ sizeLine := by
    rw [List.length_map, k2.length_eq]
    rw [List.length_map] at hz
    exact hz
  exact ⟨.ref _, upd H b (.lst ((out.map SrtO.iv).map V.int)), I.laid (t' := s.toks) kp hsz ⟨hlen, out, ep, vals_of_ints k1, he⟩, rfl, q _ _ k2 k3 (I.hok.fresh hsz)⟩
variable {e : Expr} {te : TE} {pos p1 p2 p3 : Pos} {kd : Option Str}
/-- e[::-1] -/
theorem pe_back {st : Expr} {ts : TE} (he : PE X e te) (hst : PE X st ts) (h1 : ∀ σ H (Q : VK), (∀ H', H' = H → Q (.int (-1)) H') → ts σ H Q) : PE X (.Subscript e (.Slice none none (some st) p2) pos) (fun σ H Q => te σ H fun x H1 =>
    (∃ a xs, x = .ref a ∧ SqL X.K H1 a xs ∧ ∀ p, H1 p = none → Q (.ref p) (upd H1 p (.lst xs.reverse))) ∨ (∃ a xs, x = .ref a ∧ SqT X.K H1 a xs ∧ ∀ p, H1 p = none → Q (.ref p) (upd H1 p (.tup xs.reverse)))) := by
  refine ⟨fun pins s σ H Q I h => ?_⟩
  refine Subscript_ (thn (he.run pins s σ H _ I h) fun v s1 ⟨x, H1, I1, r1, q1⟩ => ?_)
  refine wpAny_Slice ?_
  rw [evalPart_none, evalPart_some]
  refine wpAny_pure (wpAny_pure ?_)
  refine thn (hst.run pins s1 σ H1 (fun z H' => z = .int (-1) ∧ H' = H1) I1 (h1 _ _ _ fun H' e => ⟨rfl, e⟩)) fun vk s3 ⟨z, H3, I3, rz, ez, eH⟩ => ?_
  subst ez eH
  obtain ⟨tk, rfl⟩ := rz
  have pk : IsPart (Value.int (-1) tk) (some (-1)) := .int _ _
  have I4 : Inv X pins σ H3 { s3 with heap := s3.heap.push { cls := .type "slice", data := .fields #[.none, .none, .int (-1) tk] } } := I3.kept (t' := s3.toks) fun b ob q => Heap.get?_push_of_some _ q
  have hs : ({ s3 with heap := s3.heap.push { cls := .type "slice", data := .fields #[.none, .none, .int (-1) tk] } } : Shared).heap.IsSliceOf s3.heap.objs.size .none .none (.int (-1) tk) := Heap.IsSliceOf.new ..
  show wpAny (model X.prog X.w) X.A (subscriptTail e (.Slice none none (some st) p2) v (.ref s3.heap.objs.size)) (EP X pins σ Q) X.xe { s3 with heap := s3.heap.push { cls := .type "slice", data := .fields #[.none, .none, .int (-1) tk] } }
  generalize ({ s3 with heap := s3.heap.push { cls := .type "slice", data := .fields #[.none, .none, .int (-1) tk] } } : Shared) = s4 at I4 hs ⊢
  rcases q1 with ⟨a, xs, rfl, hx, q⟩ | ⟨a, xs, rfl, hx, q⟩
  · cases r1
    obtain ⟨its, r, ht, hz⟩ := I4.list hx
    have hlen := r.length
    refine tail_any (ops := [.ref a, .ref s3.heap.objs.size]) ht.isList.typeIs slot_list_getitem.lookup ?_ (by with_unfolding_all rfl)
    refine wpAny_getItem_list_slice ht.isList hs .none .none pk (by decide) ?_ (by rw [List.size_toArray]; omega)
    rw [PySem.W.krv_pick]
    refine ⟨.ref s4.heap.objs.size, _, I4.laid (t' := s4.toks) (o := .lst xs.reverse) (fun b ob q => Heap.get?_push_of_some _ q) (Nat.le_refl _) ?_, rfl, q _ (I4.hok.fresh (Nat.le_refl _))⟩
    exact ⟨by rw [List.length_reverse]; exact hz, _, 0, r.reverse, Heap.get?_push_size _ rfl⟩
  · cases r1
    obtain ⟨its, r, ht, hz⟩ := I4.tuple hx
    have hlen := r.length
    refine tail_any (ops := [.ref a, .ref s3.heap.objs.size]) ht.typeIs PyProof.Rows.slot_tuple_getitem.lookup ?_ (by with_unfolding_all rfl)
    refine get_back ht hs pk ?_ (by rw [List.size_toArray]; omega)
    refine ⟨.ref s4.heap.objs.size, _, I4.laid (t' := s4.toks) (o := .tup xs.reverse) (fun b ob q => Heap.get?_push_of_some _ q) (Nat.le_refl _) ?_, rfl, q _ (I4.hok.fresh (Nat.le_refl _))⟩
    exact ⟨by rw [List.length_reverse]; exact hz, _, r.reverse, IsTup.new _ _⟩
end
end PYX

set_option Elab.async false
set_option linter.all false
set_option maxRecDepth 100000
/-! Pu: plain data, the annotated text, and what it computes. -/
namespace PY
open PySem
abbrev D := PyData
/-- an owned, changeable value: leaves are plain data -/
inductive M where
  | p (d : D)
  | fl (ds : List D)
  | ls (ms : List M)
  | fd (kvs : List (L2.Key × D))
  | td (kvs : List (List Int × D))
  | ob (c : Nat) (fs : List Str) (ms : List M)
inductive Sl where
  | un | d (d : D) | m (m : M)
abbrev Env := List Sl
structure Ex where
  cls : Nat
  fs : List D
inductive R (α : Type) where
  | ok (a : α) (e : Env) | ex (x : Ex) (e : Env) | bad
def R.bind {α β : Type} (r : R α) (f : α → Env → R β) : R β := match r with
  | .ok a e => f a e
  | .ex x e => .ex x e
  | .bad => .bad
@[simp] theorem R.bind_ok {α β : Type} (a : α) (e : Env) (f : α → Env → R β) : (R.ok a e).bind f = f a e := rfl
@[simp] theorem R.bind_ex {α β : Type} (x : Ex) (e : Env) (f : α → Env → R β) : (R.ex (α := α) x e).bind f = .ex x e := rfl
@[simp] theorem R.bind_bad {α β : Type} (f : α → Env → R β) : (R.bad (α := α)).bind f = .bad := rfl
def R.opt {α : Type} (o : Option α) (e : Env) : R α := match o with
  | some a => .ok a e
  | none => .bad
@[simp] theorem R.opt_some {α : Type} (a : α) (e : Env) : R.opt (some a) e = .ok a e := rfl
@[simp] theorem R.opt_none {α : Type} (e : Env) : R.opt (none : Option α) e = .bad := rfl
/-- a call's answer: what comes back, the changeable arguments as they stand then -/
inductive CR where
  | ok (r : Sl) (ms : List Sl) | ex (x : Ex) (ms : List Sl) | bad
inductive Flow where
  | nx | rt (r : Sl) | bk | ct

/-! ### places -/
inductive Pl where
  | v (i : Nat) | ixn (p : Pl) (k : Int) | ixs (p : Pl) (k : Str) | ixv (p : Pl) (j : Nat) | fd (p : Pl) (f : Str)
def ixN (n : Nat) (i : Int) : Option Nat := L2.ixN n i
def slD (s : Option Sl) : Option D := match s with
  | some (.d d) => some d
  | _ => none
def slM (s : Option Sl) : Option M := match s with
  | some (.m m) => some m
  | _ => none
/-- the child at a number, at a key, of a name -/
def M.kid (m : M) (k : Int) : Option M := match m with
  | .fl ds => (ixN ds.length k).bind fun j => ds[j]?.map M.p
  | .ls ms => (ixN ms.length k).bind fun j => ms[j]?
  | _ => none
def M.putKid (m : M) (k : Int) (x : M) : Option M := match m with
  | .fl ds => (match x with | .p d => (ixN ds.length k).map fun j => .fl (ds.set j d) | _ => none)
  | .ls ms => (ixN ms.length k).map fun j => .ls (ms.set j x)
  | _ => none
def M.kidK (m : M) (k : L2.Key) : Option M := match m with
  | .fd kvs => (kvs.lookup k).map M.p
  | _ => none
def setK {α : Type} (k : L2.Key) (x : α) : List L2.Key → List α → List α
  | k' :: ks, y :: ys => if k' = k then x :: ys else y :: setK k x ks ys
  | _, ys => ys
def M.kidF (m : M) (f : Str) : Option M := match m with
  | .ob _ fs ms => (fs.zip ms).lookup f
  | _ => none
def dInt (d : Option D) : Option Int := match d with
  | some (.int i) => some i
  | _ => none
def getP : Pl → Env → Option M
  | .v i, e => slM e[i]?
  | .ixn p k, e => (getP p e).bind fun m => m.kid k
  | .ixs p k, e => (getP p e).bind fun m => m.kidK (.inr k)
  | .ixv p j, e => (getP p e).bind fun m => (dInt (slD e[j]?)).bind fun k => m.kid k
  | .fd p f, e => (getP p e).bind fun m => m.kidF f
def setP : Pl → Env → M → Option Env
  | .v i, e, m => some (e.set i (.m m))
  | .ixn p k, e, x => (getP p e).bind fun m => (m.putKid k x).bind fun m' => setP p e m'
  | .ixs _ _, _, _ => none
  | .ixv p j, e, x => (getP p e).bind fun m => (dInt (slD e[j]?)).bind fun k => (m.putKid k x).bind fun m' => setP p e m'
  | .fd p f, e, x => none
/-- a list of leaves alone, as plain data -/
def M.view : M → Option D
  | .fl ds => some (.list ds)
  | _ => none
mutual
/-- never changed from now on -/
def M.frz : M → Option D
  | .p d => some d
  | .fl ds => some (.list ds)
  | .ls ms => (M.frzs ms).map .list
  | .fd _ => none
  | .td _ => none
  | .ob _ _ _ => none
def M.frzs : List M → Option (List D)
  | [] => some []
  | m :: ms => (M.frz m).bind fun d => (M.frzs ms).map fun ds => d :: ds
end

/-! ### operators -/
inductive Bop where
  | add | sub | mul | mod | fdv | pow | shl | shr | band | bor
  deriving DecidableEq
inductive Cop where
  | eq | ne | lt | le | gt | ge | isin | notin | is_ | isnt
  deriving DecidableEq
def mulOk (i j : Int) : Bool := decide (i.natAbs.log2 + j.natAbs.log2 < 1000000) || (decide (i.natAbs.log2 < 60) || decide (j.natAbs.log2 < 60))
def powOk (i j : Int) : Bool := decide (0 ≤ j) && decide (j ≤ 1000000) && decide (i.natAbs < 2 ^ 64)
def binD : Bop → D → D → Option D
  | .add, .int i, .int j => some (.int (i + j))
  | .add, .str i, .str j => if i.length + j.length ≤ 1000000 then some (.str (i ++ j)) else none
  | .add, .tuple i, .tuple j => if i.length + j.length ≤ 1000000 then some (.tuple (i ++ j)) else none
  | .add, .list i, .list j => if i.length + j.length ≤ 1000000 then some (.list (i ++ j)) else none
  | .sub, .int i, .int j => some (.int (i - j))
  | .mul, .int i, .int j => if mulOk i j then some (.int (i * j)) else none
  | .mul, .tuple xs, .int k => if xs.isEmpty = false ∧ 1 ≤ k ∧ k ≤ 1000 ∧ xs.length ≤ 1000 then some (.tuple (List.replicate k.toNat xs).flatten) else none
  | .mod, .int i, .int j => if 0 < j then some (.int (i % j)) else none
  | .fdv, .int i, .int j => if 0 < j ∧ j.natAbs.log2 < 9000 then some (.int (i / j)) else none
  | .pow, .int i, .int j => if powOk i j then some (.int (i ^ j.toNat)) else none
  | .shl, .int i, .int j => if powOk i j then some (.int (i * 2 ^ j.toNat)) else none
  | .shr, .int i, .int j => if 0 ≤ j then some (.int (i / 2 ^ j.toNat)) else none
  | .band, .int i, .int j => some (.int (Builtin.bitAnd i j))
  | .bor, .int i, .int j => some (.int (Builtin.bitOr i j))
  | _, _, _ => none
def eqD : D → D → Option Bool
  | .int i, .int j => some (decide (i = j))
  | .str i, .str j => some (decide (i = j))
  | .bool i, .bool j => some (decide (i = j))
  | a, b => if SeqAt.shaped a && SeqAt.shaped b then some (PyData.eqv a b) else none
def flatD : D → Bool
  | .none | .bool _ | .int _ | .str _ => true
  | _ => false
def inD (x : D) (xs : List D) : Option Bool := if flatD x && xs.all flatD then some (xs.any fun y => PyData.eqv y x) else
  if x.plain && PyData.plainAll xs && decide (min (PyData.depthAll xs) x.depth ≤ 60) then some (xs.any fun y => PyData.eqv y x) else none
def intsD : List D → Option (List Int)
  | [] => some []
  | .int i :: r => (intsD r).map (i :: ·)
  | _ => none
/-- not behind, in the order of int lists -/
def leL (ns ms : List Int) : Bool := Ob.lexAt (fun j => decide (ns.getD j 0 = ms.getD j 0)) (fun j => decide (ns.getD j 0 ≤ ms.getD j 0)) (decide (ns.length ≤ ms.length)) 0 (min ns.length ms.length)
def cmpD : Cop → D → D → Option Bool
  | .eq, a, b => eqD a b
  | .ne, a, b => (eqD a b).map (!·)
  | .lt, .int i, .int j => some (decide (i < j))
  | .le, .int i, .int j => some (decide (i ≤ j))
  | .gt, .int i, .int j => some (decide (j < i))
  | .ge, .int i, .int j => some (decide (j ≤ i))
  | .lt, .tuple xs, .tuple ys => (intsD xs).bind fun ns => (intsD ys).map fun ms => HT.lexLt ns ms
  | .le, .tuple xs, .tuple ys => (intsD xs).bind fun ns => (intsD ys).map fun ms => leL ns ms
  | .isin, x, .list xs => inD x xs
  | .isin, x, .tuple xs => inD x xs
  | .notin, x, .list xs => (inD x xs).map (!·)
  | .notin, x, .tuple xs => (inD x xs).map (!·)
  | .is_, .bool a, .bool b => some (decide (a = b))
  | .isnt, .bool a, .bool b => some (!decide (a = b))
  | _, _, _ => none
def truD : D → Option Bool
  | .none => some false
  | .bool b => some b
  | .int i => some (i != 0)
  | .str s => if s.length ≤ 1000000 then some (s.length != 0) else none
  | .list xs => some (!xs.isEmpty)
  | .tuple xs => some (!xs.isEmpty)
  | .dict _ => none
def isNone : D → Bool
  | .none => true
  | _ => false
def boolD : D → Option Bool
  | .bool b => some b
  | _ => none
def atI {α : Type} (xs : List α) (i : Int) : Option α := (ixN xs.length i).bind fun j => xs[j]?
def idxD : D → D → Option D
  | .list xs, .int i => atI xs i
  | .tuple xs, .int i => atI xs i
  | .str z, .int i => if z.length ≤ 1000000 then (atI z.cps.toList i).map fun c => .str ⟨#[c]⟩ else none
  | _, _ => none
def cutL {α : Type} (xs : List α) (lo hi : Option Int) : List α := (xs.drop (HT.sIx xs.length 0 lo)).take (HT.sIx xs.length xs.length hi - HT.sIx xs.length 0 lo)
def slcD (d : D) (lo hi : Option Int) : Option D := match d with
  | .list xs => some (.list (cutL xs lo hi))
  | .tuple xs => some (.tuple (cutL xs lo hi))
  | .str z => if z.length ≤ 1000000 then some (.str ⟨(cutL z.cps.toList lo hi).toArray⟩) else none
  | _ => none
inductive Bi where
  | len | int | abs | max2 | min2 | tuple | sum | maxl | minl | anyl | alll | str | sorted | bool
  deriving DecidableEq
def boolsD : List D → Option (List Bool)
  | [] => some []
  | .bool i :: r => (boolsD r).map (i :: ·)
  | _ => none
def strsD : List D → Option (List Str)
  | [] => some []
  | .str i :: r => (strsD r).map (i :: ·)
  | _ => none
def maxI : Int → List Int → Int
  | a, [] => a
  | a, b :: r => maxI (if b > a then b else a) r
def minI : Int → List Int → Int
  | a, [] => a
  | a, b :: r => minI (if b < a then b else a) r
def putI (a : Int) : List Int → List Int
  | [] => [a]
  | b :: r => if a ≤ b then a :: b :: r else b :: putI a r
def ordI : List Int → List Int
  | [] => []
  | a :: r => putI a (ordI r)
/-! lists of tuples of numbers, in sequence -/
def tupsD : List D → Option (List (List Int))
  | [] => some []
  | .tuple xs :: r => (intsD xs).bind fun ns => (tupsD r).map (ns :: ·)
  | _ => none
def topI : List Int → Int
  | [] => 0
  | a :: r => max a (topI r)
def bndT : List (List Int) → Int
  | [] => 1
  | l :: r => max (topI l + 1) (bndT r)
def putT (B : Int) (a : List Int) : List (List Int) → List (List Int)
  | [] => [a]
  | b :: r => if TS.code B a ≤ TS.code B b then a :: b :: r else b :: putT B a r
def ordT (B : Int) : List (List Int) → List (List Int)
  | [] => []
  | a :: r => putT B a (ordT B r)
def nubT : List (List Int) → List (List Int)
  | [] => []
  | a :: r => a :: (nubT r).filter fun b => decide (b ≠ a)
/-- fewer than 64, all of one length, no number below 0 -/
def okT (L : List (List Int)) : Bool := decide (L.length < 64) && L.all fun l => decide (1 ≤ l.length) && (decide (l.length = (L.headD []).length) && l.all fun i => decide (0 ≤ i))
def tupI (l : List Int) : D := .tuple (l.map .int)
/-- sorted(set(xs)), xs tuples of numbers -/
def srsD : D → Option D
  | .list xs => (tupsD xs).bind fun L => if okT L then some (.list ((ordT (bndT L) (nubT L)).map tupI)) else none
  | _ => none
def biD : Bi → List D → Option D
  | .len, [.list xs] => some (.int xs.length)
  | .len, [.tuple xs] => some (.int xs.length)
  | .len, [.str z] => if z.length ≤ 1000000 then some (.int z.length) else none
  | .int, [.int i] => some (.int i)
  | .int, [.bool b] => some (.int (if b then 1 else 0))
  | .abs, [.int i] => some (.int (if i < 0 then -i else i))
  | .max2, [.int i, .int j] => some (.int (if j > i then j else i))
  | .min2, [.int i, .int j] => some (.int (if j < i then j else i))
  | .tuple, [.list xs] => some (.tuple xs)
  | .tuple, [.tuple xs] => some (.tuple xs)
  | .sum, [.list xs] => (intsD xs).map fun ns => .int ns.sum
  | .maxl, [.list xs] => (intsD xs).bind fun ns => match ns with
      | [] => none
      | a :: r => some (.int (maxI a r))
  | .minl, [.list xs] => (intsD xs).bind fun ns => match ns with
      | [] => none
      | a :: r => some (.int (minI a r))
  | .anyl, [.list xs] => (boolsD xs).map fun bs => .bool (bs.any id)
  | .alll, [.list xs] => (boolsD xs).map fun bs => .bool (bs.all id)
  | .sorted, [.list xs] => match intsD xs with
      | some ns => some (.list ((ordI ns).map .int))
      | none => (tupsD xs).bind fun L => if okT L then some (.list ((ordT (bndT L) L).map tupI)) else none
  | .sorted, [.tuple xs] => (intsD xs).map fun ns => .list ((ordI ns).map .int)
  | .str, [.int i] => if i.natAbs.log2 < 1920 then some (.str (toString i)) else none
  | .bool, [.int i] => some (.bool (i != 0))
  | .bool, [.bool b] => some (.bool b)
  | _, _ => none
inductive Ty where
  | int | bool | str | tuple | list
  deriving DecidableEq
def isiD : Ty → D → Bool
  | .int, .int _ => true
  | .int, .bool _ => true
  | .bool, .bool _ => true
  | .str, .str _ => true
  | .tuple, .tuple _ => true
  | .list, .list _ => true
  | _, _ => false
inductive Me where
  | join
  deriving DecidableEq
def strOf : D → Option Str
  | .str s => some s
  | _ => none
def meD : Me → D → List D → Option D
  | .join, .str a, [.list xs] => (strsD xs).bind fun ys => if (ys.map (·.length)).sum + ys.length * a.length ≤ 1000000 then some (.str (Txt.join a ys)) else none
  | .join, .str a, [.tuple xs] => (strsD xs).bind fun ys => if (ys.map (·.length)).sum + ys.length * a.length ≤ 1000000 then some (.str (Txt.join a ys)) else none
  | _, _, _ => none

/-! ### the text -/
/-- targets -/
inductive G where
  | n (i : Nat) | t (g : G) | nil | cons (a b : G)
inductive Tm where
  | var (i : Nat) | lf (p : Pl) | vw (p : Pl) | mv (i : Nat)
  | int (i : Int) | bl (b : Bool) | non | str (s : Str) | gc (g : Nat)
  | nil | cons (a b : Tm) | am (p : Pl) | at (a : Tm)
  | tup (es : Tm) | lst (es : Tm) | nst (es : Tm)
  | bin (o : Bop) (a b : Tm) | neg (a : Tm)
  | cmp (o : Cop) (a b : Tm) | chain (o o' : Cop) (a b c : Tm) | isN (a : Tm) | notN (a : Tm)
  | and (a b : Tm) | or (a b : Tm) | not (a : Tm) | ite (c a b : Tm)
  | idx (a b : Tm) | slc (a lo hi : Tm) | slm (a lo hi : Tm) | abs
  | call (f : Nat) (as : Tm) | callK (f : Nat) (as kws : Tm) | callP (f : Nat) (as kws : Tm) (e : List Nat)
  | rev (a : Tm) | gcd (as : Tm) | srs (a : Tm)
  | dg (i : Nat) (k : Str) | dct (ks : List Str) (vs : Tm)
  | rlst (a : Tm) | rtup (a : Tm) | rep (a n : Tm) | revm (a : Tm)
  | bi (b : Bi) (as : Tm) | isi (a : Tm) (ts : List Ty) | me (m : Me) (o a : Tm)
  | comp (own : List Nat) (g : G) (it c e : Tm)
  | dpt (a : Tm) | dgt (i : Nat) (a : Tm) | slv (i : Nat) (lo hi : Tm)
  | dnw | dgv (i : Nat) (a : Tm) | din (i : Nat) (a : Tm) | dcp (i : Nat) (a : Tm)
  | cat (a b : Tm) | lof (a : Tm)
  | rng1 (a : Tm) | rng2 (a b : Tm) | enum (a : Tm) | zip (a b : Tm)
  | pop (p : Pl) | popAt (p : Pl) (a : Tm)
inductive S where
  | skip | seq (a b : S)
  | ret (x : Tm) | retM (x : Tm) | retN | expr (x : Tm)
  | asg (i : Nat) (x : Tm) | asgM (i : Nat) (x : Tm) | asgT (g : G) (x : Tm) | par2 (i j : Nat) (a b : Tm) | parA (ts : List Nat) (as : Tm)
  | aug (i : Nat) (o : Bop) (x : Tm)
  | ife (c : Tm) (a b : S) | for_ (g : G) (it : Tm) (b : S) | whl (n : Nat) (c : Tm) (b : S) | brk | cnt | stuck
  | frz (i : Nat) | swp (i : Nat) (a b x y : Tm)
  | dset (i : Nat) (k : Str) (x : Tm)
  | app (p : Pl) (x : Tm) | ins (p : Pl) (i : Nat) (x : Tm) | appM (p : Pl) (x : Tm) | ext (p : Pl) (x : Tm) | set (p : Pl) (i x : Tm)

/-! ### what it computes -/
def asgG : G → D → Env → Option Env
  | .n i, d, e => some (e.set i (.d d))
  | .t g, d, e => (match d with
      | .tuple ds => asgGs g ds e
      | _ => none)
  | .nil, _, _ => none
  | .cons _ _, _, _ => none
where asgGs : G → List D → Env → Option Env
  | .nil, [], e => some e
  | .cons a b, d :: ds, e => (asgG a d e).bind fun e' => asgGs b ds e'
  | _, _, _ => none
def wipe (e : Env) : List Nat → Env
  | [] => e
  | v :: vs => (wipe e vs).set v .un
/-- the own slots as they were -/
def back (own : List Nat) (e0 e1 : Env) : Env := match own with
  | [] => e1
  | v :: vs => (back vs e0 e1).set v ((e0[v]?).getD .un)
structure Den where
  e : Env → R D
  m : Env → R M
  t : Env → R Bool
  a : Env → R (List Sl)
  i : Env → R (List D)
def itemsD : D → Option (List D)
  | .list xs => some xs
  | .tuple xs => some xs
  | _ => none
def badA : Env → R (List Sl) := fun _ => .bad
def Den.ofE (f : Env → R D) : Den where
  e := f
  m := fun env => (f env).bind fun d env => .ok (.p d) env
  t := fun env => (f env).bind fun d env => R.opt (truD d) env
  a := badA
  i := fun env => (f env).bind fun d env => R.opt (itemsD d) env
def Den.ofM (f : Env → R M) : Den where
  e := fun env => (f env).bind fun m env => R.opt m.frz env
  m := f
  t := fun env => (f env).bind fun m env => R.opt (m.frz.bind truD) env
  a := badA
  i := fun env => (f env).bind fun m env => R.opt (m.frz.bind itemsD) env
def Den.ofA (f : Env → R (List Sl)) : Den := { Den.ofE (fun _ => .bad) with a := f }
def Den.ofI (f : Env → R (List D)) : Den := { Den.ofE (fun _ => .bad) with i := f }
def dsOf : List Sl → Option (List D)
  | [] => some []
  | .d d :: r => (dsOf r).map (d :: ·)
  | _ => none
def msOf : List Sl → Option (List M)
  | [] => some []
  | .d d :: r => (msOf r).map (M.p d :: ·)
  | .m m :: r => (msOf r).map (m :: ·)
  | .un :: _ => none
def rangeD (lo hi : Int) : List D := (List.range (hi - lo).toNat).map fun i => .int (lo + (i : Nat))
def enumD (xs : List D) : List D := (List.range xs.length).zipWith (fun i x => .tuple [.int (i : Nat), x]) xs
def zipD (xs ys : List D) : List D := List.zipWith (fun x y => .tuple [x, y]) xs ys
@[irreducible] def small62 (i : Int) : Bool := decide (-(2 ^ 62) ≤ i) && decide (i < 2 ^ 62)
/-- the changeable arguments, read when all are there -/
def fillA : Tm → List Sl → Env → Option (List Sl)
  | .nil, [], _ => some []
  | .cons (.am p) b, .un :: r, e => (getP p e).bind fun m => (fillA b r e).map (Sl.m m :: ·)
  | .cons (.am _) _, _, _ => none
  | .cons (.at _) b, .m m :: r, e => (fillA b r e).map (Sl.m m :: ·)
  | .cons (.at _) _, _, _ => none
  | .cons _ b, .d d :: r, e => (fillA b r e).map (Sl.d d :: ·)
  | _, _, _ => none
/-- .. and stored back -/
def backA : Tm → List Sl → Env → Option Env
  | .cons (.am p) b, .m m :: r, e => (setP p e m).bind fun e' => backA b r e'
  | .cons (.am _) _, _, _ => none
  | .cons (.at _) b, _ :: r, e => backA b r e
  | .cons _ b, r, e => backA b r e
  | _, _, e => some e
def compL (f : D → Env → R (Option D)) : List D → Env → R (List D)
  | [], e => .ok [] e
  | d :: ds, e => (f d e).bind fun o e => (compL f ds e).bind fun r e => .ok (match o with | some x => x :: r | none => r) e
def appA (x : Tm) : Tm → Tm
  | .nil => x
  | .cons a b => .cons a (appA x b)
  | y => y
/-- the parameters' values, out of those of the keywords, e: which parameter each keyword names -/
def pmOf (e : List Nat) (k : Nat) : List Nat := (List.range e.length).map fun i => e.idxOf (k + i)
def permL {α : Type} (l : List α) : List Nat → List α
  | [] => []
  | i :: r => match l[i]? with
      | some x => x :: permL l r
      | none => permL l r
/-- what a dict holds at a key, what it is when something else stands there -/
def getD : List (L2.Key × D) → L2.Key → Option D
  | [], _ => none
  | x :: r, k => if x.1 = k then some x.2 else getD r k
def putD (kvs : List (L2.Key × D)) (k : L2.Key) (d : D) : List (L2.Key × D) :=
  if (kvs.any fun kv => decide (kv.1 = k)) = true then kvs.map (fun kv => if kv.1 = k then (kv.1, d) else kv) else kvs ++ [(k, d)]
def keyD : D → Option L2.Key
  | .int i => some (.inl i)
  | .str s => some (.inr s)
  | _ => none
/-- an own dict -/
def fdOf (s : Option Sl) : Option (List (L2.Key × D)) := match s with
  | some (.m (.fd ws)) => some ws
  | _ => none
/-- dict(list(x.items()) + [(k, d)]) -/
def dCopy (ws : List (L2.Key × D)) (m : M) : Option M := match m with
  | .fl [.tuple [x, y]] => (keyD x).bind fun k => if (ws.map (·.1)).Nodup ∧ ws.length ≤ 1000000 then some (.fd (putD ws k y)) else none
  | _ => none
/-- an own dict whose keys are tuples of numbers -/
def tdOf (s : Option Sl) : Option (List (List Int × D)) := match s with
  | some (.m (.td ws)) => some ws
  | _ => none
def tdGet : List (List Int × D) → List Int → Option D
  | [], _ => none
  | x :: r, k => if x.1 = k then some x.2 else tdGet r k
def tdPut (kvs : List (List Int × D)) (k : List Int) (d : D) : List (List Int × D) :=
  if (kvs.any fun kv => decide (kv.1 = k)) = true then kvs.map (fun kv => if kv.1 = k then (kv.1, d) else kv) else kvs ++ [(k, d)]
def tupOf : D → Option (List Int)
  | .tuple xs => intsD xs
  | _ => none
/-- pairs: a key, a value -/
def prsD : List D → Option (List (List Int × D))
  | [] => some []
  | .tuple [k, v] :: r => (tupOf k).bind fun n => (prsD r).map ((n, v) :: ·)
  | _ => none
def mrgT (ps : List (List Int × D)) : List (List Int × D) := ps.foldl (fun acc p => tdPut acc p.1 p.2) []
/-- dict(pairs) -/
def dPrs (m : M) : Option M := match m with
  | .fl ds => (prsD ds).map fun ps => .td (mrgT ps)
  | _ => none
def dGet (m : M) (k : Str) : Option D := match m with
  | .fd kvs => getD kvs (.inr k)
  | _ => none
def dPut (m : M) (k : Str) (d : D) : Option M := match m with
  | .fd kvs => if kvs.length < 1000 then some (.fd (putD kvs (.inr k) d)) else none
  | _ => none
def dNew (ks : List Str) (ds : List D) : Option M := if ks.Nodup ∧ ks.length = ds.length ∧ ks.length ≤ 15 then some (.fd ((ks.map Sum.inr).zip ds)) else none
/-- the numbers of range(x), as values -/
def rngD (x : D) : Option (List D) := match x with
  | .int n => if n ≤ 1000000 ∧ -1000000 ≤ n then some (rangeD 0 n) else none
  | _ => none
def repM (m : M) (x : D) : Option M := match m, x with
  | .fl ds, .int k => if -1000000 ≤ k ∧ k ≤ 1000000 ∧ ds.length * k.toNat ≤ 1000000 then some (.fl (List.replicate k.toNat ds).flatten) else none
  | _, _ => none
def revD : D → Option D
  | .list xs => some (.list xs.reverse)
  | .tuple xs => some (.tuple xs.reverse)
  | _ => none
def gcdD : List D → Option D
  | [.int a, .int b] => some (.int ((Nat.gcd a.natAbs b.natAbs : Nat) : Int))
  | _ => none
/-- a part of a slice -/
def optP (x : Tm) (d : D) : Option (Option Int) := match x with
  | .abs => some none
  | _ => (dInt (some d)).map some
/-- within a comprehension nothing is let out -/
def noex {α : Type} (r : R α) : R α := match r with
  | .ok a e => .ok a e
  | _ => .bad
/-- a turn of a comprehension -/
def turnC (own : List Nat) (g : G) (t : Env → R Bool) (f : Env → R D) (d : D) (env : Env) : R (Option D) :=
  (R.opt (asgG g d (wipe env own)) env).bind fun env _ => (t env).bind fun k env => if k then (f env).bind fun y env => .ok (some y) env else .ok none env
variable (GC : Nat → Option D) (C : Nat → List Sl → CR)
def callE (f : Nat) (as : Tm) (ss : List Sl) (env : Env) : R Sl :=
  (R.opt (fillA as ss env) env).bind fun vs env => match C f vs with
    | .ok r ms => (R.opt (backA as ms env) env).bind fun env' _ => .ok r env'
    | .ex x ms => (R.opt (backA as ms env) env).bind fun env' _ => .ex x env'
    | .bad => .bad
def retD (r : Sl) (env : Env) : R D := R.opt (slD (some r)) env
def retM (r : Sl) (env : Env) : R M := match r with
  | .d d => .ok (.p d) env
  | .m m => .ok m env
  | .un => .bad
def popM (m : M) : Option (M × M) := match m with
  | .fl ds => ds[ds.length - 1]?.map fun d => (.fl ds.dropLast, .p d)
  | _ => none
def popMAt (m : M) (i : Int) : Option (M × M) := match m with
  | .fl ds => if small62 i then (ixN ds.length i).bind fun j => ds[j]?.map fun d => (.fl (ds.eraseIdx j), .p d) else none
  | _ => none
/-- it is a list -/
def M.isL : M → Option Unit
  | .fl _ => some ()
  | .ls _ => some ()
  | _ => none
def M.leaf : M → Option D
  | .p d => some d
  | _ => none
def ev : Tm → Den
  | .var i => .ofE fun env => R.opt (slD env[i]?) env
  | .lf p => .ofE fun env => R.opt ((getP p env).bind M.leaf) env
  | .vw p => .ofE fun env => R.opt ((getP p env).bind M.view) env
  | .mv i => .ofM fun env => (R.opt (slM env[i]?) env).bind fun m env => .ok m (env.set i .un)
  | .int i => .ofE fun env => .ok (.int i) env
  | .bl b => .ofE fun env => .ok (.bool b) env
  | .non => .ofE fun env => .ok .none env
  | .str s => .ofE fun env => .ok (.str s) env
  | .gc g => .ofE fun env => R.opt (GC g) env
  | .nil => .ofA fun env => .ok [] env
  | .cons a b => .ofA fun env => match a with
      | .am p => (R.opt (getP p env) env).bind fun _ env => ((ev b).a env).bind fun r env => .ok (.un :: r) env
      | .at x => ((ev a).m env).bind fun m env => ((ev b).a env).bind fun r env => .ok (.m m :: r) env
      | _ => ((ev a).e env).bind fun d env => ((ev b).a env).bind fun r env => .ok (.d d :: r) env
  | .am _ => .ofE fun _ => .bad
  | .at a => .ofM (ev a).m
  | .tup es => .ofE fun env => ((ev es).a env).bind fun ss env => R.opt (match dsOf ss with | some ds => if ds.length ≤ 1000000 then some (.tuple ds) else none | none => none) env
  | .lst es => .ofM fun env => ((ev es).a env).bind fun ss env => R.opt (match dsOf ss with | some ds => if ds.length ≤ 1000000 then some (.fl ds) else none | none => none) env
  | .nst es => .ofM fun env => ((ev es).a env).bind fun ss env => R.opt (match msOf ss with | some ms => if ms.length ≤ 1000000 then some (.ls ms) else none | none => none) env
  | .bin o a b => .ofE fun env => ((ev a).e env).bind fun x env => ((ev b).e env).bind fun y env => R.opt (binD o x y) env
  | .neg a => .ofE fun env => ((ev a).e env).bind fun x env => R.opt ((dInt (some x)).map fun i => .int (-i)) env
  | .cmp o a b => .ofE fun env => ((ev a).e env).bind fun x env => ((ev b).e env).bind fun y env => R.opt ((cmpD o x y).map .bool) env
  | .chain o o' a b c => .ofE fun env => ((ev a).e env).bind fun x env => ((ev b).e env).bind fun y env => (R.opt (cmpD o x y) env).bind fun k env =>
      if k then ((ev c).e env).bind fun z env => R.opt ((cmpD o' y z).map .bool) env else .ok (.bool false) env
  | .isN a => .ofE fun env => ((ev a).e env).bind fun x env => .ok (.bool (isNone x)) env
  | .notN a => .ofE fun env => ((ev a).e env).bind fun x env => .ok (.bool (!isNone x)) env
  | .and a b =>
    { Den.ofE (fun env => ((ev a).e env).bind fun x env => (R.opt (boolD x) env).bind fun k env => if k then (ev b).e env else .ok (.bool false) env) with
      t := fun env => ((ev a).t env).bind fun k env => if k then (ev b).t env else .ok false env }
  | .or a b =>
    { Den.ofE (fun env => ((ev a).e env).bind fun x env => (R.opt (boolD x) env).bind fun k env => if k then .ok (.bool true) env else (ev b).e env) with
      t := fun env => ((ev a).t env).bind fun k env => if k then .ok true env else (ev b).t env }
  | .not a =>
    { Den.ofE (fun env => ((ev a).e env).bind fun x env => (R.opt (truD x) env).bind fun k env => .ok (.bool (!k)) env) with
      t := fun env => ((ev a).t env).bind fun k env => .ok (!k) env }
  | .ite c a b => .ofE fun env => ((ev c).t env).bind fun k env => if k then (ev a).e env else (ev b).e env
  | .idx a b => .ofE fun env => ((ev a).e env).bind fun x env => ((ev b).e env).bind fun y env => R.opt (idxD x y) env
  | .abs => .ofE fun env => .ok .none env
  | .slc a lo hi => .ofE fun env => ((ev a).e env).bind fun x env => ((ev lo).e env).bind fun l env => (R.opt (optP lo l) env).bind fun l env =>
      ((ev hi).e env).bind fun h env => (R.opt (optP hi h) env).bind fun h env => R.opt (slcD x l h) env
  | .slm a lo hi => .ofM fun env => ((ev a).e env).bind fun x env => ((ev lo).e env).bind fun l env => (R.opt (optP lo l) env).bind fun l env =>
      ((ev hi).e env).bind fun h env => (R.opt (optP hi h) env).bind fun h env => R.opt (match x with | .list xs => some (.fl (cutL xs l h)) | _ => none) env
  | .call f as =>
    { Den.ofE (fun env => ((ev as).a env).bind fun ss env => (callE C f as ss env).bind retD) with
      m := fun env => ((ev as).a env).bind fun ss env => (callE C f as ss env).bind retM }
  | .callK f as kws =>
    { Den.ofE (fun env => ((ev as).a env).bind fun ss env => ((ev kws).a env).bind fun ks env => (callE C f (appA kws as) (ss ++ ks) env).bind retD) with
      m := fun env => ((ev as).a env).bind fun ss env => ((ev kws).a env).bind fun ks env => (callE C f (appA kws as) (ss ++ ks) env).bind retM }
  | .callP f as kws q =>
    { Den.ofE (fun env => ((ev as).a env).bind fun ss env => ((ev kws).a env).bind fun ks env => (callE C f (appA kws as) (ss ++ permL ks (pmOf q ss.length)) env).bind retD) with
      m := fun env => ((ev as).a env).bind fun ss env => ((ev kws).a env).bind fun ks env => (callE C f (appA kws as) (ss ++ permL ks (pmOf q ss.length)) env).bind retM }
  | .rev a => .ofE fun env => ((ev a).e env).bind fun x env => R.opt (revD x) env
  | .dg i k => .ofE fun env => R.opt ((slM env[i]?).bind fun m => dGet m k) env
  | .dct ks vs => .ofM fun env => ((ev vs).a env).bind fun ss env => R.opt ((dsOf ss).bind (dNew ks)) env
  | .rlst a => .ofM fun env => ((ev a).e env).bind fun x env => R.opt (rngD x |>.map M.fl) env
  | .rtup a => .ofE fun env => ((ev a).e env).bind fun x env => R.opt (rngD x |>.map PyData.tuple) env
  | .rep a n => .ofM fun env => ((ev a).m env).bind fun m env => ((ev n).e env).bind fun x env => R.opt (repM m x) env
  | .revm a => .ofM fun env => ((ev a).e env).bind fun x env => R.opt (match x with | .list xs => some (.fl xs.reverse) | _ => none) env
  | .srs a => .ofE fun env => ((ev a).e env).bind fun x env => R.opt (srsD x) env
  | .gcd as => .ofE fun env => ((ev as).a env).bind fun ss env => R.opt ((dsOf ss).bind gcdD) env
  | .bi b as => .ofE fun env => ((ev as).a env).bind fun ss env => R.opt ((dsOf ss).bind (biD b)) env
  | .isi a ts => .ofE fun env => ((ev a).e env).bind fun x env => .ok (.bool (ts.any fun t => isiD t x)) env
  | .me m o a => .ofE fun env => ((ev o).e env).bind fun x env => (R.opt (strOf x) env).bind fun s env => ((ev a).e env).bind fun y env => R.opt (meD m (.str s) [y]) env
  | .comp own g it c e => .ofM fun env => ((ev it).i env).bind fun ds env => if ds.length ≤ 1000000 then
      (noex (compL (turnC own g (ev c).t (ev e).e) ds env)).bind fun r env' => .ok (.fl r) (back own env env') else .bad
  | .slv i lo hi => .ofE fun env => (R.opt (slM env[i]?) env).bind fun _ env => ((ev lo).e env).bind fun l env => (R.opt (optP lo l) env).bind fun l env =>
      ((ev hi).e env).bind fun h env => (R.opt (optP hi h) env).bind fun h env => R.opt (((slM env[i]?).bind M.view).bind fun x => slcD x l h) env
  | .dpt a => .ofM fun env => ((ev a).m env).bind fun m env => R.opt (dPrs m) env
  | .dgt i a => .ofE fun env => (R.opt (tdOf env[i]?) env).bind fun _ env => ((ev a).e env).bind fun x env => R.opt ((tdOf env[i]?).bind fun ws => (tupOf x).bind fun k => tdGet ws k) env
  | .dnw => .ofM fun env => .ok (.fd []) env
  | .dgv i a => .ofE fun env => (R.opt (fdOf env[i]?) env).bind fun _ env => ((ev a).e env).bind fun x env => R.opt ((fdOf env[i]?).bind fun ws => (keyD x).bind fun k => getD ws k) env
  | .din i a => .ofE fun env => ((ev a).e env).bind fun x env => R.opt ((fdOf env[i]?).bind fun ws => (keyD x).map fun k => .bool (ws.any fun kv => decide (kv.1 = k))) env
  | .dcp i a => .ofM fun env => (R.opt (fdOf env[i]?) env).bind fun ws env => ((ev a).m env).bind fun m env => R.opt (dCopy ws m) env
  | .cat a b => .ofM fun env => ((ev a).m env).bind fun x env => ((ev b).m env).bind fun y env => R.opt (match x, y with
      | .fl xs, .fl ys => if xs.length + ys.length ≤ 1000000 then some (.fl (xs ++ ys)) else none
      | .ls xs, .ls ys => if xs.length + ys.length ≤ 1000000 then some (.ls (xs ++ ys)) else none
      | .ls xs, .fl ys => if xs.length + ys.length ≤ 1000000 then some (.ls (xs ++ ys.map .p)) else none
      | _, _ => none) env
  | .lof a => .ofM fun env => ((ev a).e env).bind fun x env => R.opt ((itemsD x).map .fl) env
  | .rng1 a => .ofI fun env => ((ev a).e env).bind fun x env => R.opt ((dInt (some x)).bind fun n => if small62 n then some (rangeD 0 n) else none) env
  | .rng2 a b => .ofI fun env => ((ev a).e env).bind fun x env => ((ev b).e env).bind fun y env =>
      R.opt ((dInt (some x)).bind fun m => (dInt (some y)).bind fun n => if small62 m && small62 n then some (rangeD m n) else none) env
  | .enum a => .ofI fun env => ((ev a).e env).bind fun x env => R.opt ((itemsD x).map enumD) env
  | .zip a b => .ofI fun env => ((ev a).e env).bind fun x env => ((ev b).e env).bind fun y env => R.opt (match x, y with
      | .list xs, .list ys => some (zipD xs ys)
      | .tuple xs, .tuple ys => some (zipD xs ys)
      | .tuple xs, .list ys => some (zipD xs ys)
      | _, _ => none) env
  | .pop p => .ofM fun env => (R.opt ((getP p env).bind popM) env).bind fun mx env => (R.opt (setP p env mx.1) env).bind fun env' _ => .ok mx.2 env'
  | .popAt p a => .ofM fun env => (R.opt ((getP p env).bind M.isL) env).bind fun _ env => ((ev a).e env).bind fun x env => (R.opt ((getP p env).bind fun m => (dInt (some x)).bind fun i => popMAt m i) env).bind fun mx env =>
      (R.opt (setP p env mx.1) env).bind fun env' _ => .ok mx.2 env'
def forL (f : D → Env → R Flow) : List D → Env → R Flow
  | [], e => .ok .nx e
  | d :: ds, e => (f d e).bind fun w e => match w with
      | .nx => forL f ds e
      | .ct => forL f ds e
      | .bk => .ok .nx e
      | .rt r => .ok (.rt r) e
def whlL (t : Env → R Bool) (f : Env → R Flow) : Nat → Env → R Flow
  | 0, _ => .bad
  | n + 1, e => (t e).bind fun k e => if k then (f e).bind fun w e => (match w with
      | .nx => whlL t f n e
      | .ct => whlL t f n e
      | .bk => .ok .nx e
      | .rt r => .ok (.rt r) e) else .ok .nx e
def setItemM (m : M) (i x : D) : Option M := match m, i with
  | .fl ds, .int k => (ixN ds.length k).map fun j => .fl (ds.set j x)
  | .ls ms, .int k => (ixN ms.length k).map fun j => .ls (ms.set j (.p x))
  | _, _ => none
def onP (p : Pl) (f : M → Option M) (env : Env) : R Flow := (R.opt ((getP p env).bind f) env).bind fun m env => (R.opt (setP p env m) env).bind fun env' _ => .ok .nx env'
/-- o[a] = d, o an own list -/
def setAt (i : Nat) (a : Tm) (d : D) (env : Env) : R Flow := (R.opt ((getP (.v i) env).bind M.isL) env).bind fun _ env => ((ev GC C a).e env).bind fun k env => onP (.v i) (fun m => setItemM m k d) env
/-- op= of ints and strs -/
def augBin (o : Bop) (x y : D) : Option D := match x with
  | .int _ => binD o x y
  | .str _ => binD o x y
  | _ => none
def setS : List Nat → List Sl → Env → Option Env
  | [], [], e => some e
  | i :: ts, .d d :: ss, e => setS ts ss (e.set i (.d d))
  | i :: ts, .m m :: ss, e => setS ts ss (e.set i (.m m))
  | _, _, _ => none
def evS : S → Env → R Flow
  | .skip, env => .ok .nx env
  | .seq a b, env => (evS a env).bind fun w env => match w with
      | .nx => evS b env
      | w => .ok w env
  | .ret x, env => ((ev GC C x).e env).bind fun d env => .ok (.rt (.d d)) env
  | .retM x, env => ((ev GC C x).m env).bind fun d env => .ok (.rt (.m d)) env
  | .retN, env => .ok (.rt (.d .none)) env
  | .expr x, env => ((ev GC C x).m env).bind fun _ env => .ok .nx env
  | .asg i x, env => ((ev GC C x).e env).bind fun d env => .ok .nx (env.set i (.d d))
  | .asgM i x, env => ((ev GC C x).m env).bind fun d env => .ok .nx (env.set i (.m d))
  | .asgT g x, env => ((ev GC C x).e env).bind fun d env => (R.opt (asgG g d env) env).bind fun env _ => .ok .nx env
  | .par2 i j a b, env => ((ev GC C a).e env).bind fun x env => ((ev GC C b).e env).bind fun y env => .ok .nx ((env.set i (.d x)).set j (.d y))
  | .parA ts as, env => ((ev GC C as).a env).bind fun ss env => (R.opt (setS ts ss env) env).bind fun env' _ => .ok .nx env'
  | .aug i o x, env => (R.opt (slD env[i]?) env).bind fun v env => ((ev GC C x).e env).bind fun d env => (R.opt (augBin o v d) env).bind fun z env => .ok .nx (env.set i (.d z))
  | .ife c a b, env => ((ev GC C c).t env).bind fun k env => if k then evS a env else evS b env
  | .for_ g it b, env => ((ev GC C it).i env).bind fun ds env => forL (fun d env => (R.opt (asgG g d env) env).bind fun env _ => evS b env) ds env
  | .whl n c b, env => whlL (ev GC C c).t (evS b) n env
  | .brk, env => .ok .bk env
  | .cnt, env => .ok .ct env
  | .stuck, _ => .bad
  | .swp i a b x y, env => ((ev GC C (.tup (.cons x (.cons y .nil)))).e env).bind fun d env => match d with
      | .tuple [d1, d2] => (setAt GC C i a d1 env).bind fun _ env => setAt GC C i b d2 env
      | _ => .bad
  | .frz i, env => (R.opt ((slM env[i]?).bind M.frz) env).bind fun d env => .ok .nx (env.set i (.d d))
  | .app p x, env => (R.opt ((getP p env).bind M.isL) env).bind fun _ env => ((ev GC C x).e env).bind fun d env => onP p (fun m => match m with
      | .fl ds => if ds.length < 1000000 then some (.fl (ds ++ [d])) else none
      | .ls ms => if ms.length < 1000000 then some (.ls (ms ++ [.p d])) else none
      | _ => none) env
  | .dset i k x, env => ((ev GC C x).e env).bind fun d env => (R.opt ((slM env[i]?).bind fun m => dPut m k d) env).bind fun m env => .ok .nx (env.set i (.m m))
  | .ins p i x, env => (R.opt ((getP p env).bind M.isL) env).bind fun _ env => ((ev GC C x).e env).bind fun d env => onP p (fun m => match m with
      | .fl ds => if ds.length < 1000000 then some (.fl (ds.take i ++ [d] ++ ds.drop i)) else none
      | _ => none) env
  | .appM p x, env => (R.opt ((getP p env).bind M.isL) env).bind fun _ env => ((ev GC C x).m env).bind fun d env => onP p (fun m => match m with
      | .ls ms => if ms.length < 1000000 then some (.ls (ms ++ [d])) else none
      | _ => none) env
  | .ext p x, env => (R.opt ((getP p env).bind M.isL) env).bind fun _ env => ((ev GC C x).m env).bind fun d env => onP p (fun m => match m, d with
      | .fl ds, .fl es => if ds.length + es.length ≤ 1000000 then some (.fl (ds ++ es)) else none
      | .fl ds, .p (.list es) => if ds.length + es.length ≤ 1000000 then some (.fl (ds ++ es)) else none
      | _, _ => none) env
  | .set p i x, env => ((ev GC C x).e env).bind fun d env => (R.opt ((getP p env).bind M.isL) env).bind fun _ env => ((ev GC C i).e env).bind fun k env => onP p (fun m => setItemM m k d) env
/-- a def: its parameters (true: changeable), how many slots, its body -/
structure FD where
  ps : List Bool
  ns : Nat
  body : S
def unE : Nat → Env
  | 0 => []
  | n + 1 => .un :: unE n
def argOk : List Bool → List Sl → Bool
  | [], [] => true
  | false :: ps, .d _ :: r => argOk ps r
  | true :: ps, .m _ :: r => argOk ps r
  | _, _ => false
def startE (fd : FD) (vs : List Sl) : Env := vs ++ unE (fd.ns - vs.length)
def mutsE : List Bool → Env → List Sl
  | [], _ => []
  | true :: ps, s :: r => s :: mutsE ps r
  | false :: ps, _ :: r => mutsE ps r
  | _, [] => []
def runF (fd : FD) (vs : List Sl) : CR := if argOk fd.ps vs then (match evS GC C fd.body (startE fd vs) with
    | .ok (.rt r) e => .ok r (mutsE fd.ps e)
    | .ok .nx e => .ok (.d .none) (mutsE fd.ps e)
    | .ok _ _ => .bad
    | .ex x e => .ex x (mutsE fd.ps e)
    | .bad => .bad) else .bad
def callF (T : Nat → Option FD) : Nat → Nat → List Sl → CR
  | 0, _, _ => .bad
  | n + 1, f, vs => match T f with
    | some fd => runF GC (callF T n) fd vs
    | none => .bad
end PY

set_option Elab.async false
set_option linter.all false
set_option maxRecDepth 100000
set_option maxHeartbeats 1000000
/-! SoTd: dicts whose keys are tuples of numbers (kit level): dict(pairs), d[k]. -/
namespace TD
open PySem PySem.Spec PyProof.Rows L2
def TdE (x : List Int × Addr × Value) : DictEntry := ⟨reduceHash (Builtin.Tuple.tupleHashOf (x.1.map hashInt)), .ref x.2.1, x.2.2⟩
/-- the dict at a, without the tuples themselves -/
def DictI (a : Addr) (xs : List (List Int × Addr × Value)) (h : Heap) : Prop := ∃ o es ep, h.get? a = some o ∧ o.ExactDict ∧ o.data = .dict es ep ∧ es.toList = xs.map TdE ∧ (xs.map (·.1)).Nodup
def TdO (a : Addr) (xs : List (List Int × Addr × Value)) : HO := .ext (DictI a xs)
section
variable {P : Program} {w : World} {h : Heap} {a : Addr} {xs : List (List Int × Addr × Value)} {H : Hp}
theorem DictI.of (x : h.DictOfH (tupleKind (intKind P w)) a xs) : DictI a xs h := by
  obtain ⟨o, es, ep, h1, h2, h3, h4, _, h5⟩ := x
  exact ⟨o, es, ep, h1, h2, h3, h4, h5⟩
theorem DictI.full (x : DictI a xs h) (ht : ∀ p ∈ xs, (tupleKind (intKind P w)).is h p.1 p.2.1) : h.DictOfH (tupleKind (intKind P w)) a xs := by
  obtain ⟨o, es, ep, h1, h2, h3, h4, h5⟩ := x
  exact ⟨o, es, ep, h1, h2, h3, h4, ht, h5⟩
theorem tdO_new (R : DictI a xs h) : ObjOk P w H h a (TdO a xs) := by
  have ⟨o, es, ep, h1, h2, h3, h4, h5⟩ := R
  refine ⟨R, ⟨o, h1⟩, fun g1 g2 p k => ?_⟩
  have ⟨o', es', ep', q1, q2⟩ := p
  exact ⟨o', es', ep', k _ q1, q2⟩
end
section
variable {X : Cx} {pins : List (Addr × Obj)} {σ : L2.St} {H : Hp} {s : Shared}
theorem key_is (I : Inv X pins σ H s) {b : Addr} {k : List Int} (h : SqT X.K H b (k.map V.int)) : (tupleKind (intKind X.prog X.w)).is s.heap k b := I.isT h
theorem tdO_get (I : Inv X pins σ H s) {a : Addr} {xs : List (List Int × Addr × Value)} (ha : H a = some (TdO a xs)) : DictI a xs s.heap := (I.hok a _ ha).1
theorem td_full (I : Inv X pins σ H s) {a : Addr} {xs : List (List Int × Addr × Value)} (ha : H a = some (TdO a xs)) (ht : ∀ p ∈ xs, SqT X.K H p.2.1 (p.1.map V.int)) : s.heap.DictOfH (tupleKind (intKind X.prog X.w)) a xs :=
  (tdO_get I ha).full fun p hp => key_is I (ht p hp)
end
/-- d[k], there -/
def tDGetI (K : PySem.W.Frag) (td ty : TE) : TE := fun σ H Q => td σ H fun x H1 => ty σ H1 fun y H2 => ∃ a xs b k p v, x = .ref a ∧ H2 a = some (TdO a xs) ∧ (∀ q ∈ xs, SqT K H2 q.2.1 (q.1.map V.int)) ∧ y = .ref b ∧ SqT K H2 b (k.map V.int) ∧
  atKey xs k = some p ∧ RelV v p.2 ∧ Q v H2
theorem pe_dgetI {X : Cx} {o i : Expr} {pos : Pos} {td ty : TE} (hu : X.A.units + 1 < cLine) (ho : PE X o td) (hi : PE X i ty) (hs : NoSl i) : PE X (.Subscript o i pos) (tDGetI X.K td ty) := by
  refine ⟨fun pins s σ H Q I h => ?_⟩
  refine subD_of PySem.F.slot_dict_getitem.lookup hs (thn (ho.run pins s σ H _ I h) fun u s1 ⟨x, H1, I1, rx, q1⟩ => thn (hi.run pins s1 σ H1 _ I1 q1) fun iv s2 ⟨y, H2, I2, ry, a, xs, b, k, p, v, ex, g, ht, ey, hb, hp, rv, q2⟩ => ?_)
  subst ex
  subst ey
  obtain rfl : u = Value.ref a := rx
  obtain rfl : iv = Value.ref b := ry
  have dd := td_full I2 g ht
  refine ⟨dd.typeIs, ?_⟩
  exact wpAny_getItem_heap (tupleKind_room_in1 hu) (key_is I2 hb) dd hp ⟨v, H2, I2.tok _, rv, q2⟩
/-- the pairs of a list -/
theorem pairs_ofI {X : Cx} {pins : List (Addr × Obj)} {σ : L2.St} {H : Hp} {s : Shared} (I : Inv X pins σ H s) : ∀ {ps : List Addr} {ks : List (List Int × Addr × V)}, Paired (fun p k => SqT X.K H p [V.ref k.2.1, k.2.2]) ps ks →
    ∃ prs : List (List Int × Addr × Value), Paired (fun (k : List Int × Addr × V) (q : List Int × Addr × Value) => k.1 = q.1 ∧ k.2.1 = q.2.1 ∧ RelV k.2.2 q.2.2) ks prs ∧ prs.length = ps.length ∧
      ∀ (j : Nat) (q : List Int × Addr × Value), prs[j]? = some q → ∃ b : Addr, ps[j]? = some b ∧ IsTup s.heap b #[.ref q.2.1, q.2.2]
  | _, _, .nil => ⟨[], .nil, rfl, fun j q e => by simp at e⟩
  | _, _, .cons (a := p) (b := k) h t => by
    obtain ⟨prs, r, hl, hp⟩ := pairs_ofI I t
    obtain ⟨its, rv, ht, _⟩ := I.tuple h
    obtain ⟨u, y, ei, ru, ry⟩ := vals2 rv
    subst ei
    obtain rfl : u = Value.ref k.2.1 := ru
    refine ⟨(k.1, k.2.1, y) :: prs, .cons ⟨rfl, rfl, ry⟩ r, by rw [List.length_cons, List.length_cons, hl], fun j q e => ?_⟩
    cases j with
    | zero =>
      have e' : (k.1, k.2.1, y) = q := Option.some.inj e
      subst e'
      exact ⟨p, rfl, ht⟩
    | succ j =>
      obtain ⟨b, e1, e3⟩ := hp j q (by simpa using e)
      exact ⟨b, by simpa using e1, e3⟩
def rDictI (K : PySem.W.Frag) : List V → Hp → VK → Prop := fun xs H Q => ∃ (l : Addr) (ps : List Addr) (ks : List (List Int × Addr × V)), xs = [.ref l] ∧ SqL K H l (ps.map V.ref) ∧ Paired (fun p k => SqT K H p [V.ref k.2.1, k.2.2]) ps ks ∧
  (∀ k ∈ ks, SqT K H k.2.1 (k.1.map V.int)) ∧ ∀ p prs, H p = none → Paired (fun (k : List Int × Addr × V) (q : List Int × Addr × Value) => k.1 = q.1 ∧ k.2.1 = q.2.1 ∧ RelV k.2.2 q.2.2) ks prs → Q (.ref p) (upd H p (TdO p (storedAllH [] prs)))
theorem cr_dictI {X : Cx} (hcalm : X.calm = true) (hu : X.A.units + 2 < cLine) : CallR X (.type "dict") (rDictI X.K) := by
  intro pins s σ H xs us Q I r q
  obtain ⟨a, ps, ks, ex, hq, hp, ht, q⟩ := q
  subst ex
  obtain ⟨u, eu, rx⟩ := vals1 r
  subst eu
  obtain rfl : u = Value.ref a := rx
  obtain ⟨its, rv, pl, hz⟩ := I.list hq
  have ei := refs_at rv
  subst ei
  rw [List.length_map] at hz
  obtain ⟨prs, rel, hl, hpr⟩ := pairs_ofI I hp
  obtain ⟨o, n, ho, hc, hd, hdat⟩ := pl
  have hks : ∀ x ∈ prs, (tupleKind (intKind X.prog X.w)).is s.heap x.1 x.2.1 := by
    have all : ∀ {l : List (List Int × Addr × V)} {m : List (List Int × Addr × Value)}, Paired (fun (k : List Int × Addr × V) (q : List Int × Addr × Value) => k.1 = q.1 ∧ k.2.1 = q.2.1 ∧ RelV k.2.2 q.2.2) l m → (∀ k ∈ l, SqT X.K H k.2.1 (k.1.map V.int)) → ∀ x ∈ m, (tupleKind (intKind X.prog X.w)).is s.heap x.1 x.2.1 := by
      intro l m hlm
      induction hlm with
      | nil => intro _ x hx; exact nomatch hx
      | @cons k0 q0 ks0 qs0 hkq t ih =>
        intro hk x hx
        rcases List.mem_cons.mp hx with e | hx
        · subst e
          have := hk k0 List.mem_cons_self
          rw [hkq.1, hkq.2.1] at this
          exact key_is I this
        · exact ih (fun k hk' => hk k (List.mem_cons_of_mem _ hk')) x hx
    exact all rel ht
  refine call_dict_pairsH (knd := tupleKind (intKind X.prog X.w)) (ps := prs) (PairArg.list a (ps.map Value.ref).toArray (fun j => ps.getD j 0) (prs.map fun q => (Value.ref q.2.1, q.2.2))) (I.ok.hd hcalm) (show X.A.in1.in1.units < cLine from hu) ⟨⟨o, n, ho, hc, hd, hdat⟩, ?_, ?_⟩ ⟨by simp, ?_⟩ ?_ (by rw [List.length_map, hl]; exact hz) fun h' tk hd' k => ?_
  · simp [hl]
  · intro j k v e
    rw [List.getElem?_map, Option.map_eq_some_iff] at e
    obtain ⟨q0, e0, e1⟩ := e
    obtain ⟨b, e2, e3⟩ := hpr j q0 e0
    cases e1
    have hg : ps.getD j 0 = b := by rw [List.getD, e2]; rfl
    refine ⟨?_, ?_⟩
    · show (List.map Value.ref ps).toArray[j]? = some (Value.ref (ps.getD j 0))
      rw [hg]
      simp [e2]
    · show PairAt s.heap (ps.getD j 0) (Value.ref q0.2.1) q0.2.2
      rw [hg]
      exact .inl e3
  · intro i key v e
    have e : (prs.map fun q => (Value.ref q.2.1, q.2.2))[i]? = some (key, v) := e
    rw [List.getElem?_map, Option.map_eq_some_iff] at e
    obtain ⟨q0, e0, e1⟩ := e
    cases e1
    exact ⟨q0.1, q0.2.1, e0, rfl⟩
  · intro h' hk x hx
    obtain ⟨o1, items, n1, h1, h2, h3, h4⟩ := hks x hx
    exact ⟨o1, items, n1, hk _ o1 (Nat.ne_of_lt (Heap.lt_size h1)) (fun q => nomatch q) h1, h2, h3, h4⟩
  · have k' : ∀ b o, s.heap.get? b = some o → h'.get? b = some o := fun b o e => k b o (fun q => nomatch q) e
    exact ⟨.ref s.heap.objs.size, upd H s.heap.objs.size (TdO s.heap.objs.size (storedAllH [] prs)), I.laid (t' := tk) k' (Nat.le_refl _) (tdO_new (DictI.of hd')), rfl, q _ prs (I.hok.fresh (Nat.le_refl _)) rel⟩
end TD

set_option Elab.async false
set_option linter.all false
set_option maxRecDepth 100000
set_option maxHeartbeats 1000000
/-! So1: plain data and owned trees in the heap. -/
namespace PY
open PySem L2
abbrev Ad := Addr → Prop
def LZ (K : W.Frag) (Z : Ad) (H : Hp) (a : Addr) (us : List V) : Prop := (Z a ∧ Rd H a (.lst us)) ∨ SqL K (fun _ => none) a us
def TZ (K : W.Frag) (H : Hp) (a : Addr) (us : List V) : Prop := H a = some (.tup us) ∨ SqT K (fun _ => none) a us
/-- the values stand for the plain data; every list of it is in Z -/
inductive RZ (K : W.Frag) (Z : Ad) (H : Hp) : List V → List D → Prop
  | nil : RZ K Z H [] []
  | non {vs ds} : RZ K Z H vs ds → RZ K Z H (.non :: vs) (.none :: ds)
  | bl {b vs ds} : RZ K Z H vs ds → RZ K Z H (.bl b :: vs) (.bool b :: ds)
  | int {i vs ds} : RZ K Z H vs ds → RZ K Z H (.int i :: vs) (.int i :: ds)
  | str {x vs ds} : RZ K Z H vs ds → RZ K Z H (.str x :: vs) (.str x :: ds)
  | lst {a us es vs ds} : LZ K Z H a us → RZ K Z H us es → RZ K Z H vs ds → RZ K Z H (.ref a :: vs) (.list es :: ds)
  | tup {a us es vs ds} : TZ K H a us → RZ K Z H us es → RZ K Z H vs ds → RZ K Z H (.ref a :: vs) (.tuple es :: ds)
abbrev RV (K : W.Frag) (Z : Ad) (H : Hp) (v : V) (d : D) : Prop := RZ K Z H [v] [d]
/-- what is kept -/
structure Keep (S : Ad) (H H' : Hp) : Prop where
  at_ : ∀ a, S a → H' a = H a
  tup : ∀ a us, H a = some (.tup us) → H' a = some (.tup us)
theorem Keep.refl {S : Ad} {H : Hp} : Keep S H H := ⟨fun _ _ => rfl, fun _ _ h => h⟩
theorem Keep.trans {S S' : Ad} {H H1 H2 : Hp} (a : Keep S H H1) (b : Keep S' H1 H2) (h : ∀ x, S x → S' x) : Keep S H H2 :=
  ⟨fun x q => (b.at_ x (h x q)).trans (a.at_ x q), fun x us q => b.tup x us (a.tup x us q)⟩
theorem Keep.mono {S S' : Ad} {H H1 : Hp} (a : Keep S H H1) (h : ∀ x, S' x → S x) : Keep S' H H1 := ⟨fun x q => a.at_ x (h x q), a.tup⟩
section
variable {K : W.Frag} {Z Z' S : Ad} {H H' : Hp} {a : Addr} {us vs : List V} {ds es : List D} {v : V} {d : D}
theorem LZ.sq (h : LZ K Z H a us) : SqL K H a us := by
  rcases h with ⟨_, h⟩ | h
  · exact .inl h
  · rcases h with h | h
    · rcases h with h | ⟨_, h⟩ <;> cases h
    · exact .inr h
theorem TZ.sq (h : TZ K H a us) : SqT K H a us := by
  rcases h with h | h
  · exact .inl (.inl h)
  · rcases h with h | h
    · rcases h with h | ⟨_, h⟩ <;> cases h
    · exact .inr h
theorem LZ.keep (h : LZ K Z H a us) (k : Keep Z H H') (m : ∀ b, Z b → Z' b) : LZ K Z' H' a us := by
  rcases h with ⟨z, h⟩ | h
  · refine .inl ⟨m a z, ?_⟩
    unfold Rd at h ⊢
    rw [k.at_ a z]; exact h
  · exact .inr h
theorem TZ.keep (h : TZ K H a us) (k : Keep S H H') : TZ K H' a us := by
  rcases h with h | h
  · exact .inl (k.tup _ _ h)
  · exact .inr h
theorem RZ.keep (k : Keep Z H H') (m : ∀ b, Z b → Z' b) (h : RZ K Z H vs ds) : RZ K Z' H' vs ds := by
  induction h with
  | nil => exact .nil
  | non _ ih => exact .non ih
  | bl _ ih => exact .bl ih
  | int _ ih => exact .int ih
  | str _ ih => exact .str ih
  | lst l _ _ ih1 ih2 => exact .lst (l.keep k m) ih1 ih2
  | tup l _ _ ih1 ih2 => exact .tup (l.keep k) ih1 ih2
theorem RZ.mono (m : ∀ b, Z b → Z' b) (h : RZ K Z H vs ds) : RZ K Z' H vs ds := h.keep Keep.refl m
theorem RZ.length (h : RZ K Z H vs ds) : vs.length = ds.length := by
  induction h with
  | nil => rfl
  | non _ ih => simp [ih]
  | bl _ ih => simp [ih]
  | int _ ih => simp [ih]
  | str _ ih => simp [ih]
  | lst _ _ _ _ ih => simp [ih]
  | tup _ _ _ _ ih => simp [ih]
theorem RZ.cons (h : RV K Z H v d) (r : RZ K Z H vs ds) : RZ K Z H (v :: vs) (d :: ds) := by
  cases h with
  | non _ => exact .non r
  | bl _ => exact .bl r
  | int _ => exact .int r
  | str _ => exact .str r
  | lst l q _ => exact .lst l q r
  | tup l q _ => exact .tup l q r
theorem RZ.head (h : RZ K Z H (v :: vs) (d :: ds)) : RV K Z H v d := by
  cases h with
  | non _ => exact .non .nil
  | bl _ => exact .bl .nil
  | int _ => exact .int .nil
  | str _ => exact .str .nil
  | lst l q _ => exact .lst l q .nil
  | tup l q _ => exact .tup l q .nil
theorem RZ.tail (h : RZ K Z H (v :: vs) (d :: ds)) : RZ K Z H vs ds := by
  cases h <;> assumption
theorem RZ.append : ∀ {vs us : List V} {ds es : List D}, RZ K Z H vs ds → RZ K Z H us es → RZ K Z H (vs ++ us) (ds ++ es)
  | [], _, [], _, _, r => r
  | _ :: _, _, _ :: _, _, h, r => .cons h.head (RZ.append h.tail r)
  | [], _, _ :: _, _, h, _ => by cases h
  | _ :: _, _, [], _, h, _ => by cases h
theorem RZ.get : ∀ {vs : List V} {ds : List D} {i : Nat} {d : D}, RZ K Z H vs ds → ds[i]? = some d → ∃ v, vs[i]? = some v ∧ RV K Z H v d
  | [], [], _, _, _, e => by simp at e
  | v :: vs, d :: ds, 0, _, h, e => by simp at e; subst e; exact ⟨v, rfl, h.head⟩
  | v :: vs, d :: ds, i + 1, d', h, e => by
    obtain ⟨w, h1, h2⟩ := RZ.get (i := i) (d := d') h.tail (by simpa using e)
    exact ⟨w, by simpa using h1, h2⟩
  | [], _ :: _, _, _, h, _ => by cases h
  | _ :: _, [], _, _, h, _ => by cases h
theorem RZ.getV : ∀ {vs : List V} {ds : List D} {i : Nat} {v : V}, RZ K Z H vs ds → vs[i]? = some v → ∃ d, ds[i]? = some d ∧ RV K Z H v d
  | [], [], _, _, _, e => by simp at e
  | v :: vs, d :: ds, 0, _, h, e => by simp at e; subst e; exact ⟨d, rfl, h.head⟩
  | v :: vs, d :: ds, i + 1, v', h, e => by
    obtain ⟨w, h1, h2⟩ := RZ.getV (i := i) (v := v') h.tail (by simpa using e)
    exact ⟨w, by simpa using h1, h2⟩
  | [], _ :: _, _, _, h, _ => by cases h
  | _ :: _, [], _, _, h, _ => by cases h
theorem RZ.take : ∀ {vs : List V} {ds : List D} (n : Nat), RZ K Z H vs ds → RZ K Z H (vs.take n) (ds.take n)
  | [], [], n, _ => by simp; exact .nil
  | v :: vs, d :: ds, 0, _ => by simp; exact .nil
  | v :: vs, d :: ds, n + 1, h => by simpa using RZ.cons h.head (RZ.take n h.tail)
  | [], _ :: _, _, h => by cases h
  | _ :: _, [], _, h => by cases h
theorem RZ.drop : ∀ {vs : List V} {ds : List D} (n : Nat), RZ K Z H vs ds → RZ K Z H (vs.drop n) (ds.drop n)
  | [], [], n, _ => by simp; exact .nil
  | v :: vs, d :: ds, 0, h => by simpa using h
  | v :: vs, d :: ds, n + 1, h => by simpa using RZ.drop n h.tail
  | [], _ :: _, _, h => by cases h
  | _ :: _, [], _, h => by cases h
theorem RZ.set : ∀ {vs : List V} {ds : List D} {v : V} {d : D} (n : Nat), RZ K Z H vs ds → RV K Z H v d → RZ K Z H (vs.set n v) (ds.set n d)
  | [], [], _, _, n, _, _ => by simp; exact .nil
  | v :: vs, d :: ds, _, _, 0, h, r => by simpa using RZ.cons r h.tail
  | v :: vs, d :: ds, _, _, n + 1, h, r => by simpa using RZ.cons h.head (RZ.set n h.tail r)
  | [], _ :: _, _, _, _, h, _ => by cases h
  | _ :: _, [], _, _, _, h, _ => by cases h
theorem RZ.eraseIdx : ∀ {vs : List V} {ds : List D} (n : Nat), RZ K Z H vs ds → RZ K Z H (vs.eraseIdx n) (ds.eraseIdx n)
  | [], [], n, _ => by simp; exact .nil
  | v :: vs, d :: ds, 0, h => by simpa using h.tail
  | v :: vs, d :: ds, n + 1, h => by simpa using RZ.cons h.head (RZ.eraseIdx n h.tail)
  | [], _ :: _, _, h => by cases h
  | _ :: _, [], _, h => by cases h
theorem RZ.dropLast (h : RZ K Z H vs ds) : RZ K Z H vs.dropLast ds.dropLast := by
  rw [List.dropLast_eq_take, List.dropLast_eq_take, h.length]
  exact h.take _
theorem RZ.of_append : ∀ {es ds : List D} {vs : List V}, RZ K Z H vs (es ++ ds) → ∃ us ws, vs = us ++ ws ∧ RZ K Z H us es ∧ RZ K Z H ws ds
  | [], _, vs, h => ⟨[], vs, rfl, .nil, h⟩
  | e :: es, ds, [], h => by cases h
  | e :: es, ds, v :: vs, h => by
    obtain ⟨us, ws, rfl, h1, h2⟩ := RZ.of_append (es := es) (ds := ds) (vs := vs) h.tail
    exact ⟨v :: us, ws, rfl, .cons h.head h1, h2⟩
theorem RV.eInt {i : Int} (h : RV K Z H v (.int i)) : v = .int i := by cases h; rfl
theorem RV.eBool {i : Bool} (h : RV K Z H v (.bool i)) : v = .bl i := by cases h; rfl
theorem RV.eStr {i : Str} (h : RV K Z H v (.str i)) : v = .str i := by cases h; rfl
theorem RV.eNone (h : RV K Z H v .none) : v = .non := by cases h; rfl
theorem RV.eList (h : RV K Z H v (.list es)) : ∃ a us, v = .ref a ∧ LZ K Z H a us ∧ RZ K Z H us es := by
  cases h with | lst l q _ => exact ⟨_, _, rfl, l, q⟩
theorem RV.eTup (h : RV K Z H v (.tuple es)) : ∃ a us, v = .ref a ∧ TZ K H a us ∧ RZ K Z H us es := by
  cases h with | tup l q _ => exact ⟨_, _, rfl, l, q⟩
theorem RV.eDict {k} (h : RV K Z H v (.dict k)) : False := by cases h
theorem RZ.ints : ∀ {vs : List V} {ds : List D} {ns : List Int}, RZ K Z H vs ds → intsD ds = some ns → vs = ns.map V.int ∧ ds = ns.map PyData.int
  | [], [], ns, _, e => by simp [intsD] at e; subst e; exact ⟨rfl, rfl⟩
  | v :: vs, d :: ds, ns, h, e => by
    cases d <;> simp [intsD] at e
    obtain ⟨r, e1, rfl⟩ := e
    obtain ⟨h1, h2⟩ := RZ.ints h.tail e1
    have := h.head.eInt
    subst this
    simp [h1, h2]
  | [], _ :: _, _, h, _ => by cases h
  | _ :: _, [], _, h, _ => by cases h
theorem RZ.bools : ∀ {vs : List V} {ds : List D} {ns : List Bool}, RZ K Z H vs ds → boolsD ds = some ns → vs = ns.map V.bl ∧ ds = ns.map PyData.bool
  | [], [], ns, _, e => by simp [boolsD] at e; subst e; exact ⟨rfl, rfl⟩
  | v :: vs, d :: ds, ns, h, e => by
    cases d <;> simp [boolsD] at e
    obtain ⟨r, e1, rfl⟩ := e
    obtain ⟨h1, h2⟩ := RZ.bools h.tail e1
    have := h.head.eBool
    subst this
    simp [h1, h2]
  | [], _ :: _, _, h, _ => by cases h
  | _ :: _, [], _, h, _ => by cases h
theorem RZ.strs : ∀ {vs : List V} {ds : List D} {ns : List Str}, RZ K Z H vs ds → strsD ds = some ns → vs = ns.map V.str ∧ ds = ns.map PyData.str
  | [], [], ns, _, e => by simp [strsD] at e; subst e; exact ⟨rfl, rfl⟩
  | v :: vs, d :: ds, ns, h, e => by
    cases d <;> simp [strsD] at e
    obtain ⟨r, e1, rfl⟩ := e
    obtain ⟨h1, h2⟩ := RZ.strs h.tail e1
    have := h.head.eStr
    subst this
    simp [h1, h2]
  | [], _ :: _, _, h, _ => by cases h
  | _ :: _, [], _, h, _ => by cases h
theorem RZ.dpAll (h : RZ K Z H vs ds) : DpAll K H vs ds := by
  induction h with
  | nil => exact .nil
  | non _ ih => exact .cons .non ih
  | bl _ ih => exact .cons (.bl _) ih
  | int _ ih => exact .cons (.int _) ih
  | str _ ih => exact .cons (.str _) ih
  | lst l _ _ ih1 ih2 => exact .cons (.lst l.sq ih1) ih2
  | tup l _ _ ih1 ih2 => exact .cons (.tup l.sq ih1) ih2
theorem RV.dp (h : RV K Z H v d) : Dp K H v d := by
  have := h.dpAll
  cases this; assumption
end
/-- an owned tree at a value; A: its own objects (at most) -/
inductive RM (K : W.Frag) (Z : Ad) (H : Hp) : List V → List M → Ad → Prop
  | nil {A} : RM K Z H [] [] A
  | p {v d vs ms A} : RV K Z H v d → RM K Z H vs ms A → RM K Z H (v :: vs) (.p d :: ms) A
  | fl {a us ds vs ms A B} : H a = some (.lst us) → RZ K Z H us ds → A a → ¬ B a → (∀ b, B b → A b) → RM K Z H vs ms B → RM K Z H (.ref a :: vs) (.fl ds :: ms) A
  | td {a xs ws vs ms A B} : H a = some (TD.TdO a xs) → Paired (fun (x : List Int × Addr × Value) (w : List Int × D) => x.1 = w.1 ∧ RV K Z H (.ref x.2.1) (tupI w.1) ∧ ∃ v, RelV v x.2.2 ∧ RV K Z H v w.2) xs ws → A a → ¬ B a → (∀ b, B b → A b) → RM K Z H vs ms B → RM K Z H (.ref a :: vs) (.td ws :: ms) A
  | fd {a kvs ws vs ms A B} : H a = some (.dK kvs) → kvs.map (·.1) = ws.map (·.1) → RZ K Z H (kvs.map (·.2)) (ws.map (·.2)) → A a → ¬ B a → (∀ b, B b → A b) → RM K Z H vs ms B → RM K Z H (.ref a :: vs) (.fd ws :: ms) A
  | ls {a us ns vs ms A B C} : H a = some (.lst us) → A a → ¬ B a → ¬ C a → (∀ b, B b → A b) → (∀ b, C b → A b) → (∀ b, B b → C b → False) →
      RM K Z H us ns B → RM K Z H vs ms C → RM K Z H (.ref a :: vs) (.ls ns :: ms) A
abbrev RO (K : W.Frag) (Z : Ad) (H : Hp) (v : V) (m : M) (A : Ad) : Prop := RM K Z H [v] [m] A
section
variable {K : W.Frag} {Z Z' S A A' B : Ad} {H H' : Hp} {a : Addr} {us vs : List V} {ms ns : List M} {ds es : List D} {v : V} {m : M}
theorem RM.wide (h : RM K Z H vs ms A) (w : ∀ b, A b → A' b) : RM K Z H vs ms A' := by
  induction h generalizing A' with
  | nil => exact .nil
  | p r _ ih => exact .p r (ih w)
  | fl h r ha hb hs _ _ => exact .fl h r (w _ ha) hb (fun b z => w b (hs b z)) (by assumption)
  | td h r ha hb hs _ _ => exact .td h r (w _ ha) hb (fun b z => w b (hs b z)) (by assumption)
  | fd h hk r ha hb hs _ _ => exact .fd h hk r (w _ ha) hb (fun b z => w b (hs b z)) (by assumption)
  | ls h ha hb hc hs ht hd _ _ _ _ => exact .ls h (w _ ha) hb hc (fun b z => w b (hs b z)) (fun b z => w b (ht b z)) hd (by assumption) (by assumption)
theorem RM.keep (h : RM K Z H vs ms A) (k : Keep Z H H') (m : ∀ b, Z b → Z' b) (ka : ∀ b, A b → H' b = H b) : RM K Z' H' vs ms A := by
  induction h with
  | nil => exact .nil
  | p r _ ih => exact .p (r.keep k m) (ih ka)
  | fl h r ha hb hs _ ih => exact .fl ((ka _ ha).trans h) (r.keep k m) ha hb hs (ih fun b z => ka b (hs b z))
  | td h r ha hb hs _ ih => exact .td ((ka _ ha).trans h) (Paired.mapP r fun _ _ ⟨e, y, v, rv, q⟩ => ⟨e, y.keep k m, v, rv, q.keep k m⟩) ha hb hs (ih fun b z => ka b (hs b z))
  | fd h hk r ha hb hs _ ih => exact .fd ((ka _ ha).trans h) hk (r.keep k m) ha hb hs (ih fun b z => ka b (hs b z))
  | ls h ha hb hc hs ht hd _ _ ih1 ih2 => exact .ls ((ka _ ha).trans h) ha hb hc hs ht hd (ih1 fun b z => ka b (hs b z)) (ih2 fun b z => ka b (ht b z))
theorem RM.length (h : RM K Z H vs ms A) : vs.length = ms.length := by
  induction h with
  | nil => rfl
  | p _ _ ih => simp [ih]
  | fl _ _ _ _ _ _ ih => simp [ih]
  | td _ _ _ _ _ _ ih => simp [ih]
  | fd _ _ _ _ _ _ _ ih => simp [ih]
  | ls _ _ _ _ _ _ _ _ _ _ ih => simp [ih]
theorem RM.split (h : RM K Z H (v :: vs) (m :: ms) A) : ∃ B C : Ad, (∀ b, B b → A b) ∧ (∀ b, C b → A b) ∧ (∀ b, B b → C b → False) ∧ RO K Z H v m B ∧ RM K Z H vs ms C := by
  cases h with
  | p r t => exact ⟨fun _ => False, A, fun _ z => z.elim, fun _ z => z, fun _ z => z.elim, .p r .nil, t⟩
  | @fl a us ds _ _ _ B h r ha hb hs t =>
    refine ⟨fun b => b = a, B, ?_, hs, ?_, .fl h r rfl (B := fun _ => False) (fun z => z) (fun _ z => z.elim) .nil, t⟩
    · rintro b rfl; exact ha
    · rintro b rfl z; exact hb z
  | @td a xs ws _ _ _ B h r ha hb hs t =>
    refine ⟨fun b => b = a, B, ?_, hs, ?_, .td h r rfl (B := fun _ => False) (fun z => z) (fun _ z => z.elim) .nil, t⟩
    · rintro b rfl; exact ha
    · rintro b rfl z; exact hb z
  | @fd a kvs ws _ _ _ B h hk r ha hb hs t =>
    refine ⟨fun b => b = a, B, ?_, hs, ?_, .fd h hk r rfl (B := fun _ => False) (fun z => z) (fun _ z => z.elim) .nil, t⟩
    · rintro b rfl; exact ha
    · rintro b rfl z; exact hb z
  | @ls a us ns _ _ _ B C h ha hb hc hs ht hd t1 t2 =>
    refine ⟨fun b => b = a ∨ B b, C, ?_, ht, ?_, .ls h (.inl rfl) hb (C := fun _ => False) (fun z => z) (fun _ z => .inr z) (fun _ z => z.elim) (fun _ _ z => z) t1 .nil, t2⟩
    · rintro b (rfl | z)
      · exact ha
      · exact hs b z
    · rintro b (rfl | z) q
      · exact hc q
      · exact hd b z q
theorem RM.join {C : Ad} (h : RO K Z H v m B) (t : RM K Z H vs ms C) (d : ∀ b, B b → C b → False) (hB : ∀ b, B b → A b) (hC : ∀ b, C b → A b) : RM K Z H (v :: vs) (m :: ms) A := by
  cases h with
  | p r _ => exact .p r (t.wide hC)
  | fl h r ha hb hs _ => exact .fl h r (hB _ ha) (fun z => d _ ha z) hC t
  | td h r ha hb hs _ => exact .td h r (hB _ ha) (fun z => d _ ha z) hC t
  | fd h hk r ha hb hs _ => exact .fd h hk r (hB _ ha) (fun z => d _ ha z) hC t
  | ls h ha hb hc hs ht hd t1 _ => exact .ls h (hB _ ha) hb (fun z => d _ ha z) (fun b z => hB b (hs b z)) hC (fun b z q => d b (hs b z) q) t1 t
theorem RM.ofRZ : ∀ {vs : List V} {ds : List D}, RZ K Z H vs ds → RM K Z H vs (ds.map M.p) A
  | [], [], _ => .nil
  | v :: vs, d :: ds, h => .p h.head (RM.ofRZ h.tail)
  | [], _ :: _, h => by cases h
  | _ :: _, [], h => by cases h
theorem RO.flat (h : RO K Z H v (.fl ds) A) : ∃ a us, v = .ref a ∧ H a = some (.lst us) ∧ RZ K Z H us ds ∧ A a := by
  cases h with | fl h r ha _ _ _ => exact ⟨_, _, rfl, h, r, ha⟩
theorem RO.dict {ws : List (L2.Key × D)} (h : RO K Z H v (.fd ws) A) : ∃ a kvs, v = .ref a ∧ H a = some (.dK kvs) ∧ kvs.map (·.1) = ws.map (·.1) ∧ RZ K Z H (kvs.map (·.2)) (ws.map (·.2)) ∧ A a := by
  cases h with | fd h hk r ha _ _ _ => exact ⟨_, _, rfl, h, hk, r, ha⟩
theorem RO.tdict {ws : List (List Int × D)} (h : RO K Z H v (.td ws) A) : ∃ a xs, v = .ref a ∧ H a = some (TD.TdO a xs) ∧ Paired (fun (x : List Int × Addr × Value) (w : List Int × D) => x.1 = w.1 ∧ RV K Z H (.ref x.2.1) (tupI w.1) ∧ ∃ v, RelV v x.2.2 ∧ RV K Z H v w.2) xs ws ∧ A a := by
  cases h with | td h r ha _ _ _ => exact ⟨_, _, rfl, h, r, ha⟩
theorem RO.nest (h : RO K Z H v (.ls ms) A) : ∃ a us B, v = .ref a ∧ H a = some (.lst us) ∧ RM K Z H us ms B ∧ A a ∧ ¬ B a ∧ ∀ b, B b → A b := by
  cases h with | ls h ha hb hc hs ht hd t1 _ => exact ⟨_, _, _, rfl, h, t1, ha, hb, hs⟩
theorem RO.leaf {d : D} (h : RO K Z H v (.p d) A) : RV K Z H v d := by
  cases h with | p r _ => exact r
theorem RM.append : ∀ {vs us : List V} {ms ns : List M} {A B C : Ad}, RM K Z H vs ms A → RM K Z H us ns B → (∀ b, A b → B b → False) → (∀ b, A b → C b) → (∀ b, B b → C b) → RM K Z H (vs ++ us) (ms ++ ns) C
  | [], _, [], _, A, B, C, _, t, _, _, hB => t.wide hB
  | v :: vs, us, m :: ms, ns, A, B, C, h, t, d, hA, hB => by
    obtain ⟨A1, A2, s1, s2, dd, h1, h2⟩ := h.split
    have := RM.append (C := fun b => A2 b ∨ B b) h2 t (fun b z q => d b (s2 b z) q) (fun _ z => .inl z) (fun _ z => .inr z)
    refine RM.join h1 this (fun b z q => ?_) (fun b z => hA b (s1 b z)) (fun b z => ?_)
    · rcases q with q | q
      · exact dd b z q
      · exact d b (s1 b z) q
    · rcases z with z | z
      · exact hA b (s2 b z)
      · exact hB b z
  | [], _, _ :: _, _, _, _, _, h, _, _, _, _ => by cases h
  | _ :: _, _, [], _, _, _, _, h, _, _, _, _ => by cases h
/-- its i-th part, and what stands in its place -/
theorem RM.at_ : ∀ {vs : List V} {ms : List M} {i : Nat} {m : M} {A : Ad}, RM K Z H vs ms A → ms[i]? = some m → ∃ (v : V) (B C : Ad), vs[i]? = some v ∧ RO K Z H v m B ∧ (∀ b, B b → A b) ∧ (∀ b, C b → A b) ∧ (∀ b, B b → C b → False) ∧
      (∀ (H' : Hp) (Z' : Ad) (v' : V) (m' : M) (B' A' : Ad), Keep Z H H' → (∀ b, Z b → Z' b) → (∀ b, C b → H' b = H b) → RO K Z' H' v' m' B' → (∀ b, B' b → C b → False) → (∀ b, B' b → A' b) → (∀ b, C b → A' b) → RM K Z' H' (vs.set i v') (ms.set i m') A')
  | v :: vs, m :: ms, 0, m', A, h, e => by
    simp at e; subst e
    obtain ⟨B, C, s1, s2, dd, h1, h2⟩ := h.split
    refine ⟨v, B, C, rfl, h1, s1, s2, dd, fun H' Z' v' m' B' A' k mz kc r dis w1 w2 => ?_⟩
    simp only [List.set_cons_zero]
    exact RM.join r (h2.keep k mz kc) dis w1 w2
  | v :: vs, m :: ms, i + 1, m', A, h, e => by
    obtain ⟨B0, C0, s1, s2, dd, h1, h2⟩ := h.split
    obtain ⟨w, B, C, e1, r, t1, t2, t3, f⟩ := RM.at_ (i := i) (m := m') h2 (by simpa using e)
    refine ⟨w, B, fun b => B0 b ∨ C b, by simpa using e1, r, fun b z => s2 b (t1 b z), ?_, ?_, fun H' Z' v' m'' B' A' k mz kc r' dis w1 w2 => ?_⟩
    · rintro b (z | z)
      · exact s1 b z
      · exact s2 b (t2 b z)
    · rintro b z (q | q)
      · exact dd b q (t1 b z)
      · exact t3 b z q
    · simp only [List.set_cons_succ]
      have q := f H' Z' v' m'' B' (fun b => B' b ∨ C b) k mz (fun b z => kc b (.inr z)) r' (fun b z q => dis b z (.inr q)) (fun _ z => .inl z) (fun _ z => .inr z)
      refine RM.join (h1.keep k mz fun b z => kc b (.inl z)) q ?_ (fun b z => w2 b (.inl z)) ?_
      · rintro b z (q | q)
        · exact dis b q (.inl z)
        · exact dd b z (t2 b q)
      · rintro b (z | z)
        · exact w1 b z
        · exact w2 b (.inr z)
  | [], [], _, _, _, _, e => by simp at e
  | [], _ :: _, _, _, _, h, _ => by cases h
  | _ :: _, [], _, _, _, h, _ => by cases h
theorem RM.eraseIdx : ∀ {vs : List V} {ms : List M} {A : Ad} (i : Nat), RM K Z H vs ms A → RM K Z H (vs.eraseIdx i) (ms.eraseIdx i) A
  | [], [], _, i, _ => by simp; exact .nil
  | v :: vs, m :: ms, A, 0, h => by
    obtain ⟨B, C, s1, s2, dd, h1, h2⟩ := h.split
    simpa using h2.wide s2
  | v :: vs, m :: ms, A, i + 1, h => by
    obtain ⟨B, C, s1, s2, dd, h1, h2⟩ := h.split
    simpa using RM.join h1 (RM.eraseIdx i h2) dd s1 s2
  | [], _ :: _, _, _, h => by cases h
  | _ :: _, [], _, _, h => by cases h
end
end PY

set_option Elab.async false
set_option linter.all false
set_option maxRecDepth 100000
set_option maxHeartbeats 1000000
/-! So2: operators by plain data. -/
namespace PY
open PySem PySem.Spec PyProof.Rows L2
/-- the heap has grown -/
structure Grow (Z : Ad) (H : Hp) (Z' : Ad) (H' : Hp) : Prop where
  hh : ∀ a o, H a = some o → H' a = some o
  zz : ∀ a, Z a → Z' a
  zn : ∀ a, Z' a → Z a ∨ H a = none
  zd : ∀ a, Z' a → H' a ≠ none
theorem Grow.refl {Z : Ad} {H : Hp} (d : ∀ a, Z a → H a ≠ none) : Grow Z H Z H := ⟨fun _ _ h => h, fun _ h => h, fun _ h => .inl h, d⟩
theorem Grow.keep {Z Z' S : Ad} {H H' : Hp} (g : Grow Z H Z' H') (hS : ∀ a, S a → H a ≠ none) : Keep S H H' :=
  ⟨fun a s => (by
    cases e : H a with
    | none => exact absurd e (hS a s)
    | some o => exact g.hh a o e), fun a us h => g.hh a _ h⟩
theorem Grow.trans {Z Z1 Z2 : Ad} {H H1 H2 : Hp} (g : Grow Z H Z1 H1) (k : Grow Z1 H1 Z2 H2) : Grow Z H Z2 H2 :=
  ⟨fun a o h => k.hh a o (g.hh a o h), fun a h => k.zz a (g.zz a h), fun a h => (by
    rcases k.zn a h with h | h
    · exact g.zn a h
    · right
      cases e : H a with
      | none => rfl
      | some o => rw [g.hh a o e] at h; cases h), k.zd⟩
/-- a new object that is never changed -/
theorem Grow.new {Z : Ad} {H : Hp} {p : Addr} {o : HO} (d : ∀ a, Z a → H a ≠ none) (h : H p = none) : Grow Z H (fun a => Z a ∨ a = p) (upd H p o) :=
  ⟨fun a u e => by rw [upd_ne (ne_of_none e h)]; exact e, fun _ z => .inl z, fun a z => z.imp id (fun e => (by rw [e]; exact h)), fun a z => by
    by_cases e : a = p
    · subst e; rw [upd_same]; exact fun z => nomatch z
    · rw [upd_ne e]; exact d a (z.resolve_right e)⟩
theorem Grow.newT {Z : Ad} {H : Hp} {p : Addr} {o : HO} (d : ∀ a, Z a → H a ≠ none) (h : H p = none) : Grow Z H Z (upd H p o) :=
  ⟨fun a u e => by rw [upd_ne (ne_of_none e h)]; exact e, fun _ z => z, fun a z => .inl z, fun a z => by
    by_cases e : a = p
    · subst e; exact absurd h (d a z)
    · rw [upd_ne e]; exact d a z⟩
theorem RZ.grow {K : W.Frag} {Z Z' : Ad} {H H' : Hp} {vs : List V} {ds : List D} (h : RZ K Z H vs ds) (g : Grow Z H Z' H') (d : ∀ a, Z a → H a ≠ none) : RZ K Z' H' vs ds := h.keep (g.keep d) g.zz
/-- a value, or a look at an owned list of leaves -/
def RW (K : W.Frag) (Z : Ad) (F : Nat → Ad) (H : Hp) (v : V) (d : D) : Prop :=
  RV K Z H v d ∨ ∃ i a us ds, F i a ∧ v = .ref a ∧ d = .list ds ∧ H a = some (.lst us) ∧ RZ K Z H us ds
section
variable {K : W.Frag} {Z Z' : Ad} {F : Nat → Ad} {H H' : Hp} {v : V} {d : D} {es : List D}
theorem RW.eInt {i : Int} (h : RW K Z F H v (.int i)) : v = .int i := by
  rcases h with h | ⟨_, _, _, _, _, _, e, _⟩
  · exact h.eInt
  · cases e
theorem RW.eBool {i : Bool} (h : RW K Z F H v (.bool i)) : v = .bl i := by
  rcases h with h | ⟨_, _, _, _, _, _, e, _⟩
  · exact h.eBool
  · cases e
theorem RW.eStr {i : Str} (h : RW K Z F H v (.str i)) : v = .str i := by
  rcases h with h | ⟨_, _, _, _, _, _, e, _⟩
  · exact h.eStr
  · cases e
theorem RW.eNone (h : RW K Z F H v .none) : v = .non := by
  rcases h with h | ⟨_, _, _, _, _, _, e, _⟩
  · exact h.eNone
  · cases e
theorem RW.eList (h : RW K Z F H v (.list es)) : ∃ a us, v = .ref a ∧ SqL K H a us ∧ RZ K Z H us es := by
  rcases h with h | ⟨_, a, us, _, _, rfl, e, h, r⟩
  · obtain ⟨a, us, e, l, r⟩ := h.eList
    exact ⟨a, us, e, l.sq, r⟩
  · cases e
    exact ⟨a, us, rfl, SqL.of h, r⟩
theorem RW.eTup (h : RW K Z F H v (.tuple es)) : ∃ a us, v = .ref a ∧ TZ K H a us ∧ RZ K Z H us es := by
  rcases h with h | ⟨_, a, us, _, _, rfl, e, h, r⟩
  · exact h.eTup
  · cases e
theorem RW.eDict {k} (h : RW K Z F H v (.dict k)) : False := by
  rcases h with h | ⟨_, a, us, _, _, rfl, e, h, r⟩
  · exact h.eDict
  · cases e
theorem RW.dp (h : RW K Z F H v d) : Dp K H v d := by
  rcases h with h | ⟨_, a, us, ds, _, rfl, rfl, h, r⟩
  · exact h.dp
  · exact .lst (SqL.of h) r.dpAll
end
theorem line_le {n : Nat} (h : n ≤ 1000000) : n ≤ sizeLine := by rw [sizeLine_eq]; omega
theorem line_lt {n : Nat} (h : n < 1000000) : n < sizeLine := by rw [sizeLine_eq]; omega
/-- what an operator asks, by plain data: the two operands, the answer, what follows -/
def rD2 (K : W.Frag) (f : D → D → Option D) : R2 := fun x y H Q => ∃ Z F a b c, RW K Z F H x a ∧ RW K Z F H y b ∧ f a b = some c ∧ (∀ p, Z p → H p ≠ none) ∧ ∀ v Z' H', Grow Z H Z' H' → RV K Z' H' v c → Q v H'
section
variable {X : Cx}
theorem op_catS : OpR X (binaryOp .Add) (fun x y H Q => ∃ a b xs zs, x = .ref a ∧ y = .ref b ∧ SqL X.K H a xs ∧ SqL X.K H b zs ∧ xs.length + zs.length ≤ sizeLine ∧ ∀ p, H p = none → Q (.ref p) (upd H p (.lst (xs ++ zs)))) := by
  intro pins s σ H x y v u Q I rx ry h
  obtain ⟨a, b, xs, zs, rfl, rfl, ha, hb, hz, q⟩ := h
  cases rx
  cases ry
  obtain ⟨its, r1, ⟨o1, n1, e1, c1, d1, l1⟩, _⟩ := I.list ha
  obtain ⟨its2, r2, ⟨o2, n2, e2, c2, d2, l2⟩, _⟩ := I.list hb
  obtain ⟨cls, dd, data, sl⟩ := o1
  obtain ⟨cls2, dd2, data2, sl2⟩ := o2
  simp only at c1 d1 l1 c2 d2 l2
  subst c1 d1 l1 c2 d2 l2
  have hs : its.toArray.size + its2.toArray.size ≤ sizeLine := by
    rw [List.size_toArray, List.size_toArray, ← r1.length, ← r2.length]; exact hz
  refine concat_meets ⟨_, e1, rfl⟩ ⟨_, e2, rfl⟩ noFill_list_add seq_list_add PySem.F.slot_list_add PySem.F.entry_list_add (PySem.F.args_list_add_2 _ _) (list_addW a b its.toArray its2.toArray n1 n2 none none sl sl2 hs) ⟨e1, e2, ?_⟩
  have ea : its.toArray ++ its2.toArray = (its ++ its2).toArray := by simp
  rw [ea]
  exact ⟨.ref _, _, I.lnew (t' := s.toks) (r1.append r2) (by rw [List.length_append]; exact hz), rfl, q _ I.fresh⟩
theorem tuple_mul1 (l : Addr) (items : Array Value) (n : Nat) (dd : Option Addr) (sl : Array (Option Value)) (u : Tok) :
    Meets (Builtin.«tuple.__mul__» ⟨[.ref l, .int 1 u], []⟩) (fun _ R s => s.heap.get? l = some { cls := .type "tuple", dict := dd, data := .seq items n, slots := sl } ∧ R (.ok (.ret (Value.ref l))) s) :=
  .of_wp fun prog w A R s h => by
    obtain ⟨hp, g, d, tk, os⟩ := s
    obtain ⟨hl, h⟩ := h
    have f1 := AutoSeq1.idx_int
    have c0 : (decide ((1 : Int) < -(2 ^ 63)) || decide ((1 : Int) ≥ 2 ^ 63)) = false := by decide
    have c1 : (items.isEmpty || (1 : Int) == 1) = true := by simp
    wp_walk using wpAny_loadPart' hl
    repeat (first
      | (refine wpAny_ite_false (decide_eq_false (by rw [c0]; exact Bool.false_ne_true)) ?_; wp_walk using wpAny_loadPart' hl)
      | (refine wpAny_ite_true (decide_eq_true (by rw [c1])) ?_; wp_walk using wpAny_loadPart' hl))
    exact ⟨_, rfl, h⟩
theorem op_rep1 : OpR X (binaryOp .Mult) (fun x y H Q => ∃ l xs, x = .ref l ∧ y = .int 1 ∧ SqT X.K H l xs ∧ Q (.ref l) H) := by
  intro pins s σ H x y v u Q I rx ry h
  obtain ⟨l, xs, rfl, rfl, hT, q⟩ := h
  cases rx
  obtain ⟨t, rfl⟩ := ry
  obtain ⟨its, r, ⟨⟨cls, dd, data, sl⟩, ho, hc, n, hd⟩, hs⟩ := I.tuple hT
  simp only at hc hd
  subst hc hd
  refine wpAny_binaryOp_repeat_ref (T := "tuple") (U := "int") (by decide) ⟨_, ho, rfl⟩ (fun s' => typeIs_int s' 1 t) noFill_tuple_mul F.fills_int_mul F.slot_int_rmul repeat_tuple F.slot_int_index.lookup
    (call_meets F.slot_int_rmul (typeIs_int s 1 t) F.entry_int_rmul (F.args_int_rmul_2 _ _) (int_rmul_tuple 1 t l its.toArray n dd sl)
      ⟨ho, rfl, ⟨_, ho, rfl⟩, call_meets F.slot_tuple_mul ⟨_, ho, rfl⟩ F.entry_tuple_mul (F.args_tuple_mul_2 _ _) (tuple_mul1 l its.toArray n dd sl t) ⟨ho, ?_⟩⟩)
  exact ⟨.ref l, H, I, rfl, q⟩
def bop : Bop → Operator
  | .add => .Add | .sub => .Sub | .mul => .Mult | .mod => .Mod | .fdv => .FloorDiv | .pow => .Pow | .shl => .LShift | .shr => .RShift | .band => .BitAnd | .bor => .BitOr
theorem powOk_c {i j : Int} (h : powOk i j = true) : CPow i j := by
  unfold powOk at h
  simp only [Bool.and_eq_true, decide_eq_true_eq] at h
  exact ⟨h.1.1, h.1.2, h.2⟩
theorem mulOk_ok {i j : Int} (h : mulOk i j = true) : IntMulOk i j := by
  have b : ∀ x : Int, Builtin.Int.intBits x ≤ x.natAbs.log2 + 1 := fun x => by
    unfold Builtin.Int.intBits
    split <;> omega
  unfold mulOk at h
  simp only [Bool.or_eq_true, decide_eq_true_eq] at h
  rcases h with h | h | h
  · exact CMulW.ok h
  · exact .of_left (by have := b i; omega)
  · exact .of_right (by have := b j; omega)
theorem op_mulK : OpR X (binaryOp .Mult) (rI (fun i j => IntMulOk i j) fun i j => .int (i * j)) := opI fun _ _ _ _ _ _ _ hc q => mul_int q hc
theorem RZ.repl' {K : PySem.W.Frag} {Z : Ad} {H : Hp} {vs : List V} {ds : List D} (h : RZ K Z H vs ds) : ∀ n : Nat, RZ K Z H (List.replicate n vs).flatten (List.replicate n ds).flatten
  | 0 => .nil
  | n + 1 => by
    rw [List.replicate_succ, List.replicate_succ, List.flatten_cons, List.flatten_cons]
    exact h.append (RZ.repl' h n)
theorem op_bin (o : Bop) : OpR X (binaryOp (bop o)) (rD2 X.K (binD o)) := by
  intro pins s σ H x y v u Q I rx ry h
  obtain ⟨Z, F, a, b, c, ra, rb, e, zd, q⟩ := h
  cases o with
  | add =>
    cases a <;> cases b <;> simp only [binD, reduceCtorEq] at e
    · have := ra.eInt; have := rb.eInt; subst_vars; cases e
      exact op_add pins s σ H _ _ v u Q I rx ry ⟨_, _, rfl, rfl, q _ _ _ (Grow.refl zd) (.int .nil)⟩
    · split at e <;> cases e
      have := ra.eStr; have := rb.eStr; subst_vars
      exact op_add_str pins s σ H _ _ v u Q I rx ry ⟨_, _, rfl, rfl, line_le (by assumption), q _ _ _ (Grow.refl zd) (.str .nil)⟩
    · split at e <;> cases e
      obtain ⟨p, us, rfl, l1, z1⟩ := ra.eList
      obtain ⟨p', us', rfl, l2, z2⟩ := rb.eList
      refine op_catS pins s σ H _ _ v u Q I rx ry ⟨_, _, _, _, rfl, rfl, l1, l2, line_le (by rw [z1.length, z2.length]; assumption), fun p hp => ?_⟩
      exact q _ _ _ (Grow.new zd hp) (.lst (.inl ⟨.inr rfl, .inl upd_same⟩) ((z1.append z2).grow (Grow.new zd hp) zd) .nil)
    · split at e <;> cases e
      obtain ⟨p, us, rfl, l1, z1⟩ := ra.eTup
      obtain ⟨p', us', rfl, l2, z2⟩ := rb.eTup
      have zz := z1.append z2
      refine op_catA pins s σ H _ _ v u Q I rx ry ⟨_, _, _, _, rfl, rfl, l1.sq, l2.sq, line_le (by rw [z1.length, z2.length]; assumption), ?_, ?_, ?_⟩
      · rintro rfl
        cases z1
        exact q _ _ _ (Grow.refl zd) (.tup l2 z2 .nil)
      · rintro _ rfl
        cases z2
        rw [List.append_nil] at q
        exact q _ _ _ (Grow.refl zd) (.tup l1 z1 .nil)
      · intro _ _ p hp
        exact q _ _ _ (Grow.newT zd hp) (.tup (.inl upd_same) (zz.grow (Grow.newT zd hp) zd) .nil)
  | sub =>
    cases a <;> cases b <;> simp only [binD, reduceCtorEq] at e
    have := ra.eInt; have := rb.eInt; subst_vars; cases e
    exact op_sub pins s σ H _ _ v u Q I rx ry ⟨_, _, rfl, rfl, q _ _ _ (Grow.refl zd) (.int .nil)⟩
  | mul =>
    cases a <;> cases b <;> simp only [binD, reduceCtorEq] at e
    · split at e <;> cases e
      have := ra.eInt; have := rb.eInt; subst_vars
      rename_i i j hh
      exact op_mulK pins s σ H _ _ v u Q I rx ry ⟨_, _, rfl, rfl, mulOk_ok hh, q _ _ _ (Grow.refl zd) (.int .nil)⟩
    · split at e <;> cases e
      rename_i xs k hh
      obtain ⟨h1, h2, h3, h4⟩ := hh
      have := rb.eInt; subst_vars
      obtain ⟨p, us, rfl, l1, z1⟩ := ra.eTup
      by_cases hk : k = 1
      · subst hk
        refine op_rep1 pins s σ H _ _ v u Q I rx ry ⟨_, _, rfl, rfl, l1.sq, ?_⟩
        have : (List.replicate (1 : Int).toNat xs).flatten = xs := by simp
        rw [this] at q
        exact q _ _ _ (Grow.refl zd) (.tup l1 z1 .nil)
      · refine op_repT pins s σ H _ _ v u Q I rx ry ⟨_, _, _, rfl, rfl, l1.sq, fun e => ?_, by omega, h3, by rw [z1.length]; exact h4, fun p hp => ?_⟩
        · subst e; cases z1; cases h1
        · exact q _ _ _ (Grow.newT zd hp) (.tup (.inl upd_same) ((RZ.repl' z1 k.toNat).grow (Grow.newT zd hp) zd) .nil)
  | mod =>
    cases a <;> cases b <;> simp only [binD, reduceCtorEq] at e
    split at e <;> cases e
    have := ra.eInt; have := rb.eInt; subst_vars
    exact L2.op_mod pins s σ H _ _ v u Q I rx ry ⟨_, _, rfl, rfl, by assumption, q _ _ _ (Grow.refl zd) (.int .nil)⟩
  | fdv =>
    cases a <;> cases b <;> simp only [binD, reduceCtorEq] at e
    split at e <;> cases e
    have := ra.eInt; have := rb.eInt; subst_vars
    rename_i hh
    exact op_fdivW pins s σ H _ _ v u Q I rx ry ⟨_, _, rfl, rfl, hh, q _ _ _ (Grow.refl zd) (.int .nil)⟩
  | pow =>
    cases a <;> cases b <;> simp only [binD, reduceCtorEq] at e
    split at e <;> cases e
    have := ra.eInt; have := rb.eInt; subst_vars
    exact op_pow pins s σ H _ _ v u Q I rx ry ⟨_, _, rfl, rfl, powOk_c (by assumption), q _ _ _ (Grow.refl zd) (.int .nil)⟩
  | shl =>
    cases a <;> cases b <;> simp only [binD, reduceCtorEq] at e
    split at e <;> cases e
    have := ra.eInt; have := rb.eInt; subst_vars
    exact op_shl pins s σ H _ _ v u Q I rx ry ⟨_, _, rfl, rfl, powOk_c (by assumption), q _ _ _ (Grow.refl zd) (.int .nil)⟩
  | shr =>
    cases a <;> cases b <;> simp only [binD, reduceCtorEq] at e
    split at e <;> cases e
    have := ra.eInt; have := rb.eInt; subst_vars
    exact op_shr pins s σ H _ _ v u Q I rx ry ⟨_, _, rfl, rfl, by assumption, q _ _ _ (Grow.refl zd) (.int .nil)⟩
  | band =>
    cases a <;> cases b <;> simp only [binD, reduceCtorEq] at e
    have := ra.eInt; have := rb.eInt; subst_vars; cases e
    exact op_and pins s σ H _ _ v u Q I rx ry ⟨_, _, rfl, rfl, q _ _ _ (Grow.refl zd) (.int .nil)⟩
  | bor =>
    cases a <;> cases b <;> simp only [binD, reduceCtorEq] at e
    have := ra.eInt; have := rb.eInt; subst_vars; cases e
    exact op_or pins s σ H _ _ v u Q I rx ry ⟨_, _, rfl, rfl, q _ _ _ (Grow.refl zd) (.int .nil)⟩
/-! comparisons -/
def cop : Cop → CmpOp
  | .eq => .Eq | .ne => .NotEq | .lt => .Lt | .le => .LtE | .gt => .Gt | .ge => .GtE | .isin => .In | .notin => .NotIn | .is_ => .Is | .isnt => .IsNot
theorem flat_v {K : W.Frag} {Z : Ad} {H : Hp} {v : V} {d : D} (h : RV K Z H v d) (f : flatD d = true) : flatV v = true := by
  cases h <;> first | rfl | cases f
theorem flat_vs {K : W.Frag} {Z : Ad} {H : Hp} : ∀ {vs : List V} {ds : List D}, RZ K Z H vs ds → ds.all flatD = true → vs.all flatV = true
  | [], [], _, _ => rfl
  | v :: vs, d :: ds, h, f => by
    simp only [List.all_cons, Bool.and_eq_true] at f ⊢
    exact ⟨flat_v h.head f.1, flat_vs h.tail f.2⟩
  | [], _ :: _, h, _ => by cases h
  | _ :: _, [], h, _ => by cases h
theorem eqv_flat {K : W.Frag} {Z : Ad} {H : Hp} {v w : V} {d e : D} (h : RV K Z H v d) (k : RV K Z H w e) (f : flatD d = true) (g : flatD e = true) : eqV v w = PyData.eqv d e := by
  cases h <;> first | (simp [flatD] at f; done) | skip
  all_goals cases k <;> first | (simp [flatD] at g; done) | simp [eqV, PyData.eqv]
theorem inV_flat {K : W.Frag} {Z : Ad} {H : Hp} {v : V} {d : D} (h : RV K Z H v d) (f : flatD d = true) : ∀ {vs : List V} {ds : List D}, RZ K Z H vs ds → ds.all flatD = true → inV v vs = ds.any fun y => PyData.eqv y d
  | [], [], _, _ => rfl
  | w :: vs, e :: ds, r, g => by
    simp only [List.all_cons, Bool.and_eq_true] at g
    have ih := inV_flat h f r.tail g.2
    unfold inV at ih ⊢
    simp only [List.any_cons]
    rw [ih, eqv_flat r.head h g.1 f]
  | [], _ :: _, r, _ => by cases r
  | _ :: _, [], r, _ => by cases r
theorem op_cmp (o : Cop) (hu : X.A.units + 64 < cLine) : OpR X (compareOp (cop o)) (rD2 X.K fun a b => (cmpD o a b).map .bool) := by
  intro pins s σ H x y v u Q I rx ry h
  obtain ⟨Z, F, a, b, c, ra, rb, e, zd, q⟩ := h
  have qb : ∀ k, c = .bool k → Q (.bl k) H := fun k ek => by subst ek; exact q _ _ _ (Grow.refl zd) (.bl .nil)
  have eqs : ∀ k, eqD a b = some k → L2.OpR X (compareOp .Eq) (fun x' y' H' Q' => x' = x ∧ y' = y ∧ H' = H ∧ Q' (.bl k) H) ∧ L2.OpR X (compareOp .NotEq) (fun x' y' H' Q' => x' = x ∧ y' = y ∧ H' = H ∧ Q' (.bl (!k)) H) := by
    intro k ek
    unfold eqD at ek
    split at ek
    · cases ek
      have := ra.eInt; have := rb.eInt; subst_vars
      refine ⟨fun p2 s2 σ2 H' x' y' v2 u2 Q' I2 rx2 ry2 ⟨e1, e2, e3, q'⟩ => ?_, fun p2 s2 σ2 H' x' y' v2 u2 Q' I2 rx2 ry2 ⟨e1, e2, e3, q'⟩ => ?_⟩ <;> subst e1 e2 e3
      · exact op_eq p2 s2 σ2 _ _ _ v2 u2 Q' I2 rx2 ry2 ⟨rfl, by rw [dec_int, Bool.beq_eq_decide_eq]; exact q'⟩
      · exact op_ne p2 s2 σ2 _ _ _ v2 u2 Q' I2 rx2 ry2 ⟨rfl, by rw [dec_int, Bool.beq_eq_decide_eq]; exact q'⟩
    · cases ek
      have := ra.eStr; have := rb.eStr; subst_vars
      refine ⟨fun p2 s2 σ2 H' x' y' v2 u2 Q' I2 rx2 ry2 ⟨e1, e2, e3, q'⟩ => ?_, fun p2 s2 σ2 H' x' y' v2 u2 Q' I2 rx2 ry2 ⟨e1, e2, e3, q'⟩ => ?_⟩ <;> subst e1 e2 e3
      · exact op_eq p2 s2 σ2 _ _ _ v2 u2 Q' I2 rx2 ry2 ⟨rfl, by rw [dec_str, Bool.beq_eq_decide_eq]; exact q'⟩
      · exact op_ne p2 s2 σ2 _ _ _ v2 u2 Q' I2 rx2 ry2 ⟨rfl, by rw [dec_str, Bool.beq_eq_decide_eq]; exact q'⟩
    · cases ek
      have := ra.eBool; have := rb.eBool; subst_vars
      refine ⟨fun p2 s2 σ2 H' x' y' v2 u2 Q' I2 rx2 ry2 ⟨e1, e2, e3, q'⟩ => ?_, fun p2 s2 σ2 H' x' y' v2 u2 Q' I2 rx2 ry2 ⟨e1, e2, e3, q'⟩ => ?_⟩ <;> subst e1 e2 e3
      · exact op_eq p2 s2 σ2 _ _ _ v2 u2 Q' I2 rx2 ry2 ⟨rfl, by rw [dec_bl, Bool.beq_eq_decide_eq]; exact q'⟩
      · exact op_ne p2 s2 σ2 _ _ _ v2 u2 Q' I2 rx2 ry2 ⟨rfl, by rw [dec_bl, Bool.beq_eq_decide_eq]; exact q'⟩
    · split at ek <;> cases ek
      rename_i hs
      simp only [Bool.and_eq_true] at hs
      refine ⟨fun p2 s2 σ2 H' x' y' v2 u2 Q' I2 rx2 ry2 ⟨e1, e2, e3, q'⟩ => ?_, fun p2 s2 σ2 H' x' y' v2 u2 Q' I2 rx2 ry2 ⟨e1, e2, e3, q'⟩ => ?_⟩ <;> subst e1 e2 e3
      · exact op_eqD hu p2 s2 σ2 _ _ _ v2 u2 Q' I2 rx2 ry2 ⟨_, _, ra.dp, rb.dp, hs.1, hs.2, q'⟩
      · exact op_neD hu p2 s2 σ2 _ _ _ v2 u2 Q' I2 rx2 ry2 ⟨_, _, ra.dp, rb.dp, hs.1, hs.2, q'⟩
  have ins : ∀ xs, (∃ p us, y = .ref p ∧ (SqL X.K H p us ∨ SqT X.K H p us) ∧ RZ X.K Z H us xs) → (flatD a && xs.all flatD) = true → RV X.K Z H x a ∧ ∃ p us, y = .ref p ∧ (SqL X.K H p us ∨ SqT X.K H p us) ∧ flatV x = true ∧ us.all flatV = true ∧ inV x us = xs.any fun y => PyData.eqv y a := by
    intro xs ⟨p, us, e1, hs, r⟩ hf
    simp only [Bool.and_eq_true] at hf
    have rv : RV X.K Z H x a := by
      rcases ra with h | ⟨_, _, _, _, _, _, e, _⟩
      · exact h
      · subst e; simp [flatD] at hf
    exact ⟨rv, p, us, e1, hs, flat_v rv hf.1, flat_vs r hf.2, inV_flat rv hf.1 r hf.2⟩
  have ind : ∀ xs k, inD a xs = some k → (flatD a && xs.all flatD) = true ∧ k = (xs.any fun y => PyData.eqv y a) ∨ a.plain = true ∧ PyData.plainAll xs = true ∧ min (PyData.depthAll xs) a.depth ≤ 60 ∧ k = (xs.any fun y => PyData.eqv y a) := by
    intro xs k ek
    unfold inD at ek
    split at ek
    · cases ek
      rename_i hf
      exact .inl ⟨hf, rfl⟩
    · split at ek
      · cases ek
        rename_i hf
        simp only [Bool.and_eq_true, decide_eq_true_eq] at hf
        exact .inr ⟨hf.1.1, hf.1.2, hf.2, rfl⟩
      · cases ek
  cases o with
  | eq =>
    simp only [cmpD, Option.map_eq_some_iff] at e
    obtain ⟨k, ek, rfl⟩ := e
    exact (eqs k ek).1 pins s σ H x y v u Q I rx ry ⟨rfl, rfl, rfl, qb k rfl⟩
  | ne =>
    simp only [cmpD, Option.map_eq_some_iff] at e
    obtain ⟨_, ⟨k, ek, rfl⟩, rfl⟩ := e
    exact (eqs k ek).2 pins s σ H x y v u Q I rx ry ⟨rfl, rfl, rfl, qb _ rfl⟩
  | lt =>
    cases a <;> cases b <;> simp only [cmpD, reduceCtorEq, Option.map_none, Option.map_some] at e
    · have := ra.eInt; have := rb.eInt; subst_vars; cases e
      exact op_lt pins s σ H _ _ v u Q I rx ry ⟨_, _, rfl, rfl, qb _ rfl⟩
    · obtain ⟨p1, u1, rfl, l1, z1⟩ := ra.eTup
      obtain ⟨p2, u2, rfl, l2, z2⟩ := rb.eTup
      simp only [Option.map_eq_some_iff, Option.bind_eq_some_iff] at e
      obtain ⟨k, ⟨ns, en, ms, em, ek⟩, rfl⟩ := e
      have e1 := (z1.ints en).1
      have e2 := (z2.ints em).1
      subst e1 e2 ek
      exact op_ltT (by omega) pins s σ H _ _ v u Q I rx ry ⟨_, _, _, _, rfl, rfl, l1.sq, l2.sq, qb _ rfl⟩
  | le =>
    cases a <;> cases b <;> simp only [cmpD, reduceCtorEq, Option.map_none, Option.map_some] at e
    · have := ra.eInt; have := rb.eInt; subst_vars; cases e
      exact op_le pins s σ H _ _ v u Q I rx ry ⟨_, _, rfl, rfl, qb _ rfl⟩
    · obtain ⟨p1, u1, rfl, l1, z1⟩ := ra.eTup
      obtain ⟨p2, u2, rfl, l2, z2⟩ := rb.eTup
      simp only [Option.map_eq_some_iff, Option.bind_eq_some_iff] at e
      obtain ⟨k, ⟨ns, en, ms, em, ek⟩, rfl⟩ := e
      have e1 := (z1.ints en).1
      have e2 := (z2.ints em).1
      subst e1 e2 ek
      exact op_leT (by omega) pins s σ H _ _ v u Q I rx ry ⟨_, _, _, _, rfl, rfl, l1.sq, l2.sq, qb _ rfl⟩
  | gt =>
    cases a <;> cases b <;> simp only [cmpD, reduceCtorEq, Option.map_none, Option.map_some] at e
    have := ra.eInt; have := rb.eInt; subst_vars; cases e
    exact op_gt pins s σ H _ _ v u Q I rx ry ⟨_, _, rfl, rfl, qb _ rfl⟩
  | ge =>
    cases a <;> cases b <;> simp only [cmpD, reduceCtorEq, Option.map_none, Option.map_some] at e
    have := ra.eInt; have := rb.eInt; subst_vars; cases e
    exact op_ge pins s σ H _ _ v u Q I rx ry ⟨_, _, rfl, rfl, qb _ rfl⟩
  | isin =>
    have go : ∀ xs, (∃ p us, y = .ref p ∧ (SqL X.K H p us ∨ SqT X.K H p us) ∧ RZ X.K Z H us xs) → (b = .list xs ∨ b = .tuple xs) → (inD a xs).map PyData.bool = some c → wpAny (model X.prog X.w) X.A (compareOp .In v u) (EP X pins σ Q) X.xe s := by
      intro xs hx hb hc
      simp only [Option.map_eq_some_iff] at hc
      obtain ⟨k, ek, rfl⟩ := hc
      rcases ind xs k ek with ⟨hf, rfl⟩ | ⟨h1, h2, h3, rfl⟩
      · obtain ⟨_, p, us, e1, h2, h3, h4, h5⟩ := ins xs hx hf
        exact op_in_seq pins s σ H x y v u Q I rx ry ⟨p, us, e1, h2, h3, h4, by rw [h5]; exact qb _ rfl⟩
      · obtain ⟨as, r1⟩ := Dp.reads I _ x v ra.dp rx
        obtain ⟨bs, r2⟩ := Dp.reads I _ y u rb.dp ry
        rcases hb with rfl | rfl
        · exact SeqAt.in_list_data r2 r1 h2 h1 (by omega) ⟨.bl _, H, I, rfl, qb _ rfl⟩
        · exact SeqAt.in_tuple_data r2 r1 h2 h1 (by omega) ⟨.bl _, H, I, rfl, qb _ rfl⟩
    cases b <;> simp only [cmpD, reduceCtorEq, Option.map_none] at e
    · obtain ⟨p, us, e1, h1, h2⟩ := rb.eList
      exact go _ ⟨p, us, e1, .inl h1, h2⟩ (.inl rfl) e
    · obtain ⟨p, us, e1, h1, h2⟩ := rb.eTup
      exact go _ ⟨p, us, e1, .inr h1.sq, h2⟩ (.inr rfl) e
  | notin =>
    have go : ∀ xs, (∃ p us, y = .ref p ∧ (SqL X.K H p us ∨ SqT X.K H p us) ∧ RZ X.K Z H us xs) → (b = .list xs ∨ b = .tuple xs) → ((inD a xs).map (!·)).map PyData.bool = some c → wpAny (model X.prog X.w) X.A (compareOp .NotIn v u) (EP X pins σ Q) X.xe s := by
      intro xs hx hb hc
      simp only [Option.map_eq_some_iff] at hc
      obtain ⟨_, ⟨k, ek, rfl⟩, rfl⟩ := hc
      rcases ind xs k ek with ⟨hf, rfl⟩ | ⟨h1, h2, h3, rfl⟩
      · obtain ⟨_, p, us, e1, h2, h3, h4, h5⟩ := ins xs hx hf
        exact op_notIn_seq pins s σ H x y v u Q I rx ry ⟨p, us, e1, h2, h3, h4, by rw [h5]; exact qb _ rfl⟩
      · obtain ⟨as, r1⟩ := Dp.reads I _ x v ra.dp rx
        obtain ⟨bs, r2⟩ := Dp.reads I _ y u rb.dp ry
        rcases hb with rfl | rfl
        · exact SeqAt.notIn_list_data r2 r1 h2 h1 (by omega) ⟨.bl _, H, I, rfl, qb _ rfl⟩
        · exact SeqAt.notIn_tuple_data r2 r1 h2 h1 (by omega) ⟨.bl _, H, I, rfl, qb _ rfl⟩
    cases b <;> simp only [cmpD, reduceCtorEq, Option.map_none] at e
    · obtain ⟨p, us, e1, h1, h2⟩ := rb.eList
      exact go _ ⟨p, us, e1, .inl h1, h2⟩ (.inl rfl) e
    · obtain ⟨p, us, e1, h1, h2⟩ := rb.eTup
      exact go _ ⟨p, us, e1, .inr h1.sq, h2⟩ (.inr rfl) e
  | is_ =>
    cases a <;> cases b <;> simp only [cmpD, reduceCtorEq, Option.map_none, Option.map_some] at e
    obtain rfl := ra.eBool; obtain rfl := rb.eBool; cases e
    exact op_isBl pins s σ H _ _ v u Q I rx ry ⟨_, _, rfl, rfl, qb _ rfl⟩
  | isnt =>
    cases a <;> cases b <;> simp only [cmpD, reduceCtorEq, Option.map_none, Option.map_some] at e
    obtain rfl := ra.eBool; obtain rfl := rb.eBool; cases e
    exact op_notBl pins s σ H _ _ v u Q I rx ry ⟨_, _, rfl, rfl, qb _ rfl⟩
/-! subscripts -/
theorem ixN_lt {n : Nat} {i : Int} {j : Nat} (h : ixN n i = some j) : j < n := (ixN_seq h).2.1
theorem atI_of {K : W.Frag} {Z : Ad} {H : Hp} {us : List V} {es : List D} {i : Int} {c : D} (r : RZ K Z H us es) (h : PY.atI es i = some c) : ∃ v, L2.atI us i = some v ∧ RV K Z H v c := by
  unfold PY.atI at h
  cases hj : ixN es.length i with
  | none => rw [hj] at h; cases h
  | some j =>
    rw [hj] at h
    obtain ⟨v, hv, rv⟩ := r.get (show es[j]? = some c from h)
    refine ⟨v, ?_, rv⟩
    unfold L2.atI
    rw [r.length, show L2.ixN es.length i = some j from hj]
    exact hv
theorem ix_D : IxR X (rD2 X.K idxD) := by
  intro value slice pins s σ H x y v u Q I rx ry h hs
  obtain ⟨Z, F, a, b, c, ra, rb, e, zd, q⟩ := h
  cases a <;> cases b <;> simp only [idxD, reduceCtorEq] at e
  · split at e
    · simp only [Option.map_eq_some_iff] at e
      obtain ⟨k, ek, rfl⟩ := e
      have := ra.eStr; have := rb.eInt; subst_vars
      exact ix_str value slice pins s σ H _ _ v u Q I rx ry ⟨_, _, k, rfl, rfl, line_le (by assumption), ek, q _ _ _ (Grow.refl zd) (.str .nil)⟩ hs
    · cases e
  · have := rb.eInt; subst_vars
    obtain ⟨p, us, rfl, l, r⟩ := ra.eList
    obtain ⟨w, hw, rw_⟩ := atI_of r e
    exact ix_list value slice pins s σ H _ _ v u Q I rx ry ⟨_, _, _, w, rfl, rfl, l, hw, q _ _ _ (Grow.refl zd) rw_⟩ hs
  · have := rb.eInt; subst_vars
    obtain ⟨p, us, rfl, l, r⟩ := ra.eTup
    obtain ⟨w, hw, rw_⟩ := atI_of r e
    exact ix_tup value slice pins s σ H _ _ v u Q I rx ry ⟨_, _, _, w, rfl, rfl, l.sq, hw, q _ _ _ (Grow.refl zd) rw_⟩ hs
theorem cut_rz {K : W.Frag} {Z : Ad} {H : Hp} {us : List V} {es : List D} (r : RZ K Z H us es) (lo hi : Option Int) : RZ K Z H (cutV us lo hi) (cutL es lo hi) := by
  unfold cutV cutL
  rw [r.length]
  exact (r.drop _).take _
/-- what a slice asks, by plain data -/
def rSlD (K : W.Frag) : V → Option Int → Option Int → Hp → VK → Prop := fun x lo hi H Q => ∃ Z F a c, RW K Z F H x a ∧ slcD a lo hi = some c ∧ (∀ p, Z p → H p ≠ none) ∧ ∀ v Z' H', Grow Z H Z' H' → RV K Z' H' v c → Q v H'
theorem sl_D : SlR X (rSlD X.K) := by
  intro pins s σ H x v vl vu lo hi sl Q I rx hs pl pu h
  obtain ⟨Z, F, a, c, ra, e, zd, q⟩ := h
  cases a <;> simp only [slcD, reduceCtorEq] at e
  · split at e <;> cases e
    have := ra.eStr; subst_vars
    refine sl_str pins s σ H _ v vl vu lo hi sl Q I rx hs pl pu ⟨_, rfl, line_le (by assumption), ?_⟩
    exact q _ _ _ (Grow.refl zd) (.str .nil)
  · cases e
    obtain ⟨p, us, rfl, l, r⟩ := ra.eList
    refine sl_list pins s σ H _ v vl vu lo hi sl Q I rx hs pl pu ⟨_, _, rfl, l, fun p hp => ?_⟩
    exact q _ _ _ (Grow.new zd hp) (.lst (.inl ⟨.inr rfl, .inl upd_same⟩) ((cut_rz r lo hi).grow (Grow.new zd hp) zd) .nil)
  · cases e
    obtain ⟨p, us, rfl, l, r⟩ := ra.eTup
    refine sl_tupA pins s σ H _ v vl vu lo hi sl Q I rx hs pl pu ⟨_, _, rfl, l.sq, fun hw => ?_, fun hw p hp => ?_⟩
    · refine q _ _ _ (Grow.refl zd) ?_
      have ec : ∀ {α : Type} (xs : List α), xs.length = us.length → cutL xs lo hi = xs := fun xs hl => by
        unfold cutL
        rw [hl, hw.1, hw.2]
        simp [← hl]
      rw [ec _ r.length.symm]
      exact .tup l r .nil
    · exact q _ _ _ (Grow.newT zd hp) (.tup (.inl upd_same) ((cut_rz r lo hi).grow (Grow.newT zd hp) zd) .nil)
/-! truth -/
theorem tru_D {K : W.Frag} {Z : Ad} {F : Nat → Ad} {H : Hp} {v : V} {d : D} {k : Bool} (h : RW K Z F H v d) (e : truD d = some k) : TruV K v H k := by
  cases d <;> simp only [truD, reduceCtorEq, Option.some.injEq] at e
  · have := h.eNone; subst_vars; rfl
  · have := h.eBool; subst_vars; rfl
  · have := h.eInt; subst_vars; rfl
  · split at e <;> cases e
    have := h.eStr; subst_vars
    refine ⟨line_le (by assumption), ?_⟩
    rename_i z _
    have hz : ((z.length : Int) == 0) = (z.length == 0) := by rw [Bool.eq_iff_iff]; simp
    simp only [bne, hz]
  · obtain ⟨p, us, rfl, l, r⟩ := h.eList
    refine .inl ⟨us, l, ?_⟩
    rw [← e]
    cases r <;> rfl
  · obtain ⟨p, us, rfl, l, r⟩ := h.eTup
    refine .inr (.inl ⟨us, l.sq, ?_⟩)
    rw [← e]
    cases r <;> rfl
end
end PY

set_option Elab.async false
set_option linter.all false
set_option maxRecDepth 100000
set_option maxHeartbeats 1000000
/-! So3: built-in functions by plain data. -/
namespace PY
open PySem PySem.Spec PyProof.Rows L2
/-- argument values for plain data, looks among them -/
inductive RWs (K : W.Frag) (Z : Ad) (F : Nat → Ad) (H : Hp) : List V → List D → Prop
  | nil : RWs K Z F H [] []
  | cons {v d vs ds} : RW K Z F H v d → RWs K Z F H vs ds → RWs K Z F H (v :: vs) (d :: ds)
def rDl (K : W.Frag) (f : List D → Option D) : List V → Hp → VK → Prop := fun xs H Q => ∃ Z F ds c, RWs K Z F H xs ds ∧ f ds = some c ∧ (∀ p, Z p → H p ≠ none) ∧ ∀ v Z' H', Grow Z H Z' H' → RV K Z' H' v c → Q v H'
theorem maxI_of : ∀ {r : List Int} {a m : Int}, m ∈ a :: r → (∀ y, y ∈ a :: r → y ≤ m) → m = maxI a r
  | [], a, m, h, _ => by simpa [maxI] using h
  | b :: r, a, m, h, u => by
    unfold maxI
    have ha := u a (by simp)
    have hb := u b (by simp)
    refine maxI_of (r := r) ?_ fun y hy => ?_
    · split
      · rcases List.mem_cons.mp h with e | e
        · exact absurd e (by omega)
        · exact e
      · rcases List.mem_cons.mp h with e | e
        · exact e ▸ List.mem_cons_self
        · rcases List.mem_cons.mp e with e | e
          · have : m = a := by omega
            exact this ▸ List.mem_cons_self
          · exact List.mem_cons_of_mem _ e
    · rcases List.mem_cons.mp hy with e | e
      · split at e <;> omega
      · exact u y (by simp [e])
theorem minI_of : ∀ {r : List Int} {a m : Int}, m ∈ a :: r → (∀ y, y ∈ a :: r → m ≤ y) → m = minI a r
  | [], a, m, h, _ => by simpa [minI] using h
  | b :: r, a, m, h, u => by
    unfold minI
    have ha := u a (by simp)
    have hb := u b (by simp)
    refine minI_of (r := r) ?_ fun y hy => ?_
    · split
      · rcases List.mem_cons.mp h with e | e
        · exact absurd e (by omega)
        · exact e
      · rcases List.mem_cons.mp h with e | e
        · exact e ▸ List.mem_cons_self
        · rcases List.mem_cons.mp e with e | e
          · have : m = a := by omega
            exact this ▸ List.mem_cons_self
          · exact List.mem_cons_of_mem _ e
    · rcases List.mem_cons.mp hy with e | e
      · split at e <;> omega
      · exact u y (by simp [e])
theorem rz_ints {K : W.Frag} {Z : Ad} {H : Hp} : ∀ ns : List Int, RZ K Z H (ns.map V.int) (ns.map PyData.int)
  | [] => .nil
  | n :: ns => .int (rz_ints ns)
theorem putI_perm (a : Int) : ∀ l : List Int, (putI a l).Perm (a :: l)
  | [] => .refl _
  | b :: r => by
    unfold putI
    split
    · exact .refl _
    · exact ((putI_perm a r).cons b).trans (.swap a b r)
theorem putI_up (a : Int) : ∀ {l : List Int}, l.Pairwise (· ≤ ·) → (putI a l).Pairwise (· ≤ ·)
  | [], _ => List.pairwise_singleton _ _
  | b :: r, h => by
    have hb := List.pairwise_cons.mp h
    unfold putI
    split
    · rename_i hab
      refine List.pairwise_cons.mpr ⟨fun x hx => ?_, h⟩
      rcases List.mem_cons.mp hx with rfl | hx
      · exact hab
      · have := hb.1 x hx; omega
    · rename_i hab
      refine List.pairwise_cons.mpr ⟨fun x hx => ?_, putI_up a hb.2⟩
      rcases List.mem_cons.mp ((putI_perm a r).mem_iff.mp hx) with rfl | hx
      · omega
      · exact hb.1 x hx
theorem ordI_perm : ∀ l : List Int, (ordI l).Perm l
  | [] => .refl _
  | a :: r => (putI_perm a _).trans ((ordI_perm r).cons a)
theorem ordI_up : ∀ l : List Int, (ordI l).Pairwise (· ≤ ·)
  | [] => .nil
  | a :: r => putI_up a (ordI_up r)
theorem up_one : ∀ {l k : List Int}, l.Perm k → l.Pairwise (· ≤ ·) → k.Pairwise (· ≤ ·) → l = k
  | [], k, h, _, _ => h.nil_eq
  | a :: l, [], h, _, _ => absurd h.symm.nil_eq (by simp)
  | a :: l, b :: k, h, h1, h2 => by
    have p1 := List.pairwise_cons.mp h1
    have p2 := List.pairwise_cons.mp h2
    have e : a = b := by
      have ha : a ∈ b :: k := h.mem_iff.mp (by simp)
      have hb : b ∈ a :: l := h.mem_iff.mpr (by simp)
      have q1 : b ≤ a := by
        rcases List.mem_cons.mp ha with e | e
        · omega
        · exact p2.1 a e
      have q2 : a ≤ b := by
        rcases List.mem_cons.mp hb with e | e
        · omega
        · exact p1.1 b e
      omega
    subst e
    rw [up_one (List.Perm.cons_inv h) p1.2 p2.2]
/-! lists of tuples of numbers -/
theorem code_inj {B : Int} : ∀ {a b : List Int}, a.length = b.length → TS.Bd B a → TS.Bd B b → TS.code B a = TS.code B b → a = b
  | [], [], _, _, _, _ => rfl
  | x :: a, y :: b, hl, ha, hb, e => by
    have hl' : a.length = b.length := by simpa using hl
    rcases Int.lt_trichotomy x y with h | h | h
    · have := TS.code_lt hl' ha.tail hb.tail h
      omega
    · subst h
      have e' : x * B ^ a.length + TS.code B a = x * B ^ b.length + TS.code B b := e
      rw [hl'] at e'
      rw [code_inj hl' ha.tail hb.tail (by omega)]
    · have := TS.code_lt hl'.symm hb.tail ha.tail h
      omega
theorem putT_perm (B : Int) (a : List Int) : ∀ l : List (List Int), (putT B a l).Perm (a :: l)
  | [] => .refl _
  | b :: r => by
    unfold putT
    split
    · exact .refl _
    · exact ((putT_perm B a r).cons b).trans (.swap a b r)
theorem putT_up (B : Int) (a : List Int) : ∀ {l : List (List Int)}, l.Pairwise (fun x y => TS.code B x ≤ TS.code B y) → (putT B a l).Pairwise (fun x y => TS.code B x ≤ TS.code B y)
  | [], _ => List.pairwise_singleton _ _
  | b :: r, h => by
    have hb := List.pairwise_cons.mp h
    unfold putT
    split
    · rename_i hab
      refine List.pairwise_cons.mpr ⟨fun x hx => ?_, h⟩
      rcases List.mem_cons.mp hx with rfl | hx
      · exact hab
      · have := hb.1 x hx; omega
    · rename_i hab
      refine List.pairwise_cons.mpr ⟨fun x hx => ?_, putT_up B a hb.2⟩
      rcases List.mem_cons.mp ((putT_perm B a r).mem_iff.mp hx) with rfl | hx
      · omega
      · exact hb.1 x hx
theorem ordT_perm (B : Int) : ∀ l : List (List Int), (ordT B l).Perm l
  | [] => .refl _
  | a :: r => (putT_perm B a _).trans ((ordT_perm B r).cons a)
theorem ordT_up (B : Int) : ∀ l : List (List Int), (ordT B l).Pairwise (fun x y => TS.code B x ≤ TS.code B y)
  | [] => .nil
  | a :: r => putT_up B a (ordT_up B r)
theorem up_oneT {B : Int} {d : Nat} : ∀ {l k : List (List Int)}, l.Perm k → (∀ x, x ∈ k → x.length = d ∧ TS.Bd B x) → l.Pairwise (fun x y => TS.code B x ≤ TS.code B y) → k.Pairwise (fun x y => TS.code B x ≤ TS.code B y) → l = k
  | [], k, h, _, _, _ => h.nil_eq
  | a :: l, [], h, _, _, _ => absurd h.symm.nil_eq (by simp)
  | a :: l, b :: k, h, hb, h1, h2 => by
    have p1 := List.pairwise_cons.mp h1
    have p2 := List.pairwise_cons.mp h2
    have e : a = b := by
      have ha' : a ∈ b :: k := h.mem_iff.mp (by simp)
      have hb' : b ∈ a :: l := h.mem_iff.mpr (by simp)
      have q1 : TS.code B b ≤ TS.code B a := by
        rcases List.mem_cons.mp ha' with e | e
        · rw [e]; exact Int.le_refl _
        · exact p2.1 a e
      have q2 : TS.code B a ≤ TS.code B b := by
        rcases List.mem_cons.mp hb' with e | e
        · rw [e]; exact Int.le_refl _
        · exact p1.1 b e
      obtain ⟨l1, b1⟩ := hb a ha'
      obtain ⟨l2, b2⟩ := hb b (by simp)
      exact code_inj (l1.trans l2.symm) b1 b2 (by omega)
    subst e
    rw [up_oneT (List.Perm.cons_inv h) (fun x hx => hb x (by simp [hx])) p1.2 p2.2]
theorem nub_mem : ∀ {l : List (List Int)} {x : List Int}, x ∈ nubT l ↔ x ∈ l
  | [], x => Iff.rfl
  | a :: l, x => by
    unfold nubT
    rw [List.mem_cons, List.mem_cons, List.mem_filter, nub_mem (l := l), decide_eq_true_eq]
    constructor
    · rintro (h | h)
      · exact .inl h
      · exact .inr h.1
    · rintro (h | h)
      · exact .inl h
      · by_cases e : x = a
        · exact .inl e
        · exact .inr ⟨h, e⟩
theorem nub_nd : ∀ l : List (List Int), (nubT l).Nodup
  | [] => .nil
  | a :: l => by
    unfold nubT
    refine List.nodup_cons.mpr ⟨fun h => ?_, (nub_nd l).filter _⟩
    have := (List.mem_filter.mp h).2
    simp at this
theorem perm_sameT {α : Type} [DecidableEq α] : ∀ {l k : List α}, l.Nodup → k.Nodup → (∀ a, a ∈ l ↔ a ∈ k) → l.Perm k := by
  intro l k h1 h2 h
  exact (List.perm_ext_iff_of_nodup h1 h2).mpr h
theorem top_lt : ∀ {l : List Int} {i : Int}, i ∈ l → i ≤ topI l
  | [], _, h => nomatch h
  | a :: r, i, h => by
    unfold topI
    rcases List.mem_cons.mp h with rfl | h
    · omega
    · have := top_lt h; omega
theorem bnd_lt : ∀ {L : List (List Int)} {l : List Int} {i : Int}, l ∈ L → i ∈ l → i < bndT L
  | [], _, _, h, _ => nomatch h
  | a :: r, l, i, h, hi => by
    unfold bndT
    rcases List.mem_cons.mp h with rfl | h
    · have := top_lt hi; omega
    · have := bnd_lt h hi; omega
theorem okT_of {L : List (List Int)} (h : okT L = true) : L.length < 64 ∧ ∀ l, l ∈ L → l.length = max 1 (L.headD []).length ∧ TS.Bd (bndT L) l := by
  unfold okT at h
  simp only [Bool.and_eq_true, decide_eq_true_eq, List.all_eq_true] at h
  refine ⟨h.1, fun l hl => ⟨?_, fun i hi => ⟨(h.2 l hl).2.2 i hi, bnd_lt hl hi⟩⟩⟩
  have := h.2 l hl
  omega
theorem perm_inv {α β : Type} {f : α → β} {ys xs : List β} (h : ys.Perm xs) : ∀ {ks : List α}, xs = ks.map f → ∃ ks' : List α, ks'.Perm ks ∧ ys = ks'.map f := by
  induction h with
  | nil => intro ks e; exact ⟨[], by rw [show ks = [] by simpa using e.symm], rfl⟩
  | cons x p ih =>
    intro ks e
    cases ks with
    | nil => cases e
    | cons k ks =>
      simp only [List.map_cons, List.cons.injEq] at e
      obtain ⟨ks', p', rfl⟩ := ih e.2
      exact ⟨k :: ks', p'.cons k, by rw [e.1]; rfl⟩
  | swap x y l =>
    intro ks e
    match ks, e with
    | a :: b :: r, e =>
      simp only [List.map_cons, List.cons.injEq] at e
      exact ⟨b :: a :: r, .swap _ _ _, by rw [e.1, e.2.1, e.2.2]; rfl⟩
  | trans p q ih1 ih2 =>
    intro ks e
    obtain ⟨k2, p2, e2⟩ := ih2 e
    obtain ⟨k1, p1, e1⟩ := ih1 e2
    exact ⟨k1, p1.trans p2, e1⟩
theorem rz_tups {K : PySem.W.Frag} {Z : Ad} {H : Hp} : ∀ {us : List V} {ds : List D} {L : List (List Int)}, RZ K Z H us ds → tupsD ds = some L → ∃ ks : List (Addr × List Int), us = ks.map (fun p => V.ref p.1) ∧ ks.map (·.2) = L ∧ ∀ p, p ∈ ks → RV K Z H (.ref p.1) (tupI p.2)
  | [], [], L, _, e => by cases e; exact ⟨[], rfl, rfl, by simp⟩
  | v :: us, d :: ds, L, h, e => by
    cases d <;> simp only [tupsD, reduceCtorEq] at e
    simp only [Option.bind_eq_some_iff, Option.map_eq_some_iff] at e
    obtain ⟨ns, en, L', e', rfl⟩ := e
    obtain ⟨ks, h1, h2, h3⟩ := rz_tups h.tail e'
    have hh := h.head
    obtain ⟨p, ws, rfl, l, z⟩ := hh.eTup
    obtain ⟨rfl, rfl⟩ := z.ints en
    refine ⟨(p, ns) :: ks, by rw [h1]; rfl, by simp [h2], ?_⟩
    intro q hq
    rcases List.mem_cons.mp hq with rfl | hq
    · exact hh
    · exact h3 q hq
  | [], _ :: _, _, h, _ => by cases h
  | _ :: _, [], _, h, _ => by cases h
theorem rv_tup {K : PySem.W.Frag} {Z : Ad} {H : Hp} {a : Addr} {ns : List Int} (h : RV K Z H (.ref a) (tupI ns)) : SqT K H a (ns.map V.int) := by
  obtain ⟨p, ws, e, l, z⟩ := h.eTup
  cases e
  obtain ⟨rfl, _⟩ := z.ints (ns := ns) (by
    clear z l h
    induction ns with
    | nil => rfl
    | cons a r ih => simp [intsD, ih])
  exact l.sq
theorem rz_back {K : PySem.W.Frag} {Z : Ad} {H : Hp} : ∀ {ks : List (Addr × List Int)}, (∀ p, p ∈ ks → RV K Z H (.ref p.1) (tupI p.2)) → RZ K Z H (ks.map fun p => V.ref p.1) ((ks.map (·.2)).map tupI)
  | [], _ => .nil
  | p :: ks, h => RZ.cons (h p (by simp)) (rz_back fun q hq => h q (by simp [hq]))
def biN : Bi → Str
  | .len => "len" | .int => "int" | .abs => "abs" | .max2 => "max" | .min2 => "min" | .tuple => "tuple" | .sum => "sum" | .maxl => "max" | .minl => "min" | .anyl => "any" | .alll => "all" | .str => "str" | .sorted => "sorted" | .bool => "bool"
def biV : Bi → Value
  | .len => .builtin "len" | .int => .type "int" | .abs => .builtin "abs" | .max2 => .builtin "max" | .min2 => .builtin "min" | .tuple => .type "tuple" | .sum => .builtin "sum"
  | .maxl => .builtin "max" | .minl => .builtin "min" | .anyl => .builtin "any" | .alll => .builtin "all" | .str => .type "str" | .sorted => .builtin "sorted" | .bool => .type "bool"
theorem biBoot (b : Bi) : bootBuiltins (biN b) = some (biV b) := by cases b <;> decide +kernel
section
variable {X : Cx}
theorem RWs.one {K : W.Frag} {Z : Ad} {F : Nat → Ad} {H : Hp} {xs : List V} {d : D} (h : RWs K Z F H xs [d]) : ∃ v, xs = [v] ∧ RW K Z F H v d := by
  cases h with | cons r t => cases t; exact ⟨_, rfl, r⟩
theorem RWs.two {K : W.Frag} {Z : Ad} {F : Nat → Ad} {H : Hp} {xs : List V} {d e : D} (h : RWs K Z F H xs [d, e]) : ∃ v w, xs = [v, w] ∧ RW K Z F H v d ∧ RW K Z F H w e := by
  cases h with | cons r t => cases t with | cons r2 t2 => cases t2; exact ⟨_, _, rfl, r, r2⟩
theorem call_bi (hc : X.calm = true) (b : Bi) : CallR X (biV b) (rDl X.K (biD b)) := by
  intro pins s σ H xs us Q I rs h
  obtain ⟨Z, F, ds, c, ra, e, zd, q⟩ := h
  have qi : ∀ k, c = .int k → Q (.int k) H := fun k ek => by subst ek; exact q _ _ _ (Grow.refl zd) (.int .nil)
  have qb : ∀ k, c = .bool k → Q (.bl k) H := fun k ek => by subst ek; exact q _ _ _ (Grow.refl zd) (.bl .nil)
  cases b with
  | len =>
    match ds, e with
    | [d], e =>
      obtain ⟨v, rfl, r⟩ := ra.one
      cases d <;> simp only [biD, reduceCtorEq] at e
      · split at e <;> cases e
        have := r.eStr; subst_vars
        exact call_len pins s σ H _ us Q I rs ⟨_, _, rfl, ⟨line_le (by assumption), rfl⟩, qi _ rfl⟩
      · cases e
        obtain ⟨p, ws, rfl, l, z⟩ := r.eList
        exact call_len pins s σ H _ us Q I rs ⟨_, _, rfl, .inl ⟨ws, l, rfl⟩, by rw [z.length]; exact qi _ rfl⟩
      · cases e
        obtain ⟨p, ws, rfl, l, z⟩ := r.eTup
        exact call_len pins s σ H _ us Q I rs ⟨_, _, rfl, .inr ⟨ws, l.sq, rfl⟩, by rw [z.length]; exact qi _ rfl⟩
    | [], e => simp [biD] at e
    | _ :: _ :: _, e => simp [biD] at e
  | int =>
    match ds, e with
    | [d], e =>
      obtain ⟨v, rfl, r⟩ := ra.one
      cases d <;> simp only [biD, reduceCtorEq] at e
      · cases e
        have := r.eBool; subst_vars
        exact call_int1 pins s σ H _ us Q I rs (.inr ⟨_, rfl, qi _ rfl⟩)
      · cases e
        have := r.eInt; subst_vars
        exact call_int1 pins s σ H _ us Q I rs (.inl ⟨_, rfl, qi _ rfl⟩)
    | [], e => simp [biD] at e
    | _ :: _ :: _, e => simp [biD] at e
  | bool =>
    match ds, e with
    | [d], e =>
      obtain ⟨v, rfl, r⟩ := ra.one
      cases d <;> simp only [biD, reduceCtorEq] at e
      · cases e
        obtain rfl := r.eBool
        exact call_bool1 pins s σ H _ us Q I rs (.inr ⟨_, rfl, qb _ rfl⟩)
      · cases e
        obtain rfl := r.eInt
        exact call_bool1 pins s σ H _ us Q I rs (.inl ⟨_, rfl, qb _ rfl⟩)
    | [], e => simp [biD] at e
    | _ :: _ :: _, e => simp [biD] at e
  | abs =>
    match ds, e with
    | [d], e =>
      obtain ⟨v, rfl, r⟩ := ra.one
      cases d <;> simp only [biD, reduceCtorEq] at e
      cases e
      have := r.eInt; subst_vars
      exact call_abs pins s σ H _ us Q I rs ⟨_, rfl, qi _ rfl⟩
    | [], e => simp [biD] at e
    | _ :: _ :: _, e => simp [biD] at e
  | max2 =>
    match ds, e with
    | [d, d'], e =>
      obtain ⟨v, w, rfl, r, r'⟩ := ra.two
      cases d <;> cases d' <;> simp only [biD, reduceCtorEq] at e
      cases e
      have := r.eInt; have := r'.eInt; subst_vars
      exact call_max2 hc pins s σ H _ us Q I rs ⟨_, _, rfl, qi _ rfl⟩
    | [], e => simp [biD] at e
    | [_], e => simp [biD] at e
    | _ :: _ :: _ :: _, e => simp [biD] at e
  | min2 =>
    match ds, e with
    | [d, d'], e =>
      obtain ⟨v, w, rfl, r, r'⟩ := ra.two
      cases d <;> cases d' <;> simp only [biD, reduceCtorEq] at e
      cases e
      have := r.eInt; have := r'.eInt; subst_vars
      exact call_min2 hc pins s σ H _ us Q I rs ⟨_, _, rfl, qi _ rfl⟩
    | [], e => simp [biD] at e
    | [_], e => simp [biD] at e
    | _ :: _ :: _ :: _, e => simp [biD] at e
  | sorted =>
    match ds, e with
    | [d], e =>
      obtain ⟨v, rfl, r⟩ := ra.one
      have fin : ∀ ns ns' : List Int, ∀ p : Addr, ns'.Perm ns → ns'.Pairwise (· ≤ ·) → H p = none → c = .list ((ordI ns).map PyData.int) → Q (.ref p) (upd H p (.lst (ns'.map V.int))) := by
        intro ns ns' p hp hu hn ec
        have := up_one (hp.trans (ordI_perm ns).symm) hu (ordI_up ns)
        subst this
        refine q _ _ _ (Grow.new zd hn) ?_
        rw [ec]
        exact .lst (.inl ⟨.inr rfl, .inl upd_same⟩) (rz_ints _) .nil
      cases d <;> simp only [biD, reduceCtorEq, Option.map_eq_some_iff] at e
      · obtain ⟨p, ws, rfl, l, z⟩ := r.eList
        split at e
        · rename_i ns en
          cases e
          have := (z.ints en).1
          subst this
          exact cr_sortedI pins s σ H _ us Q I rs ⟨_, ns, rfl, l, fun ns' p' hp hu hn => fin ns ns' p' hp hu hn rfl⟩
        · simp only [Option.bind_eq_some_iff] at e
          obtain ⟨L, eL, e⟩ := e
          split at e <;> cases e
          rename_i hok
          obtain ⟨h64, hB⟩ := okT_of hok
          obtain ⟨ks, rfl, hL, hk⟩ := rz_tups z eL
          have hlen : (ks.map fun p => V.ref p.1).length < 64 := by rw [List.length_map, ← List.length_map (f := fun p : Addr × List Int => p.2), hL]; exact h64
          refine cr_sortT (d := max 1 (L.headD []).length) (B := bndT L) (by omega) pins s σ H _ us Q I rs ⟨p, _, rfl, l, hlen, fun x hx => ?_, fun ys p' hp hu hn => ?_⟩
          · obtain ⟨q, hq, rfl⟩ := List.mem_map.mp hx
            have := hB q.2 (by rw [← hL]; exact List.mem_map_of_mem (f := fun p : Addr × List Int => p.2) hq)
            exact ⟨q.2, ⟨q.1, rfl, rv_tup (hk q hq)⟩, this⟩
          · obtain ⟨ks', pm, rfl⟩ := perm_inv hp rfl
            have hk' : ∀ p, p ∈ ks' → RV X.K Z H (.ref p.1) (tupI p.2) := fun p hp => hk p (pm.mem_iff.mp hp)
            have e1 : ks'.map (·.2) = ordT (bndT L) L := by
              refine up_oneT (d := max 1 (L.headD []).length) (B := bndT L) ?_ (fun x hx => hB x ((ordT_perm _ L).mem_iff.mp hx)) ?_ (ordT_up _ L)
              · exact ((pm.map (·.2)).trans (by rw [hL])).trans (ordT_perm _ L).symm
              · rw [List.pairwise_map] at hu ⊢
                refine List.Pairwise.imp_of_mem (fun {x y} hx hy hxy => hxy x.2 y.2 ⟨x.1, rfl, rv_tup (hk' x hx)⟩ ⟨y.1, rfl, rv_tup (hk' y hy)⟩) hu
            refine q _ _ _ (Grow.new zd hn) ?_
            rw [← e1]
            exact .lst (.inl ⟨.inr rfl, .inl upd_same⟩) ((rz_back hk').grow (Grow.new zd hn) zd) .nil
      · obtain ⟨ns, en, rfl⟩ := e
        obtain ⟨p, ws, rfl, l, z⟩ := r.eTup
        have := (z.ints en).1
        subst this
        exact PYX.cr_sortT pins s σ H _ us Q I rs ⟨_, ns, rfl, l.sq, fun ns' p' hp hu hn => fin ns ns' p' hp hu hn rfl⟩
    | [], e => simp [biD] at e
    | _ :: _ :: _, e => simp [biD] at e
  | tuple =>
    match ds, e with
    | [d], e =>
      obtain ⟨v, rfl, r⟩ := ra.one
      cases d <;> simp only [biD, reduceCtorEq] at e
      · cases e
        obtain ⟨p, ws, rfl, l, z⟩ := r.eList
        exact call_tuple_of pins s σ H _ us Q I rs ⟨_, _, rfl, .inl ⟨l, fun p hp => q _ _ _ (Grow.newT zd hp) (.tup (.inl upd_same) (z.grow (Grow.newT zd hp) zd) .nil)⟩⟩
      · cases e
        obtain ⟨p, ws, rfl, l, z⟩ := r.eTup
        exact call_tuple_of pins s σ H _ us Q I rs ⟨_, _, rfl, .inr ⟨l.sq, q _ _ _ (Grow.refl zd) (.tup l z .nil)⟩⟩
    | [], e => simp [biD] at e
    | _ :: _ :: _, e => simp [biD] at e
  | sum =>
    match ds, e with
    | [d], e =>
      obtain ⟨v, rfl, r⟩ := ra.one
      cases d <;> simp only [biD, reduceCtorEq, Option.map_eq_some_iff] at e
      obtain ⟨ns, en, rfl⟩ := e
      obtain ⟨p, ws, rfl, l, z⟩ := r.eList
      obtain ⟨rfl, _⟩ := z.ints en
      exact cr_sum hc pins s σ H _ us Q I rs ⟨_, _, rfl, l, qi _ rfl⟩
    | [], e => simp [biD] at e
    | _ :: _ :: _, e => simp [biD] at e
  | maxl =>
    match ds, e with
    | [d], e =>
      obtain ⟨v, rfl, r⟩ := ra.one
      cases d <;> simp only [biD, reduceCtorEq, Option.bind_eq_some_iff] at e
      obtain ⟨ns, en, e⟩ := e
      obtain ⟨p, ws, rfl, l, z⟩ := r.eList
      obtain ⟨rfl, _⟩ := z.ints en
      cases ns with
      | nil => cases e
      | cons a t =>
        cases e
        exact cr_max hc pins s σ H _ us Q I rs ⟨_, _, rfl, l, by simp, fun m hm hu => qi _ (by rw [maxI_of hm hu])⟩
    | [], e => simp [biD] at e
    | _ :: _ :: _, e => simp [biD] at e
  | minl =>
    match ds, e with
    | [d], e =>
      obtain ⟨v, rfl, r⟩ := ra.one
      cases d <;> simp only [biD, reduceCtorEq, Option.bind_eq_some_iff] at e
      obtain ⟨ns, en, e⟩ := e
      obtain ⟨p, ws, rfl, l, z⟩ := r.eList
      obtain ⟨rfl, _⟩ := z.ints en
      cases ns with
      | nil => cases e
      | cons a t =>
        cases e
        exact cr_min hc pins s σ H _ us Q I rs ⟨_, _, rfl, l, by simp, fun m hm hu => qi _ (by rw [minI_of hm hu])⟩
    | [], e => simp [biD] at e
    | _ :: _ :: _, e => simp [biD] at e
  | anyl =>
    match ds, e with
    | [d], e =>
      obtain ⟨v, rfl, r⟩ := ra.one
      cases d <;> simp only [biD, reduceCtorEq, Option.map_eq_some_iff] at e
      obtain ⟨ns, en, rfl⟩ := e
      obtain ⟨p, ws, rfl, l, z⟩ := r.eList
      obtain ⟨rfl, _⟩ := z.bools en
      exact cr_any hc pins s σ H _ us Q I rs ⟨_, _, rfl, l, qb _ rfl⟩
    | [], e => simp [biD] at e
    | _ :: _ :: _, e => simp [biD] at e
  | alll =>
    match ds, e with
    | [d], e =>
      obtain ⟨v, rfl, r⟩ := ra.one
      cases d <;> simp only [biD, reduceCtorEq, Option.map_eq_some_iff] at e
      obtain ⟨ns, en, rfl⟩ := e
      obtain ⟨p, ws, rfl, l, z⟩ := r.eList
      obtain ⟨rfl, _⟩ := z.bools en
      exact cr_all hc pins s σ H _ us Q I rs ⟨_, _, rfl, l, qb _ rfl⟩
    | [], e => simp [biD] at e
    | _ :: _ :: _, e => simp [biD] at e
  | str =>
    match ds, e with
    | [d], e =>
      obtain ⟨v, rfl, r⟩ := ra.one
      cases d <;> simp only [biD, reduceCtorEq] at e
      split at e <;> cases e
      have := r.eInt; subst_vars
      refine call_str_int pins s σ H _ us Q I rs ⟨_, rfl, by assumption, ?_⟩
      exact q _ _ _ (Grow.refl zd) (.str .nil)
    | [], e => simp [biD] at e
    | _ :: _ :: _, e => simp [biD] at e
/-! isinstance -/
def tyS : Ty → String
  | .int => "int" | .bool => "bool" | .str => "str" | .tuple => "tuple" | .list => "list"
def tyN : Ty → Str
  | .int => "int" | .bool => "bool" | .str => "str" | .tuple => "tuple" | .list => "list"
theorem tyBoot (b : Ty) : bootBuiltins (tyN b) = some (.type (tyS b)) := by cases b <;> decide +kernel
def dTy : D → String
  | .none => "NoneType" | .bool _ => "bool" | .int _ => "int" | .str _ => "str" | .list _ => "list" | .tuple _ => "tuple" | .dict _ => "dict"
theorem isi_kit (t : Ty) (d : D) (h : ∀ k, d ≠ .dict k) : kitB (dTy d) (tyS t) = some (isiD t d) := by
  cases t <;> cases d <;> first | (exact absurd rfl (h _)) | (simp only [dTy, tyS, isiD]; decide +kernel)
theorem RW.ty {K : W.Frag} {Z : Ad} {F : Nat → Ad} {H : Hp} {v : V} {d : D} (h : RW K Z F H v d) : TyX K H v (.type (dTy d)) ∧ ∀ k, d ≠ .dict k := by
  cases d with
  | none => cases h.eNone; exact ⟨.base .non, fun _ z => nomatch z⟩
  | bool b => cases h.eBool; exact ⟨.base (.bl _), fun _ z => nomatch z⟩
  | int b => cases h.eInt; exact ⟨.base (.int _), fun _ z => nomatch z⟩
  | str b => cases h.eStr; exact ⟨.base (.str _), fun _ z => nomatch z⟩
  | list b =>
    obtain ⟨p, us, rfl, l, r⟩ := h.eList
    refine ⟨?_, fun _ z => nomatch z⟩
    rcases l with (l | ⟨o, l⟩) | ⟨o, its, n, l, c, _⟩
    · exact .base (.lst l)
    · exact .base (.frz l)
    · exact .kList l c
  | tuple b =>
    obtain ⟨p, us, rfl, l, r⟩ := h.eTup
    refine ⟨?_, fun _ z => nomatch z⟩
    rcases l.sq with (l | ⟨o, l⟩) | ⟨o, its, n, l, c, _⟩
    · exact .base (.tup l)
    · exact .fTuple l
    · exact .kTuple l c
  | dict k => exact h.eDict.elim
theorem call_isiD (t : Ty) : CallR X (.builtin "isinstance") (fun xs H Q => ∃ v Z F d, xs = [v, .ty (tyS t)] ∧ RW X.K Z F H v d ∧ Q (.bl (isiD t d)) H) := by
  intro pins s σ H xs us Q I rs h
  obtain ⟨v, Z, F, d, rfl, r, q⟩ := h
  obtain ⟨h1, h2⟩ := r.ty
  exact call_isi pins s σ H _ us Q I rs ⟨_, _, _, _, _, rfl, .ty _, h1, kit_ty (isi_kit t d h2), q⟩
/-! methods of texts -/
def meS : Me → Str
  | .join => "join"
/-- sorted(set(xs)) -/
theorem call_srs (hc : X.calm = true) (hu : X.A.units + 64 < cLine) {Z : Ad} {F : Nat → Ad} {H : Hp} {v : V} {d c : D} {Q : VK} (r : RW X.K Z F H v d) (e : srsD d = some c) (zd : ∀ p, Z p → H p ≠ none)
    (q : ∀ v Z' H', Grow Z H Z' H' → RV X.K Z' H' v c → Q v H') : rSetOfT X.K X.prog X.w [v] H (fun x H1 => rSortedT X.K X.prog X.w [x] H1 Q) := by
  cases d <;> simp only [srsD, reduceCtorEq, Option.bind_eq_some_iff] at e
  obtain ⟨L, eL, e⟩ := e
  split at e <;> cases e
  rename_i hok
  obtain ⟨h64, hB⟩ := okT_of hok
  obtain ⟨p, ws, rfl, l, z⟩ := r.eList
  obtain ⟨ks, rfl, hL, hk⟩ := rz_tups z eL
  have hlen : ks.length < 64 := by rw [← List.length_map (f := fun p : Addr × List Int => p.2), hL]; exact h64
  refine ⟨p, ks, rfl, l, fun p hp => rv_tup (hk p hp), hlen, fun a S ha hS hc => ?_⟩
  have g1 : Grow Z H Z (upd H a (SetTO X.prog X.w a S)) := Grow.newT zd ha
  have hk1 : ∀ p, p ∈ S → RV X.K Z (upd H a (SetTO X.prog X.w a S)) (.ref p.1) (tupI p.2) := fun p hp => RZ.grow (hk p (hS p hp)) g1 zd
  refine ⟨a, S, max 1 (L.headD []).length, bndT L, rfl, upd_same, fun p hp => rv_tup (hk1 p hp), by omega, fun p hp => hB p.2 (by rw [← hL]; exact List.mem_map_of_mem (f := fun p : Addr × List Int => p.2) (hS p hp)), fun S' p' pm nd _ up hn => ?_⟩
  have hk' : ∀ p, p ∈ S' → RV X.K Z (upd H a (SetTO X.prog X.w a S)) (.ref p.1) (tupI p.2) := fun p hp => hk1 p (pm.mem_iff.mp hp)
  have e1 : S'.map (·.2) = ordT (bndT L) (nubT L) := by
    refine up_oneT (d := max 1 (L.headD []).length) (B := bndT L) ?_ (fun x hx => hB x (nub_mem.mp ((ordT_perm _ _).mem_iff.mp hx))) ?_ (ordT_up _ _)
    · refine List.Perm.trans ?_ (ordT_perm _ _).symm
      refine perm_sameT nd (nub_nd L) fun x => ?_
      rw [nub_mem]
      constructor
      · intro hx
        obtain ⟨y, hy, rfl⟩ := List.mem_map.mp hx
        rw [← hL]
        exact List.mem_map_of_mem (f := fun p : Addr × List Int => p.2) (hS y (pm.mem_iff.mp hy))
      · intro hx
        rw [← hL] at hx
        obtain ⟨y, hy, rfl⟩ := List.mem_map.mp hx
        exact (pm.map (·.2)).mem_iff.mpr (hc y hy)
    · rw [List.pairwise_map]; exact up
  have g2 := Grow.new (o := .lst (S'.map fun q => V.ref q.1)) g1.zd hn
  refine q _ _ _ (g1.trans g2) ?_
  rw [← e1]
  exact .lst (.inl ⟨.inr rfl, .inl upd_same⟩) ((rz_back hk').grow g2 g1.zd) .nil
def rDm (K : W.Frag) (f : D → List D → Option D) : V → List V → Hp → VK → Prop := fun x xs H Q => ∃ Z F d ds c, RW K Z F H x d ∧ RWs K Z F H xs ds ∧ f d ds = some c ∧ (∀ p, Z p → H p ≠ none) ∧ ∀ v Z' H', Grow Z H Z' H' → RV K Z' H' v c → Q v H'
theorem join_le {n : Nat} (h : n ≤ 1000000) : n ≤ 16777216 := by omega
theorem mt_joinD : MtR X "str.join" (rDm X.K (meD .join)) := by
  intro pins s σ H x xs v us Q I rx rs h
  obtain ⟨Z, F, d, ds, c, rd, ra, e, zd, q⟩ := h
  match d, ds, e with
  | .str a, [.list es], e =>
    simp only [meD, Option.bind_eq_some_iff] at e
    obtain ⟨ys, ey, e⟩ := e
    split at e <;> cases e
    obtain ⟨w, rfl, r⟩ := ra.one
    have := rd.eStr; subst_vars
    obtain ⟨p, ws, rfl, l, z⟩ := r.eList
    obtain ⟨rfl, _⟩ := z.strs ey
    exact mt_join pins s σ H _ _ v us Q I rx rs ⟨_, _, _, rfl, rfl, .inl l, join_le (by assumption), q _ _ _ (Grow.refl zd) (.str .nil)⟩
  | .str a, [.tuple es], e =>
    simp only [meD, Option.bind_eq_some_iff] at e
    obtain ⟨ys, ey, e⟩ := e
    split at e <;> cases e
    obtain ⟨w, rfl, r⟩ := ra.one
    have := rd.eStr; subst_vars
    obtain ⟨p, ws, rfl, l, z⟩ := r.eTup
    obtain ⟨rfl, _⟩ := z.strs ey
    exact mt_join pins s σ H _ _ v us Q I rx rs ⟨_, _, _, rfl, rfl, .inr l.sq, join_le (by assumption), q _ _ _ (Grow.refl zd) (.str .nil)⟩
end
end PY

set_option Elab.async false
set_option linter.all false
set_option maxRecDepth 100000
set_option maxHeartbeats 1000000
/-! So4: the state, readings by what the annotated text computes, the look that ties it to the text. -/
namespace PY
open PySem PySem.Spec PyProof.Rows L2
def Wp {α : Type} (r : R α) (Ko : α → Env → Prop) (Kx : Ex → Env → Prop) : Prop := match r with
  | .ok a e => Ko a e
  | .ex x e => Kx x e
  | .bad => False
theorem Wp.bind {α β : Type} {r : R α} {f : α → Env → R β} {Ko : β → Env → Prop} {Kx : Ex → Env → Prop} : Wp (r.bind f) Ko Kx ↔ Wp r (fun a e => Wp (f a e) Ko Kx) Kx := by
  cases r <;> exact Iff.rfl
theorem Wp.mono {α : Type} {r : R α} {Ko Ko' : α → Env → Prop} {Kx Kx' : Ex → Env → Prop} (h : Wp r Ko Kx) (h1 : ∀ a e, Ko a e → Ko' a e) (h2 : ∀ a e, Kx a e → Kx' a e) : Wp r Ko' Kx' := by
  cases r with
  | ok a e => exact h1 a e h
  | ex x e => exact h2 x e h
  | bad => exact h
theorem Wp.ok {α : Type} {a : α} {e : Env} {Ko : α → Env → Prop} {Kx : Ex → Env → Prop} : Wp (R.ok a e) Ko Kx ↔ Ko a e := Iff.rfl
theorem Wp.opt {α : Type} {o : Option α} {e : Env} {Ko : α → Env → Prop} {Kx : Ex → Env → Prop} : Wp (R.opt o e) Ko Kx ↔ ∃ a, o = some a ∧ Ko a e := by
  cases o with
  | none => exact ⟨fun h => h.elim, fun ⟨_, h, _⟩ => nomatch h⟩
  | some a => exact ⟨fun h => ⟨a, rfl, h⟩, fun ⟨_, h, k⟩ => by cases h; exact k⟩

structure Sta (K : W.Frag) (Z P : Ad) (F : Nat → Ad) (env : Env) (σ : L2.St) (H : Hp) : Prop where
  len : env.length = σ.length
  sd : ∀ (i : Nat) (d : D), env[i]? = some (.d d) → ∃ v, σ[i]? = some (some v) ∧ RV K Z H v d
  sm : ∀ (i : Nat) (m : M), env[i]? = some (.m m) → ∃ v, σ[i]? = some (some v) ∧ RO K Z H v m (F i)
  ff : ∀ i j a, F i a → F j a → i = j
  fz : ∀ i a, F i a → ¬ Z a
  fp : ∀ i a, F i a → ¬ P a
  zp : ∀ a, Z a → ¬ P a
  df : ∀ i a, F i a → H a ≠ none
  dz : ∀ a, Z a → H a ≠ none
  dp : ∀ a, P a → H a ≠ none
structure Step (Z P : Ad) (H : Hp) (Z' : Ad) (H' : Hp) : Prop where
  zz : ∀ a, Z a → Z' a
  kp : Keep (fun a => Z a ∨ P a) H H'
theorem Step.refl {Z P : Ad} {H : Hp} : Step Z P H Z H := ⟨fun _ h => h, Keep.refl⟩
theorem Step.trans {Z Z1 Z2 P P1 : Ad} {H H1 H2 : Hp} (a : Step Z P H Z1 H1) (b : Step Z1 P1 H1 Z2 H2) (h : ∀ x, P x → P1 x) : Step Z P H Z2 H2 :=
  ⟨fun x q => b.zz x (a.zz x q), a.kp.trans b.kp fun x q => q.imp (a.zz x) (h x)⟩
theorem Step.narrow {Z Z' P P1 : Ad} {H H' : Hp} (a : Step Z P H Z' H') (h : ∀ x, P1 x → P x) : Step Z P1 H Z' H' := ⟨a.zz, a.kp.mono fun x q => q.imp id (h x)⟩
section
variable {K : W.Frag} {Z Z' P P' : Ad} {F F' : Nat → Ad} {env : Env} {σ : L2.St} {H H' : Hp}
theorem Sta.narrow (s : Sta K Z P F env σ H) (h : ∀ a, P' a → P a) : Sta K Z P' F env σ H :=
  ⟨s.len, s.sd, s.sm, s.ff, s.fz, fun i a f p => s.fp i a f (h a p), fun a z p => s.zp a z (h a p), s.df, s.dz, fun a p => s.dp a (h a p)⟩
theorem Sta.grow (s : Sta K Z P F env σ H) (g : Grow Z H Z' H') : Sta K Z' P F env σ H' where
  len := s.len
  sd := fun i d e => let ⟨v, h1, h2⟩ := s.sd i d e; ⟨v, h1, h2.grow g s.dz⟩
  sm := fun i m e => let ⟨v, h1, h2⟩ := s.sm i m e; ⟨v, h1, h2.keep (g.keep s.dz) g.zz ((g.keep (s.df i)).at_)⟩
  ff := s.ff
  fz := fun i a f z => (g.zn a z).elim (s.fz i a f) (s.df i a f)
  fp := s.fp
  zp := fun a z p => (g.zn a z).elim (fun q => s.zp a q p) (s.dp a p)
  df := fun i a f => (g.keep (s.df i)).at_ a f ▸ s.df i a f
  dz := g.zd
  dp := fun a p => (g.keep s.dp).at_ a p ▸ s.dp a p
theorem Sta.gstep (s : Sta K Z P F env σ H) (g : Grow Z H Z' H') : Step Z P H Z' H' := ⟨g.zz, g.keep fun a q => q.elim (s.dz a) (s.dp a)⟩
end
def Qt (env : Env) (F : Nat → Ad) (H : Hp) (env' : Env) (F' : Nat → Ad) (H' : Hp) : Prop := env' = env ∧ F' = F ∧ ∀ i a, F i a → H' a = H a
theorem Qt.refl {env : Env} {F : Nat → Ad} {H : Hp} : Qt env F H env F H := ⟨rfl, rfl, fun _ _ _ => rfl⟩
theorem Qt.trans {env env1 env2 : Env} {F F1 F2 : Nat → Ad} {H H1 H2 : Hp} (a : Qt env F H env1 F1 H1) (b : Qt env1 F1 H1 env2 F2 H2) : Qt env F H env2 F2 H2 := by
  obtain ⟨rfl, rfl, k⟩ := a
  obtain ⟨rfl, rfl, k'⟩ := b
  exact ⟨rfl, rfl, fun i a f => (k' i a f).trans (k i a f)⟩
theorem Qt.grow {K : W.Frag} {Z P Z' : Ad} {env : Env} {σ : L2.St} {F : Nat → Ad} {H H' : Hp} (s : Sta K Z P F env σ H) (g : Grow Z H Z' H') : Qt env F H env F H' := ⟨rfl, rfl, fun i => (g.keep (s.df i)).at_⟩
structure ResE (K : W.Frag) (es q : Bool) (Z P : Ad) (F : Nat → Ad) (H : Hp) (env : Env) (σ : L2.St) (Z' : Ad) (F' : Nat → Ad) (H' : Hp) (env' : Env) (v : V) (d : D) : Prop where
  st : Sta K Z' P F' env' σ H'
  stp : Step Z P H Z' H'
  rw : RW K Z' F' H' v d
  es : es = true → RV K Z' H' v d
  qt : q = true → Qt env F H env' F' H'
structure ResT (K : W.Frag) (q : Bool) (Z P : Ad) (F : Nat → Ad) (H : Hp) (env : Env) (σ : L2.St) (Z' : Ad) (F' : Nat → Ad) (H' : Hp) (env' : Env) : Prop where
  st : Sta K Z' P F' env' σ H'
  stp : Step Z P H Z' H'
  qt : q = true → Qt env F H env' F' H'
structure ResM (K : W.Frag) (q : Bool) (Z P : Ad) (F : Nat → Ad) (H : Hp) (env : Env) (σ : L2.St) (Z' : Ad) (F' : Nat → Ad) (H' : Hp) (env' : Env) (A : Ad) (v : V) (m : M) : Prop where
  st : Sta K Z' (fun a => P a ∨ A a) F' env' σ H'
  stp : Step Z P H Z' H'
  ro : RO K Z' H' v m A
  ap : ∀ a, A a → ¬ P a
  qt : q = true → Qt env F H env' F' H'
inductive RS (K : W.Frag) (Z : Ad) (F : Nat → Ad) (H : Hp) : List V → List Sl → Ad → Prop
  | nil {A} : RS K Z F H [] [] A
  | d {v d vs ss A} : RW K Z F H v d → RS K Z F H vs ss A → RS K Z F H (v :: vs) (.d d :: ss) A
  | m {v m vs ss A B C} : RO K Z H v m B → RS K Z F H vs ss C → (∀ a, B a → C a → False) → (∀ a, B a → A a) → (∀ a, C a → A a) → RS K Z F H (v :: vs) (.m m :: ss) A
  | un {v vs ss A} : RS K Z F H vs ss A → RS K Z F H (v :: vs) (.un :: ss) A
abbrev noF : Nat → Ad := fun _ _ => False
/-- the changeable arguments' values are those of their names -/
def plOk (σ : L2.St) : Tm → List V → Prop
  | .cons (.am (.v i)) b, v :: vs => σ[i]? = some (some v) ∧ plOk σ b vs
  | .cons _ b, _ :: vs => plOk σ b vs
  | _, _ => True
structure ResA (K : W.Frag) (es q : Bool) (x : Tm) (Z P : Ad) (F : Nat → Ad) (H : Hp) (env : Env) (σ : L2.St) (Z' : Ad) (F' : Nat → Ad) (H' : Hp) (env' : Env) (A : Ad) (vs : List V) (ss : List Sl) : Prop where
  st : Sta K Z' (fun a => P a ∨ A a) F' env' σ H'
  stp : Step Z P H Z' H'
  rs : RS K Z' F' H' vs ss A
  es : es = true → RS K Z' noF H' vs ss A
  ap : ∀ a, A a → ¬ P a
  pl : plOk σ x vs
  qt : q = true → Qt env F H env' F' H'
/-- items that come one by one while the lists stand -/
structure Wk (K : W.Frag) (Z : Ad) (H : Hp) (J : It) (ds : List D) : Prop where
  ex : ∃ (G : Hp → Prop) (Y : Nat → Hp → V → Hp → Prop), Walk J ds.length G Y ∧ (∀ (Z2 : Ad) (H2 : Hp), (∀ a, Z a → Z2 a) → Keep Z H H2 → G H2) ∧
    ∀ (i : Nat) (d : D) (Z2 : Ad) (H2 : Hp) (v : V) (H3 : Hp), ds[i]? = some d → (∀ a, Z a → Z2 a) → Keep Z H H2 → (∀ a, Z2 a → H2 a ≠ none) → Y i H2 v H3 → ∃ Z3, Grow Z2 H2 Z3 H3 ∧ RV K Z3 H3 v d
structure ResI (K : W.Frag) (q : Bool) (Z P : Ad) (F : Nat → Ad) (H : Hp) (env : Env) (σ : L2.St) (Z' : Ad) (F' : Nat → Ad) (H' : Hp) (env' : Env) (J : It) (ds : List D) : Prop where
  st : Sta K Z' P F' env' σ H'
  stp : Step Z P H Z' H'
  wk : Wk K Z' H' J ds
  qt : q = true → Qt env F H env' F' H'

/-! what may be held back, what changes nothing -/
def esc : Tm → Bool
  | .vw _ => false
  | .ite _ a b => esc a && esc b
  | .and _ b => esc b
  | .or _ b => esc b
  | _ => true
def escs : Tm → Bool
  | .cons a b => esc a && escs b
  | _ => true
def noAm : Tm → Bool
  | .cons (.am _) _ => false
  | .cons _ b => noAm b
  | _ => true
def qui : Tm → Bool
  | .mv _ => false
  | .cons a b => qui a && qui b
  | .at a => qui a
  | .dct _ a => qui a
  | .srs a => qui a
  | .rev a | .gcd a | .rlst a | .rtup a | .revm a
  | .tup a | .lst a | .nst a | .neg a | .isN a | .notN a | .not a | .isi a _ | .lof a | .rng1 a | .enum a => qui a
  | .bin _ a b | .cmp _ a b | .and a b | .or a b | .idx a b | .cat a b | .rng2 a b | .zip a b | .rep a b => qui a && qui b
  | .chain _ _ a b c | .ite a b c | .slc a b c | .slm a b c => qui a && qui b && qui c
  | .call _ as => noAm as && qui as
  | .callK _ as ks => noAm as && noAm ks && qui as && qui ks
  | .callP _ as ks _ => noAm as && noAm ks && qui as && qui ks
  | .bi _ as => qui as
  | .me _ o a => qui o && qui a
  | .comp .. => false
  | .dcp .. => false
  | .dpt .. => false
  | .slv _ b c => qui b && qui c
  | .dgt _ a => qui a
  | .dgv _ a => qui a
  | .din _ a => qui a
  | .pop _ | .popAt _ _ => false
  | _ => true

/-! the facts of a whole law -/
structure Info where
  P : Program
  w : World
  K : W.Frag
  mg : Str → Option Value
  base : Heap
  GC : Nat → Option D
  gn : Nat → Str
  XC : Nat → Option (Addr × List Str)
  T : Nat → Option FD
  fn : Nat → Str
  fa : Nat → Addr
  fdt : Nat → FuncData
  fps : Nat → List Str
  kk : Nat → List (List Nat)
/-- an exception of an own class in flight: its class, its dict's fields -/
def ExR (I : Info) (Z : Ad) (H : Hp) (cv : Value) (dd : Option Addr) (x : Ex) : Prop :=
  ∃ C fs d vs, I.XC x.cls = some (C, fs) ∧ cv = .ref C ∧ dd = some d ∧ Z d ∧ H d = some (.xd (fs.zip vs)) ∧ RZ I.K Z H vs x.fs
def exK (I : Info) (W : WX) (σ : L2.St) (Z P : Ad) (H : Hp) : Ex → Env → Prop := fun x env' => ∀ cv dd Z' F' H', Sta I.K Z' P F' env' σ H' → Step Z P H Z' H' → ExR I Z' H' cv dd x → W cv dd σ H'
theorem exK.later {I : Info} {W : WX} {σ : L2.St} {Z Z1 P P1 : Ad} {H H1 : Hp} (stp : Step Z P H Z1 H1) (hp : ∀ a, P a → P1 a) {x : Ex} {e : Env} (h : exK I W σ Z P H x e) : exK I W σ Z1 P1 H1 x e :=
  fun cv dd Z' F' H' st s2 er => h cv dd Z' F' H' (st.narrow hp) (stp.trans s2 hp) er
section
variable (I : Info) (C : Nat → List Sl → CR) (W : WX)
def tE (x : Tm) : TE := fun σ H Q => ∃ Z P F env, Sta I.K Z P F env σ H ∧ Wp ((ev I.GC C x).e env) (fun d env' => ∀ v Z' F' H', ResE I.K (esc x) (qui x) Z P F H env σ Z' F' H' env' v d → Q v H') (exK I W σ Z P H)
def tT (x : Tm) : TT := fun σ H Q => ∃ Z P F env, Sta I.K Z P F env σ H ∧ Wp ((ev I.GC C x).t env) (fun b env' => ∀ Z' F' H', ResT I.K (qui x) Z P F H env σ Z' F' H' env' → Q b H') (exK I W σ Z P H)
def tM (x : Tm) : TE := fun σ H Q => ∃ Z P F env, Sta I.K Z P F env σ H ∧ Wp ((ev I.GC C x).m env) (fun m env' => ∀ v Z' F' H' A, ResM I.K (qui x) Z P F H env σ Z' F' H' env' A v m → Q v H') (exK I W σ Z P H)
def tA (x : Tm) : TA := fun σ H Q => ∃ Z P F env, Sta I.K Z P F env σ H ∧ Wp ((ev I.GC C x).a env) (fun ss env' => ∀ vs Z' F' H' A, ResA I.K (escs x) (qui x) x Z P F H env σ Z' F' H' env' A vs ss → Q vs H') (exK I W σ Z P H)
def tI (x : Tm) : TI := fun σ H Rr => ∃ Z P F env, Sta I.K Z P F env σ H ∧ Wp ((ev I.GC C x).i env) (fun ds env' => ∀ J Z' F' H', ResI I.K (qui x) Z P F H env σ Z' F' H' env' J ds → Rr J H') (exK I W σ Z P H)
end

/-! ### the look -/
structure Ctx where
  N : List Str
  sc : Scope
  ws : Option Scope
  prot : List Nat
structure Mt where
  e : Expr → Bool
  l : List Expr → Bool
  k : List Keyword → Bool
def Mt.no : Mt := ⟨fun _ => false, fun _ => false, fun _ => false⟩
def visB (sc : Scope) (x : Str) : Bool := match sc.names.lookup x with
  | some .local | some .cell | some .free => true
  | _ => false
def locB (sc : Scope) (x : Str) : Bool := match sc.names.lookup x with
  | some .local | some .cell => true
  | _ => false
def glB (sc : Scope) (x : Str) : Bool := match sc.names.lookup x with
  | some .globalImplicit => true
  | _ => false
def plainName (x : Str) : Bool := !(x == ("__debug__" : Str)) && !(x == ("__classdict__" : Str)) && !(x == ("__name__" : Str))
def varB (c : Ctx) (i : Nat) (x : Str) : Bool := (match c.N[i]? with | some y => decide (y = x) | none => false) && visB c.sc x && plainName x
def isSl : Expr → Bool
  | .Slice .. => true
  | _ => false
def isTup : Expr → Bool
  | .Tuple .. => true
  | _ => false
def simpleP : Pl → Bool
  | .v _ => true
  | .ixn p _ => simpleP p
  | .ixv p _ => simpleP p
  | .ixs _ _ => false
  | .fd _ _ => false
def baseOk : Expr → Bool
  | .Call .. => false
  | _ => true
/-- a place in the text -/
def plX (c : Ctx) : Pl → Expr → Bool
  | .v i, .Name x _ => varB c i x
  | .ixn p k, .Subscript e (.Constant (.int j) _ _) _ => decide (k = j) && plX c p e
  | .ixv p i, .Subscript e (.Name x _) _ => varB c i x && plX c p e
  | _, _ => false
def noStar : Expr → Bool
  | .Starred .. => false
  | _ => true
/-- a stored name -/
def stoB (c : Ctx) (i : Nat) (x : Str) : Bool := (match c.N[i]? with | some y => decide (y = x) | none => false) && !(c.prot.contains i) && plainName x &&
  match c.ws with
  | none => locB c.sc x
  | some s => locB s x
def mG (c : Ctx) : G → Mt
  | .n i => { Mt.no with e := fun | .Name x _ => stoB c i x | _ => false }
  | .t g => { Mt.no with e := fun | .Tuple es _ _ => (mG c g).l es | _ => false }
  | .nil => { Mt.no with l := fun | [] => true | _ => false }
  | .cons a b => { Mt.no with l := fun | e :: es => noStar e && (mG c a).e e && (mG c b).l es | _ => false }
def gIx : G → List Nat
  | .n i => [i]
  | .t g => gIx g
  | .nil => []
  | .cons a b => gIx a ++ gIx b
def ndB (l : List Nat) : Bool := decide l.Nodup
def amIx : Tm → List Nat
  | .cons (.am (.v i)) b => i :: amIx b
  | .cons _ b => amIx b
  | _ => []
def amV : Tm → Bool
  | .cons (.am (.v _)) b => amV b
  | .cons (.am _) _ => false
  | .cons _ b => amV b
  | _ => true
def kwNames : List Keyword → List (Option Str)
  | [] => []
  | ⟨n, _, _⟩ :: r => n :: kwNames r
variable (fn gn : Nat → Str) (fps : Nat → List Str) (kk : Nat → List (List Nat))
/-- not read as a test -/
def noT : Tm → Bool
  | .ite .. => true
  | .at _ => true
  | _ => false
def notAm : Tm → Bool
  | .am _ => false
  | .at _ => false
  | _ => true
def isBO : Expr → Bool
  | .BoolOp .. => true
  | _ => false
def isSetE : Expr → Bool
  | .Set .. => true
  | _ => false
def needTup : Tm → Bool
  | .enum _ => true
  | .zip _ _ => true
  | _ => false
def isAbs : Tm → Bool
  | .abs => true
  | _ => false
def isTT : Tm → Bool
  | .bl true => true
  | _ => false
def isVp : Pl → Bool
  | .v _ => true
  | _ => false
def tyB : List Ty → Str → Bool
  | [t], z => decide (z = tyN t)
  | _, _ => false
def optB (k : Bool) (m : Expr → Bool) : Option Expr → Bool
  | none => k
  | some y => !k && m y
def ifsB (k : Bool) (m : Expr → Bool) : List Expr → Bool
  | [] => k
  | [y] => m y
  | _ => false
/-- written texts as keys -/
def keysB : List (Option Expr) → List Str → Bool
  | [], [] => true
  | some (.Constant (.str j) _ _) :: r, k :: ks => decide (j = k) && keysB r ks
  | _, _ => false
/-- plain values alone -/
def noAt : Tm → Bool
  | .nil => true
  | .cons a b => notAm a && noAt b
  | _ => false
def mX : Tm → Ctx → Mt
  | .var i, c => { Mt.no with e := (fun | .Name x _ => varB c i x | _ => false) }
  | .lf p, c => { Mt.no with e := plX c p }
  | .vw p, c => { Mt.no with e := plX c p }
  | .mv i, c => { Mt.no with e := (fun | .Name x _ => varB c i x && !(c.prot.contains i) | _ => false) }
  | .int i, _ => { Mt.no with e := (fun | .Constant (.int j) _ _ => decide (i = j) | _ => false) }
  | .bl b, _ => { Mt.no with e := (fun | .Constant (.bool j) _ _ => decide (b = j) | _ => false) }
  | .non, _ => { Mt.no with e := (fun | .Constant .none _ _ => true | _ => false) }
  | .str s, _ => { Mt.no with e := (fun | .Constant (.str j) _ _ => decide (s = j) | _ => false) }
  | .gc g, c => { Mt.no with e := (fun | .Name x _ => decide (x = gn g) && glB c.sc x && plainName x | _ => false) }
  | .nil, _ => { Mt.no with l := fun | [] => true | _ => false, k := fun | [] => true | _ => false }
  | .cons a b, c =>
    { Mt.no with
      l := (fun | e :: es => (esc a || qui b) && noStar e && (mX a c).e e && (mX b c).l es | _ => false),
      k := (fun | ⟨some _, e, _⟩ :: es => notAm a && (esc a || qui b) && (mX a c).e e && (mX b c).k es | _ => false) }
  | .am p, c => { Mt.no with e := (fun ex => isVp p && plX c p ex) }
  | .at a, c => { Mt.no with e := fun ex => esc a && !(isBO ex) && (mX a c).e ex }
  | .tup es, c => { Mt.no with e := (fun | .Tuple l _ _ => escs es && (mX es c).l l | _ => false) }
  | .lst es, c => { Mt.no with e := (fun | .List l _ => escs es && (mX es c).l l | _ => false) }
  | .nst es, c => { Mt.no with e := (fun | .List l _ => escs es && (mX es c).l l | _ => false) }
  | .bin o a b, c => { Mt.no with e := (fun | .BinOp x p y _ => decide (p = bop o) && (esc a || qui b) && (mX a c).e x && (mX b c).e y | _ => false) }
  | .neg a, c => { Mt.no with e := (fun | .UnaryOp .USub x _ => (mX a c).e x | _ => false) }
  | .cmp o a b, c => { Mt.no with e := (fun | .Compare x [p] [y] _ => decide (p = cop o) && !(behindInMarks p y) && (esc a || qui b) && (mX a c).e x && (mX b c).e y | _ => false) }
  | .chain o o' a b d, c => { Mt.no with e := (fun | .Compare x [p, p'] [y, z] _ => decide (p = cop o) && decide (p' = cop o') && !(lastMarks [p, p'] [y, z]) && esc a && esc b && (mX a c).e x && (mX b c).e y && (mX d c).e z | _ => false) }
  | .isN a, c => { Mt.no with e := (fun | .Compare x [.Is] [.Constant .none _ _] _ => (mX a c).e x | _ => false) }
  | .notN a, c => { Mt.no with e := (fun | .Compare x [.IsNot] [.Constant .none _ _] _ => (mX a c).e x | _ => false) }
  | .and a b, c => { Mt.no with e := (fun
      | .BoolOp .And [x, y] _ => !(noT a) && !(noT b) && (mX a c).e x && (mX b c).e y
      | .BoolOp .And (x :: y :: z :: r) p => !(noT a) && (mX a c).e x && (mX b c).e (.BoolOp .And (y :: z :: r) p)
      | _ => false) }
  | .or a b, c => { Mt.no with e := (fun
      | .BoolOp .Or [x, y] _ => !(noT a) && !(noT b) && (mX a c).e x && (mX b c).e y
      | .BoolOp .Or (x :: y :: z :: r) p => !(noT a) && (mX a c).e x && (mX b c).e (.BoolOp .Or (y :: z :: r) p)
      | _ => false) }
  | .not a, c => { Mt.no with e := (fun | .UnaryOp .Not x _ => !(noT a) && (mX a c).e x | _ => false) }
  | .ite t a b, c => { Mt.no with e := (fun | .IfExp x y z _ => !(noT t) && (mX t c).e x && (mX a c).e y && (mX b c).e z | _ => false) }
  | .idx a b, c => { Mt.no with e := (fun | .Subscript x y _ => !(isSl y) && (esc a || qui b) && (mX a c).e x && (mX b c).e y | _ => false) }
  | .slv i lo hi, c => { Mt.no with e := (fun | .Subscript (.Name x _) (.Slice l h none _) _ => varB c i x && optB (isAbs lo) (mX lo c).e l && optB (isAbs hi) (mX hi c).e h | _ => false) }
  | .slc a lo hi, c => { Mt.no with e := (fun | .Subscript x (.Slice l h none _) _ => (esc a || (qui lo && qui hi)) && (mX a c).e x && optB (isAbs lo) (mX lo c).e l && optB (isAbs hi) (mX hi c).e h | _ => false) }
  | .slm a lo hi, c => { Mt.no with e := (fun | .Subscript x (.Slice l h none _) _ => (esc a || (qui lo && qui hi)) && (mX a c).e x && optB (isAbs lo) (mX lo c).e l && optB (isAbs hi) (mX hi c).e h | _ => false) }
  | .call f as, c => { Mt.no with e := (fun | .Call (.Name x _) es [] _ => decide (x = fn f) && glB c.sc x && plainName x && escs as && amV as && ndB (amIx as) && (mX as c).l es | _ => false) }
  | .callK f as ks, c => { Mt.no with e := (fun | .Call (.Name x _) (a :: es) kws _ => decide (x = fn f) && glB c.sc x && plainName x && escs as && escs ks && amV as && noAm ks && ndB (amIx as) && (kk f).contains [es.length + 1] && decide (kwNames kws = ((fps f).drop (es.length + 1)).map some) && (mX as c).l (a :: es) && (mX ks c).k kws | _ => false) }
  | .callP f as ks q, c => { Mt.no with e := (fun | .Call (.Name x _) es kws _ => decide (x = fn f) && glB c.sc x && plainName x && escs as && escs ks && amV as && noAm ks && ndB (amIx as) && (kk f).contains (99 :: q) && decide (kwNames kws = q.map fun i => some ((fps f).getD i "")) && decide (es.length + q.length = (fps f).length) && (mX as c).l es && (mX ks c).k kws | _ => false) }
  | .rev a, c => { Mt.no with e := (fun | .Subscript x (.Slice none none (some (.UnaryOp .USub (.Constant (.int 1) _ _) _)) _) _ => (mX a c).e x | _ => false) }
  | .dg i k, c => { Mt.no with e := (fun | .Subscript (.Name x _) (.Constant (.str j) _ _) _ => varB c i x && decide (j = k) | _ => false) }
  | .dct ks vs, c => { Mt.no with e := (fun | .Dict keys values _ => keysB keys ks && escs vs && noAt vs && decide (ks ≠ []) && decide (ks.length ≤ 15) && decide (keys.length = values.length) && (mX vs c).l values | _ => false) }
  | .rlst a, c => { Mt.no with e := (fun | .Call (.Name x _) [.Call (.Name z _) [y] [] _] [] _ => decide (x = "list") && decide (z = "range") && glB c.sc x && glB c.sc z && noStar y && (mX a c).e y | _ => false) }
  | .rtup a, c => { Mt.no with e := (fun | .Call (.Name x _) [.Call (.Name z _) [y] [] _] [] _ => decide (x = "tuple") && decide (z = "range") && glB c.sc x && glB c.sc z && noStar y && (mX a c).e y | _ => false) }
  | .rep a n, c => { Mt.no with e := (fun | .BinOp x .Mult y _ => esc a && (mX a c).e x && (mX n c).e y | _ => false) }
  | .revm a, c => { Mt.no with e := (fun | .Subscript x (.Slice none none (some (.UnaryOp .USub (.Constant (.int 1) _ _) _)) _) _ => (mX a c).e x | _ => false) }
  | .srs a, c => { Mt.no with e := (fun | .Call (.Name x _) [.Call (.Name z _) [y] [] _] [] _ => decide (x = "sorted") && decide (z = "set") && glB c.sc x && glB c.sc z && noStar y && esc a && (mX a c).e y | _ => false) }
  | .gcd as, c => { Mt.no with e := (fun | .Call (.Name x _) (a :: es) [] _ => decide (x = "gcd") && decide (gn 1000 = "gcd") && glB c.sc x && (mX as c).l (a :: es) | _ => false) }
  | .bi b as, c => { Mt.no with e := (fun | .Call (.Name x _) (a :: es) [] _ => decide (x = biN b) && glB c.sc x && (mX as c).l (a :: es) | _ => false) }
  | .isi a ts, c => { Mt.no with e := (fun | .Call (.Name x _) [y, .Name z _] [] _ => decide (x = "isinstance") && glB c.sc x && glB c.sc z && tyB ts z && noStar y && (mX a c).e y | _ => false) }
  | .me m o a, c => { Mt.no with e := (fun | .Call (.Attribute x n ap) [y] [] p => decide (n = meS m) && baseOk x && (ap.endLine == p.line) && noStar y && esc o && (mX o c).e x && (mX a c).e y | _ => false) }
  | .comp own g it t e, c => { Mt.no with e := (fun
      | .ListComp el [⟨tg, i, ifs, 0⟩] scope _ =>
        !(isSetE i) && (mX it c).e i && (!(needTup it) || isTup tg) && esc it && ndB own && (gIx g).all (own.contains ·) &&
        blkC c.N c.sc scope (own.map fun i => (c.N.getD i "", i)) &&
        (let c' : Ctx := ⟨c.N, relS scope c.sc, some scope, c.prot⟩
         (mG c' g).e tg && !(noT t) && ifsB (isTT t) (mX t c').e ifs && esc e && (mX e c').e el)
      | _ => false) }
  | .dnw, c => { Mt.no with e := (fun | .Dict [] [] _ => true | _ => false) }
  | .dpt a, c => { Mt.no with e := (fun | .Call (.Name f _) [y] [] _ => decide (f = "dict") && glB c.sc f && noStar y && esc a && (mX a c).e y | _ => false) }
  | .dgt i a, c => { Mt.no with e := (fun | .Subscript (.Name x _) y _ => varB c i x && !(isSl y) && (mX a c).e y | _ => false) }
  | .dgv i a, c => { Mt.no with e := (fun | .Subscript (.Name x _) y _ => varB c i x && !(isSl y) && (mX a c).e y | _ => false) }
  | .din i a, c => { Mt.no with e := (fun | .Compare y [.In] [.Name x _] _ => varB c i x && (mX a c).e y | _ => false) }
  | .dcp i a, c => { Mt.no with e := (fun
      | .Call (.Name f _) [.BinOp (.Call (.Name g _) [.Call (.Attribute (.Name x _) nm ap) [] [] cp] [] _) .Add y _] [] _ =>
        decide (f = "dict") && decide (g = "list") && glB c.sc f && glB c.sc g && decide (nm = "items") && (ap.endLine == cp.line) && varB c i x && esc a && (mX a c).e y
      | _ => false) }
  | .cat a b, c => { Mt.no with e := (fun | .BinOp x .Add y _ => ((mX a c).e x && esc a) && ((mX b c).e y && esc b) | _ => false) }
  | .lof a, c => { Mt.no with e := (fun | .Call (.Name x _) [y] [] _ => decide (x = "list") && glB c.sc x && noStar y && (mX a c).e y | _ => false) }
  | .rng1 a, c => { Mt.no with e := (fun | .Call (.Name x _) [y] [] _ => decide (x = "range") && glB c.sc x && noStar y && (mX a c).e y | _ => false) }
  | .rng2 a b, c => { Mt.no with e := (fun | .Call (.Name x _) [y, z] [] _ => decide (x = "range") && glB c.sc x && noStar y && noStar z && (mX a c).e y && (mX b c).e z | _ => false) }
  | .enum a, c => { Mt.no with e := (fun | .Call (.Name x _) [y] [] _ => decide (x = "enumerate") && glB c.sc x && noStar y && esc a && (mX a c).e y | _ => false) }
  | .zip a b, c => { Mt.no with e := (fun | .Call (.Name x _) [y, z] [] _ => decide (x = "zip") && glB c.sc x && noStar y && noStar z && esc a && esc b && (mX a c).e y && (mX b c).e z | _ => false) }
  | .pop p, c => { Mt.no with e := (fun | .Call (.Attribute x n ap) [] [] q => decide (n = "pop") && baseOk x && (ap.endLine == q.line) && plX c p x | _ => false) }
  | .popAt p a, c => { Mt.no with e := (fun | .Call (.Attribute x n ap) [y] [] q => decide (n = "pop") && baseOk x && (ap.endLine == q.line) && plX c p x && noStar y && (isVp p || qui a) && (mX a c).e y | _ => false) }
  | _, _ => Mt.no
end PY

set_option Elab.async false
set_option linter.all false
set_option maxRecDepth 100000
set_option maxHeartbeats 1000000
/-! So5: expressions: each reading by the plain computation is shown from the readings of its parts. -/
namespace PY
open PySem PySem.Spec PyProof.Rows L2
def bnames : List Str := ["len", "int", "abs", "max", "min", "tuple", "sum", "any", "all", "str", "bool", "list", "isinstance", "range", "enumerate", "zip", "sorted", "set", "dict"]
structure InfoOk (I : Info) : Prop where
  gc : ∀ g d, I.GC g = some d → ∃ u v, I.mg (I.gn g) = some u ∧ RelV v u ∧ RZ I.K (fun _ => False) (fun _ => none) [v] [d]
  bn : ∀ x ∈ bnames, I.mg x = none
  gg : I.gn 1000 = "gcd" → I.mg "gcd" = some (.builtin "math.gcd")
  tn : ∀ f, plainName (I.fn f) = true → ∃ fd, I.T f = some fd
structure CtxOk (I : Info) (n : Nat) (c : Ctx) (X : Cx) : Prop where
  pr : X.prog = I.P
  ww : X.w = I.w
  kk : X.K = I.K
  mg : X.mg = I.mg
  bs : X.base = I.base
  N : X.N = c.N
  nd : c.N.Nodup
  sc : X.env.scope = c.sc
  calm : X.calm = true
  room : Room n X.A
  fn : match c.ws with
    | none => ∀ x, X.fn x = true
    | some s => (∀ x, X.fn x = (s.names.lookup x == some .cell)) ∧ ∀ x k, s.names.lookup x = some k → k ≠ .free → c.sc.names.lookup x = some k
theorem _root_.L2.PE.imp {X : Cx} {e : Expr} {t t' : TE} (h : PE X e t) (k : ∀ σ H Q, t' σ H Q → t σ H Q) : PE X e t' := ⟨fun pins s σ H Q I q => h.run pins s σ H Q I (k σ H Q q)⟩
theorem _root_.L2.PT.imp {X : Cx} {e : Expr} {t t' : TT} (h : PT X e t) (k : ∀ σ H Q, t' σ H Q → t σ H Q) : PT X e t' := ⟨fun pins s σ H Q I q => h.run pins s σ H Q I (k σ H Q q)⟩
theorem _root_.L2.PW.imp {X : Cx} {e : Expr} {t t' : TT} (h : PW X e t) (k : ∀ σ H Q, t' σ H Q → t σ H Q) : PW X e t' := ⟨fun wh pins s σ H Q I q => h.run wh pins s σ H Q I (k σ H Q q)⟩
theorem _root_.L2.PA.imp {X : Cx} {e : List Expr} {t t' : TA} (h : PA X e t) (k : ∀ σ H Q, t' σ H Q → t σ H Q) : PA X e t' := ⟨fun pos pins s σ H Q I q => h.run pos pins s σ H Q I (k σ H Q q)⟩
theorem _root_.L2.PK.imp {X : Cx} {e : List Keyword} {t t' : TA} (h : PK X e t) (k : ∀ σ H Q, t' σ H Q → t σ H Q) : PK X e t' := ⟨fun pos pins s σ H Q I q => h.run pos pins s σ H Q I (k σ H Q q)⟩
theorem _root_.L2.PI.imp {X : Cx} {tg e : Expr} {t t' : TI} (h : PI X tg e t) (k : ∀ σ H Q, t' σ H Q → t σ H Q) : PI X tg e t' := ⟨fun pins s σ H Q I q => h.run pins s σ H Q I (k σ H Q q)⟩
section
variable {K : W.Frag} {es q q1 q2 : Bool} {Z Z1 Z2 Z' P A : Ad} {F F1 F2 F' : Nat → Ad} {H H1 H2 H' : Hp} {env env1 env2 env' : Env} {σ : L2.St} {v : V} {d : D} {m : M}
theorem ResE.grown (st : Sta K Z P F env σ H) (g : Grow Z H Z' H') (r : RV K Z' H' v d) : ResE K es q Z P F H env σ Z' F H' env v d :=
  ⟨st.grow g, st.gstep g, .inl r, fun _ => r, fun _ => Qt.grow st g⟩
theorem ResE.here (st : Sta K Z P F env σ H) (r : RV K Z H v d) : ResE K es q Z P F H env σ Z F H env v d := .grown st (Grow.refl st.dz) r
theorem ResT.refl (st : Sta K Z P F env σ H) : ResT K q Z P F H env σ Z F H env := ⟨st, Step.refl, fun _ => Qt.refl⟩
theorem ResE.t (r : ResE K es q Z P F H env σ Z1 F1 H1 env1 v d) : ResT K q Z P F H env σ Z1 F1 H1 env1 := ⟨r.st, r.stp, r.qt⟩
theorem ResT.trans (r : ResT K q1 Z P F H env σ Z1 F1 H1 env1) (r2 : ResT K q2 Z1 P F1 H1 env1 σ Z2 F2 H2 env2) : ResT K (q1 && q2) Z P F H env σ Z2 F2 H2 env2 :=
  ⟨r2.st, r.stp.trans r2.stp fun _ h => h, fun h => by
    simp only [Bool.and_eq_true] at h
    exact (r.qt h.1).trans (r2.qt h.2)⟩
theorem ResT.fin (r : ResT K q Z P F H env σ Z1 F1 H1 env1) (g : Grow Z1 H1 Z' H') (rv : RV K Z' H' v d) : ResE K es q Z P F H env σ Z' F1 H' env1 v d :=
  ⟨r.st.grow g, r.stp.trans (r.st.gstep g) fun _ h => h, .inl rv, fun _ => rv, fun h => (r.qt h).trans (Qt.grow r.st g)⟩
theorem ResT.here (r : ResT K q Z P F H env σ Z1 F1 H1 env1) (rv : RV K Z1 H1 v d) : ResE K es q Z P F H env σ Z1 F1 H1 env1 v d := r.fin (Grow.refl r.st.dz) rv
theorem ResT.wk (r : ResT K q1 Z P F H env σ Z1 F1 H1 env1) (h : q = true → q1 = true) : ResT K q Z P F H env σ Z1 F1 H1 env1 := ⟨r.st, r.stp, fun z => r.qt (h z)⟩
theorem RW.later {ea : Bool} (r : RW K Z1 F1 H1 v d) (he : ea = true → RV K Z1 H1 v d) (hq : (ea || q) = true) (t : ResT K q Z1 P F1 H1 env1 σ Z2 F2 H2 env2) : RW K Z2 F2 H2 v d := by
  cases ea with
  | true => exact .inl ((he rfl).keep (t.stp.kp.mono fun _ z => .inl z) t.stp.zz)
  | false =>
    rcases r with r | ⟨i, a, us, ds, f, e1, e2, e3, r⟩
    · exact .inl (r.keep (t.stp.kp.mono fun _ z => .inl z) t.stp.zz)
    · obtain ⟨_, rfl, k⟩ := t.qt (by simpa using hq)
      exact .inr ⟨i, a, us, ds, f, e1, e2, (k i a f).trans e3, r.keep (t.stp.kp.mono fun _ z => .inl z) t.stp.zz⟩
theorem RV.later (r : RV K Z1 H1 v d) (t : ResT K q Z1 P F1 H1 env1 σ Z2 F2 H2 env2) : RV K Z2 H2 v d := r.keep (t.stp.kp.mono fun _ z => .inl z) t.stp.zz
theorem ResM.t (r : ResM K q Z P F H env σ Z1 F1 H1 env1 A v m) : ResT K q Z P F H env σ Z1 F1 H1 env1 := ⟨r.st.narrow fun _ h => .inl h, r.stp, r.qt⟩
theorem ResE.toM (r : ResE K true q Z P F H env σ Z1 F1 H1 env1 v d) : ResM K q Z P F H env σ Z1 F1 H1 env1 (fun _ => False) v (.p d) :=
  ⟨r.st.narrow fun a h => h.elim id False.elim, r.stp, .p (r.es rfl) .nil, fun _ h => h.elim, r.qt⟩
/-- a new list that is owned -/
theorem ResT.own {p : Addr} {us : List V} {ds : List D} (r : ResT K q Z P F H env σ Z1 F1 H1 env1) (hp : H1 p = none) (rz : RZ K Z1 H1 us ds) : ResM K q Z P F H env σ Z1 F1 (upd H1 p (.lst us)) env1 (fun a => a = p) (.ref p) (.fl ds) := by
  have g : Grow Z1 H1 Z1 (upd H1 p (.lst us)) := Grow.newT r.st.dz hp
  have s2 := r.st.grow g
  refine ⟨⟨s2.len, s2.sd, s2.sm, s2.ff, s2.fz, fun i a f h => ?_, fun a z h => ?_, s2.df, s2.dz, fun a h => ?_⟩, r.stp.trans (r.st.gstep g) fun _ h => h, .fl upd_same (rz.grow g r.st.dz) rfl (B := fun _ => False) (fun z => z) (fun _ z => z.elim) .nil, ?_, fun h => (r.qt h).trans (Qt.grow r.st g)⟩
  · rcases h with h | rfl
    · exact s2.fp i a f h
    · exact r.st.df i a f hp
  · rcases h with h | rfl
    · exact s2.zp a z h
    · exact r.st.dz a z hp
  · rcases h with h | rfl
    · exact s2.dp a h
    · rw [upd_same]; exact fun z => nomatch z
  · rintro a rfl h
    exact r.st.dp a h hp
end
/-! freezing -/
mutual
theorem frz_ok {K : W.Frag} {Z A : Ad} {H : Hp} : ∀ (m : M) (d : D) (v : V), RO K Z H v m A → m.frz = some d → RV K (fun a => Z a ∨ A a) H v d
  | .p d, d', v, h, e => by
    simp only [M.frz, Option.some.injEq] at e; subst e
    exact h.leaf.mono fun _ z => .inl z
  | .fl ds, d', v, h, e => by
    simp only [M.frz, Option.some.injEq] at e; subst e
    obtain ⟨a, us, rfl, h1, h2, h3⟩ := h.flat
    exact .lst (.inl ⟨.inr h3, .inl h1⟩) (h2.mono fun _ z => .inl z) .nil
  | .ls ms, d', v, h, e => by
    simp only [M.frz, Option.map_eq_some_iff] at e
    obtain ⟨ds, e, rfl⟩ := e
    obtain ⟨a, us, B, rfl, h1, h2, h3, _, h4⟩ := h.nest
    exact .lst (.inl ⟨.inr h3, .inl h1⟩) (frzs_ok ms ds us (h2.wide h4) e) .nil
  | .fd _, d', v, h, e => by simp [M.frz] at e
  | .td _, d', v, h, e => by simp [M.frz] at e
  | .ob _ _ _, d', v, h, e => by simp [M.frz] at e
theorem frzs_ok {K : W.Frag} {Z A : Ad} {H : Hp} : ∀ (ms : List M) (ds : List D) (vs : List V), RM K Z H vs ms A → M.frzs ms = some ds → RZ K (fun a => Z a ∨ A a) H vs ds
  | [], ds, vs, h, e => by
    simp only [M.frzs, Option.some.injEq] at e; subst e
    cases h; exact .nil
  | m :: ms, ds, vs, h, e => by
    simp only [M.frzs, Option.bind_eq_some_iff, Option.map_eq_some_iff] at e
    obtain ⟨d, e1, r, e2, rfl⟩ := e
    match vs, h with
    | v :: vs, h =>
      obtain ⟨B, C, s1, s2, _, h1, h2⟩ := h.split
      exact .cons (frz_ok m d v (h1.wide s1) e1) (frzs_ok ms r vs (h2.wide s2) e2)
end
theorem ResM.frz {K : W.Frag} {es q : Bool} {Z Z1 P A : Ad} {F F1 : Nat → Ad} {H H1 : Hp} {env env1 : Env} {σ : L2.St} {v : V} {m : M} {d : D}
    (r : ResM K q Z P F H env σ Z1 F1 H1 env1 A v m) (e : m.frz = some d) (hd : ∀ a, A a → H1 a ≠ none) : ResE K es q Z P F H env σ (fun a => Z1 a ∨ A a) F1 H1 env1 v d := by
  have rv := frz_ok m d v r.ro e
  have st := r.st
  refine ⟨⟨st.len, fun i d e => ?_, fun i m e => ?_, st.ff, fun i a f z => ?_, fun i a f h => st.fp i a f (.inl h), fun a z h => ?_, st.df, fun a z => ?_, fun a h => st.dp a (.inl h)⟩, ?_, .inl rv, fun _ => rv, r.qt⟩
  · obtain ⟨v, h1, h2⟩ := st.sd i d e
    exact ⟨v, h1, h2.mono fun _ z => .inl z⟩
  · obtain ⟨v, h1, h2⟩ := st.sm i m e
    exact ⟨v, h1, h2.keep Keep.refl (fun _ z => .inl z) fun _ _ => rfl⟩
  · rcases z with z | z
    · exact st.fz i a f z
    · exact st.fp i a f (.inr z)
  · rcases z with z | z
    · exact st.zp a z (.inl h)
    · exact r.ap a z h
  · rcases z with z | z
    · exact st.dz a z
    · exact hd a z
  · exact ⟨fun a z => .inl (r.stp.zz a z), r.stp.kp⟩
section
variable {I : Info} {C : Nat → List Sl → CR} {W : WX} {X : Cx} {n : Nat} {c : Ctx}
/-- owned, then plain -/
theorem e_of_m {x : Tm} {e : Expr} (hd : ev I.GC C x = Den.ofM (ev I.GC C x).m) (h : PE X e (tM I C W x)) : PE X e (tE I C W x) := by
  refine h.imp fun σ H Q ⟨Z, P, F, env, st, w⟩ => ⟨Z, P, F, env, st, ?_⟩
  rw [hd] at w
  simp only [Den.ofM, Wp.bind, Wp.opt] at w
  exact w.mono (fun m env1 ⟨d, e1, k⟩ v Z1 F1 H1 A r => k v _ F1 H1 (r.frz e1 fun a z => r.st.dp a (.inr z))) fun _ _ h => h
/-- plain, as an owned leaf -/
theorem m_of_e {x : Tm} {e : Expr} (hd : (ev I.GC C x).m = (Den.ofE (ev I.GC C x).e).m) (hx : esc x = true) (h : PE X e (tE I C W x)) : PE X e (tM I C W x) := by
  refine h.imp fun σ H Q ⟨Z, P, F, env, st, w⟩ => ⟨Z, P, F, env, st, ?_⟩
  rw [hd] at w
  simp only [Den.ofE, Wp.bind] at w
  exact w.mono (fun d env1 k v Z1 F1 H1 r => k v Z1 F1 H1 _ (hx ▸ r).toM) fun _ _ h => h
/-- plain, as a test -/
theorem t_of_e {x : Tm} {e : Expr} (hK : X.K = I.K) (hd : (ev I.GC C x).t = (Den.ofE (ev I.GC C x).e).t) (he : ∀ whole, isTrue e X.env whole = (do let v ← whole; standAt e.pos; holding [v] (truthy v))) (h : PE X e (tE I C W x)) : PT X e (tT I C W x) := by
  refine (pt_truth h he).imp fun σ H Q ⟨Z, P, F, env, st, w⟩ => ⟨Z, P, F, env, st, ?_⟩
  rw [hd] at w
  simp only [Den.ofE, Wp.bind, Wp.opt] at w
  exact w.mono (fun d env1 ⟨k, ek, kk⟩ v Z1 F1 H1 r => ⟨k, hK ▸ tru_D r.rw ek, kk Z1 F1 H1 r.t⟩) fun _ _ h => h
/-- a bool, as a test (a comparison) -/
theorem truD_bool {d : D} {b : Bool} (h : d = .bool b) : truD d = some b := by subst h; rfl
/-! ### constants, names -/
theorem pe_var_of (ok : CtxOk I n c X) {i : Nat} {x : Str} {pos : Pos} (h : varB c i x = true) : PE X (.Name x pos) (tVar i) := by
  unfold varB at h
  simp only [Bool.and_eq_true] at h
  obtain ⟨⟨h1, h2⟩, h3⟩ := h
  unfold plainName at h3
  simp only [Bool.and_eq_true, Bool.not_eq_true'] at h3
  refine pe_var ?_ ?_ h3.1.1 h3.1.2
  · rw [ok.N]
    split at h1
    · rename_i y e; rw [e, of_decide_eq_true h1]
    · cases h1
  · unfold visB at h2
    unfold Vis
    rw [ok.sc]
    split at h2
    · exact .inl (by assumption)
    · exact .inr (.inl (by assumption))
    · exact .inr (.inr (by assumption))
    · cases h2
theorem snd_var (ok : CtxOk I n c X) {i : Nat} {x : Str} {pos : Pos} (h : varB c i x = true) : PE X (.Name x pos) (tE I C W (.var i)) := by
  refine (pe_var_of ok h).imp fun σ H Q ⟨Z, P, F, env, st, w⟩ => ?_
  simp only [ev, Den.ofE, Wp.opt] at w
  obtain ⟨d, e, w⟩ := w
  unfold slD at e
  split at e <;> cases e
  rename_i e'
  obtain ⟨v, h1, h2⟩ := st.sd i d e'
  exact ⟨v, h1, w v Z F H (.here st h2)⟩
theorem snd_int {i : Int} {k : Nat} {pos : Pos} : PE X (.Constant (.int i) k pos) (tE I C W (.int i)) :=
  PE.imp pe_int fun σ H Q ⟨Z, P, F, env, st, w⟩ => w _ Z F H (.here st (.int .nil))
theorem snd_bl {i : Bool} {k : Nat} {pos : Pos} : PE X (.Constant (.bool i) k pos) (tE I C W (.bl i)) :=
  PE.imp pe_bl fun σ H Q ⟨Z, P, F, env, st, w⟩ => w _ Z F H (.here st (.bl .nil))
theorem snd_non {k : Nat} {pos : Pos} : PE X (.Constant .none k pos) (tE I C W .non) :=
  PE.imp pe_non fun σ H Q ⟨Z, P, F, env, st, w⟩ => w _ Z F H (.here st (.non .nil))
theorem snd_str {i : Str} {k : Nat} {pos : Pos} : PE X (.Constant (.str i) k pos) (tE I C W (.str i)) :=
  PE.imp pe_str fun σ H Q ⟨Z, P, F, env, st, w⟩ => w _ Z F H (.here st (.str .nil))
theorem gl_of (ok : CtxOk I n c X) {x : Str} (h : glB c.sc x = true) : Gl X x := by
  unfold glB at h
  show X.env.scope.names.lookup x = _
  rw [ok.sc]
  split at h
  · assumption
  · cases h
theorem snd_gc (ok : CtxOk I n c X) (io : InfoOk I) {g : Nat} {x : Str} {pos : Pos} (h1 : x = I.gn g) (h2 : glB c.sc x = true) (h3 : plainName x = true) : PE X (.Name x pos) (tE I C W (.gc g)) := by
  cases e : I.GC g with
  | none =>
    refine ⟨fun pins s σ H Q Iv ⟨Z, P, F, env, st, w⟩ => ?_⟩
    simp only [ev, Den.ofE, Wp.opt, e] at w
    obtain ⟨_, w, _⟩ := w
    cases w
  | some d =>
    obtain ⟨u, v, hm, r, rz⟩ := io.gc g d e
    unfold plainName at h3
    simp only [Bool.and_eq_true, Bool.not_eq_true'] at h3
    refine (pe_glob (gl_of ok h2) (by rw [ok.mg, h1]; exact hm) r h3.1.1).imp fun σ H Q ⟨Z, P, F, env, st, w⟩ => ?_
    simp only [ev, Den.ofE, Wp.opt, e] at w
    obtain ⟨_, q, w⟩ := w
    cases q
    exact w v Z F H (.here st (rz.keep ⟨fun _ z => z.elim, fun _ _ z => by cases z⟩ fun _ z => z.elim))
/-! ### operators -/
theorem snd_bin (ok : CtxOk I n c X) {o : Bop} {a b : Tm} {x y : Expr} {pos : Pos} (hq : (esc a || qui b) = true) (ha : PE X x (tE I C W a)) (hb : PE X y (tE I C W b)) : PE X (.BinOp x (bop o) y pos) (tE I C W (.bin o a b)) := by
  refine (pe_op (ok.kk ▸ op_bin o) ha hb).imp fun σ H Q ⟨Z, P, F, env, st, w⟩ => ⟨Z, P, F, env, st, ?_⟩
  simp only [ev, Den.ofE, Wp.bind] at w
  refine w.mono (fun d1 e1 w1 v1 Z1 F1 H1 r1 => ⟨Z1, P, F1, e1, r1.st, w1.mono (fun d2 e2 w2 v2 Z2 F2 H2 r2 => ?_) fun _ _ h => h.later r1.stp fun _ h => h⟩) fun _ _ h => h
  rw [Wp.opt] at w2
  obtain ⟨d, ed, w2⟩ := w2
  exact ⟨Z2, F2, d1, d2, d, r1.rw.later r1.es hq r2.t, r2.rw, ed, r2.st.dz, fun v Z' H' g rv => w2 v Z' F2 H' ((r1.t.trans r2.t).fin g rv)⟩
theorem snd_neg (ok : CtxOk I n c X) {a : Tm} {x : Expr} {pos : Pos} (ha : PE X x (tE I C W a)) : PE X (.UnaryOp .USub x pos) (tE I C W (.neg a)) := by
  refine (pe_un un_neg ha).imp fun σ H Q ⟨Z, P, F, env, st, w⟩ => ⟨Z, P, F, env, st, ?_⟩
  simp only [ev, Den.ofE, Wp.bind] at w
  refine w.mono (fun d1 e1 w1 v1 Z1 F1 H1 r1 => ?_) fun _ _ h => h
  rw [Wp.opt] at w1
  obtain ⟨d, ed, w1⟩ := w1
  cases d1 <;> simp [dInt] at ed
  subst ed
  exact ⟨_, r1.rw.eInt, w1 _ Z1 F1 H1 (r1.t.here (.int .nil))⟩
theorem snd_cmp (ok : CtxOk I n c X) (hu : X.A.units + 64 < cLine) {o : Cop} {a b : Tm} {x y : Expr} {pos : Pos} (hm : behindInMarks (cop o) y = false) (hq : (esc a || qui b) = true) (ha : PE X x (tE I C W a)) (hb : PE X y (tE I C W b)) :
    PE X (.Compare x [cop o] [y] pos) (tE I C W (.cmp o a b)) ∧ PT X (.Compare x [cop o] [y] pos) (tT I C W (.cmp o a b)) := by
  refine ⟨(pe_cmpR (ok.kk ▸ op_cmp o hu) ha hb hm).imp fun σ H Q ⟨Z, P, F, env, st, w⟩ => ⟨Z, P, F, env, st, ?_⟩, (pt_cmpR (ok.kk ▸ op_cmp o hu) ha hb hm).imp fun σ H Q ⟨Z, P, F, env, st, w⟩ => ⟨Z, P, F, env, st, ?_⟩⟩
  all_goals simp only [ev, Den.ofE, Wp.bind] at w
  all_goals refine w.mono (fun d1 e1 w1 v1 Z1 F1 H1 r1 => ⟨Z1, P, F1, e1, r1.st, w1.mono (fun d2 e2 w2 v2 Z2 F2 H2 r2 => ?_) fun _ _ h => h.later r1.stp fun _ h => h⟩) fun _ _ h => h
  all_goals rw [Wp.opt] at w2
  all_goals obtain ⟨d, ed, w2⟩ := w2
  · exact ⟨Z2, F2, d1, d2, d, r1.rw.later r1.es hq r2.t, r2.rw, ed, r2.st.dz, fun v Z' H' g rv => w2 v Z' F2 H' ((r1.t.trans r2.t).fin g rv)⟩
  · rw [Wp.opt] at w2
    obtain ⟨k, ek, w2⟩ := w2
    refine ⟨Z2, F2, d1, d2, d, r1.rw.later r1.es hq r2.t, r2.rw, ed, r2.st.dz, fun v Z' H' g rv => ?_⟩
    simp only [Option.map_eq_some_iff] at ed
    obtain ⟨k', _, rfl⟩ := ed
    have hk : k' = k := by simpa [truD] using ek
    subst hk
    exact ⟨k', rv.eBool, w2 Z' F2 H' ((r1.t.trans r2.t).fin (es := true) g rv).t⟩
theorem snd_chain (ok : CtxOk I n c X) (hu : X.A.units + 64 < cLine) {o o' : Cop} {a b d : Tm} {x y z : Expr} {pos : Pos} (hm : lastMarks [cop o, cop o'] [y, z] = false) (hea : esc a = true) (heb : esc b = true)
    (ha : PE X x (tE I C W a)) (hb : PE X y (tE I C W b)) (hd : PE X z (tE I C W d)) :
    PE X (.Compare x [cop o, cop o'] [y, z] pos) (tE I C W (.chain o o' a b d)) ∧ PT X (.Compare x [cop o, cop o'] [y, z] pos) (tT I C W (.chain o o' a b d)) := by
  have bool2 : ∀ {o : Cop} {p q r : D}, (cmpD o p q).map PyData.bool = some r → ∃ k, r = .bool k ∧ cmpD o p q = some k := fun h => by
    simp only [Option.map_eq_some_iff] at h
    obtain ⟨k, h, rfl⟩ := h
    exact ⟨k, rfl, h⟩
  refine ⟨(pe_chain (ok.kk ▸ op_cmp o hu) (ok.kk ▸ op_cmp o' hu) ha hb hd hm).imp fun σ H Q ⟨Z, P, F, env, st, w⟩ => ⟨Z, P, F, env, st, ?_⟩, (pt_chain (ok.kk ▸ op_cmp o hu) (ok.kk ▸ op_cmp o' hu) ha hb hd hm).imp fun σ H Q ⟨Z, P, F, env, st, w⟩ => ⟨Z, P, F, env, st, ?_⟩⟩
  all_goals simp only [ev, Den.ofE, Wp.bind] at w
  all_goals refine w.mono (fun d1 e1 w1 v1 Z1 F1 H1 r1 => ⟨Z1, P, F1, e1, r1.st, w1.mono (fun d2 e2 w2 v2 Z2 F2 H2 r2 => ?_) fun _ _ h => h.later r1.stp fun _ h => h⟩) fun _ _ h => h
  all_goals rw [Wp.opt] at w2
  all_goals obtain ⟨k, ek, w2⟩ := w2
  all_goals refine ⟨Z2, F2, d1, d2, .bool k, .inl ((r1.es hea).later r2.t), r2.rw, (by show Option.map _ _ = _; rw [ek]; rfl), r2.st.dz, fun v Z3 H3 g rv => ⟨k, rv.eBool, ?_⟩⟩
  all_goals have s3 := r2.st.grow g
  all_goals have t3 := ((r1.t.trans r2.t).fin (es := true) g rv).t
  all_goals have rb : RV I.K Z3 H3 v2 d2 := (r2.es heb).grow g r2.st.dz
  · cases k with
    | false =>
      rw [if_neg (by decide)]
      rw [if_neg (by decide)] at w2
      refine w2 _ Z3 F2 H3 ?_
      exact ⟨t3.st, t3.stp, .inl (.bl .nil), fun _ => .bl .nil, fun h => t3.qt (by simp only [qui, Bool.and_eq_true] at h ⊢; exact h.1)⟩
    | true =>
      rw [if_pos rfl]
      rw [if_pos rfl, Wp.bind] at w2
      refine ⟨Z3, P, F2, e2, s3, w2.mono (fun d3 e3 w3 v3 Z4 F4 H4 r3 => ?_) fun _ _ h => h.later t3.stp fun _ h => h⟩
      rw [Wp.opt] at w3
      obtain ⟨d4, ed, w3⟩ := w3
      exact ⟨Z4, F4, d2, d3, d4, .inl (rb.later r3.t), r3.rw, ed, r3.st.dz, fun v Z' H' g rv => w3 v Z' F4 H' ((t3.trans r3.t).fin g rv)⟩
  · cases k with
    | false =>
      rw [if_neg (by decide)]
      rw [if_neg (by decide), Wp.ok] at w2
      obtain ⟨k, ek, w2⟩ := Wp.opt.mp w2
      cases ek
      refine ⟨_, rfl, w2 Z3 F2 H3 ?_⟩
      exact ⟨t3.st, t3.stp, fun h => t3.qt (by simp only [qui, Bool.and_eq_true] at h ⊢; exact h.1)⟩
    | true =>
      rw [if_pos rfl]
      rw [if_pos rfl, Wp.bind] at w2
      refine ⟨Z3, P, F2, e2, s3, w2.mono (fun d3 e3 w3 v3 Z4 F4 H4 r3 => ?_) fun _ _ h => h.later t3.stp fun _ h => h⟩
      rw [Wp.opt] at w3
      obtain ⟨d4, ed, w3⟩ := w3
      obtain ⟨k', rfl, ed'⟩ := bool2 ed
      obtain ⟨k, ek, w3⟩ := Wp.opt.mp w3
      cases ek
      exact ⟨Z4, F4, d2, d3, _, .inl (rb.later r3.t), r3.rw, ed, r3.st.dz, fun v Z' H' g rv => ⟨_, rv.eBool, w3 Z' F4 H' ((t3.trans r3.t).fin (es := true) g rv).t⟩⟩
theorem non_iff {K : PySem.W.Frag} {Z : Ad} {F : Nat → Ad} {H : Hp} {v : V} {d : D} (r : RW K Z F H v d) : decide (v = .non) = isNone d := by
  cases d with
  | none => have := r.eNone; subst_vars; rfl
  | bool _ => have := r.eBool; subst_vars; rfl
  | int _ => have := r.eInt; subst_vars; rfl
  | str _ => have := r.eStr; subst_vars; rfl
  | list _ => obtain ⟨_, _, rfl, _⟩ := r.eList; rfl
  | tuple _ => obtain ⟨_, _, rfl, _⟩ := r.eTup; rfl
  | dict _ => exact r.eDict.elim
theorem snd_isN {a : Tm} {x : Expr} {k : Nat} {pos pos' : Pos} (ha : PE X x (tE I C W a)) :
    PE X (.Compare x [.Is] [.Constant .none k pos'] pos) (tE I C W (.isN a)) ∧ PT X (.Compare x [.Is] [.Constant .none k pos'] pos) (tT I C W (.isN a)) := by
  refine ⟨(pe_cmp (pc_isN ha) rfl).imp fun σ H Q ⟨Z, P, F, env, st, w⟩ => ⟨Z, P, F, env, st, ?_⟩, (pt_cmp (pc_isN ha) rfl).imp fun σ H Q ⟨Z, P, F, env, st, w⟩ => ⟨Z, P, F, env, st, ?_⟩⟩
  all_goals simp only [ev, Den.ofE, Wp.bind] at w
  · refine w.mono (fun d1 e1 w1 v1 Z1 F1 H1 r1 => ?_) fun _ _ h => h
    show Q (V.bl (decide (v1 = .non))) H1
    rw [non_iff r1.rw]
    exact w1 _ Z1 F1 H1 (r1.t.here (.bl .nil))
  · refine w.mono (fun d1 e1 w1 v1 Z1 F1 H1 r1 => ?_) fun _ _ h => h
    rw [Wp.ok] at w1
    obtain ⟨k, ek, w1⟩ := Wp.opt.mp w1
    cases ek
    exact ⟨_, rfl, by rw [non_iff r1.rw]; exact w1 Z1 F1 H1 r1.t⟩
theorem snd_notN {a : Tm} {x : Expr} {k : Nat} {pos pos' : Pos} (ha : PE X x (tE I C W a)) :
    PE X (.Compare x [.IsNot] [.Constant .none k pos'] pos) (tE I C W (.notN a)) ∧ PT X (.Compare x [.IsNot] [.Constant .none k pos'] pos) (tT I C W (.notN a)) := by
  refine ⟨(pe_cmp (pc_notN ha) rfl).imp fun σ H Q ⟨Z, P, F, env, st, w⟩ => ⟨Z, P, F, env, st, ?_⟩, (pt_cmp (pc_notN ha) rfl).imp fun σ H Q ⟨Z, P, F, env, st, w⟩ => ⟨Z, P, F, env, st, ?_⟩⟩
  all_goals simp only [ev, Den.ofE, Wp.bind] at w
  · refine w.mono (fun d1 e1 w1 v1 Z1 F1 H1 r1 => ?_) fun _ _ h => h
    show Q (V.bl (!decide (v1 = .non))) H1
    rw [non_iff r1.rw]
    exact w1 _ Z1 F1 H1 (r1.t.here (.bl .nil))
  · refine w.mono (fun d1 e1 w1 v1 Z1 F1 H1 r1 => ?_) fun _ _ h => h
    rw [Wp.ok] at w1
    obtain ⟨k, ek, w1⟩ := Wp.opt.mp w1
    cases ek
    exact ⟨_, rfl, by rw [non_iff r1.rw]; exact w1 Z1 F1 H1 r1.t⟩
end
end PY

set_option Elab.async false
set_option linter.all false
set_option maxRecDepth 100000
set_option maxHeartbeats 1000000
/-! So6: tests, subscripts, displays, arguments, built-ins, places. -/
namespace PY
open PySem PySem.Spec PyProof.Rows L2
section
variable {I : Info} {C : Nat → List Sl → CR} {W : WX} {X : Cx} {n : Nat} {c : Ctx}
theorem snd_not {a : Tm} {x : Expr} {pos : Pos} (ha : PT X x (tT I C W a)) : PT X (.UnaryOp .Not x pos) (tT I C W (.not a)) := by
  refine (pt_not ha).imp fun σ H Q ⟨Z, P, F, env, st, w⟩ => ⟨Z, P, F, env, st, ?_⟩
  simp only [ev, Den.ofE, Wp.bind] at w
  exact w.mono (fun k e1 w1 Z1 F1 H1 r1 => w1 Z1 F1 H1 r1) fun _ _ h => h
theorem tru_bool {K : PySem.W.Frag} {Z : Ad} {F : Nat → Ad} {H : Hp} {v : V} {d : D} {k : Bool} (r : RW K Z F H v d) (e : boolD d = some k) : v = .bl k := by
  cases d <;> simp [boolD] at e
  subst e
  exact r.eBool
theorem snd_notV (hK : X.K = I.K) {a : Tm} {x : Expr} {pos : Pos} (ha : PE X x (tE I C W a)) : PE X (.UnaryOp .Not x pos) (tE I C W (.not a)) := by
  refine (pe_notT ha).imp fun σ H Q ⟨Z, P, F, env, st, w⟩ => ⟨Z, P, F, env, st, ?_⟩
  simp only [ev, Den.ofE, Wp.bind, Wp.opt] at w
  exact w.mono (fun d env1 ⟨k, ek, kk⟩ v Z1 F1 H1 r => ⟨k, hK ▸ tru_D r.rw ek, kk _ Z1 F1 H1 (r.t.here (.bl .nil))⟩) fun _ _ h => h
theorem snd_ite {t a b : Tm} {x y z : Expr} {pos : Pos} (hq : True) (ht : PT X x (tT I C W t)) (ha : PE X y (tE I C W a)) (hb : PE X z (tE I C W b)) : PE X (.IfExp x y z pos) (tE I C W (.ite t a b)) := by
  refine (pe_ifExp ht ha hb).imp fun σ H Q ⟨Z, P, F, env, st, w⟩ => ⟨Z, P, F, env, st, ?_⟩
  simp only [ev, Den.ofE, Wp.bind] at w
  refine w.mono (fun k e1 w1 Z1 F1 H1 r1 => ?_) fun _ _ h => h
  cases k with
  | true =>
    rw [if_pos rfl] at w1 ⊢
    refine ⟨Z1, P, F1, e1, r1.st, w1.mono (fun d e2 w2 v Z2 F2 H2 r2 => w2 v Z2 F2 H2 ?_) fun _ _ h => h.later r1.stp fun _ h => h⟩
    have t := r1.trans r2.t
    exact ⟨t.st, t.stp, r2.rw, fun h => r2.es (by simp only [esc, Bool.and_eq_true] at h; exact h.1), fun h => t.qt (by simp only [qui, Bool.and_eq_true] at h ⊢; exact ⟨h.1.1, h.1.2⟩)⟩
  | false =>
    rw [if_neg (by decide)] at w1 ⊢
    refine ⟨Z1, P, F1, e1, r1.st, w1.mono (fun d e2 w2 v Z2 F2 H2 r2 => w2 v Z2 F2 H2 ?_) fun _ _ h => h.later r1.stp fun _ h => h⟩
    have t := r1.trans r2.t
    exact ⟨t.st, t.stp, r2.rw, fun h => r2.es (by simp only [esc, Bool.and_eq_true] at h; exact h.2), fun h => t.qt (by simp only [qui, Bool.and_eq_true] at h ⊢; exact ⟨h.1.1, h.2⟩)⟩
/-- a and b, as a test -/
theorem snd_andT {a b : Tm} {x y : Expr} {r : List Expr} {pos : Pos} (ha : PT X x (tT I C W a)) (hb : PW X (.BoolOp .And (y :: r) pos) (tT I C W b)) : PW X (.BoolOp .And (x :: y :: r) pos) (tT I C W (.and a b)) := by
  refine (pw_and ha hb).imp fun σ H Q ⟨Z, P, F, env, st, w⟩ => ⟨Z, P, F, env, st, ?_⟩
  simp only [ev, Wp.bind] at w
  refine w.mono (fun k e1 w1 Z1 F1 H1 r1 => ?_) fun _ _ h => h
  cases k with
  | true =>
    rw [if_pos rfl] at w1 ⊢
    exact ⟨Z1, P, F1, e1, r1.st, w1.mono (fun d e2 w2 Z2 F2 H2 r2 => w2 Z2 F2 H2 (r1.trans r2)) fun _ _ h => h.later r1.stp fun _ h => h⟩
  | false =>
    rw [if_neg (by decide)] at w1 ⊢
    exact w1 Z1 F1 H1 (r1.wk fun h => by simp only [qui, Bool.and_eq_true] at h; exact h.1)
theorem snd_orT {a b : Tm} {x y : Expr} {r : List Expr} {pos : Pos} (ha : PT X x (tT I C W a)) (hb : PW X (.BoolOp .Or (y :: r) pos) (tT I C W b)) : PW X (.BoolOp .Or (x :: y :: r) pos) (tT I C W (.or a b)) := by
  refine (pw_or ha hb).imp fun σ H Q ⟨Z, P, F, env, st, w⟩ => ⟨Z, P, F, env, st, ?_⟩
  simp only [ev, Wp.bind] at w
  refine w.mono (fun k e1 w1 Z1 F1 H1 r1 => ?_) fun _ _ h => h
  cases k with
  | false =>
    rw [if_neg (by decide)] at w1 ⊢
    exact ⟨Z1, P, F1, e1, r1.st, w1.mono (fun d e2 w2 Z2 F2 H2 r2 => w2 Z2 F2 H2 (r1.trans r2)) fun _ _ h => h.later r1.stp fun _ h => h⟩
  | true =>
    rw [if_pos rfl] at w1 ⊢
    exact w1 Z1 F1 H1 (r1.wk fun h => by simp only [qui, Bool.and_eq_true] at h; exact h.1)
/-- as values -/
theorem snd_andV {a b : Tm} {x y : Expr} {r : List Expr} {pos : Pos} (ha : PE X x (tE I C W a)) (hb : PE X (.BoolOp .And (y :: r) pos) (tE I C W b)) : PE X (.BoolOp .And (x :: y :: r) pos) (tE I C W (.and a b)) := by
  refine (pe_and ha hb).imp fun σ H Q ⟨Z, P, F, env, st, w⟩ => ⟨Z, P, F, env, st, ?_⟩
  simp only [ev, Den.ofE, Wp.bind] at w
  refine w.mono (fun d e1 w1 v Z1 F1 H1 r1 => ?_) fun _ _ h => h
  obtain ⟨k, ek, w1⟩ := Wp.opt.mp w1
  refine ⟨k, tru_bool r1.rw ek, ?_⟩
  cases k with
  | true =>
    rw [if_pos rfl] at w1 ⊢
    refine ⟨Z1, P, F1, e1, r1.st, w1.mono (fun d e2 w2 v Z2 F2 H2 r2 => w2 v Z2 F2 H2 ?_) fun _ _ h => h.later r1.stp fun _ h => h⟩
    have t := r1.t.trans r2.t
    exact ⟨t.st, t.stp, r2.rw, fun h => r2.es h, t.qt⟩
  | false =>
    rw [if_neg (by decide)] at w1 ⊢
    exact w1 _ Z1 F1 H1 ((r1.t.wk fun h => by simp only [qui, Bool.and_eq_true] at h; exact h.1).here (.bl .nil))
theorem snd_orV {a b : Tm} {x y : Expr} {r : List Expr} {pos : Pos} (ha : PE X x (tE I C W a)) (hb : PE X (.BoolOp .Or (y :: r) pos) (tE I C W b)) : PE X (.BoolOp .Or (x :: y :: r) pos) (tE I C W (.or a b)) := by
  refine (pe_or ha hb).imp fun σ H Q ⟨Z, P, F, env, st, w⟩ => ⟨Z, P, F, env, st, ?_⟩
  simp only [ev, Den.ofE, Wp.bind] at w
  refine w.mono (fun d e1 w1 v Z1 F1 H1 r1 => ?_) fun _ _ h => h
  obtain ⟨k, ek, w1⟩ := Wp.opt.mp w1
  refine ⟨k, tru_bool r1.rw ek, ?_⟩
  cases k with
  | false =>
    rw [if_neg (by decide)] at w1 ⊢
    refine ⟨Z1, P, F1, e1, r1.st, w1.mono (fun d e2 w2 v Z2 F2 H2 r2 => w2 v Z2 F2 H2 ?_) fun _ _ h => h.later r1.stp fun _ h => h⟩
    have t := r1.t.trans r2.t
    exact ⟨t.st, t.stp, r2.rw, fun h => r2.es h, t.qt⟩
  | true =>
    rw [if_pos rfl] at w1 ⊢
    exact w1 _ Z1 F1 H1 ((r1.t.wk fun h => by simp only [qui, Bool.and_eq_true] at h; exact h.1).here (.bl .nil))
theorem snd_idx (ok : CtxOk I n c X) {a b : Tm} {x y : Expr} {pos : Pos} (hs : PlainIx y) (hq : (esc a || qui b) = true) (ha : PE X x (tE I C W a)) (hb : PE X y (tE I C W b)) : PE X (.Subscript x y pos) (tE I C W (.idx a b)) := by
  refine (pe_ix (ok.kk ▸ ix_D) ha hb hs).imp fun σ H Q ⟨Z, P, F, env, st, w⟩ => ⟨Z, P, F, env, st, ?_⟩
  simp only [ev, Den.ofE, Wp.bind] at w
  refine w.mono (fun d1 e1 w1 v1 Z1 F1 H1 r1 => ⟨Z1, P, F1, e1, r1.st, w1.mono (fun d2 e2 w2 v2 Z2 F2 H2 r2 => ?_) fun _ _ h => h.later r1.stp fun _ h => h⟩) fun _ _ h => h
  rw [Wp.opt] at w2
  obtain ⟨d, ed, w2⟩ := w2
  exact ⟨Z2, F2, d1, d2, d, r1.rw.later r1.es hq r2.t, r2.rw, ed, r2.st.dz, fun v Z' H' g rv => w2 v Z' F2 H' ((r1.t.trans r2.t).fin g rv)⟩
/-- a part of a slice -/
def tOp (I : Info) (C : Nat → List Sl → CR) (W : WX) (x : Tm) : TO := fun σ H Q => ∃ Z P F env, Sta I.K Z P F env σ H ∧ Wp ((ev I.GC C x).e env) (fun d env' => ∃ o, optP x d = some o ∧ ∀ Z' F' H', ResT I.K (qui x) Z P F H env σ Z' F' H' env' → Q o H') (exK I W σ Z P H)
theorem po_abs : PO X none (tOp I C W .abs) := by
  refine ⟨fun pins s σ H Q Iv ⟨Z, P, F, env, st, w⟩ => po_none.run pins s σ H Q Iv ?_⟩
  obtain ⟨o, eo, q⟩ := w
  cases eo
  exact q Z F H (.refl st)
theorem po_int {a : Tm} {x : Expr} (ha : PE X x (tE I C W a)) (hn : a ≠ .abs) : PO X (some x) (tOp I C W a) := by
  refine ⟨fun pins s σ H Q Iv ⟨Z, P, F, env, st, w⟩ => (po_some ha).run pins s σ H Q Iv ⟨Z, P, F, env, st, w.mono (fun d e1 ⟨o, eo, q⟩ v Z1 F1 H1 r1 => ?_) fun _ _ h => h⟩⟩
  have eo' : (dInt (some d)).map some = some o := by
    unfold optP at eo
    split at eo
    · exact absurd rfl hn
    · exact eo
  cases d <;> simp [dInt] at eo'
  subst eo'
  exact ⟨_, r1.rw.eInt, q Z1 F1 H1 r1.t⟩
theorem snd_slc (ok : CtxOk I n c X) {a lo hi : Tm} {x : Expr} {l h : Option Expr} {pos p2 : Pos} (hq : (esc a || (qui lo && qui hi)) = true) (ha : PE X x (tE I C W a)) (hl : PO X l (tOp I C W lo)) (hh : PO X h (tOp I C W hi)) :
    PE X (.Subscript x (.Slice l h none p2) pos) (tE I C W (.slc a lo hi)) := by
  refine (pe_slice (ok.kk ▸ sl_D) ha hl hh).imp fun σ H Q ⟨Z, P, F, env, st, w⟩ => ⟨Z, P, F, env, st, ?_⟩
  simp only [ev, Den.ofE, Wp.bind, Wp.opt] at w
  refine w.mono (fun d1 e1 w1 v1 Z1 F1 H1 r1 => ⟨Z1, P, F1, e1, r1.st, w1.mono (fun d2 e2 ⟨o, eo, w2⟩ => ⟨o, eo, fun Z2 F2 H2 r2 => ⟨Z2, P, F2, e2, r2.st, w2.mono (fun d3 e3 ⟨o', eo', w3⟩ => ⟨o', eo', fun Z3 F3 H3 r3 => ?_⟩)
    fun _ _ h => h.later (r1.stp.trans r2.stp fun _ h => h) fun _ h => h⟩⟩) fun _ _ h => h.later r1.stp fun _ h => h⟩) fun _ _ h => h
  obtain ⟨d, ed, w3⟩ := w3
  refine ⟨Z3, F3, d1, d, r1.rw.later r1.es hq (r2.trans r3), ed, r3.st.dz, fun v Z' H' g rv => w3 v Z' F3 H' ((((r1.t.trans r2).trans r3).wk fun h => ?_).fin g rv)⟩
  simpa only [qui] using h
theorem snd_slm (ok : CtxOk I n c X) {a lo hi : Tm} {x : Expr} {l h : Option Expr} {pos p2 : Pos} (hq : (esc a || (qui lo && qui hi)) = true) (ha : PE X x (tE I C W a)) (hl : PO X l (tOp I C W lo)) (hh : PO X h (tOp I C W hi)) :
    PE X (.Subscript x (.Slice l h none p2) pos) (tM I C W (.slm a lo hi)) := by
  refine (pe_slice (ok.kk ▸ sl_list (X := X)) ha hl hh).imp fun σ H Q ⟨Z, P, F, env, st, w⟩ => ⟨Z, P, F, env, st, ?_⟩
  simp only [ev, Den.ofM, Wp.bind, Wp.opt] at w
  refine w.mono (fun d1 e1 w1 v1 Z1 F1 H1 r1 => ⟨Z1, P, F1, e1, r1.st, w1.mono (fun d2 e2 ⟨o, eo, w2⟩ => ⟨o, eo, fun Z2 F2 H2 r2 => ⟨Z2, P, F2, e2, r2.st, w2.mono (fun d3 e3 ⟨o', eo', w3⟩ => ⟨o', eo', fun Z3 F3 H3 r3 => ?_⟩)
    fun _ _ h => h.later (r1.stp.trans r2.stp fun _ h => h) fun _ h => h⟩⟩) fun _ _ h => h.later r1.stp fun _ h => h⟩) fun _ _ h => h
  obtain ⟨d, ed, w3⟩ := w3
  cases d1 <;> simp only [reduceCtorEq, Option.some.injEq] at ed
  subst ed
  have rw3 := r1.rw.later r1.es hq (r2.trans r3)
  obtain ⟨p, us, rfl, l, r⟩ := rw3.eList
  exact ⟨p, us, rfl, l, fun p' hp => w3 _ Z3 F3 _ _ ((((r1.t.trans r2).trans r3).wk fun h => by simpa only [qui] using h).own hp (cut_rz r o o'))⟩
/-! ### arguments and displays -/
theorem snd_nil : PA X [] (tA I C W .nil) :=
  pa_nil.imp fun σ H Q ⟨Z, P, F, env, st, w⟩ => w [] Z F H (fun _ => False) ⟨st.narrow fun a h => h.elim id False.elim, Step.refl, .nil, fun _ => .nil, fun _ h => h.elim, trivial, fun _ => Qt.refl⟩
theorem snd_knil : PK X [] (tA I C W .nil) :=
  pk_nil.imp fun σ H Q ⟨Z, P, F, env, st, w⟩ => w [] Z F H (fun _ => False) ⟨st.narrow fun a h => h.elim id False.elim, Step.refl, .nil, fun _ => .nil, fun _ h => h.elim, trivial, fun _ => Qt.refl⟩
theorem star_of {e : Expr} {es : List Expr} {env : PySem.Env} (h : noStar e = true) : starEach (e :: es) env = (false, eval e env) :: starEach es env := by
  cases e <;> first | rfl | cases h
theorem RS.wide {K : PySem.W.Frag} {Z A A' : Ad} {F : Nat → Ad} {H : Hp} {vs : List V} {ss : List Sl} (h : RS K Z F H vs ss A) (w : ∀ a, A a → A' a) : RS K Z F H vs ss A' := by
  induction h generalizing A' with
  | nil => exact .nil
  | d r _ ih => exact .d r (ih w)
  | m r t d h1 h2 _ => exact .m r t d (fun a z => w a (h1 a z)) (fun a z => w a (h2 a z))
  | un _ ih => exact .un (ih w)
theorem ev_cons {a b : Tm} (h : notAm a = true) : (ev I.GC C (.cons a b)).a = fun env => ((ev I.GC C a).e env).bind fun d env => ((ev I.GC C b).a env).bind fun r env => .ok (.d d :: r) env := by
  cases a <;> first | rfl | cases h
theorem plOk_cons {σ : L2.St} {a b : Tm} {v : V} {vs : List V} (h : notAm a = true) : plOk σ (.cons a b) (v :: vs) = plOk σ b vs := by
  cases a <;> first | rfl | cases h
/-- one more plain argument -/
theorem cons_res {K : PySem.W.Frag} {es q eb qb : Bool} {Z Z1 Z2 P A : Ad} {F F1 F2 : Nat → Ad} {H H1 H2 : Hp} {env env1 env2 : Env} {σ : L2.St} {v : V} {d : D} {a b : Tm} {vs : List V} {ss : List Sl} (hn : notAm a = true) (hq : (es || qb) = true)
    (r1 : ResE K es q Z P F H env σ Z1 F1 H1 env1 v d) (r2 : ResA K eb qb b Z1 P F1 H1 env1 σ Z2 F2 H2 env2 A vs ss) : ResA K (es && eb) (q && qb) (.cons a b) Z P F H env σ Z2 F2 H2 env2 A (v :: vs) (.d d :: ss) := by
  have t2 : ResT K qb Z1 P F1 H1 env1 σ Z2 F2 H2 env2 := ⟨r2.st.narrow fun _ h => .inl h, r2.stp, r2.qt⟩
  refine ⟨r2.st, (r1.t.trans t2).stp, .d (r1.rw.later r1.es hq t2) r2.rs, fun h => ?_, r2.ap, by rw [plOk_cons hn]; exact r2.pl, (r1.t.trans t2).qt⟩
  simp only [Bool.and_eq_true] at h
  exact .d (.inl ((r1.es h.1).later t2)) (r2.es h.2)
theorem snd_cons {a b : Tm} {x : Expr} {es : List Expr} (hn : notAm a = true) (hs : noStar x = true) (hq : (esc a || qui b) = true) (ha : PE X x (tE I C W a)) (hb : PA X es (tA I C W b)) : PA X (x :: es) (tA I C W (.cons a b)) := by
  refine (pa_cons ha hb (star_of hs)).imp fun σ H Q ⟨Z, P, F, env, st, w⟩ => ⟨Z, P, F, env, st, ?_⟩
  rw [ev_cons hn] at w
  simp only [Wp.bind, Wp.ok] at w
  exact w.mono (fun d1 e1 w1 v1 Z1 F1 H1 r1 => ⟨Z1, P, F1, e1, r1.st, w1.mono (fun ss e2 w2 vs Z2 F2 H2 A r2 => w2 _ Z2 F2 H2 A (cons_res hn hq r1 r2)) fun _ _ h => h.later r1.stp fun _ h => h⟩) fun _ _ h => h
theorem snd_kcons {a b : Tm} {x : Expr} {es : List Keyword} {nm : Option Str} {kp : Pos} (hn : notAm a = true) (hq : (esc a || qui b) = true) (ha : PE X x (tE I C W a)) (hb : PK X es (tA I C W b)) : PK X (⟨nm, x, kp⟩ :: es) (tA I C W (.cons a b)) := by
  refine (pk_cons ha hb).imp fun σ H Q ⟨Z, P, F, env, st, w⟩ => ⟨Z, P, F, env, st, ?_⟩
  rw [ev_cons hn] at w
  simp only [Wp.bind, Wp.ok] at w
  exact w.mono (fun d1 e1 w1 v1 Z1 F1 H1 r1 => ⟨Z1, P, F1, e1, r1.st, w1.mono (fun ss e2 w2 vs Z2 F2 H2 A r2 => w2 _ Z2 F2 H2 A (cons_res hn hq r1 r2)) fun _ _ h => h.later r1.stp fun _ h => h⟩) fun _ _ h => h
/-- a changeable name handed on -/
theorem snd_am (ok : CtxOk I n c X) {i : Nat} {b : Tm} {x : Str} {pos : Pos} {es : List Expr} (h : varB c i x = true) (hb : PA X es (tA I C W b)) : PA X (.Name x pos :: es) (tA I C W (.cons (.am (.v i)) b)) := by
  refine (pa_cons (pe_var_of ok h) hb).imp fun σ H Q ⟨Z, P, F, env, st, w⟩ => ?_
  have w' : Wp ((R.opt (getP (.v i) env) env).bind fun _ env => ((ev I.GC C b).a env).bind fun r env => .ok (.un :: r) env) (fun ss env' => ∀ vs Z' F' H' A, ResA I.K (escs (.cons (.am (.v i)) b)) (qui (.cons (.am (.v i)) b)) (.cons (.am (.v i)) b) Z P F H env σ Z' F' H' env' A vs ss → Q vs H') (exK I W σ Z P H) := w
  simp only [Wp.bind, Wp.opt, Wp.ok, getP] at w'
  obtain ⟨m, em, w'⟩ := w'
  have e1 : env[i]? = some (.m m) := by
    unfold slM at em
    split at em <;> cases em
    assumption
  obtain ⟨v, h1, _⟩ := st.sm i m e1
  refine ⟨v, h1, Z, P, F, env, st, w'.mono (fun ss e2 w2 vs Z2 F2 H2 A r2 => w2 _ Z2 F2 H2 A ⟨r2.st, r2.stp, .un r2.rs, fun h => ?_, r2.ap, ⟨h1, r2.pl⟩, fun h => r2.qt (by simp only [qui, Bool.and_eq_true] at h; exact h.2)⟩) fun _ _ h => h⟩
  simp only [escs, Bool.and_eq_true] at h
  exact .un (r2.es h.2)
/-- a new changeable thing handed on -/
theorem snd_at {a b : Tm} {x : Expr} {es : List Expr} (hs : noStar x = true) (ha : PE X x (tM I C W a)) (hb : PA X es (tA I C W b)) : PA X (x :: es) (tA I C W (.cons (.at a) b)) := by
  refine (pa_cons ha hb (star_of hs)).imp fun σ H Q ⟨Z, P, F, env, st, w⟩ => ⟨Z, P, F, env, st, ?_⟩
  have w' : Wp (((ev I.GC C a).m env).bind fun m env => ((ev I.GC C b).a env).bind fun r env => .ok (.m m :: r) env) (fun ss env' => ∀ vs Z' F' H' A, ResA I.K (escs (.cons (.at a) b)) (qui (.cons (.at a) b)) (.cons (.at a) b) Z P F H env σ Z' F' H' env' A vs ss → Q vs H') (exK I W σ Z P H) := w
  simp only [Wp.bind, Wp.ok] at w'
  refine w'.mono (fun m e1 w1 v Z1 F1 H1 B r1 => ⟨Z1, fun a => P a ∨ B a, F1, e1, r1.st, w1.mono (fun ss e2 w2 vs Z2 F2 H2 A r2 => w2 _ Z2 F2 H2 (fun a => B a ∨ A a) ?_) fun _ _ h => h.later r1.stp fun _ h => .inl h⟩) fun _ _ h => h
  have ro : RO I.K Z2 H2 v m B := r1.ro.keep (r2.stp.kp.mono fun _ z => .inl z) r2.stp.zz fun a z => r2.stp.kp.at_ a (.inr (.inr z))
  have dis : ∀ a, B a → A a → False := fun a z z' => r2.ap a z' (.inr z)
  refine ⟨r2.st.narrow fun a h => by rcases h with h | h | h <;> simp [h], r1.stp.trans r2.stp fun _ h => .inl h, .m ro r2.rs dis (fun _ z => .inl z) fun _ z => .inr z, fun h => ?_, ?_, r2.pl, fun h => ?_⟩
  · simp only [escs, Bool.and_eq_true] at h
    exact .m ro (r2.es h.2) dis (fun _ z => .inl z) fun _ z => .inr z
  · rintro a (z | z) p
    · exact r1.ap a z p
    · exact r2.ap a z (.inl p)
  · simp only [qui, Bool.and_eq_true] at h
    exact (r1.qt h.1).trans (r2.qt h.2)
/-- plain values of plain arguments -/
theorem RS.plain {K : PySem.W.Frag} {Z A : Ad} {F : Nat → Ad} {H : Hp} : ∀ {vs : List V} {ss : List Sl} {ds : List D}, RS K Z F H vs ss A → dsOf ss = some ds → RWs K Z F H vs ds
  | _, [], ds, h, e => by simp [dsOf] at e; subst e; cases h; exact .nil
  | _, .d d' :: r, ds, h, e => by
    simp only [dsOf, Option.map_eq_some_iff] at e
    obtain ⟨ds', e, rfl⟩ := e
    cases h with | d r t => exact .cons r (RS.plain t e)
  | _, .m _ :: _, _, _, e => by simp [dsOf] at e
  | _, .un :: _, _, _, e => by simp [dsOf] at e
theorem RWs.rz {K : PySem.W.Frag} {Z : Ad} {H : Hp} {vs : List V} {ds : List D} (h : RWs K Z noF H vs ds) : RZ K Z H vs ds := by
  induction h with
  | nil => exact .nil
  | cons r _ ih =>
    rcases r with r | ⟨_, _, _, _, f, _⟩
    · exact .cons r ih
    · exact f.elim
theorem ResA.t {K : PySem.W.Frag} {es q : Bool} {x : Tm} {Z Z1 P A : Ad} {F F1 : Nat → Ad} {H H1 : Hp} {env env1 : Env} {σ : L2.St} {vs : List V} {ss : List Sl} (r : ResA K es q x Z P F H env σ Z1 F1 H1 env1 A vs ss) : ResT K q Z P F H env σ Z1 F1 H1 env1 :=
  ⟨r.st.narrow fun _ h => .inl h, r.stp, r.qt⟩
theorem RZ.short {n : Nat} (h : n ≤ 1000000) : n ≤ sizeLine := line_le h
theorem snd_tup {es : Tm} {l : List Expr} {k : Nat} {pos : Pos} (he : escs es = true) (ha : PA X l (tA I C W es)) : PE X (.Tuple l k pos) (tE I C W (.tup es)) := by
  refine (pe_tup ha).imp fun σ H Q ⟨Z, P, F, env, st, w⟩ => ⟨Z, P, F, env, st, ?_⟩
  simp only [ev, Den.ofE, Wp.bind, Wp.opt] at w
  refine w.mono (fun ss e1 ⟨d, ed, w1⟩ vs Z1 F1 H1 A r1 => ?_) fun _ _ h => h
  have ed' : ∃ ds, dsOf ss = some ds ∧ ds.length ≤ 1000000 ∧ some d = some (PyData.tuple ds) := by
    split at ed
    · split at ed
      · exact ⟨_, by assumption, by assumption, ed.symm⟩
      · cases ed
    · cases ed
  obtain ⟨ds, e2, hl, e3⟩ := ed'
  cases e3
  have rz := ((r1.es he).plain e2).rz
  refine ⟨by rw [rz.length]; exact line_le hl, fun p hp => w1 _ Z1 F1 _ (r1.t.fin (Grow.newT r1.st.dz hp) (.tup (.inl upd_same) (rz.grow (Grow.newT r1.st.dz hp) r1.st.dz) .nil))⟩
theorem snd_lst {es : Tm} {l : List Expr} {pos : Pos} (he : escs es = true) (ha : PA X l (tA I C W es)) : PE X (.List l pos) (tM I C W (.lst es)) := by
  refine (pe_lst ha).imp fun σ H Q ⟨Z, P, F, env, st, w⟩ => ⟨Z, P, F, env, st, ?_⟩
  simp only [ev, Den.ofM, Wp.bind, Wp.opt] at w
  refine w.mono (fun ss e1 ⟨d, ed, w1⟩ vs Z1 F1 H1 A r1 => ?_) fun _ _ h => h
  have ed' : ∃ ds, dsOf ss = some ds ∧ ds.length ≤ 1000000 ∧ some d = some (M.fl ds) := by
    split at ed
    · split at ed
      · exact ⟨_, by assumption, by assumption, ed.symm⟩
      · cases ed
    · cases ed
  obtain ⟨ds, e2, hl, e3⟩ := ed'
  cases e3
  have rz := ((r1.es he).plain e2).rz
  refine ⟨by rw [rz.length]; exact line_le hl, fun p hp => w1 _ Z1 F1 _ _ (r1.t.own hp rz)⟩
theorem RS.owned {K : PySem.W.Frag} {Z : Ad} {H : Hp} : ∀ {vs : List V} {ss : List Sl} {ms : List M} {A : Ad}, RS K Z noF H vs ss A → msOf ss = some ms → RM K Z H vs ms A
  | _, [], ms, A, h, e => by simp [msOf] at e; subst e; cases h; exact .nil
  | _, .d d' :: r, ms, A, h, e => by
    simp only [msOf, Option.map_eq_some_iff] at e
    obtain ⟨ds', e, rfl⟩ := e
    cases h with
    | d r t =>
      rcases r with r | ⟨_, _, _, _, f, _⟩
      · exact .p r (RS.owned t e)
      · exact f.elim
  | _, .m _ :: _, ms, A, h, e => by
    simp only [msOf, Option.map_eq_some_iff] at e
    obtain ⟨ds', e, rfl⟩ := e
    cases h with
    | m r t d h1 h2 => exact RM.join r (RS.owned t e) d h1 h2
  | _, .un :: _, _, _, _, e => by simp [msOf] at e
theorem ownLs {K : PySem.W.Frag} {q : Bool} {Z Z1 P A : Ad} {F F1 : Nat → Ad} {H H1 : Hp} {env env1 : Env} {σ : L2.St} {p : Addr} {us : List V} {ms : List M} (st : Sta K Z1 (fun a => P a ∨ A a) F1 env1 σ H1) (stp : Step Z P H Z1 H1) (ap : ∀ a, A a → ¬ P a)
    (qt : q = true → Qt env F H env1 F1 H1) (hp : H1 p = none) (rm : RM K Z1 H1 us ms A) : ResM K q Z P F H env σ Z1 F1 (upd H1 p (.lst us)) env1 (fun a => A a ∨ a = p) (.ref p) (.ls ms) := by
  have g : Grow Z1 H1 Z1 (upd H1 p (.lst us)) := Grow.newT st.dz hp
  have s2 := st.grow g
  have pf : ∀ a, A a → a ≠ p := fun a z e => by subst e; exact st.dp a (.inr z) hp
  refine ⟨⟨s2.len, s2.sd, s2.sm, s2.ff, s2.fz, fun i a f h => ?_, fun a z h => ?_, s2.df, s2.dz, fun a h => ?_⟩, stp.trans ((st.narrow fun _ h => .inl h).gstep g) fun _ h => h, ?_, ?_, fun h => (qt h).trans (Qt.grow st g)⟩
  · rcases h with h | h | rfl
    · exact s2.fp i a f (.inl h)
    · exact s2.fp i a f (.inr h)
    · exact st.df i a f hp
  · rcases h with h | h | rfl
    · exact s2.zp a z (.inl h)
    · exact s2.zp a z (.inr h)
    · exact st.dz a z hp
  · rcases h with h | h | rfl
    · exact s2.dp a (.inl h)
    · exact s2.dp a (.inr h)
    · rw [upd_same]; exact fun z => nomatch z
  · exact .ls upd_same (.inr rfl) (fun z => pf p z rfl) (C := fun _ => False) (fun z => z) (fun _ z => .inl z) (fun _ z => z.elim) (fun _ _ z => z) (rm.keep (g.keep st.dz) g.zz fun a z => (g.keep (S := A) fun a z => st.dp a (.inr z)).at_ a z) .nil
  · rintro a (z | rfl) h
    · exact ap a z h
    · exact st.dp a (.inl h) hp
theorem snd_nst {es : Tm} {l : List Expr} {pos : Pos} (he : escs es = true) (ha : PA X l (tA I C W es)) : PE X (.List l pos) (tM I C W (.nst es)) := by
  refine (pe_lst ha).imp fun σ H Q ⟨Z, P, F, env, st, w⟩ => ⟨Z, P, F, env, st, ?_⟩
  simp only [ev, Den.ofM, Wp.bind, Wp.opt] at w
  refine w.mono (fun ss e1 ⟨d, ed, w1⟩ vs Z1 F1 H1 A r1 => ?_) fun _ _ h => h
  have ed' : ∃ ms, msOf ss = some ms ∧ ms.length ≤ 1000000 ∧ some d = some (M.ls ms) := by
    split at ed
    · split at ed
      · exact ⟨_, by assumption, by assumption, ed.symm⟩
      · cases ed
    · cases ed
  obtain ⟨ms, e2, hl, e3⟩ := ed'
  cases e3
  have rm := (r1.es he).owned e2
  exact ⟨by rw [rm.length]; exact line_le hl, fun p hp => w1 _ Z1 F1 _ (fun a => A a ∨ a = p) (ownLs r1.st r1.stp r1.ap r1.qt hp rm)⟩
/-! ### built-ins -/
theorem bn_of (ok : CtxOk I n c X) (io : InfoOk I) {x : Str} (h : x ∈ bnames) : X.mg x = none := by rw [ok.mg]; exact io.bn x h
theorem biN_mem (b : Bi) : biN b ∈ bnames := by cases b <;> decide +kernel
theorem biN_ok (b : Bi) : biN b ≠ "__name__" ∧ (biN b == ("__debug__" : Str)) = false := by cases b <;> decide +kernel
theorem tyN_mem (b : Ty) : tyN b ∈ bnames := by cases b <;> decide +kernel
theorem tyN_ok (b : Ty) : tyN b ≠ "__name__" ∧ (tyN b == ("__debug__" : Str)) = false := by cases b <;> decide +kernel
theorem pl_nostar {es : List Expr} {env : PySem.Env} {pos : Pos} (h : es.all noStar = true) : (backTo pos (starEach es env)).any (·.1) = false := by
  induction es with
  | nil => rfl
  | cons e es ih =>
    simp only [List.all_cons, Bool.and_eq_true] at h
    rw [star_of h.1]
    show (false || (backTo pos (starEach es env)).any (·.1)) = false
    rw [ih h.2]; rfl
theorem snd_bi (ok : CtxOk I n c X) (io : InfoOk I) {b : Bi} {as : Tm} {x : Str} {a : Expr} {es : List Expr} {p pos : Pos} (hx : x = biN b) (hg : glB c.sc x = true) (hst : (a :: es).all noStar = true) (ha : PA X (a :: es) (tA I C W as)) :
    PE X (.Call (.Name x p) (a :: es) [] pos) (tE I C W (.bi b as)) := by
  subst hx
  simp only [List.all_cons, Bool.and_eq_true] at hst
  have key : ∀ t, PE X (.Call (.Name (biN b) p) (a :: es) [] pos) (tCB (rDl I.K (biD b)) t) → t = tA I C W as → PE X (.Call (.Name (biN b) p) (a :: es) [] pos) (tE I C W (.bi b as)) := by
    rintro t h rfl
    refine h.imp fun σ H Q ⟨Z, P, F, env, st, w⟩ => ⟨Z, P, F, env, st, ?_⟩
    simp only [ev, Den.ofE, Wp.bind, Wp.opt] at w
    refine w.mono (fun ss e1 ⟨d, ed, w1⟩ vs Z1 F1 H1 A r1 => ?_) fun _ _ h => h
    simp only [Option.bind_eq_some_iff] at ed
    obtain ⟨ds, e2, ed⟩ := ed
    exact ⟨Z1, F1, ds, d, r1.rs.plain e2, ed, r1.st.dz, fun v Z' H' g rv => w1 v Z' F1 H' (r1.t.fin g rv)⟩
  have cb := ok.kk ▸ call_bi (X := X) ok.calm b
  have hb := biBoot b
  have hm := bn_of ok io (biN_mem b)
  refine key _ ?_ rfl
  cases e : biV b with
  | builtin id =>
    rw [e] at cb hb
    exact pe_callB cb (gl_of ok hg) hm hb ha (biN_ok b).1 (biN_ok b).2 (star_of hst.1) (pl_nostar hst.2)
  | type T =>
    rw [e] at cb hb
    exact pe_callTy cb (gl_of ok hg) hm hb ha (biN_ok b).1 (biN_ok b).2 (star_of hst.1) (pl_nostar hst.2)
  | _ => cases b <;> cases e
/-! back to front; gcd -/
theorem RZ.rev {K : PySem.W.Frag} {Z : Ad} {H : Hp} : ∀ {vs : List V} {ds : List D}, RZ K Z H vs ds → RZ K Z H vs.reverse ds.reverse
  | [], [], _ => .nil
  | v :: vs, d :: ds, h => by
    rw [List.reverse_cons, List.reverse_cons]
    exact (RZ.rev h.tail).append (.cons h.head .nil)
  | [], _ :: _, h => by cases h
  | _ :: _, [], h => by cases h
theorem snd_rev (ok : CtxOk I n c X) {a : Tm} {x : Expr} {kd : Nat} {pos p1 p2 p3 : Pos} (ha : PE X x (tE I C W a)) :
    PE X (.Subscript x (.Slice none none (some (.UnaryOp .USub (.Constant (.int 1) kd p1) p2)) p3) pos) (tE I C W (.rev a)) := by
  refine (PYX.pe_back ha (pe_un un_neg pe_int) fun σ H Q h => ⟨1, rfl, h H rfl⟩).imp fun σ H Q ⟨Z, P, F, env, st, w⟩ => ⟨Z, P, F, env, st, ?_⟩
  simp only [ev, Den.ofE, Wp.bind, Wp.opt] at w
  refine w.mono (fun d1 e1 ⟨d, ed, w1⟩ v1 Z1 F1 H1 r1 => ?_) fun _ _ h => h
  cases d1 <;> simp only [revD, reduceCtorEq, Option.some.injEq] at ed
  · subst ed
    obtain ⟨p, us, rfl, l, r⟩ := r1.rw.eList
    exact .inl ⟨p, us, rfl, ok.kk ▸ l, fun p' hp => w1 _ _ F1 _ (r1.t.fin (Grow.new r1.st.dz hp) (.lst (.inl ⟨.inr rfl, .inl upd_same⟩) (r.rev.grow (Grow.new r1.st.dz hp) r1.st.dz) .nil))⟩
  · subst ed
    obtain ⟨p, us, rfl, l, r⟩ := r1.rw.eTup
    exact .inr ⟨p, us, rfl, ok.kk ▸ l.sq, fun p' hp => w1 _ _ F1 _ (r1.t.fin (Grow.newT r1.st.dz hp) (.tup (.inl upd_same) (r.rev.grow (Grow.newT r1.st.dz hp) r1.st.dz) .nil))⟩
theorem RZ.repl {K : PySem.W.Frag} {Z : Ad} {H : Hp} {vs : List V} {ds : List D} (h : RZ K Z H vs ds) : ∀ n : Nat, RZ K Z H (List.replicate n vs).flatten (List.replicate n ds).flatten
  | 0 => .nil
  | n + 1 => by
    rw [List.replicate_succ, List.replicate_succ, List.flatten_cons, List.flatten_cons]
    exact h.append (RZ.repl h n)
theorem rgV_ints (n : Int) : rgV 0 n = ((List.range (n - 0).toNat).map fun i => (0 : Int) + (i : Nat)).map V.int ∧ rangeD 0 n = ((List.range (n - 0).toNat).map fun i => (0 : Int) + (i : Nat)).map PyData.int := by
  unfold rgV rangeD
  rw [List.map_map, List.map_map]
  exact ⟨rfl, rfl⟩
theorem rg_ok {n : Int} (h : n ≤ 1000000 ∧ -1000000 ≤ n) : RgOk 0 n := ⟨by omega, by omega, by omega, by omega, by omega⟩
theorem snd_rlst (ok : CtxOk I n c X) (io : InfoOk I) {a : Tm} {x z : Str} {y : Expr} {p p2 pos pos2 : Pos} (hx : x = "list") (hz : z = "range") (hg : glB c.sc x = true) (hgz : glB c.sc z = true) (hst : noStar y = true) (ha : PE X y (tE I C W a)) :
    PE X (.Call (.Name x p) [.Call (.Name z p2) [y] [] pos2] [] pos) (tM I C W (.rlst a)) := by
  subst hx hz
  refine (pe_listRg ok.calm (gl_of ok hg) (bn_of ok io (by decide +kernel)) (prg_1 (gl_of ok hgz) (bn_of ok io (by decide +kernel)) ha (star_of hst))).imp fun σ H Q ⟨Z, P, F, env, st, w⟩ => ⟨Z, P, F, env, st, ?_⟩
  simp only [ev, Den.ofM, Wp.bind, Wp.opt] at w
  refine w.mono (fun d e1 ⟨m, em, w1⟩ v Z1 F1 H1 r1 => ?_) fun _ _ h => h
  cases d <;> simp only [rngD, Option.map_none, reduceCtorEq] at em
  split at em <;> cases em
  rename_i k _ hk
  obtain ⟨g1, g2⟩ := rgV_ints k
  refine ⟨k, r1.rw.eInt, rg_ok hk, fun p hp => ?_⟩
  rw [g1]
  rw [g2] at w1
  exact w1 _ Z1 F1 _ _ (r1.t.own hp (rz_ints _))
theorem snd_srs (ok : CtxOk I n c X) (io : InfoOk I) {a : Tm} {x z : Str} {y : Expr} {p p2 pos pos2 : Pos} (hx : x = "sorted") (hz : z = "set") (hg : glB c.sc x = true) (hgz : glB c.sc z = true) (hst : noStar y = true) (ha : PE X y (tE I C W a)) :
    PE X (.Call (.Name x p) [.Call (.Name z p2) [y] [] pos2] [] pos) (tE I C W (.srs a)) := by
  subst hx hz
  have p1 : PE X (.Call (.Name "set" p2) [y] [] pos2) (tCB (rSetOfT X.K X.prog X.w) (tCons (tE I C W a) tNil)) :=
    pe_callTy (cr_setOfT ok.calm ok.room.units) (gl_of ok hgz) (bn_of ok io (by decide +kernel)) (by decide +kernel) (pa_cons ha pa_nil (star_of hst)) (by decide) (by decide) (star_of hst) rfl
  refine (pe_callB (cr_sortedT ok.calm) (gl_of ok hg) (bn_of ok io (by decide +kernel)) (by decide +kernel) (pa_cons p1 pa_nil rfl) (by decide) (by decide) rfl rfl).imp fun σ H Q ⟨Z, P, F, env, st, w⟩ => ⟨Z, P, F, env, st, ?_⟩
  simp only [ev, Den.ofE, Wp.bind, Wp.opt] at w
  refine w.mono (fun d e1 ⟨m, em, w1⟩ v Z1 F1 H1 r1 => ?_) fun _ _ h => h
  have kk := ok.kk
  exact call_srs ok.calm ok.room.units (kk ▸ r1.rw) em r1.st.dz fun v' Z' H' g rv => w1 v' Z' F1 H' (r1.t.fin g (kk ▸ rv))
theorem snd_rtup (ok : CtxOk I n c X) (io : InfoOk I) {a : Tm} {x z : Str} {y : Expr} {p p2 pos pos2 : Pos} (hx : x = "tuple") (hz : z = "range") (hg : glB c.sc x = true) (hgz : glB c.sc z = true) (hst : noStar y = true) (ha : PE X y (tE I C W a)) :
    PE X (.Call (.Name x p) [.Call (.Name z p2) [y] [] pos2] [] pos) (tE I C W (.rtup a)) := by
  subst hx hz
  refine (pe_tupRg ok.calm (gl_of ok hg) (bn_of ok io (by decide +kernel)) (prg_1 (gl_of ok hgz) (bn_of ok io (by decide +kernel)) ha (star_of hst))).imp fun σ H Q ⟨Z, P, F, env, st, w⟩ => ⟨Z, P, F, env, st, ?_⟩
  simp only [ev, Den.ofE, Wp.bind, Wp.opt] at w
  refine w.mono (fun d e1 ⟨m, em, w1⟩ v Z1 F1 H1 r1 => ?_) fun _ _ h => h
  cases d <;> simp only [rngD, Option.map_none, reduceCtorEq] at em
  split at em <;> cases em
  rename_i k _ hk
  obtain ⟨g1, g2⟩ := rgV_ints k
  refine ⟨k, r1.rw.eInt, rg_ok hk, fun p hp => ?_⟩
  rw [g1]
  rw [g2] at w1
  exact w1 _ _ F1 _ (r1.t.fin (Grow.newT r1.st.dz hp) (.tup (.inl upd_same) (rz_ints _) .nil))
theorem snd_revm (ok : CtxOk I n c X) {a : Tm} {x : Expr} {kd : Nat} {pos p1 p2 p3 : Pos} (ha : PE X x (tE I C W a)) :
    PE X (.Subscript x (.Slice none none (some (.UnaryOp .USub (.Constant (.int 1) kd p1) p2)) p3) pos) (tM I C W (.revm a)) := by
  refine (PYX.pe_back ha (pe_un un_neg pe_int) fun σ H Q h => ⟨1, rfl, h H rfl⟩).imp fun σ H Q ⟨Z, P, F, env, st, w⟩ => ⟨Z, P, F, env, st, ?_⟩
  simp only [ev, Den.ofM, Wp.bind, Wp.opt] at w
  refine w.mono (fun d1 e1 ⟨d, ed, w1⟩ v1 Z1 F1 H1 r1 => ?_) fun _ _ h => h
  cases d1 <;> simp only [reduceCtorEq, Option.some.injEq] at ed
  subst ed
  obtain ⟨p, us, rfl, l, r⟩ := r1.rw.eList
  exact .inl ⟨p, us, rfl, ok.kk ▸ l, fun p' hp => w1 _ Z1 F1 _ _ (r1.t.own hp r.rev)⟩
theorem snd_rep (ok : CtxOk I n c X) {a b : Tm} {x y : Expr} {pos : Pos} (ha : PE X x (tM I C W a)) (hb : PE X y (tE I C W b)) : PE X (.BinOp x .Mult y pos) (tM I C W (.rep a b)) := by
  refine (pe_op op_rep ha hb).imp fun σ H Q ⟨Z, P, F, env, st, w⟩ => ⟨Z, P, F, env, st, ?_⟩
  simp only [ev, Den.ofM, Wp.bind, Wp.opt] at w
  refine w.mono (fun m1 e1 w1 v1 Z1 F1 H1 A1 r1 => ⟨Z1, fun a => P a ∨ A1 a, F1, e1, r1.st, w1.mono (fun d2 e2 w2 v2 Z2 F2 H2 r2 => ?_) fun _ _ h => h.later r1.stp fun _ h => .inl h⟩) fun _ _ h => h
  obtain ⟨m, em, w2⟩ := w2
  have o1 : RO I.K Z2 H2 v1 m1 A1 := r1.ro.keep (r2.stp.kp.mono fun _ z => .inl z) r2.stp.zz fun a z => r2.stp.kp.at_ a (.inr (.inr z))
  have stp : Step Z P H Z2 H2 := r1.stp.trans r2.stp fun _ h => .inl h
  have t : ResT I.K (qui (.rep a b)) Z P F H env σ Z2 F2 H2 e2 := ⟨r2.st.narrow fun _ h => .inl h, stp, fun h => by
    simp only [qui, Bool.and_eq_true] at h
    exact (r1.qt h.1).trans (r2.qt h.2)⟩
  cases m1 <;> cases d2 <;> simp only [repM, reduceCtorEq] at em
  split at em <;> cases em
  rename_i ds k hk
  obtain ⟨l, us, rfl, hl, rz, _⟩ := o1.flat
  have hlen := rz.length
  refine ⟨l, k, us, rfl, r2.rw.eInt, hl, by omega, by omega, line_le (by rw [hlen]; exact hk.2.2), fun p hp => ?_⟩
  exact w2 _ Z2 F2 _ _ (t.own hp (rz.repl k.toNat))
theorem snd_gcd (ok : CtxOk I n c X) (io : InfoOk I) {as : Tm} {x : Str} {a : Expr} {es : List Expr} {p pos : Pos} (hx : x = "gcd") (hgn : I.gn 1000 = "gcd") (hg : glB c.sc x = true) (hst : (a :: es).all noStar = true) (ha : PA X (a :: es) (tA I C W as)) :
    PE X (.Call (.Name x p) (a :: es) [] pos) (tE I C W (.gcd as)) := by
  subst hx
  simp only [List.all_cons, Bool.and_eq_true] at hst
  refine (pe_callBfun cr_gcd (gl_of ok hg) (by rw [ok.mg]; exact io.gg hgn) ha (by decide +kernel) (star_of hst.1) (pl_nostar hst.2)).imp fun σ H Q ⟨Z, P, F, env, st, w⟩ => ⟨Z, P, F, env, st, ?_⟩
  simp only [ev, Den.ofE, Wp.bind, Wp.opt] at w
  refine w.mono (fun ss e1 ⟨d, ed, w1⟩ vs Z1 F1 H1 A r1 => ?_) fun _ _ h => h
  simp only [Option.bind_eq_some_iff] at ed
  obtain ⟨ds, e2, ed⟩ := ed
  have rp := r1.rs.plain e2
  unfold gcdD at ed
  split at ed
  · cases ed
    obtain ⟨v, w, rfl, ra, rb⟩ := rp.two
    have := ra.eInt; have := rb.eInt; subst_vars
    exact ⟨_, _, rfl, w1 _ _ F1 _ (r1.t.fin (Grow.refl r1.st.dz) (.int .nil))⟩
  · cases ed
theorem snd_isi (ok : CtxOk I n c X) (io : InfoOk I) {a : Tm} {t : Ty} {x z : Str} {y : Expr} {p pz pos : Pos} (hx : x = "isinstance") (hz : z = tyN t) (hg : glB c.sc x = true) (hgz : glB c.sc z = true) (hst : noStar y = true) (ha : PE X y (tE I C W a)) :
    PE X (.Call (.Name x p) [y, .Name z pz] [] pos) (tE I C W (.isi a [t])) := by
  subst hx hz
  have pz : PE X (.Name (tyN t) pz) (tC (.ty (tyS t))) := pe_bltn (u := .type (tyS t)) (gl_of ok hgz) (bn_of ok io (tyN_mem t)) (tyBoot t) rfl (tyN_ok t).1 (tyN_ok t).2
  refine (pe_callB (ok.kk ▸ call_isiD (X := X) t) (gl_of ok hg) (bn_of ok io (by decide +kernel)) (by decide +kernel) (pa_cons ha (pa_cons pz pa_nil) (star_of hst)) (by decide) (by decide) (star_of hst) rfl).imp fun σ H Q ⟨Z, P, F, env, st, w⟩ => ⟨Z, P, F, env, st, ?_⟩
  simp only [ev, Den.ofE, Wp.bind, Wp.ok] at w
  refine w.mono (fun d e1 w1 v Z1 F1 H1 r1 => ⟨v, Z1, F1, d, rfl, r1.rw, ?_⟩) fun _ _ h => h
  have := w1 _ Z1 F1 H1 (r1.t.here (.bl .nil))
  simpa using this
theorem base_of {x : Expr} {nm : Str} {env : PySem.Env} (h : baseOk x = true) : attributeBase x nm env (eval x env) = eval x env := by
  cases x <;> first | rfl | cases h
theorem snd_me (ok : CtxOk I n c X) {m : Me} {o a : Tm} {x y : Expr} {nm : Str} {ap pos : Pos} (hn : nm = meS m) (hb : baseOk x = true) (hl : (ap.endLine == pos.line) = true) (hst : noStar y = true) (hq : esc o = true) (ho : PE X x (tE I C W o)) (ha : PE X y (tE I C W a)) :
    PE X (.Call (.Attribute x nm ap) [y] [] pos) (tE I C W (.me m o a)) := by
  subst hn
  cases m with
  | join =>
    refine (pe_m1 (name := "join") PySem.F.slot_str_join PySem.F.type_str_join (ok.kk ▸ mt_joinD (X := X)) ho ha (star_of hst) (base_of hb) hl).imp fun σ H Q ⟨Z, P, F, env, st, w⟩ => ⟨Z, P, F, env, st, ?_⟩
    simp only [ev, Den.ofE, Wp.bind, Wp.opt] at w
    refine w.mono (fun d1 e1 w1 v1 Z1 F1 H1 r1 => ?_) fun _ _ h => h
    obtain ⟨z, ez, w1⟩ := w1
    have hz : d1 = .str z := by cases d1 <;> simp [strOf] at ez; rw [ez]
    subst hz
    refine ⟨⟨z, r1.rw.eStr⟩, Z1, P, F1, e1, r1.st, w1.mono (fun d2 e2 ⟨d, ed, w2⟩ v2 Z2 F2 H2 r2 => ?_) fun _ _ h => h.later r1.stp fun _ h => h⟩
    exact ⟨Z2, F2, .str z, [d2], d, .inl ((r1.es hq).later r2.t), .cons r2.rw .nil, ed, r2.st.dz, fun v Z' H' g rv => w2 v Z' F2 H' ((r1.t.trans r2.t).fin g rv)⟩
/-! ### lists made of lists -/
theorem snd_lof (ok : CtxOk I n c X) (io : InfoOk I) {a : Tm} {x : Str} {y : Expr} {p pos : Pos} (hx : x = "list") (hg : glB c.sc x = true) (hst : noStar y = true) (ha : PE X y (tE I C W a)) :
    PE X (.Call (.Name x p) [y] [] pos) (tM I C W (.lof a)) := by
  subst hx
  refine (pe_callTy (ok.kk ▸ call_list_of (X := X)) (gl_of ok hg) (bn_of ok io (by decide +kernel)) (by decide +kernel) (pa_cons ha pa_nil (star_of hst)) (by decide) (by decide) (star_of hst) rfl).imp fun σ H Q ⟨Z, P, F, env, st, w⟩ => ⟨Z, P, F, env, st, ?_⟩
  simp only [ev, Den.ofM, Wp.bind, Wp.opt] at w
  refine w.mono (fun d e1 ⟨m, em, w1⟩ v Z1 F1 H1 r1 => ?_) fun _ _ h => h
  cases d <;> simp [itemsD] at em
  · subst em
    obtain ⟨q, us, rfl, l, rz⟩ := r1.rw.eList
    exact ⟨q, us, rfl, .inl l, fun p hp => w1 _ Z1 F1 _ _ (r1.t.own hp rz)⟩
  · subst em
    obtain ⟨q, us, rfl, l, rz⟩ := r1.rw.eTup
    exact ⟨q, us, rfl, .inr l.sq, fun p hp => w1 _ Z1 F1 _ _ (r1.t.own hp rz)⟩
theorem snd_cat (ok : CtxOk I n c X) {a b : Tm} {x y : Expr} {pos : Pos} (ha : PE X x (tM I C W a)) (hb : PE X y (tM I C W b)) : PE X (.BinOp x .Add y pos) (tM I C W (.cat a b)) := by
  refine (pe_op (ok.kk ▸ op_catS (X := X)) ha hb).imp fun σ H Q ⟨Z, P, F, env, st, w⟩ => ⟨Z, P, F, env, st, ?_⟩
  simp only [ev, Den.ofM, Wp.bind, Wp.opt] at w
  refine w.mono (fun m1 e1 w1 v1 Z1 F1 H1 A1 r1 => ⟨Z1, fun a => P a ∨ A1 a, F1, e1, r1.st, w1.mono (fun m2 e2 w2 v2 Z2 F2 H2 A2 r2 => ?_) fun _ _ h => h.later r1.stp fun _ h => .inl h⟩) fun _ _ h => h
  obtain ⟨m, em, w2⟩ := w2
  have o1 : RO I.K Z2 H2 v1 m1 A1 := r1.ro.keep (r2.stp.kp.mono fun _ z => .inl z) r2.stp.zz fun a z => r2.stp.kp.at_ a (.inr (.inr z))
  have dis : ∀ a, A1 a → A2 a → False := fun a z z' => r2.ap a z' (.inr z)
  have qt : qui (.cat a b) = true → Qt env F H e2 F2 H2 := fun h => by
    simp only [qui, Bool.and_eq_true] at h
    exact (r1.qt h.1).trans (r2.qt h.2)
  have stp : Step Z P H Z2 H2 := r1.stp.trans r2.stp fun _ h => .inl h
  have t : ResT I.K (qui (.cat a b)) Z P F H env σ Z2 F2 H2 e2 := ⟨r2.st.narrow fun _ h => .inl (.inl h), stp, qt⟩
  have nest : ∀ (us ws : List V) (ms ns : List M) (B1 B2 : Ad) (a1 a2 : Addr), v1 = .ref a1 → v2 = .ref a2 → H2 a1 = some (.lst us) → H2 a2 = some (.lst ws) → RM I.K Z2 H2 us ms B1 → RM I.K Z2 H2 ws ns B2 → (∀ a, B1 a → A1 a) → (∀ a, B2 a → A2 a) →
      ms.length + ns.length ≤ 1000000 → m = .ls (ms ++ ns) →
      ∃ a b xs zs, v1 = .ref a ∧ v2 = .ref b ∧ SqL I.K H2 a xs ∧ SqL I.K H2 b zs ∧ xs.length + zs.length ≤ sizeLine ∧ ∀ p, H2 p = none → Q (.ref p) (upd H2 p (.lst (xs ++ zs))) := by
    intro us ws ms ns B1 B2 a1 a2 e1' e2' h1 h2 k1 k2 s1 s2 hl hm
    refine ⟨a1, a2, us, ws, e1', e2', SqL.of h1, SqL.of h2, line_le (by rw [k1.length, k2.length]; exact hl), fun p hp => ?_⟩
    subst hm
    refine w2 _ Z2 F2 _ _ (ownLs (A := fun a => B1 a ∨ B2 a) (r2.st.narrow fun a h => ?_) stp (fun a h => ?_) qt hp (RM.append k1 k2 (fun a z z' => dis a (s1 a z) (s2 a z')) (fun _ z => .inl z) fun _ z => .inr z))
    · rcases h with h | h | h
      · exact .inl (.inl h)
      · exact .inl (.inr (s1 a h))
      · exact .inr (s2 a h)
    · rcases h with h | h
      · exact r1.ap a (s1 a h)
      · exact fun z => r2.ap a (s2 a h) (.inl z)
  cases m1 <;> cases m2 <;> simp only [reduceCtorEq] at em
  · split at em <;> cases em
    obtain ⟨a1, us, rfl, h1, k1, _⟩ := o1.flat
    obtain ⟨a2, ws, rfl, h2, k2, _⟩ := r2.ro.flat
    exact ⟨a1, a2, us, ws, rfl, rfl, SqL.of h1, SqL.of h2, line_le (by rw [k1.length, k2.length]; assumption), fun p hp => w2 _ Z2 F2 _ _ (t.own hp (k1.append k2))⟩
  · split at em <;> cases em
    obtain ⟨a1, us, B1, e1', h1, k1, _, _, s1⟩ := o1.nest
    obtain ⟨a2, ws, e2', h2, k2, _⟩ := r2.ro.flat
    exact nest us ws _ _ B1 (fun _ => False) a1 a2 e1' e2' h1 h2 k1 (RM.ofRZ k2) s1 (fun _ z => z.elim) (by rw [List.length_map]; assumption) rfl
  · split at em <;> cases em
    obtain ⟨a1, us, B1, e1', h1, k1, _, _, s1⟩ := o1.nest
    obtain ⟨a2, ws, B2, e2', h2, k2, _, _, s2⟩ := r2.ro.nest
    exact nest us ws _ _ B1 B2 a1 a2 e1' e2' h1 h2 k1 k2 s1 s2 (by assumption) rfl
/-! ### places -/
/-- the value at a place; the objects on the way are in S -/
def valP (S : Ad) (σ : L2.St) (H : Hp) : Pl → V → Prop
  | .v i, v => σ[i]? = some (some v)
  | .ixn p k, v => ∃ a us, valP S σ H p (.ref a) ∧ S a ∧ H a = some (.lst us) ∧ L2.atI us k = some v
  | .ixv p j, v => ∃ a us k, valP S σ H p (.ref a) ∧ S a ∧ σ[j]? = some (some (.int k)) ∧ H a = some (.lst us) ∧ L2.atI us k = some v
  | .ixs _ _, _ => False
  | .fd _ _, _ => False
theorem valP_one {S S' : Ad} {σ : L2.St} {H H' : Hp} : ∀ {p : Pl} {v v' : V}, valP S σ H p v → valP S' σ H' p v' → (∀ b, S b → H' b = H b) → v = v'
  | .v i, v, v', h, h', _ => by
    have : σ[i]? = some (some v) := h
    have : σ[i]? = some (some v') := h'
    simp_all
  | .ixn p k, v, v', ⟨a, us, h1, h2, h3, h4⟩, ⟨a', us', g1, g2, g3, g4⟩, q => by
    have e := valP_one h1 g1 q
    cases e
    rw [q a h2, h3] at g3
    cases g3
    rw [h4] at g4
    exact Option.some.inj g4
  | .ixv p k, v, v', ⟨a, us, i, h1, h2, h5, h3, h4⟩, ⟨a', us', i', g1, g2, g5, g3, g4⟩, q => by
    have e := valP_one h1 g1 q
    cases e
    rw [h5] at g5
    cases g5
    rw [q a h2, h3] at g3
    cases g3
    rw [h4] at g4
    exact Option.some.inj g4
def tP (p : Pl) : TE := fun σ H Q => ∃ S v, valP S σ H p v ∧ Q v H
theorem pe_place (ok : CtxOk I n c X) : ∀ (p : Pl) (e : Expr), plX c p e = true → PE X e (tP p)
  | .v i, e, h => by
    cases e <;> simp only [plX, Bool.false_eq_true] at h
    exact (pe_var_of ok h).imp fun σ H Q ⟨S, v, h1, q⟩ => ⟨v, h1, q⟩
  | .ixn p k, e, h => by
    cases e <;> first | (simp only [plX, Bool.false_eq_true] at h; done) | skip
    rename_i e s pos
    cases s <;> first | (simp only [plX, Bool.false_eq_true] at h; done) | skip
    rename_i cst kk p2
    cases cst <;> first | (simp only [plX, Bool.false_eq_true] at h; done) | skip
    simp only [plX, Bool.and_eq_true, decide_eq_true_eq] at h
    obtain ⟨rfl, h⟩ := h
    refine (pe_ix (ix_list (X := X)) (pe_place ok p e h) pe_int (fun _ _ => rfl)).imp fun σ H Q ⟨S, v, ⟨a, us, h1, _, h2, h3⟩, q⟩ => ?_
    exact ⟨S, _, h1, _, us, _, v, rfl, rfl, SqL.of h2, h3, q⟩
  | .ixv p j, e, h => by
    cases e <;> first | (simp only [plX, Bool.false_eq_true] at h; done) | skip
    rename_i e s pos
    cases s <;> first | (simp only [plX, Bool.false_eq_true] at h; done) | skip
    simp only [plX, Bool.and_eq_true] at h
    refine (pe_ix (ix_list (X := X)) (pe_place ok p e h.2) (pe_var_of ok h.1) (fun _ _ => rfl)).imp fun σ H Q ⟨S, v, ⟨a, us, k, h1, _, h2, h3, h4⟩, q⟩ => ?_
    exact ⟨S, _, h1, _, h2, _, us, _, v, rfl, rfl, SqL.of h3, h4, q⟩
  | .ixs p k, e, h => by
    refine ⟨fun pins s σ H Q Iv ⟨_, v, h, _⟩ => h.elim⟩
  | .fd p k, e, h => by
    refine ⟨fun pins s σ H Q Iv ⟨_, v, h, _⟩ => h.elim⟩
def rt : Pl → Nat
  | .v i => i
  | .ixn p _ => rt p
  | .ixs p _ => rt p
  | .ixv p _ => rt p
  | .fd p _ => rt p
theorem at_some {α : Type} {xs : List α} {k : Int} {v : α} (h : L2.atI xs k = some v) : ∃ j, L2.ixN xs.length k = some j ∧ xs[j]? = some v := by
  unfold L2.atI at h
  cases e : L2.ixN xs.length k with
  | none => rw [e] at h; cases h
  | some j => rw [e] at h; exact ⟨j, rfl, h⟩
/-- a child by its number: its value, its own objects, what takes its place -/
theorem kid_ok {K : PySem.W.Frag} {Z A : Ad} {H : Hp} {v : V} {m k : M} {i : Int} (h : RO K Z H v m A) (e : m.kid i = some k) : ∃ (a : Addr) (us : List V) (w : V) (B C : Ad), v = .ref a ∧ A a ∧ H a = some (.lst us) ∧ L2.atI us i = some w ∧ RO K Z H w k B ∧ (∀ b, B b → A b) ∧ (∀ b, C b → A b) ∧ (∀ b, B b → C b → False) ∧
    ∀ k' m', m.putKid i k' = some m' → ∀ (H' : Hp) (Z' B' : Ad), Keep Z H H' → (∀ b, Z b → Z' b) → (∀ b, C b → H' b = H b) → RO K Z' H' w k' B' → (∀ b, B' b → C b → False) → RO K Z' H' v m' (fun b => B' b ∨ C b) := by
  cases m <;> simp only [M.kid, reduceCtorEq] at e
  · rename_i ds
    cases hj : ixN ds.length i with
    | none => rw [hj] at e; cases e
    | some j =>
      rw [hj] at e
      simp only [Option.bind_some, Option.map_eq_some_iff] at e
      obtain ⟨d, ed, rfl⟩ := e
      obtain ⟨a, us, rfl, h1, h2, h3⟩ := h.flat
      obtain ⟨w, hw, rw_⟩ := h2.get ed
      refine ⟨a, us, w, fun _ => False, fun b => b = a, rfl, h3, h1, ?_, .p rw_ .nil, fun _ z => z.elim, fun b z => z ▸ h3, fun _ z => z.elim, ?_⟩
      · unfold L2.atI
        rw [h2.length, show L2.ixN ds.length i = some j from hj]
        exact hw
      · intro k' m' em H' Z' B' kp zz kc r dis
        cases k' <;> simp only [M.putKid, reduceCtorEq] at em
        simp only [hj, Option.map_some, Option.some.injEq] at em
        subst em
        have es : us.set j w = us := by
          apply List.ext_getElem?
          intro x
          by_cases hx : j = x
          · subst hx
            rw [List.getElem?_set_self (List.getElem?_eq_some_iff.mp hw).1, hw]
          · rw [List.getElem?_set_ne hx]
        have := (h2.keep kp zz).set j r.leaf
        rw [es] at this
        exact .fl ((kc a rfl).trans h1) this (.inr rfl) (B := fun _ => False) (fun z => z) (fun _ z => z.elim) .nil
  · rename_i ms
    cases hj : ixN ms.length i with
    | none => rw [hj] at e; cases e
    | some j =>
      rw [hj] at e
      simp only [Option.bind_some] at e
      obtain ⟨a, us, B0, rfl, h1, h2, h3, h5, h4⟩ := h.nest
      obtain ⟨w, B, C, hw, r, t1, t2, t3, f⟩ := h2.at_ e
      refine ⟨a, us, w, B, fun b => C b ∨ b = a, rfl, h3, h1, ?_, r, fun b z => h4 b (t1 b z), ?_, ?_, ?_⟩
      · unfold L2.atI
        rw [h2.length, show L2.ixN ms.length i = some j from hj]
        exact hw
      · rintro b (z | rfl)
        · exact h4 b (t2 b z)
        · exact h3
      · rintro b z (q | rfl)
        · exact t3 b z q
        · exact h5 (t1 _ z)
      · intro k' m' em H' Z' B' kp zz kc r' dis
        simp only [M.putKid, hj, Option.map_some, Option.some.injEq] at em
        subst em
        have es : us.set j w = us := by
          apply List.ext_getElem?
          intro x
          by_cases hx : j = x
          · subst hx
            rw [List.getElem?_set_self (List.getElem?_eq_some_iff.mp hw).1, hw]
          · rw [List.getElem?_set_ne hx]
        have := f H' Z' w k' B' (fun b => B' b ∨ C b) kp zz (fun b z => kc b (.inl z)) r' (fun b z q => dis b z (.inl q)) (fun _ z => .inl z) fun _ z => .inr z
        rw [es] at this
        refine .ls ((kc a (.inr rfl)).trans h1) (.inr (.inr rfl)) ?_ (C := fun _ => False) (fun z => z) ?_ (fun _ z => z.elim) (fun _ _ z => z) this .nil
        · rintro (z | z)
          · exact dis a z (.inr rfl)
          · exact h5 (t2 a z)
        · rintro b (z | z)
          · exact .inl z
          · exact .inr (.inl z)
/-- THE PLACE: what stands there, and what the root is when something else stands there -/
theorem lens {K : PySem.W.Frag} {Z P : Ad} {F : Nat → Ad} {env : Env} {σ : L2.St} {H : Hp} (st : Sta K Z P F env σ H) : ∀ (p : Pl) (m : M), simpleP p = true → getP p env = some m → ∃ (v : V) (B C : Ad), valP (F (rt p)) σ H p v ∧ RO K Z H v m B ∧ (∀ b, B b → F (rt p) b) ∧ (∀ b, C b → F (rt p) b) ∧ (∀ b, B b → C b → False) ∧
    ∀ m' env', setP p env m' = some env' → ∃ m0 v0, σ[rt p]? = some (some v0) ∧ env' = env.set (rt p) (.m m0) ∧
      ∀ (H' : Hp) (Z' B' : Ad), Keep Z H H' → (∀ b, Z b → Z' b) → (∀ b, C b → H' b = H b) → RO K Z' H' v m' B' → (∀ b, B' b → C b → False) → RO K Z' H' v0 m0 (fun b => B' b ∨ C b)
  | .v i, m, _, e => by
    have e1 : env[i]? = some (.m m) := by
      simp only [getP] at e
      unfold slM at e
      split at e <;> cases e
      assumption
    obtain ⟨v, h1, h2⟩ := st.sm i m e1
    refine ⟨v, F i, fun _ => False, h1, h2, fun _ z => z, fun _ z => z.elim, fun _ _ z => z, fun m' env' es => ?_⟩
    simp only [setP, Option.some.injEq] at es
    subst es
    exact ⟨m', v, h1, rfl, fun H' Z' B' _ _ _ r _ => r.wide fun _ z => .inl z⟩
  | .ixn p k, m, sp, e => by
    simp only [getP, Option.bind_eq_some_iff] at e
    obtain ⟨m1, e1, ek⟩ := e
    obtain ⟨v1, B1, C1, h1, r1, s1, s2, s3, f1⟩ := lens st p m1 sp e1
    obtain ⟨a, us, w, B, C, rfl, ha, h2, h3, r, t1, t2, t3, f⟩ := kid_ok r1 ek
    refine ⟨w, B, fun b => C b ∨ C1 b, ⟨a, us, h1, s1 a ha, h2, h3⟩, r, fun b z => s1 b (t1 b z), ?_, ?_, fun m' env' es => ?_⟩
    · rintro b (z | z)
      · exact s1 b (t2 b z)
      · exact s2 b z
    · rintro b z (q | q)
      · exact t3 b z q
      · exact s3 b (t1 b z) q
    · simp only [setP, e1, Option.bind_some, Option.bind_eq_some_iff] at es
      obtain ⟨m2, ep, es⟩ := es
      obtain ⟨m0, v0, g1, g2, g3⟩ := f1 m2 env' es
      refine ⟨m0, v0, g1, g2, fun H' Z' B' kp zz kc r' dis => ?_⟩
      have := g3 H' Z' (fun b => B' b ∨ C b) kp zz (fun b z => kc b (.inr z)) (f m' m2 ep H' Z' B' kp zz (fun b z => kc b (.inl z)) r' fun b z q => dis b z (.inl q)) ?_
      · exact this.wide fun b z => by rcases z with (z | z) | z <;> simp [rt, z]
      · rintro b (z | z) q
        · exact dis b z (.inr q)
        · exact s3 b (t2 b z) q
  | .ixv p j, m, sp, e => by
    simp only [getP, Option.bind_eq_some_iff] at e
    obtain ⟨m1, e1, k, ej, ek⟩ := e
    obtain ⟨v1, B1, C1, h1, r1, s1, s2, s3, f1⟩ := lens st p m1 sp e1
    obtain ⟨a, us, w, B, C, rfl, ha, h2, h3, r, t1, t2, t3, f⟩ := kid_ok r1 ek
    have hj : σ[j]? = some (some (.int k)) := by
      unfold slD at ej
      split at ej
      · rename_i d e'
        cases d <;> simp [dInt] at ej
        subst ej
        obtain ⟨v, q1, q2⟩ := st.sd j _ e'
        rw [q1, q2.eInt]
      · simp [dInt] at ej
    refine ⟨w, B, fun b => C b ∨ C1 b, ⟨a, us, k, h1, s1 a ha, hj, h2, h3⟩, r, fun b z => s1 b (t1 b z), ?_, ?_, fun m' env' es => ?_⟩
    · rintro b (z | z)
      · exact s1 b (t2 b z)
      · exact s2 b z
    · rintro b z (q | q)
      · exact t3 b z q
      · exact s3 b (t1 b z) q
    · simp only [setP, e1, ej, Option.bind_some, Option.bind_eq_some_iff] at es
      obtain ⟨m2, ep, es⟩ := es
      obtain ⟨m0, v0, g1, g2, g3⟩ := f1 m2 env' es
      refine ⟨m0, v0, g1, g2, fun H' Z' B' kp zz kc r' dis => ?_⟩
      have := g3 H' Z' (fun b => B' b ∨ C b) kp zz (fun b z => kc b (.inr z)) (f m' m2 ep H' Z' B' kp zz (fun b z => kc b (.inl z)) r' fun b z q => dis b z (.inl q)) ?_
      · exact this.wide fun b z => by rcases z with (z | z) | z <;> simp [rt, z]
      · rintro b (z | z) q
        · exact dis b z (.inr q)
        · exact s3 b (t2 b z) q
  | .ixs p k, m, sp, e => by cases sp
  | .fd p f, m, sp, e => by cases sp
theorem simple_of {c : Ctx} : ∀ {p : Pl} {e : Expr}, plX c p e = true → simpleP p = true
  | .v _, _, _ => rfl
  | .ixn p k, e, h => by
    cases e <;> first | (simp only [plX, Bool.false_eq_true] at h; done) | skip
    rename_i e s pos
    cases s <;> first | (simp only [plX, Bool.false_eq_true] at h; done) | skip
    rename_i cst kk p2
    cases cst <;> first | (simp only [plX, Bool.false_eq_true] at h; done) | skip
    simp only [plX, Bool.and_eq_true, decide_eq_true_eq] at h
    exact simple_of (p := p) h.2
  | .ixv p j, e, h => by
    cases e <;> first | (simp only [plX, Bool.false_eq_true] at h; done) | skip
    rename_i e s pos
    cases s <;> first | (simp only [plX, Bool.false_eq_true] at h; done) | skip
    simp only [plX, Bool.and_eq_true] at h
    exact simple_of (p := p) h.2
  | .ixs _ _, e, h => by cases e <;> simp [plX] at h
  | .fd _ _, e, h => by cases e <;> simp [plX] at h
theorem snd_lf (ok : CtxOk I n c X) {p : Pl} {e : Expr} (h : plX c p e = true) : PE X e (tE I C W (.lf p)) := by
  refine (pe_place ok p e h).imp fun σ H Q ⟨Z, P, F, env, st, w⟩ => ?_
  simp only [ev, Den.ofE, Wp.opt, Option.bind_eq_some_iff] at w
  obtain ⟨d, ⟨m, e1, e2⟩, w⟩ := w
  obtain ⟨v, B, Cc, h1, r, _⟩ := lens st p m (simple_of h) e1
  cases m <;> simp [M.leaf] at e2
  subst e2
  exact ⟨_, v, h1, w v Z F H (.here st r.leaf)⟩
theorem snd_vw (ok : CtxOk I n c X) {p : Pl} {e : Expr} (h : plX c p e = true) : PE X e (tE I C W (.vw p)) := by
  refine (pe_place ok p e h).imp fun σ H Q ⟨Z, P, F, env, st, w⟩ => ?_
  simp only [ev, Den.ofE, Wp.opt, Option.bind_eq_some_iff] at w
  obtain ⟨d, ⟨m, e1, e2⟩, w⟩ := w
  obtain ⟨v, B, Cc, h1, r, s1, _⟩ := lens st p m (simple_of h) e1
  cases m <;> simp [M.view] at e2
  subst e2
  obtain ⟨a, us, rfl, h2, h3, h4⟩ := r.flat
  exact ⟨_, _, h1, w _ Z F H ⟨st, Step.refl, .inr ⟨rt p, a, us, _, s1 a h4, rfl, rfl, h2, h3⟩, (fun z => nomatch z), fun _ => Qt.refl⟩⟩
/-- another thing at the root of a place -/
theorem Sta.put {K : PySem.W.Frag} {Z Z' P A : Ad} {F : Nat → Ad} {env : Env} {σ : L2.St} {H H' : Hp} {i : Nat} {m0 : M} {v0 : V} (st : Sta K Z P F env σ H) (hs : σ[i]? = some (some v0)) (kp : Keep (fun a => Z a ∨ P a) H H') (zz : ∀ a, Z a → Z' a) (zn : ∀ a, Z' a → Z a ∨ (H a = none ∧ ¬ A a))
    (zd : ∀ a, Z' a → H' a ≠ none) (fk : ∀ j a, j ≠ i → F j a → H' a = H a) (r : RO K Z' H' v0 m0 A) (aF : ∀ j a, j ≠ i → A a → ¬ F j a) (aZ : ∀ a, A a → ¬ Z a) (aP : ∀ a, A a → ¬ P a) (aD : ∀ a, A a → H' a ≠ none) :
    Sta K Z' P (fun j a => (j = i ∧ A a) ∨ (j ≠ i ∧ F j a)) (env.set i (.m m0)) σ H' where
  len := by rw [List.length_set]; exact st.len
  sd := fun j d e => by
    by_cases hj : i = j
    · subst hj
      rw [List.getElem?_set] at e
      simp only [if_true] at e
      split at e <;> cases e
    · rw [List.getElem?_set_ne hj] at e
      obtain ⟨v, h1, h2⟩ := st.sd j d e
      exact ⟨v, h1, h2.keep (kp.mono fun _ z => .inl z) zz⟩
  sm := fun j m e => by
    by_cases hj : i = j
    · subst hj
      rw [List.getElem?_set] at e
      simp only [if_true] at e
      split at e <;> cases e
      exact ⟨v0, hs, r.wide fun a z => .inl ⟨rfl, z⟩⟩
    · rw [List.getElem?_set_ne hj] at e
      obtain ⟨v, h1, h2⟩ := st.sm j m e
      exact ⟨v, h1, (h2.keep (kp.mono fun _ z => .inl z) zz fun a z => fk j a (Ne.symm hj) z).wide fun a z => .inr ⟨Ne.symm hj, z⟩⟩
  ff := fun j k a h1 h2 => by
    rcases h1 with ⟨rfl, h1⟩ | ⟨h1, f1⟩ <;> rcases h2 with ⟨rfl, h2⟩ | ⟨h2, f2⟩
    · rfl
    · exact absurd f2 (aF k a h2 h1)
    · exact absurd f1 (aF j a h1 h2)
    · exact st.ff j k a f1 f2
  fz := fun j a h z => by
    rcases h with ⟨rfl, h⟩ | ⟨h, f⟩
    · rcases zn a z with z | ⟨_, z⟩
      · exact aZ a h z
      · exact z h
    · rcases zn a z with z | ⟨z, _⟩
      · exact st.fz j a f z
      · exact st.df j a f z
  fp := fun j a h p => by
    rcases h with ⟨rfl, h⟩ | ⟨h, f⟩
    · exact aP a h p
    · exact st.fp j a f p
  zp := fun a z p => by
    rcases zn a z with z | ⟨z, _⟩
    · exact st.zp a z p
    · exact st.dp a p z
  df := fun j a h => by
    rcases h with ⟨rfl, h⟩ | ⟨h, f⟩
    · exact aD a h
    · rw [fk j a h f]; exact st.df j a f
  dz := zd
  dp := fun a p => by rw [kp.at_ a (.inr p)]; exact st.dp a p
/-- one owned object is changed -/
theorem change {K : PySem.W.Frag} {Z P B Cc : Ad} {F : Nat → Ad} {env env' : Env} {σ : L2.St} {H : Hp} {p : Pl} {a : Addr} {o : HO} {m' m0 : M} {v0 : V} (st : Sta K Z P F env σ H) (ha : F (rt p) a) (hC : ∀ b, Cc b → F (rt p) b) (hB : ∀ b, B b → F (rt p) b) (hd : ∀ b, B b → Cc b → False) (nC : ¬ Cc a)
    (ht : ∀ us, H a ≠ some (.tup us)) (hs : σ[rt p]? = some (some v0)) (he : env' = env.set (rt p) (.m m0)) (r : RO K Z (upd H a o) v0 m0 (fun b => B b ∨ Cc b)) :
    ∃ F', Sta K Z P F' env' σ (upd H a o) ∧ Step Z P H Z (upd H a o) := by
  have nz : ∀ b, Z b → b ≠ a := fun b z e => by subst e; exact st.fz _ _ ha z
  have np : ∀ b, P b → b ≠ a := fun b z e => by subst e; exact st.fp _ _ ha z
  have kp : Keep (fun b => Z b ∨ P b) H (upd H a o) := ⟨fun b z => upd_ne (z.elim (nz b) (np b)), fun b us e => by
    by_cases hb : b = a
    · subst hb; exact absurd e (ht us)
    · rw [upd_ne hb]; exact e⟩
  have dm : ∀ b, H b ≠ none → upd H a o b ≠ none := fun b h => by
    by_cases hb : b = a
    · subst hb; rw [upd_same]; exact fun z => nomatch z
    · rw [upd_ne hb]; exact h
  subst he
  have sub : ∀ b, B b ∨ Cc b → F (rt p) b := fun b z => z.elim (hB b) (hC b)
  exact ⟨_, st.put hs kp (fun _ z => z) (fun _ z => .inl z) (fun b z => dm b (st.dz b z)) (fun j b hj f => upd_ne fun e => by subst e; exact hj (st.ff _ _ _ f ha)) r (fun j b hj z f => hj (st.ff _ _ _ f (sub b z))) (fun b z => st.fz _ b (sub b z)) (fun b z => st.fp _ b (sub b z)) (fun b z => dm b (st.df _ b (sub b z))), ⟨fun _ z => z, kp⟩⟩
/-! dicts whose keys are written -/
theorem getD_of {K : PySem.W.Frag} {Z : Ad} {H : Hp} {k : L2.Key} : ∀ {kvs : List (L2.Key × V)} {ws : List (L2.Key × D)} {d : D}, kvs.map (·.1) = ws.map (·.1) → RZ K Z H (kvs.map (·.2)) (ws.map (·.2)) → getD ws k = some d → ∃ v, valV kvs k = some v ∧ RV K Z H v d
  | [], [], d, _, _, e => by cases e
  | x :: kvs, y :: ws, d, hk, r, e => by
    simp only [List.map_cons, List.cons.injEq] at hk r
    by_cases h : y.1 = k
    · simp only [getD, if_pos h, Option.some.injEq] at e
      subst e
      exact ⟨x.2, valV_pos (hk.1.trans h), r.head⟩
    · simp only [getD, if_neg h] at e
      obtain ⟨v, h1, h2⟩ := getD_of hk.2 r.tail e
      exact ⟨v, by rw [valV_neg (fun z => h (hk.1 ▸ z))]; exact h1, h2⟩
  | [], _ :: _, _, hk, _, _ => by cases hk
  | _ :: _, [], _, hk, _, _ => by cases hk
theorem any_of {k : L2.Key} : ∀ {kvs : List (L2.Key × V)} {ws : List (L2.Key × D)}, kvs.map (·.1) = ws.map (·.1) → (kvs.any fun kv => decide (kv.1 = k)) = ws.any fun kv => decide (kv.1 = k)
  | [], [], _ => rfl
  | x :: kvs, y :: ws, hk => by
    simp only [List.map_cons, List.cons.injEq] at hk
    simp only [List.any_cons]
    rw [any_of hk.2, hk.1]
  | [], _ :: _, hk => by cases hk
  | _ :: _, [], hk => by cases hk
theorem mapD_of {K : PySem.W.Frag} {Z : Ad} {H : Hp} {k : L2.Key} {v : V} {d : D} (rv : RV K Z H v d) : ∀ {kvs : List (L2.Key × V)} {ws : List (L2.Key × D)}, kvs.map (·.1) = ws.map (·.1) → RZ K Z H (kvs.map (·.2)) (ws.map (·.2)) →
    (kvs.map fun kv => if kv.1 = k then (kv.1, v) else kv).map (·.1) = (ws.map fun kv => if kv.1 = k then (kv.1, d) else kv).map (·.1) ∧ RZ K Z H ((kvs.map fun kv => if kv.1 = k then (kv.1, v) else kv).map (·.2)) ((ws.map fun kv => if kv.1 = k then (kv.1, d) else kv).map (·.2))
  | [], [], _, _ => ⟨rfl, .nil⟩
  | x :: kvs, y :: ws, hk, r => by
    simp only [List.map_cons, List.cons.injEq] at hk
    simp only [List.map_cons] at r
    obtain ⟨h1, h2⟩ := mapD_of rv hk.2 r.tail
    simp only [List.map_cons]
    by_cases h : y.1 = k
    · have h' : x.1 = k := hk.1.trans h
      rw [if_pos h, if_pos h']
      exact ⟨by rw [h1, hk.1], .cons rv h2⟩
    · have h' : ¬ x.1 = k := fun z => h (hk.1 ▸ z)
      rw [if_neg h, if_neg h']
      exact ⟨by rw [h1, hk.1], .cons r.head h2⟩
  | [], _ :: _, hk, _ => by cases hk
  | _ :: _, [], hk, _ => by cases hk
theorem putD_of {K : PySem.W.Frag} {Z : Ad} {H : Hp} {k : L2.Key} {v : V} {d : D} (rv : RV K Z H v d) {kvs : List (L2.Key × V)} {ws : List (L2.Key × D)} (hk : kvs.map (·.1) = ws.map (·.1)) (r : RZ K Z H (kvs.map (·.2)) (ws.map (·.2))) :
    (putK kvs k v).map (·.1) = (putD ws k d).map (·.1) ∧ RZ K Z H ((putK kvs k v).map (·.2)) ((putD ws k d).map (·.2)) := by
  unfold putK putD
  rw [any_of hk]
  split
  · exact mapD_of rv hk r
  · simp only [List.map_append, List.map_cons, List.map_nil]
    exact ⟨by rw [hk], r.append (.cons rv .nil)⟩
theorem snd_dg (ok : CtxOk I n c X) (hu : X.A.units + 1 < cLine) {i : Nat} {k x : Str} {kd : Nat} {p p2 pos : Pos} (h : varB c i x = true) : PE X (.Subscript (.Name x p) (.Constant (.str k) kd p2) pos) (tE I C W (.dg i k)) := by
  refine (pe_dget hu (pe_place ok (.v i) (.Name x p) h) pe_str (fun _ _ => rfl)).imp fun σ H Q ⟨Z, P, F, env, st, w⟩ => ?_
  simp only [ev, Den.ofE, Wp.opt, Option.bind_eq_some_iff] at w
  obtain ⟨d, ⟨m, e1, e2⟩, w⟩ := w
  cases m <;> simp only [dGet, reduceCtorEq] at e2
  rename_i ws
  have e1' : env[i]? = some (.m (.fd ws)) := by
    unfold slM at e1
    split at e1 <;> cases e1
    assumption
  obtain ⟨v, h1, h2⟩ := st.sm i _ e1'
  obtain ⟨a, kvs, rfl, h3, h4, h5, _⟩ := h2.dict
  obtain ⟨v, h6, h7⟩ := getD_of h4 h5 e2
  exact ⟨fun _ => True, _, h1, a, v, rfl, .inl ⟨kvs, .inr k, .inl h3, rfl, h6.symm⟩, w v Z F H (.here st h7)⟩
/-- values one by one, with written keys -/
def trsOf (I : Info) (C : Nat → List Sl → CR) (W : WX) : List Str → Tm → List (TE × TE)
  | k :: ks, .cons a b => (tC (V.str k), tE I C W a) :: trsOf I C W ks b
  | _, _ => []
def tlen : Tm → Nat
  | .cons _ b => tlen b + 1
  | _ => 0
theorem pairs_run {σ : L2.St} : ∀ {vs : Tm} {ks : List Str} {Z P : Ad} {F : Nat → Ad} {env : Env} {H : Hp} {Q : List (V × V) → Hp → Prop}, noAt vs = true → escs vs = true → tlen vs = ks.length → Sta I.K Z P F env σ H →
    Wp ((ev I.GC C vs).a env) (fun ss e' => ∀ us ds Z' F' H', ss = ds.map Sl.d → Sta I.K Z' P F' e' σ H' → Step Z P H Z' H' → RZ I.K Z' H' us ds → (qui vs = true → Qt env F H e' F' H') → Q ((ks.zip us).map fun x => (V.str x.1, x.2)) H') (exK I W σ Z P H) →
    tPairs (trsOf I C W ks vs) σ H Q := by
  intro vs
  induction vs with
  | nil =>
    intro ks Z P F env H Q _ _ hl st w
    have hk : ks = [] := List.length_eq_zero_iff.mp hl.symm
    subst hk
    exact w [] [] Z F H rfl st .refl .nil fun _ => Qt.refl
  | cons a b iha ihb =>
    clear iha
    intro ks Z P F env H Q hn he hlen st w
    simp only [noAt, Bool.and_eq_true] at hn
    simp only [escs, Bool.and_eq_true] at he
    rw [ev_cons hn.1] at w
    simp only [Wp.bind, Wp.ok] at w
    cases ks with
    | nil => simp [tlen] at hlen
    | cons k ks =>
      refine ⟨Z, P, F, env, st, w.mono (fun d e1 w1 v Z1 F1 H1 r1 => ?_) fun _ _ h => h⟩
      refine ihb hn.2 he.2 (by simpa [tlen] using hlen) r1.st (w1.mono (fun ss e2 w2 us ds Z' F' H' es st' stp rz q => ?_) fun _ _ h => h.later r1.stp fun _ h => h)
      refine w2 (v :: us) (d :: ds) Z' F' H' (by rw [es]; rfl) st' (r1.stp.trans stp fun _ h => h) (.cons ((r1.es he.1).keep (stp.kp.mono fun _ z => .inl z) stp.zz) rz) fun h => ?_
      simp only [qui, Bool.and_eq_true] at h
      exact (r1.qt h.1).trans (q h.2)
  | _ => intro ks Z P F env H Q hn; simp [noAt] at hn
theorem nodup_merge : ∀ {more acc : List (L2.Key × V)}, (∀ x, x ∈ more → ∀ y, y ∈ acc → y.1 ≠ x.1) → (more.map (·.1)).Nodup → mergeK acc more = acc ++ more
  | [], acc, _, _ => by simp [mergeK]
  | x :: more, acc, h, nd => by
    simp only [List.map_cons, List.nodup_cons] at nd
    have e : putK acc x.1 x.2 = acc ++ [x] := by
      unfold putK
      rw [if_neg]
      rw [Bool.not_eq_true, List.any_eq_false]
      intro y hy z
      exact h x (by simp) y hy (of_decide_eq_true z)
    show mergeK (putK acc x.1 x.2) more = _
    rw [e, nodup_merge (fun z hz y hy => ?_) nd.2, List.append_assoc]
    · rfl
    · rcases List.mem_append.mp hy with hy | hy
      · exact h z (by simp [hz]) y hy
      · rw [List.mem_singleton.mp hy]
        intro e
        exact nd.1 (e ▸ List.mem_map_of_mem hz)
theorem keys_facts : ∀ {keys : List (Option Expr)} {ks : List Str}, keysB keys ks = true → keys.all (·.isSome) = true ∧ keys.length = ks.length
  | [], [], _ => ⟨rfl, rfl⟩
  | [], _ :: _, h => by cases h
  | none :: _, [], h => by cases h
  | none :: _, _ :: _, h => by cases h
  | some e :: r, [], h => by cases e <;> first | cases h | (rename_i c _ _; cases c <;> cases h)
  | some e :: r, k :: ks, h => by
    have h2 : keysB r ks = true := by
      cases e <;> first | (cases h; done) | skip
      rename_i c _ _
      cases c <;> first | (cases h; done) | skip
      simp only [keysB, Bool.and_eq_true] at h
      exact h.2
    obtain ⟨h3, h4⟩ := keys_facts h2
    exact ⟨by simp only [List.all_cons, Option.isSome_some, Bool.true_and]; exact h3, by simp [h4]⟩
theorem dsOf_d : ∀ ds : List D, dsOf (ds.map Sl.d) = some ds
  | [] => rfl
  | d :: ds => by
    show (dsOf (ds.map Sl.d)).map (d :: ·) = _
    rw [dsOf_d ds]; rfl
/-- another thing stands at a place that nobody holds -/
theorem Sta.upP {K : PySem.W.Frag} {Z P : Ad} {F : Nat → Ad} {env : Env} {σ : L2.St} {H : Hp} {p : Addr} {kvs : List (L2.Key × V)} {o : HO} (st : Sta K Z P F env σ H) (hp : P p) (h2 : H p = some (.dK kvs)) : Keep Z H (upd H p o) ∧ Sta K Z P F env σ (upd H p o) := by
  have kz : Keep Z H (upd H p o) := ⟨fun b z => upd_ne fun e => st.zp b z (e ▸ hp), fun b ws e => by
    by_cases hb : b = p
    · subst hb; rw [h2] at e; cases e
    · rw [upd_ne hb]; exact e⟩
  have kf : ∀ i a, F i a → upd H p o a = H a := fun i a f => upd_ne fun e => st.fp i a f (e ▸ hp)
  have dm : ∀ b, H b ≠ none → upd H p o b ≠ none := fun b h => by
    by_cases hb : b = p
    · subst hb; rw [upd_same]; exact fun z => nomatch z
    · rw [upd_ne hb]; exact h
  refine ⟨kz, st.len, fun i d e => ?_, fun i m e => ?_, st.ff, st.fz, st.fp, st.zp, fun i a f => dm a (st.df i a f), fun a z => dm a (st.dz a z), fun a z => dm a (st.dp a z)⟩
  · obtain ⟨v, h1, h2⟩ := st.sd i d e
    exact ⟨v, h1, h2.keep kz fun _ z => z⟩
  · obtain ⟨v, h1, h2⟩ := st.sm i m e
    exact ⟨v, h1, h2.keep kz (fun _ z => z) (kf i)⟩
theorem snd_dct (ok : CtxOk I n c X) {ks : List Str} {vs : Tm} {keys : List (Option Expr)} {values : List Expr} {pos : Pos} (hk : keysB keys ks = true) (he : escs vs = true) (hn : noAt vs = true) (h0 : ks ≠ []) (h15 : ks.length ≤ 15) (hl : keys.length = values.length) (ht : tlen vs = values.length)
    (h : PPs X pos keys values (trsOf I C W ks vs)) : PE X (.Dict keys values pos) (tM I C W (.dct ks vs)) := by
  obtain ⟨k1, k2⟩ := keys_facts hk
  have hlen : tlen vs = ks.length := by rw [ht, ← hl, k2]
  refine (pe_disp h k1 hl (fun z => h0 (by rw [z] at k2; exact List.length_eq_zero_iff.mp k2.symm)) (by rw [k2]; exact h15)).imp fun σ H Q ⟨Z, P, F, env, st, w⟩ p hp => ?_
  simp only [ev, Den.ofM, Wp.bind, Wp.opt] at w
  have np : ∀ a, H a ≠ none → a ≠ p := fun a h e => h (e ▸ hp)
  have g0 : Grow Z H Z (upd H p (.dK [])) := Grow.newT st.dz hp
  have s1 := st.grow g0
  have s2 : Sta I.K Z (fun a => P a ∨ a = p) F env σ (upd H p (.dK [])) := by
    refine ⟨s1.len, s1.sd, s1.sm, s1.ff, s1.fz, fun i a f h => ?_, fun a z h => ?_, s1.df, s1.dz, fun a h => ?_⟩
    · rcases h with h | rfl
      · exact s1.fp i a f h
      · exact st.df i a f hp
    · rcases h with h | rfl
      · exact s1.zp a z h
      · exact st.dz a z hp
    · rcases h with h | rfl
      · exact s1.dp a h
      · rw [upd_same]; exact fun z => nomatch z
  refine pairs_run hn he hlen s2 (w.mono (fun ss e1 w1 us ds Z' F' H' es st' stp rz qt => ?_) fun _ _ h => h.later (st.gstep g0) fun _ h => .inl h)
  obtain ⟨m, em, w1⟩ := w1
  subst es
  rw [dsOf_d, Option.bind_some] at em
  unfold dNew at em
  split at em <;> cases em
  rename_i hd
  have hul : us.length = ks.length := by rw [rz.length, hd.2.1]
  have hp' : H' p = some (.dK []) := by rw [stp.kp.at_ p (.inr (.inr rfl)), upd_same]
  have hf : (((ks.map Sum.inr).zip us : List (L2.Key × V)).map (·.1)) = ks.map Sum.inr := List.map_fst_zip (by rw [List.length_map]; omega)
  have hs : (((ks.map Sum.inr).zip us : List (L2.Key × V)).map (·.2)) = us := List.map_snd_zip (by rw [List.length_map]; omega)
  have hf2 : (((ks.map Sum.inr).zip ds : List (L2.Key × D)).map (·.1)) = ks.map Sum.inr := List.map_fst_zip (by rw [List.length_map]; omega)
  have hs2 : (((ks.map Sum.inr).zip ds : List (L2.Key × D)).map (·.2)) = ds := List.map_snd_zip (by rw [List.length_map]; omega)
  refine ⟨hp', (ks.map Sum.inr).zip us, ?_, by rw [List.length_zip, List.length_map]; omega, ?_⟩
  · rw [List.zip_map_left, List.map_map]; rfl
  rw [nodup_merge (fun _ _ y hy => by cases hy) (by rw [hf]; exact List.Pairwise.map _ (fun a b h e => h (Sum.inr.inj e)) hd.1), List.nil_append]
  obtain ⟨kz, st2⟩ := st'.upP (o := .dK ((ks.map Sum.inr).zip us)) (.inr rfl) hp'
  have np : ∀ a, H a ≠ none → a ≠ p := fun a h e => h (e ▸ hp)
  refine w1 _ Z' F' _ (fun a => a = p) ⟨st2, ⟨stp.zz, fun a z => ?_, fun b ws e => ?_⟩, .fd upd_same (by rw [hf, hf2]) (by rw [hs, hs2]; exact rz.keep kz fun _ z => z) rfl (B := fun _ => False) (fun z => z) (fun _ z => z.elim) .nil, ?_, fun h => ?_⟩
  · have hne : a ≠ p := np a (z.elim (st.dz a) (st.dp a))
    rw [upd_ne hne, stp.kp.at_ a (z.imp id .inl), upd_ne hne]
  · have hne : b ≠ p := np b (by rw [e]; exact fun z => nomatch z)
    rw [upd_ne hne]
    exact stp.kp.tup b ws (by rw [upd_ne hne]; exact e)
  · rintro a rfl h
    exact st.dp a h hp
  · obtain ⟨rfl, rfl, k⟩ := qt h
    refine ⟨rfl, rfl, fun i a f => ?_⟩
    have hne : a ≠ p := np a (st.df i a f)
    rw [upd_ne hne, k i a f, upd_ne hne]
end
end PY

set_option Elab.async false
set_option linter.all false
set_option maxRecDepth 100000
set_option maxHeartbeats 1000000
/-! SoEn: for i, x in enumerate(a tuple). -/
namespace PY
open PySem PySem.Spec PyProof.Rows L2 PySem.W
theorem enumT_new (t : Addr) (items : Array Value) :
    Meets (Builtin.«enumerate.__new__» ⟨[.type "enumerate", .ref t], []⟩) (fun _ R s => s.heap.IsTuple t items ∧
      R (.ok (.ret (.ref (s.heap.push { cls := .type "tuple_iterator", data := .fields #[.ref t, .int 0 0] }).objs.size)))
        { s with heap := (s.heap.push { cls := .type "tuple_iterator", data := .fields #[.ref t, .int 0 0] }).push { cls := .type "enumerate", data := .fields #[.none, .bool false, .ref s.heap.objs.size, rawInt 0, .none, .none] } }) :=
  .of_wp fun prog w A R s h => by
    obtain ⟨hp, g, d, tk, os⟩ := s
    obtain ⟨ht, h⟩ := h
    have sub := sub_enumerate
    have it : ∀ {B : Around} {E Q : Value → Shared → Prop}, Q (.ref hp.objs.size) ⟨hp.push { cls := .type "tuple_iterator", data := .fields #[.ref t, .int 0 0] }, g, d, tk, os⟩ → wpAny (model prog w) B (pyIter (.ref t)) Q E ⟨hp, g, d, tk, os⟩ :=
      fun q => wpAny_pyIter_tuple ht q
    wp_walk using it
    refine wpAny_stack_any fun st => wpAny_pure ?_
    split
    · rename_i k _ _ _ _ _
      cases (k == Value.type "enumerate") <;> (wp_walk using it; exact ⟨_, rfl, h⟩)
    · wp_walk using it
      exact ⟨_, rfl, h⟩
theorem call_enumT {prog : Program} {w : World} {A : Around} {E : Value → Shared → Prop} {s : Shared} {t : Addr} {items : Array Value} {Q : Value → Shared → Prop} (hT : s.heap.IsTuple t items)
    (h : ∀ h', IsEnum h' (s.heap.objs.size + 1) s.heap.objs.size 0 .none → h'.IsTupleIter s.heap.objs.size t 0 → (∀ b o, s.heap.get? b = some o → h'.get? b = some o) → Q (.ref (s.heap.objs.size + 1)) { s with heap := h' }) :
    wpAny (model prog w) A (call (.type "enumerate") [.ref t]) Q E s := by
  refine callType_new PySem.F.called_enumerate (by decide) (PySem.F.typeCall_enumerate_1 _) (PySem.F.newCall_enumerate_1 _) (fun obj => PySem.F.args_object_init_2 obj _) PySem.F.entry_enumerate_new (enumT_new t items) ⟨hT, ?_⟩
  have hz : (s.heap.push { cls := .type "tuple_iterator", data := .fields #[.ref t, .int 0 0] }).objs.size = s.heap.objs.size + 1 := Heap.size_push ..
  show _ ∧ _
  rw [hz]
  have he : IsEnum ((s.heap.push { cls := .type "tuple_iterator", data := .fields #[.ref t, .int 0 0] }).push { cls := .type "enumerate", data := .fields #[.none, .bool false, .ref s.heap.objs.size, rawInt 0, .none, .none] }) (s.heap.objs.size + 1) s.heap.objs.size 0 .none := by
    have q := Heap.get?_push_size (s.heap.push { cls := .type "tuple_iterator", data := .fields #[.ref t, .int 0 0] }) (o := { cls := .type "enumerate", data := .fields #[.none, .bool false, .ref s.heap.objs.size, rawInt 0, .none, .none] }) rfl
    rw [hz] at q
    exact q
  exact ⟨⟨_, he, rfl⟩, h _ he ⟨_, Heap.get?_push_of_some _ (Heap.get?_push_size _ rfl), rfl, rfl⟩ fun b o x => Heap.get?_push_of_some _ (Heap.get?_push_of_some _ x)⟩
/-- the tuple at a, its items in new pairs with their numbers -/
def IteT (K : PySem.W.Frag) (a : Addr) : It :=
  ⟨fun i H => ∃ (xs : List V) (x : V), SqT K H a xs ∧ xs[i]? = some x, fun i H v H' => ∃ T x, v = .ref T ∧ H T = none ∧ H' = upd H T (.tup [.int (i : Nat), x]) ∧ ∀ xs, SqT K H a xs → xs[i]? = some x, fun i H => ∃ xs : List V, SqT K H a xs ∧ xs.length = i⟩
theorem turn_enumT {P : Program} {w : World} {K : PySem.W.Frag} {elts : List Expr} {kk : Nat} {tpos : Pos} (a e it : Addr) (hne : e ≠ it) (hea : e ≠ a) (hai : a ≠ it) :
    Turn P w K (.Tuple elts kk tpos) (IteT K a) [e, it] e (fun i h => (∃ old, IsEnum h e it ((i : Nat) : Int) old) ∧ h.IsTupleIter it a i) where
  mem := by simp
  obj := fun i h st b hb => by
    obtain ⟨⟨old, he⟩, ⟨o, ho, _, hd⟩⟩ := st
    rcases (show b = e ∨ b = it by simpa using hb) with z | z
    · subst z; exact ⟨_, he, fun v q => nomatch q⟩
    · subst z; exact ⟨o, ho, fun v q => by rw [hd] at q; cases q⟩
  keep := fun i h h' st k => by
    obtain ⟨⟨old, he⟩, hi⟩ := st
    exact ⟨⟨old, k e (by simp) _ he⟩, hi.at fun o q => k it (by simp) o q⟩
  item := by
    intro X hP hw hK hc i pins s σ H E I hf st hg
    subst hP hw hK
    obtain ⟨⟨old, he⟩, hit⟩ := st
    obtain ⟨xs, x, hq, hx⟩ := hg
    obtain ⟨its, rv, p, _⟩ := I.tuple hq
    obtain ⟨u, hu, ru⟩ := rv.get hx
    have hel : e < s.heap.objs.size := Heap.lt_size he
    have hil : it < s.heap.objs.size := by obtain ⟨_, q, _⟩ := hit; exact Heap.lt_size q
    have hlt : i < its.toArray.size := by rw [List.size_toArray]; exact (List.getElem?_eq_some_iff.mp hu).1
    refine wpAny_pyNext_enum_itemD (Draws.tuple (A := X.A.in1) (I.ok.hd hc) it a hai its.toArray) he ⟨hit, p⟩ hlt hne (by simp [hne, hea]) fun y h' tk hy ho hst hT hsz hk => ?_
    have hyu : y = u := by
      have : its[i]? = some y := by simpa using hy
      rw [hu] at this; exact (Option.some.inj this).symm
    subst hyu
    refine ⟨_, rfl, wpAny_letOwnedTupleGo_enum (s := { s with heap := h', toks := tk + 1 }) ho fun h'' he' sb => ?_⟩
    have hT2 : h''.get? s.heap.objs.size = some { cls := .type "tuple", data := .seq #[.int i tk, y] } := (sb.2 _ (Nat.ne_of_gt hel)).trans hT
    have new : ObjOk X.prog X.w (upd H s.heap.objs.size (.tup [.int (i : Nat), x])) h'' s.heap.objs.size (.tup [.int (i : Nat), x]) :=
      ⟨by show 2 ≤ sizeLine; decide, [.int i tk, y], .cons ⟨_, rfl⟩ (.cons ru .nil), ⟨_, hT2, rfl, _, rfl⟩⟩
    have I1 : Inv X pins σ (upd H s.heap.objs.size (.tup [.int (i : Nat), x])) { s with heap := h'', toks := tk + 1 } :=
      I.turnedNew (ch := [e, it]) (fun b ob hb q => (sb.2 b fun z => hb (by simp [z])).trans (hk b ob (fun z => hb (by simp [z])) (fun z => hb (by simp [z])) q)) hf (Nat.le_refl _) new
    refine ⟨.ref s.heap.objs.size, _, I1, rfl, ⟨_, x, rfl, I.hok.fresh (Nat.le_refl _), rfl, fun ys hy => by rw [I.tuple_inj hy hq]; exact hx⟩, ⟨⟨y, ?_⟩, hst.1.at fun o q => (sb.2 it (Ne.symm hne)).trans q⟩, fun b hb => ?_⟩
    · rw [show ((i + 1 : Nat) : Int) = (i : Int) + 1 by omega]
      exact he'
    · have hb' : b < s.heap.objs.size := by
        rcases (show b = e ∨ b = it by simpa using hb) with z | z
        · subst z; exact hel
        · subst z; exact hil
      rw [upd_ne (Nat.ne_of_lt hb')]
      exact (hf b hb).1
  done := by
    intro X hP hw hK hc i pins s σ H E I hf st hg
    subst hP hw hK
    obtain ⟨⟨old, he⟩, hit⟩ := st
    obtain ⟨xs, hq, hx⟩ := hg
    obtain ⟨its, rv, p, _⟩ := I.tuple hq
    obtain ⟨f0, f1, _, f3, f4, f5⟩ := hf it (by simp)
    have hl : its.toArray.size = i := by rw [List.size_toArray, ← rv.length]; exact hx
    exact wpAny_pyNext_enum_endD (Draws.tuple (A := X.A.in1) (I.ok.hd hc) it a hai its.toArray) he ⟨hl ▸ hit, p⟩ fun h' eb => ⟨rfl, I.turned (t' := s.toks) (fun b o hb q => eb b o hb q) f0 f1 f3 f4 f5⟩
  self := fun A i s Q E st h => by
    obtain ⟨⟨_, he⟩, _⟩ := st
    exact wpAny_pyIter_enum he h
def iEnumT (K : PySem.W.Frag) (ta : TA) : TI := fun σ H R => ta σ H fun vs H1 => ∃ a xs, vs = [.ref a] ∧ SqT K H1 a xs ∧ R (IteT K a) H1
theorem pi_enumT {X : Cx} {e : Expr} {ta : TA} {p pos tpos : Pos} {elts : List Expr} {kk : Nat} (hg : Gl X "enumerate") (hm : X.mg "enumerate" = none) (ha : PA X [e] ta) (hs : starEach [e] X.env = [(false, eval e X.env)]) :
    PI X (.Tuple elts kk tpos) (.Call (.Name "enumerate" p) [e] [] pos) (iEnumT X.K ta) := by
  refine ⟨fun pins s σ H R I h => ?_⟩
  refine Call_ (ld_blt I hg hm boot_enumerate (PyProof.Rows.callWith_type1 (thn (ha.run pos pins s σ H _ I h) fun us s1 ⟨vs, H1, I1, r1, a, xs, ex, hq, q⟩ => ?_) hs rfl))
  subst ex
  cases r1 with
  | cons r rr =>
    cases rr
    cases r
    obtain ⟨its, rv, p', hz⟩ := I1.tuple hq
    refine call_enumT p' fun h' he hit hk => wpAny_pyIter_enum he ?_
    have hal : a < s1.heap.objs.size := p'.lt
    have I2 : Inv X pins σ H1 { s1 with heap := h' } := I1.kept (t' := s1.toks) hk
    refine ⟨s1.heap.objs.size + 1, [s1.heap.objs.size + 1, s1.heap.objs.size], _, _, H1, rfl, I2, turn_enumT a (s1.heap.objs.size + 1) s1.heap.objs.size (Nat.succ_ne_self _) (Nat.ne_of_gt (Nat.lt_succ_of_lt hal)) (Nat.ne_of_lt hal), ⟨⟨.none, he⟩, hit⟩, fun b hb => ?_, q⟩
    have hle : s1.heap.objs.size ≤ b := by
      rcases (show b = s1.heap.objs.size + 1 ∨ b = s1.heap.objs.size by simpa using hb) with z | z
      · rw [z]; exact Nat.le_succ _
      · rw [z]; exact Nat.le_refl _
    exact I1.fpOk hle (I1.hok.fresh hle)
end PY

set_option Elab.async false
set_option linter.all false
set_option maxRecDepth 100000
set_option maxHeartbeats 1000000
/-! SoZ: for x, y in zip(a tuple, a list). -/
namespace PY
open PySem PySem.Spec PyProof.Rows L2 PySem.W
abbrev zm1 (g : Heap) (t : Addr) : Heap := g.push { cls := .type "tuple_iterator", data := .fields #[.ref t, .int 0 0] }
abbrev zm2 (g : Heap) (t l : Addr) : Heap := (zm1 g t).push { cls := .type "list_iterator", data := .fields #[.ref l, .int 0 0] }
abbrev zm3 (g : Heap) (t l : Addr) : Heap := (zm2 g t l).push { cls := .type "tuple", data := .seq #[.ref g.objs.size, .ref (zm1 g t).objs.size] }
abbrev zm4 (g : Heap) (t l : Addr) : Heap := (zm3 g t l).push { cls := .type "tuple", data := .seq #[.none, .none] }
abbrev zm5 (g : Heap) (t l : Addr) : Heap := (zm4 g t l).push { cls := .type "zip", data := .fields #[.none, .bool false, .bool false, .ref (zm2 g t l).objs.size, .ref (zm3 g t l).objs.size] }
theorem zipM_new (t l : Addr) (us ws : Array Value) : Meets (Builtin.«zip.__new__» ⟨[.type "zip", .ref t, .ref l], []⟩)
    (fun _ R s => s.heap.IsTuple t us ∧ s.heap.IsList l ws ∧ R (.ok (.ret (.ref (zm4 s.heap t l).objs.size))) { s with heap := zm5 s.heap t l }) :=
  .of_wp fun prog w A R s h => by
    obtain ⟨hp, g, d, tk, os⟩ := s
    obtain ⟨ht, hl, h⟩ := h
    have sub := sub_zip
    have q1 : Heap.IsTuple (Shared.heap ⟨hp, g, d, tk, os⟩) t us := ht
    have q2 : Heap.IsList (Shared.heap ⟨zm1 hp t, g, d, tk, os⟩) l ws := Heap.IsList.push hl _
    wp_walk using wpAny_pyIter_tuple q1, wpAny_pyIter_list q2
    exact ⟨_, rfl, h⟩
theorem call_zipM {prog : Program} {w : World} {A : Around} {E : Value → Shared → Prop} {s : Shared} {t l : Addr} {us ws : Array Value} {Q : Value → Shared → Prop} (ht : s.heap.IsTuple t us) (hl : s.heap.IsList l ws)
    (h : ∀ g, IsZip g (s.heap.objs.size + 4) (s.heap.objs.size + 2) (s.heap.objs.size + 3) .none → IsPair g (s.heap.objs.size + 2) (.ref s.heap.objs.size) (.ref (s.heap.objs.size + 1)) → IsPair g (s.heap.objs.size + 3) .none .none →
      g.IsTupleIter s.heap.objs.size t 0 → g.IsListIter (s.heap.objs.size + 1) l 0 → (∀ b o, s.heap.get? b = some o → g.get? b = some o) → Q (.ref (s.heap.objs.size + 4)) { s with heap := g }) :
    wpAny (model prog w) A (call (.type "zip") [.ref t, .ref l]) Q E s := by
  refine callType_new PySem.F.called_zip (by decide) (PySem.F.typeCall_zip_2 _ _) (PySem.F.newCall_zip_2 _ _) (fun obj => PySem.F.args_object_init_3 obj _ _) PySem.F.entry_zip_new (zipM_new t l us ws) ⟨ht, hl, ?_⟩
  have n1 : (zm1 s.heap t).objs.size = s.heap.objs.size + 1 := Heap.size_push ..
  have n2 : (zm2 s.heap t l).objs.size = s.heap.objs.size + 2 := by rw [Heap.size_push, n1]
  have n3 : (zm3 s.heap t l).objs.size = s.heap.objs.size + 3 := by rw [Heap.size_push, n2]
  have n4 : (zm4 s.heap t l).objs.size = s.heap.objs.size + 4 := by rw [Heap.size_push, n3]
  have up {x : Heap} {o o' : Obj} {b : Addr} (e : x.get? b = some o') : (x.push o).get? b = some o' := Heap.get?_push_of_some _ e
  have a5 : (zm5 s.heap t l).get? (zm4 s.heap t l).objs.size = some _ := Heap.get?_push_size _ rfl
  have a4 : (zm5 s.heap t l).get? (zm3 s.heap t l).objs.size = some _ := up (o' := { cls := .type "tuple", data := .seq #[.none, .none] }) (Heap.get?_push_size _ rfl)
  have a3 : (zm5 s.heap t l).get? (zm2 s.heap t l).objs.size = some _ := up (o' := { cls := .type "tuple", data := .seq #[.ref s.heap.objs.size, .ref (zm1 s.heap t).objs.size] }) (up (Heap.get?_push_size _ rfl))
  have a2 : (zm5 s.heap t l).get? (zm1 s.heap t).objs.size = some _ := up (o' := { cls := .type "list_iterator", data := .fields #[.ref l, .int 0 0] }) (up (up (Heap.get?_push_size _ rfl)))
  have a1 : (zm5 s.heap t l).get? s.heap.objs.size = some _ := up (o' := { cls := .type "tuple_iterator", data := .fields #[.ref t, .int 0 0] }) (up (up (up (Heap.get?_push_size _ rfl))))
  show _ ∧ _
  rw [n2, n3, n4] at a5
  rw [n3] at a4
  rw [n1, n2] at a3
  rw [n1] at a2
  rw [n4]
  exact ⟨⟨_, a5, rfl⟩, h _ a5 a3 a4 ⟨_, a1, rfl, rfl⟩ ⟨_, a2, rfl, rfl⟩ fun b o e => up (up (up (up (up e))))⟩
/-- the tuple at a and the list at b as they stand at each turn, the items in new pairs -/
def ItzM (K : PySem.W.Frag) (a b : Addr) : It :=
  ⟨fun i H => ∃ (us ws : List V) (x y : V), SqT K H a us ∧ SqL K H b ws ∧ us[i]? = some x ∧ ws[i]? = some y,
    fun i H v H' => ∃ T x y, v = .ref T ∧ H T = none ∧ H' = upd H T (.tup [x, y]) ∧ (∀ us, SqT K H a us → us[i]? = some x) ∧ ∀ ws, SqL K H b ws → ws[i]? = some y,
    fun i H => ∃ us ws : List V, SqT K H a us ∧ SqL K H b ws ∧ (us.length = i ∧ i ≤ ws.length ∨ i ≤ us.length ∧ ws.length = i)⟩
theorem sep_of {z TI TO i1 i2 a b : Addr} (D : ZipApart z TI TO i1 i2 a b) : ZipSep2 z TI TO i1 i2 [i1, a] [i2, b] where
  TIz := D.TIz
  TOz := D.TOz
  TITO := D.TITO
  TIi1 := D.TIi1
  mem1 := by simp
  zf1 := by simp [Ne.symm D.i1z, Ne.symm D.l1z]
  Tf1 := by simp [D.TOi1, Ne.symm D.l1TO]
  TIi2 := D.TIi2
  mem2 := by simp
  zf2 := by simp [Ne.symm D.i2z, Ne.symm D.l2z]
  Tf2 := by simp [D.TOi2, Ne.symm D.l2TO]
  sep1_2 := by simp [D.i12, Ne.symm D.l2i1]
  sep2_1 := by simp [Ne.symm D.i12, Ne.symm D.l1i2]
theorem turn_zipM {P : Program} {w : World} {K : PySem.W.Frag} {elts : List Expr} {kk : Nat} {tpos : Pos} {a b z TI TO i1 i2 : Addr} (D : ZipApart z TI TO i1 i2 a b) :
    Turn P w K (.Tuple elts kk tpos) (ItzM K a b) [z, TI, TO, i1, i2] z (fun i g => IsZip g z TI TO .none ∧ IsPair g TI (.ref i1) (.ref i2) ∧ (∃ x y, IsPair g TO x y) ∧ g.IsTupleIter i1 a i ∧ g.IsListIter i2 b i) where
  mem := by simp
  obj := fun i g st c hc => by
    obtain ⟨s1, s2, ⟨x, y, s3⟩, ⟨o1, e1, _, d1⟩, ⟨o2, e2, _, d2⟩⟩ := st
    rcases (show c = z ∨ c = TI ∨ c = TO ∨ c = i1 ∨ c = i2 by simpa using hc) with rfl | rfl | rfl | rfl | rfl
    · exact ⟨_, s1, fun v q => nomatch q⟩
    · exact ⟨_, s2, fun v q => nomatch q⟩
    · exact ⟨_, s3, fun v q => nomatch q⟩
    · exact ⟨o1, e1, fun v q => by rw [d1] at q; cases q⟩
    · exact ⟨o2, e2, fun v q => by rw [d2] at q; cases q⟩
  keep := fun i g g' st k => by
    obtain ⟨s1, s2, ⟨x, y, s3⟩, s4, s5⟩ := st
    exact ⟨k z (by simp) _ s1, k TI (by simp) _ s2, ⟨x, y, k TO (by simp) _ s3⟩, s4.at fun o q => k i1 (by simp) o q, s5.at fun o q => k i2 (by simp) o q⟩
  item := by
    intro X hP hw hK hc i pins s σ H E I hf st hg
    subst hP hw hK
    obtain ⟨s1, s2, ⟨x0, y0, s3⟩, s4, s5⟩ := st
    obtain ⟨us, ws, x, y, qx, qy, ex, ey⟩ := hg
    obtain ⟨its, rv, p, _⟩ := I.tuple qx
    obtain ⟨its2, rv2, p2, _⟩ := I.list qy
    obtain ⟨u, hu, ru⟩ := rv.get ex
    obtain ⟨u2, hu2, ru2⟩ := rv2.get ey
    have zl : z < s.heap.objs.size := Heap.lt_size s1
    have k1 : i < its.toArray.size := by rw [List.size_toArray]; exact (List.getElem?_eq_some_iff.mp hu).1
    have k2 : i < its2.toArray.size := by rw [List.size_toArray]; exact (List.getElem?_eq_some_iff.mp hu2).1
    refine wpAny_pyNext_zipD2_item (sep_of D) (Draws.tuple (A := X.A.in1) (I.ok.hd hc) i1 a D.l1i1 its.toArray) (Draws.list (A := X.A.in1) (I.ok.hd hc) i2 b D.l2i2 its2.toArray) s1 s2 s3 ⟨s4, p⟩ ⟨s5, p2.isList⟩ k1 k2 fun v1 v2 g tk e1 e2 z' t' m1 m2 nt _ hk => ?_
    have r1 : its[i]? = some v1 := by simpa using e1
    have r2 : its2[i]? = some v2 := by simpa using e2
    rw [hu] at r1
    rw [hu2] at r2
    cases r1
    cases r2
    refine ⟨_, rfl, wpAny_letOwnedTupleGo_zip (s := { s with heap := g, toks := tk }) z' fun g2 z2 sb => ?_⟩
    have nt2 : g2.get? s.heap.objs.size = some { cls := .type "tuple", data := .seq #[u, u2] } := (sb.2 _ (Nat.ne_of_gt zl)).trans nt
    have new : ObjOk X.prog X.w (upd H s.heap.objs.size (.tup [x, y])) g2 s.heap.objs.size (.tup [x, y]) := ⟨by show 2 ≤ sizeLine; decide, [u, u2], .cons ru (.cons ru2 .nil), ⟨_, nt2, rfl, _, rfl⟩⟩
    have out {c : Addr} (hb : c ∉ [z, TI, TO, i1, i2]) : c ≠ z ∧ c ≠ TO ∧ c ≠ i1 ∧ c ≠ i2 := by
      simp only [List.mem_cons, List.not_mem_nil, or_false, not_or] at hb
      exact ⟨hb.1, hb.2.2.1, hb.2.2.2.1, hb.2.2.2.2⟩
    have I1 : Inv X pins σ (upd H s.heap.objs.size (.tup [x, y])) { s with heap := g2, toks := tk } :=
      I.turnedNew (ch := [z, TI, TO, i1, i2]) (fun c o hb q => (sb.2 c (out hb).1).trans (hk c o (out hb).1 (out hb).2.1 (out hb).2.2.1 (out hb).2.2.2 q)) hf (Nat.le_refl _) new
    refine ⟨.ref s.heap.objs.size, _, I1, rfl, ⟨_, x, y, rfl, I.hok.fresh (Nat.le_refl _), rfl, fun l hl => by rw [I.tuple_inj hl qx]; exact ex, fun l hl => by rw [I.list_inj hl qy]; exact ey⟩, ⟨z2, ?_, ⟨u, u2, ?_⟩, ?_, ?_⟩, fun c hcm => ?_⟩
    · exact (sb.2 _ D.TIz).trans (hk _ _ D.TIz D.TITO D.TIi1 D.TIi2 s2)
    · exact (sb.2 _ D.TOz).trans t'
    · exact m1.1.at fun o q => (sb.2 _ D.i1z).trans q
    · exact m2.1.at fun o q => (sb.2 _ D.i2z).trans q
    · have hlt : c < s.heap.objs.size := by
        obtain ⟨_, e4, _⟩ := s4
        obtain ⟨_, e5, _⟩ := s5
        rcases (show c = z ∨ c = TI ∨ c = TO ∨ c = i1 ∨ c = i2 by simpa using hcm) with rfl | rfl | rfl | rfl | rfl
        · exact zl
        · exact Heap.lt_size s2
        · exact Heap.lt_size s3
        · exact Heap.lt_size e4
        · exact Heap.lt_size e5
      rw [upd_ne (Nat.ne_of_lt hlt)]
      exact (hf c hcm).1
  done := by
    intro X hP hw hK hc i pins s σ H E I hf st hg
    subst hP hw hK
    obtain ⟨s1, s2, ⟨x0, y0, s3⟩, s4, s5⟩ := st
    obtain ⟨us, ws, qx, qy, hend⟩ := hg
    obtain ⟨its, rv, p, _⟩ := I.tuple qx
    obtain ⟨its2, rv2, p2, _⟩ := I.list qy
    have l1 : its.toArray.size = us.length := by rw [List.size_toArray, ← rv.length]
    have l2 : its2.toArray.size = ws.length := by rw [List.size_toArray, ← rv2.length]
    refine wpAny_pyNext_zipD2_end (sep_of D) (Draws.tuple (A := X.A.in1) (I.ok.hd hc) i1 a D.l1i1 its.toArray) (Draws.list (A := X.A.in1) (I.ok.hd hc) i2 b D.l2i2 its2.toArray) s1 s2 s3 ⟨s4, p⟩ ⟨s5, p2.isList⟩ (by omega) (by omega) (by omega) fun g tk hk => ?_
    have out {c : Addr} (hb : c ∉ [z, TI, TO, i1, i2]) : c ≠ z ∧ c ≠ TO ∧ c ≠ i1 ∧ c ≠ i2 := by
      simp only [List.mem_cons, List.not_mem_nil, or_false, not_or] at hb
      exact ⟨hb.1, hb.2.2.1, hb.2.2.2.1, hb.2.2.2.2⟩
    exact ⟨rfl, I.turnedL (ch := [z, TI, TO, i1, i2]) (fun c o hb q => hk c o (out hb).1 (out hb).2.1 (out hb).2.2.1 (out hb).2.2.2 q) hf⟩
  self := fun A i s Q E st h => wpAny_pyIter_zip st.1 h
/-- zip of two lists, of two tuples, of a tuple and a list -/
def iZipM (K : PySem.W.Frag) (ta : TA) : TI := fun σ H R => ta σ H fun vs H1 => ∃ a b us ws, vs = [.ref a, .ref b] ∧ SqT K H1 a us ∧ SqL K H1 b ws ∧ R (ItzM K a b) H1
theorem pi_zipM {X : Cx} {e e2 : Expr} {ta : TA} {p pos tpos : Pos} {elts : List Expr} {kk : Nat} (hg : Gl X "zip") (hm : X.mg "zip" = none) (ha : PA X [e, e2] ta)
    (hs : starEach [e, e2] X.env = (false, eval e X.env) :: starEach [e2] X.env) (hpl : (backTo pos (starEach [e2] X.env)).any (·.1) = false) :
    PI X (.Tuple elts kk tpos) (.Call (.Name "zip" p) [e, e2] [] pos) (iZipM X.K ta) := by
  refine ⟨fun pins s σ H R I h => ?_⟩
  refine Call_ (ld_blt I hg hm PyProof.Rows.boot_zip (PyProof.Rows.callWith_type1 (thn (ha.run pos pins s σ H _ I h) fun us s1 ⟨vs, H1, I1, r1, a, b, xs, ys, ex, qx, qy, q⟩ => ?_) hs hpl))
  subst ex
  obtain ⟨u1, u2, rfl, rfl, rfl⟩ : ∃ u1 u2, us = [u1, u2] ∧ u1 = Value.ref a ∧ u2 = Value.ref b := by
    cases r1 with
    | cons r rr =>
      cases rr with
      | cons r' rr =>
        cases rr
        cases r
        cases r'
        exact ⟨_, _, rfl, rfl, rfl⟩
  obtain ⟨its, rv, p1, _⟩ := I1.tuple qx
  obtain ⟨its2, rv2, p2, _⟩ := I1.list qy
  obtain ⟨o1, ho1, _⟩ := id p1
  refine call_zipM (show s1.heap.IsTuple a its.toArray from p1) p2.isList fun g hz hTI hTO h1 h2 hk => wpAny_pyIter_zip hz ?_
  have I2 : Inv X pins σ H1 { s1 with heap := g } := I1.kept (t' := s1.toks) hk
  refine ⟨s1.heap.objs.size + 4, [s1.heap.objs.size + 4, s1.heap.objs.size + 2, s1.heap.objs.size + 3, s1.heap.objs.size, s1.heap.objs.size + 1], _, _, H1, rfl, I2, turn_zipM (PySem.W.ktu_apart s1.heap.objs.size a b (Heap.lt_size ho1) p2.lt), ⟨hz, hTI, ⟨_, _, hTO⟩, h1, h2⟩, fun c hcm => ?_, q⟩
  have hle : s1.heap.objs.size ≤ c := by
    rcases (show c = s1.heap.objs.size + 4 ∨ c = s1.heap.objs.size + 2 ∨ c = s1.heap.objs.size + 3 ∨ c = s1.heap.objs.size ∨ c = s1.heap.objs.size + 1 by simpa using hcm) with rfl | rfl | rfl | rfl | rfl <;> omega
  exact I1.fpOk hle (I1.hok.fresh hle)
end PY

set_option Elab.async false
set_option linter.all false
set_option maxRecDepth 100000
set_option maxHeartbeats 1000000
/-! So7: things taken out of lists, what is walked, comprehensions, calls of defs. -/
namespace PY
open PySem PySem.Spec PyProof.Rows L2
/-- a list of leaves at a place, and what stands behind its change -/
theorem flatAt {K : PySem.W.Frag} {Z P : Ad} {F : Nat → Ad} {env : Env} {σ : L2.St} {H : Hp} {p : Pl} {ds : List D} (st : Sta K Z P F env σ H) (sp : simpleP p = true) (e : getP p env = some (.fl ds)) :
    ∃ a us, valP (F (rt p)) σ H p (.ref a) ∧ H a = some (.lst us) ∧ RZ K Z H us ds ∧ F (rt p) a ∧
      ∀ ds' env' us', setP p env (.fl ds') = some env' → RZ K Z H us' ds' → ∃ F', Sta K Z P F' env' σ (upd H a (.lst us')) ∧ Step Z P H Z (upd H a (.lst us')) ∧ ∀ i b, F' i b → F i b := by
  obtain ⟨v, B, Cc, h1, r, s1, s2, s3, f⟩ := lens st p _ sp e
  obtain ⟨a, us, rfl, h2, h3, h4⟩ := r.flat
  refine ⟨a, us, h1, h2, h3, s1 a h4, fun ds' env' us' es rz => ?_⟩
  obtain ⟨m0, v0, g1, g2, g3⟩ := f _ env' es
  have nz : ∀ b, Z b → b ≠ a := fun b z e => by subst e; exact st.fz _ _ (s1 b h4) z
  have kz : Keep Z H (upd H a (.lst us')) := ⟨fun b z => upd_ne (nz b z), fun b ws e => by
    by_cases hb : b = a
    · subst hb; rw [h2] at e; cases e
    · rw [upd_ne hb]; exact e⟩
  have r0 : RO K Z (upd H a (.lst us')) (.ref a) (.fl ds') (fun b => b = a) := .fl upd_same (rz.keep kz fun _ z => z) rfl (B := fun _ => False) (fun z => z) (fun _ z => z.elim) .nil
  have r1 := g3 _ Z (fun b => b = a) kz (fun _ z => z) (fun b z => upd_ne fun e => by subst e; exact s3 b h4 z) r0 fun b e z => by subst e; exact s3 b h4 z
  have nz : ∀ b, Z b → b ≠ a := fun b z e => by subst e; exact st.fz _ _ (s1 b h4) z
  have np : ∀ b, P b → b ≠ a := fun b z e => by subst e; exact st.fp _ _ (s1 b h4) z
  have kp : Keep (fun b => Z b ∨ P b) H (upd H a (.lst us')) := ⟨fun b z => upd_ne (z.elim (nz b) (np b)), kz.tup⟩
  have dm : ∀ b, H b ≠ none → upd H a (.lst us') b ≠ none := fun b h => by
    by_cases hb : b = a
    · subst hb; rw [upd_same]; exact fun z => nomatch z
    · rw [upd_ne hb]; exact h
  subst g2
  have sub : ∀ b, b = a ∨ Cc b → F (rt p) b := fun b z => z.elim (fun e => e ▸ s1 a h4) (s2 b)
  refine ⟨_, st.put g1 kp (fun _ z => z) (fun _ z => .inl z) (fun b z => dm b (st.dz b z)) (fun j b hj fj => upd_ne fun e => by subst e; exact hj (st.ff _ _ _ fj (s1 b h4))) r1 (fun j b hj z fj => hj (st.ff _ _ _ fj (sub b z))) (fun b z => st.fz _ b (sub b z)) (fun b z => st.fp _ b (sub b z)) (fun b z => dm b (st.df _ b (sub b z))), ⟨fun _ z => z, kp⟩, fun i b h => ?_⟩
  rcases h with ⟨rfl, h⟩ | ⟨_, h⟩
  · exact sub b h
  · exact h
theorem isL_at {K : PySem.W.Frag} {Z P : Ad} {F : Nat → Ad} {env : Env} {σ : L2.St} {H : Hp} {p : Pl} {u : Unit} (st : Sta K Z P F env σ H) (sp : simpleP p = true) (e : (getP p env).bind M.isL = some u) :
    ∃ (v : V) (a : Addr) (us : List V), valP (F (rt p)) σ H p v ∧ v = .ref a ∧ H a = some (.lst us) := by
  simp only [Option.bind_eq_some_iff] at e
  obtain ⟨m, e1, e2⟩ := e
  obtain ⟨v, B, Cc, h1, r, _⟩ := lens st p m sp e1
  cases m <;> simp [M.isL] at e2
  · obtain ⟨a, us, rfl, h2, _⟩ := r.flat
    exact ⟨_, a, us, h1, rfl, h2⟩
  · obtain ⟨a, us, _, rfl, h2, _⟩ := r.nest
    exact ⟨_, a, us, h1, rfl, h2⟩
theorem place_same {S S' : Ad} {σ : L2.St} {H H' : Hp} {p : Pl} {v v' : V} {q : Bool} (hq : (isVp p || q) = true) (h : valP S σ H p v) (h' : valP S' σ H' p v') (k : q = true → ∀ b, S b → H' b = H b) : v = v' := by
  cases p with
  | v i =>
    have e1 : σ[i]? = some (some v) := h
    have e2 : σ[i]? = some (some v') := h'
    rw [e1] at e2
    cases e2; rfl
  | _ => exact valP_one h h' (k (by simpa [isVp] using hq))
section
variable {I : Info} {C : Nat → List Sl → CR} {W : WX} {X : Cx} {n : Nat} {c : Ctx}
theorem ixN_range {n : Nat} {i : Int} {j : Nat} (hn : n ≤ 16777216) (h : ixN n i = some j) : -(2 ^ 63) ≤ i ∧ i < 2 ^ 63 ∧ seqIndex? i n = some j := by
  obtain ⟨h1, h2, h3, h4⟩ := ixN_seq h
  exact ⟨by omega, by omega, h1⟩
theorem snd_pop (ok : CtxOk I n c X) {p : Pl} {x : Expr} {nm : Str} {ap pos : Pos} (hn : nm = "pop") (hb : baseOk x = true) (hl : (ap.endLine == pos.line) = true) (h : plX c p x = true) : PE X (.Call (.Attribute x nm ap) [] [] pos) (tM I C W (.pop p)) := by
  subst hn
  refine (pe_bm0 PySem.F.plainAttrs_list PySem.F.slot_list_pop PySem.F.type_list_pop (mt_pop (X := X)) (pe_place ok p x h) (base_of hb) hl).imp fun σ H Q ⟨Z, P, F, env, st, w⟩ => ?_
  simp only [ev, Den.ofM, Wp.bind, Wp.opt, Wp.ok, Option.bind_eq_some_iff] at w
  obtain ⟨mx, ⟨m, e1, e2⟩, env', e3, w⟩ := w
  cases m <;> simp only [popM, reduceCtorEq, Option.map_eq_some_iff] at e2
  obtain ⟨d, e2, rfl⟩ := e2
  obtain ⟨a, us, h1, h2, h3, h4, f⟩ := flatAt st (simple_of h) e1
  obtain ⟨y, hy, ry⟩ := h3.get e2
  rw [← h3.length] at hy
  refine ⟨_, _, h1, .inl ⟨rfl, us, SqL.of h2⟩, a, us, y, rfl, rfl, h2, hy, ?_⟩
  obtain ⟨F', s2, stp, _⟩ := f _ _ us.dropLast e3 h3.dropLast
  exact w y Z F' _ (fun _ => False) ⟨s2.narrow fun _ z => z.elim id False.elim, stp, .p (ry.keep (stp.kp.mono fun _ z => .inl z) fun _ z => z) .nil, fun _ z => z.elim, fun z => nomatch z⟩
theorem snd_popAt (ok : CtxOk I n c X) {p : Pl} {a : Tm} {x y : Expr} {nm : Str} {ap pos : Pos} (hn : nm = "pop") (hb : baseOk x = true) (hl : (ap.endLine == pos.line) = true) (h : plX c p x = true) (hst : noStar y = true) (hq : (isVp p || qui a) = true) (ha : PE X y (tE I C W a)) :
    PE X (.Call (.Attribute x nm ap) [y] [] pos) (tM I C W (.popAt p a)) := by
  subst hn
  refine (pe_bm PySem.F.plainAttrs_list PySem.F.slot_list_pop PySem.F.type_list_pop (mt_popAt (X := X)) (pe_place ok p x h) (pa_cons ha pa_nil (star_of hst)) (base_of hb) (by rw [star_of hst]; rfl) hl (star_of hst) rfl).imp fun σ H Q ⟨Z, P, F, env, st, w⟩ => ?_
  simp only [ev, Den.ofM, Wp.bind, Wp.opt, Wp.ok] at w
  obtain ⟨_, eL, w⟩ := w
  obtain ⟨v0, a0, us0, h1, e0, h2⟩ := isL_at st (simple_of h) eL
  subst e0
  refine ⟨_, _, h1, .inl ⟨rfl, us0, SqL.of h2⟩, Z, P, F, env, st, w.mono (fun d e1 w1 v Z1 F1 H1 r1 => ?_) fun _ _ h => h⟩
  obtain ⟨mx, em, env', es, w1⟩ := w1
  simp only [Option.bind_eq_some_iff] at em
  obtain ⟨m, eg, i, ei, em⟩ := em
  cases m <;> simp only [popMAt, reduceCtorEq] at em
  split at em
  case isFalse => cases em
  rename_i hs
  simp only [small62, Bool.and_eq_true, decide_eq_true_eq] at hs
  simp only [Option.bind_eq_some_iff, Option.map_eq_some_iff] at em
  obtain ⟨j, ej, d', ed, rfl⟩ := em
  have hv : v = .int i := by cases d <;> simp [dInt] at ei; subst ei; exact r1.rw.eInt
  subst hv
  obtain ⟨a, us, g1, g2, g3, g4, f⟩ := flatAt r1.st (simple_of h) eg
  have e := place_same hq h1 g1 fun hq b fb => by
    obtain ⟨q1, q2, q3⟩ := r1.qt hq
    exact q3 _ b fb
  cases e
  obtain ⟨y, hy, ry⟩ := g3.get ed
  refine ⟨a0, us, i, j, y, rfl, rfl, g2, by omega, by omega, by rw [g3.length]; exact (ixN_seq ej).1, hy, ?_⟩
  obtain ⟨F', s2, stp, _⟩ := f _ _ (us.eraseIdx j) es (g3.eraseIdx j)
  exact w1 y Z1 F' _ (fun _ => False) ⟨s2.narrow fun _ z => z.elim id False.elim, r1.stp.trans stp fun _ h => h, .p (ry.keep (stp.kp.mono fun _ z => .inl z) fun _ z => z) .nil, fun _ z => z.elim, fun z => nomatch z⟩
theorem snd_mv (ok : CtxOk I n c X) {i : Nat} {x : Str} {pos : Pos} (h : varB c i x = true) : PE X (.Name x pos) (tM I C W (.mv i)) := by
  refine (pe_var_of ok h).imp fun σ H Q ⟨Z, P, F, env, st, w⟩ => ?_
  simp only [ev, Den.ofM, Wp.bind, Wp.opt, Wp.ok] at w
  obtain ⟨m, em, w⟩ := w
  have e1 : env[i]? = some (.m m) := by
    unfold slM at em
    split at em <;> cases em
    assumption
  obtain ⟨v, h1, h2⟩ := st.sm i m e1
  refine ⟨v, h1, w v Z (fun j a => j ≠ i ∧ F j a) H (F i) ⟨⟨by rw [List.length_set]; exact st.len, fun j d e => ?_, fun j d e => ?_, fun j k a f g => st.ff j k a f.2 g.2, fun j a f => st.fz j a f.2, fun j a f p => ?_, fun a z p => ?_, fun j a f => st.df j a f.2, st.dz, fun a p => p.elim (st.dp a) (st.df i a)⟩, Step.refl, h2, fun a f => st.fp i a f, fun z => nomatch z⟩⟩
  · by_cases hj : i = j
    · subst hj
      rw [List.getElem?_set] at e
      simp only [if_true] at e
      split at e <;> cases e
    · rw [List.getElem?_set_ne hj] at e
      exact st.sd j d e
  · by_cases hj : i = j
    · subst hj
      rw [List.getElem?_set] at e
      simp only [if_true] at e
      split at e <;> cases e
    · rw [List.getElem?_set_ne hj] at e
      obtain ⟨v, h1, h2⟩ := st.sm j d e
      exact ⟨v, h1, h2.wide fun a z => ⟨Ne.symm hj, z⟩⟩
  · rcases p with p | p
    · exact st.fp j a f.2 p
    · exact f.1 (st.ff j i a f.2 p)
  · rcases p with p | p
    · exact st.zp a z p
    · exact st.fz i a p z
/-! ### what is walked -/
theorem wk_list {K : PySem.W.Frag} {Z : Ad} {H : Hp} {a : Addr} {us : List V} {ds : List D} (l : LZ K Z H a us) (r : RZ K Z H us ds) : Wk K Z H (Itl K a) ds :=
  ⟨_, _, r.length ▸ walk_list, fun Z2 H2 zz kp => (l.keep kp zz).sq, fun i d Z2 H2 v H3 e zz kp dz y => by
    obtain ⟨rfl, y⟩ := y
    obtain ⟨w, hw, rw_⟩ := r.get e
    rw [hw] at y
    cases y
    exact ⟨Z2, Grow.refl dz, rw_.keep kp zz⟩⟩
theorem wk_tup {K : PySem.W.Frag} {Z : Ad} {H : Hp} {a : Addr} {us : List V} {ds : List D} (l : TZ K H a us) (r : RZ K Z H us ds) : Wk K Z H (Itt K a) ds :=
  ⟨_, _, r.length ▸ walk_tup, fun Z2 H2 zz kp => (l.keep kp).sq, fun i d Z2 H2 v H3 e zz kp dz y => by
    obtain ⟨rfl, y⟩ := y
    obtain ⟨w, hw, rw_⟩ := r.get e
    rw [hw] at y
    cases y
    exact ⟨Z2, Grow.refl dz, rw_.keep kp zz⟩⟩
theorem wk_range {K : PySem.W.Frag} {Z : Ad} {H : Hp} {lo hi : Int} : Wk K Z H (Itr lo (hi - lo).toNat) (rangeD lo hi) := by
  have hl : (rangeD lo hi).length = (hi - lo).toNat := by simp [rangeD]
  refine ⟨fun _ => True, YFn fun i => .int (lo + i), (by rw [hl]; exact walk_range), fun _ _ _ _ => trivial, fun i d Z2 H2 v H3 e zz kp dz y => ?_⟩
  obtain ⟨rfl, rfl⟩ := y
  refine ⟨Z2, Grow.refl dz, ?_⟩
  simp only [rangeD, List.getElem?_map, Option.map_eq_some_iff] at e
  obtain ⟨j, ej, rfl⟩ := e
  obtain ⟨_, ej⟩ := List.getElem?_eq_some_iff.mp ej
  simp at ej
  subst ej
  exact .int .nil
theorem pair_new {K : PySem.W.Frag} {Z : Ad} {H H3 : Hp} {v x y : V} {d e : D} {T : Addr} (dz : ∀ a, Z a → H a ≠ none) (h1 : v = .ref T) (h2 : H T = none) (h3 : H3 = upd H T (.tup [x, y])) (rx : RV K Z H x d) (ry : RV K Z H y e) : ∃ Z3, Grow Z H Z3 H3 ∧ RV K Z3 H3 v (.tuple [d, e]) := by
  subst h1 h3
  have g := Grow.newT (o := .tup [x, y]) dz h2
  exact ⟨Z, g, .tup (.inl upd_same) (.cons (rx.grow g dz) (ry.grow g dz)) .nil⟩
theorem enumD_get {xs : List D} {i : Nat} {d : D} (h : (enumD xs)[i]? = some d) : ∃ x, xs[i]? = some x ∧ d = .tuple [.int (i : Nat), x] := by
  simp only [enumD, List.getElem?_zipWith] at h
  split at h
  · rename_i a b h1 h2
    cases h
    have : a = i := by
      obtain ⟨_, h1⟩ := List.getElem?_eq_some_iff.mp h1
      simpa using h1.symm
    subst this
    exact ⟨b, h2, rfl⟩
  · cases h
theorem enumD_len {xs : List D} : (enumD xs).length = xs.length := by simp [enumD]
theorem zipD_get {xs ys : List D} {i : Nat} {d : D} (h : (zipD xs ys)[i]? = some d) : ∃ x y, xs[i]? = some x ∧ ys[i]? = some y ∧ d = .tuple [x, y] := by
  simp only [zipD, List.getElem?_zipWith] at h
  split at h
  · cases h
    exact ⟨_, _, by assumption, by assumption, rfl⟩
  · cases h
theorem wk_enum {K : PySem.W.Frag} {Z : Ad} {H : Hp} {a : Addr} {us : List V} {ds : List D} (l : LZ K Z H a us) (r : RZ K Z H us ds) : Wk K Z H (Ite K a) (enumD ds) := by
  have hl : (enumD ds).length = us.length := by rw [enumD_len, r.length]
  refine ⟨_, _, hl ▸ walk_enum, fun Z2 H2 zz kp => (l.keep kp zz).sq, fun i d Z2 H2 v H3 e zz kp dz y => ?_⟩
  obtain ⟨T, x, y', h1, h2, h3, h4, h5⟩ := y
  obtain ⟨x', hx, rfl⟩ := enumD_get e
  obtain ⟨w, hw, rw_⟩ := r.get hx
  cases h4
  have h5 : us[i]? = some y' := h5
  rw [hw] at h5
  cases h5
  exact pair_new dz h1 h2 h3 (.int .nil) (rw_.keep kp zz)
theorem walk_enumT {K : PySem.W.Frag} {a : Addr} {xs : List V} : Walk (IteT K a) xs.length (fun H => SqT K H a xs) (YPair (fun i => some (.int (i : Nat))) (fun i => xs[i]?)) := by
  refine ⟨fun i _ hi q => ⟨xs, xs[i], q, by simp [hi]⟩, fun _ q => ⟨xs, q, rfl⟩, fun i H v H' _ q y => ?_⟩
  obtain ⟨T, x, h1, h2, h3, h4⟩ := y
  exact ⟨T, .int (i : Nat), x, h1, h2, h3, rfl, h4 xs q⟩
theorem wk_enumT {K : PySem.W.Frag} {Z : Ad} {H : Hp} {a : Addr} {us : List V} {ds : List D} (l : TZ K H a us) (r : RZ K Z H us ds) : Wk K Z H (IteT K a) (enumD ds) := by
  have hl : (enumD ds).length = us.length := by rw [enumD_len, r.length]
  refine ⟨_, _, hl ▸ walk_enumT, fun Z2 H2 zz kp => (l.keep kp).sq, fun i d Z2 H2 v H3 e zz kp dz y => ?_⟩
  obtain ⟨T, x, y', h1, h2, h3, h4, h5⟩ := y
  obtain ⟨x', hx, rfl⟩ := enumD_get e
  obtain ⟨w, hw, rw_⟩ := r.get hx
  cases h4
  have h5 : us[i]? = some y' := h5
  rw [hw] at h5
  cases h5
  exact pair_new dz h1 h2 h3 (.int .nil) (rw_.keep kp zz)
theorem wk_zip {K : PySem.W.Frag} {Z : Ad} {H : Hp} {a b : Addr} {us ws : List V} {ds es : List D} (l : LZ K Z H a us) (r : RZ K Z H us ds) (l2 : LZ K Z H b ws) (r2 : RZ K Z H ws es) : Wk K Z H (Itz K a b) (zipD ds es) := by
  have hl : (zipD ds es).length = min us.length ws.length := by rw [r.length, r2.length]; simp [zipD]
  refine ⟨_, _, walk_zip hl, fun Z2 H2 zz kp => ⟨(l.keep kp zz).sq, (l2.keep kp zz).sq⟩, fun i d Z2 H2 v H3 e zz kp dz y => ?_⟩
  obtain ⟨T, x, y', h1, h2, h3, h4, h5⟩ := y
  obtain ⟨x', z', hx, hz, rfl⟩ := zipD_get e
  obtain ⟨w, hw, rw_⟩ := r.get hx
  obtain ⟨w2, hw2, rw2⟩ := r2.get hz
  have h4 : us[i]? = some x := h4
  have h5 : ws[i]? = some y' := h5
  rw [hw] at h4
  cases h4
  rw [hw2] at h5
  cases h5
  exact pair_new dz h1 h2 h3 (rw_.keep kp zz) (rw2.keep kp zz)
theorem walk_zipT {K : PySem.W.Frag} {a b : Addr} {xs ys : List V} {n : Nat} (hn : n = min xs.length ys.length) : Walk (_root_.RZ.ItzT K a b) n (fun H => SqT K H a xs ∧ SqT K H b ys) (YPair (fun i => xs[i]?) (fun i => ys[i]?)) := by
  subst hn
  refine ⟨fun i _ hi q => ?_, fun _ q => ⟨xs, ys, q.1, q.2, by omega⟩, fun i H v H' _ q y => ?_⟩
  · have h1 : i < xs.length := by omega
    have h2 : i < ys.length := by omega
    exact ⟨xs, ys, xs[i], ys[i], q.1, q.2, by simp [h1], by simp [h2]⟩
  · obtain ⟨T, x, z, h1, h2, h3, h4, h5⟩ := y
    exact ⟨T, x, z, h1, h2, h3, h4 xs q.1, h5 ys q.2⟩
theorem wk_zipT {K : PySem.W.Frag} {Z : Ad} {H : Hp} {a b : Addr} {us ws : List V} {ds es : List D} (l : TZ K H a us) (r : RZ K Z H us ds) (l2 : TZ K H b ws) (r2 : RZ K Z H ws es) : Wk K Z H (_root_.RZ.ItzT K a b) (zipD ds es) := by
  have hl : (zipD ds es).length = min us.length ws.length := by rw [r.length, r2.length]; simp [zipD]
  refine ⟨_, _, walk_zipT hl, fun Z2 H2 zz kp => ⟨(l.keep kp).sq, (l2.keep kp).sq⟩, fun i d Z2 H2 v H3 e zz kp dz y => ?_⟩
  obtain ⟨T, x, y', h1, h2, h3, h4, h5⟩ := y
  obtain ⟨x', z', hx, hz, rfl⟩ := zipD_get e
  obtain ⟨w, hw, rw_⟩ := r.get hx
  obtain ⟨w2, hw2, rw2⟩ := r2.get hz
  have h4 : us[i]? = some x := h4
  have h5 : ws[i]? = some y' := h5
  rw [hw] at h4
  cases h4
  rw [hw2] at h5
  cases h5
  exact pair_new dz h1 h2 h3 (rw_.keep kp zz) (rw2.keep kp zz)
theorem ResE.i {K : PySem.W.Frag} {es q : Bool} {Z Z1 P : Ad} {F F1 : Nat → Ad} {H H1 : Hp} {env env1 : Env} {σ : L2.St} {v : V} {d : D} {J : It} {ds : List D} (r : ResE K es q Z P F H env σ Z1 F1 H1 env1 v d) (w : Wk K Z1 H1 J ds) : ResI K q Z P F H env σ Z1 F1 H1 env1 J ds := ⟨r.st, r.stp, w, r.qt⟩
theorem i_of_e (ok : CtxOk I n c X) {x : Tm} {tg e : Expr} (hd : (ev I.GC C x).i = (Den.ofE (ev I.GC C x).e).i) (hx : esc x = true) (h : PE X e (tE I C W x)) : PI X tg e (tI I C W x) := by
  refine ⟨fun pins s σ H R Iv ⟨Z, P, F, env, st, w⟩ => ?_⟩
  rw [hd] at w
  simp only [Den.ofE, Wp.bind, Wp.opt] at w
  cases e1 : (ev I.GC C x).e env with
  | bad => rw [e1] at w; exact w.elim
  | ex y ey => exact (pi_list h).run pins s σ H R Iv ⟨Z, P, F, env, st, by rw [e1] at w ⊢; exact w⟩
  | ok d ed =>
    have w' := w
    rw [e1] at w'
    obtain ⟨ds, e2, w'⟩ := w'
    cases d <;> simp [itemsD] at e2
    · subst e2
      refine (pi_list h).run pins s σ H R Iv ⟨Z, P, F, env, st, ?_⟩
      rw [e1]
      intro v Z1 F1 H1 r1
      obtain ⟨a, us, rfl, l, r⟩ := (r1.es hx).eList
      refine ⟨a, rfl, ⟨us, ok.kk ▸ l.sq⟩, ?_⟩
      rw [ok.kk]
      exact w' _ Z1 F1 H1 (r1.i (wk_list l r))
    · subst e2
      refine (pi_tup h).run pins s σ H R Iv ⟨Z, P, F, env, st, ?_⟩
      rw [e1]
      intro v Z1 F1 H1 r1
      obtain ⟨a, us, rfl, l, r⟩ := (r1.es hx).eTup
      refine ⟨a, rfl, ⟨us, ok.kk ▸ l.sq⟩, ?_⟩
      rw [ok.kk]
      exact w' _ Z1 F1 H1 (r1.i (wk_tup l r))
theorem ResT.i {K : PySem.W.Frag} {q : Bool} {Z Z1 P : Ad} {F F1 : Nat → Ad} {H H1 : Hp} {env env1 : Env} {σ : L2.St} {J : It} {ds : List D} (r : ResT K q Z P F H env σ Z1 F1 H1 env1) (w : Wk K Z1 H1 J ds) : ResI K q Z P F H env σ Z1 F1 H1 env1 J ds := ⟨r.st, r.stp, w, r.qt⟩
theorem small62_of {i : Int} (h : small62 i = true) : -(2 ^ 62) ≤ i ∧ i < 2 ^ 62 := by
  simp only [small62, Bool.and_eq_true, decide_eq_true_eq] at h
  exact h
theorem dint_rw {K : PySem.W.Frag} {Z : Ad} {F : Nat → Ad} {H : Hp} {v : V} {d : D} {i : Int} (r : RW K Z F H v d) (e : dInt (some d) = some i) : v = .int i := by
  cases d <;> simp [dInt] at e
  subst e
  exact r.eInt
theorem snd_rng1 (ok : CtxOk I n c X) (io : InfoOk I) {a : Tm} {x : Str} {tg y : Expr} {p pos : Pos} (hx : x = "range") (hg : glB c.sc x = true) (hst : noStar y = true) (ha : PE X y (tE I C W a)) : PI X tg (.Call (.Name x p) [y] [] pos) (tI I C W (.rng1 a)) := by
  subst hx
  refine (pi_range1 (gl_of ok hg) (bn_of ok io (by decide +kernel)) (pa_cons ha pa_nil (star_of hst)) (by rw [star_of hst]; rfl)).imp fun σ H Q ⟨Z, P, F, env, st, w⟩ => ⟨Z, P, F, env, st, ?_⟩
  simp only [ev, Den.ofI, Wp.bind, Wp.opt, Option.bind_eq_some_iff] at w
  refine w.mono (fun d e1 ⟨ds, ⟨k, ek, e2⟩, w1⟩ v Z1 F1 H1 r1 => ?_) fun _ _ h => h
  split at e2 <;> cases e2
  rename_i hs
  have hs := small62_of hs
  refine ⟨k, by rw [dint_rw r1.rw ek], hs.1, hs.2, ?_⟩
  have := w1 (Itr 0 (k - 0).toNat) Z1 F1 H1 (r1.t.i wk_range)
  rwa [Int.sub_zero] at this
theorem snd_rng2 (ok : CtxOk I n c X) (io : InfoOk I) {a b : Tm} {x : Str} {tg y z : Expr} {p pos : Pos} (hx : x = "range") (hg : glB c.sc x = true) (hst : noStar y = true) (hsz : noStar z = true) (ha : PE X y (tE I C W a)) (hb : PE X z (tE I C W b)) :
    PI X tg (.Call (.Name x p) [y, z] [] pos) (tI I C W (.rng2 a b)) := by
  subst hx
  refine (pi_range2 (gl_of ok hg) (bn_of ok io (by decide +kernel)) (pa_cons ha (pa_cons hb pa_nil (star_of hsz)) (star_of hst)) (by rw [star_of hst, star_of hsz]; rfl) (by rw [star_of hsz]; rfl)).imp fun σ H Q ⟨Z, P, F, env, st, w⟩ => ⟨Z, P, F, env, st, ?_⟩
  simp only [ev, Den.ofI, Wp.bind, Wp.opt, Option.bind_eq_some_iff] at w
  refine w.mono (fun d e1 w1 v Z1 F1 H1 r1 => ⟨Z1, P, F1, e1, r1.st, w1.mono (fun d2 e2 ⟨ds, ⟨k, ek, k2, ek2, e3⟩, w2⟩ v2 Z2 F2 H2 r2 => ?_) fun _ _ h => h.later r1.stp fun _ h => h⟩) fun _ _ h => h
  split at e3 <;> cases e3
  rename_i hs
  simp only [Bool.and_eq_true] at hs
  have hs1 := small62_of hs.1
  have hs2 := small62_of hs.2
  exact ⟨k, k2, by rw [dint_rw r1.rw ek, dint_rw r2.rw ek2], ⟨hs1.1, hs1.2, hs2.1, hs2.2⟩, w2 _ Z2 F2 H2 ((r1.t.trans r2.t).i wk_range)⟩
theorem PI.or {X : Cx} {tg e : Expr} {t t' : TI} (h : PI X tg e t) (h' : PI X tg e t') : PI X tg e (fun σ H R => t σ H R ∨ t' σ H R) := ⟨fun pins s σ H R I q => q.elim (h.run pins s σ H R I) (h'.run pins s σ H R I)⟩
theorem snd_enum (ok : CtxOk I n c X) (io : InfoOk I) {a : Tm} {x : Str} {tg y : Expr} {p pos : Pos} (hx : x = "enumerate") (hg : glB c.sc x = true) (hst : noStar y = true) (hea : esc a = true) (htg : isTup tg = true) (ha : PE X y (tE I C W a)) :
    PI X tg (.Call (.Name x p) [y] [] pos) (tI I C W (.enum a)) := by
  subst hx
  cases tg <;> simp only [isTup, Bool.false_eq_true] at htg
  have s1 : starEach [y] X.env = [(false, eval y X.env)] := by rw [star_of hst]; rfl
  have mE := bn_of (x := "enumerate") ok io (by decide +kernel)
  refine (PI.or (pi_enum (gl_of ok hg) mE (pa_cons ha pa_nil (star_of hst)) s1) (pi_enumT (gl_of ok hg) mE (pa_cons ha pa_nil (star_of hst)) s1)).imp fun σ H Q ⟨Z, P, F, env, st, w⟩ => ?_
  simp only [ev, Den.ofI, Wp.bind, Wp.opt] at w
  cases e1 : (ev I.GC C a).e env with
  | bad => rw [e1] at w; exact w.elim
  | ex y ey => exact .inl ⟨Z, P, F, env, st, by rw [e1] at w ⊢; exact w⟩
  | ok d ed =>
    rw [e1] at w
    obtain ⟨ds, e2, w⟩ := w
    simp only [Option.map_eq_some_iff] at e2
    obtain ⟨xs, e2, rfl⟩ := e2
    cases d <;> simp [itemsD] at e2
    · subst e2
      refine .inl ⟨Z, P, F, env, st, ?_⟩
      rw [e1]
      intro v Z1 F1 H1 r1
      obtain ⟨q, us, rfl, l, r⟩ := (r1.es hea).eList
      refine ⟨q, us, rfl, ok.kk ▸ l.sq, ?_⟩
      rw [ok.kk]
      exact w _ Z1 F1 H1 (r1.t.i (wk_enum l r))
    · subst e2
      refine .inr ⟨Z, P, F, env, st, ?_⟩
      rw [e1]
      intro v Z1 F1 H1 r1
      obtain ⟨q, us, rfl, l, r⟩ := (r1.es hea).eTup
      refine ⟨q, us, rfl, ok.kk ▸ l.sq, ?_⟩
      rw [ok.kk]
      exact w _ Z1 F1 H1 (r1.t.i (wk_enumT l r))
theorem Wp.monoE {α : Type} {r : R α} {Ko Ko' : α → Env → Prop} {Kx Kx' : Ex → Env → Prop} (h : Wp r Ko Kx) (h1 : ∀ a e, r = .ok a e → Ko a e → Ko' a e) (h2 : ∀ a e, Kx a e → Kx' a e) : Wp r Ko' Kx' := by
  cases r with
  | ok a e => exact h1 a e rfl h
  | ex x e => exact h2 x e h
  | bad => exact h
theorem walk_zipM {K : PySem.W.Frag} {a b : Addr} {xs ys : List V} {n : Nat} (hn : n = min xs.length ys.length) : Walk (ItzM K a b) n (fun H => SqT K H a xs ∧ SqL K H b ys) (YPair (fun i => xs[i]?) (fun i => ys[i]?)) := by
  subst hn
  refine ⟨fun i _ hi q => ?_, fun _ q => ⟨xs, ys, q.1, q.2, by omega⟩, fun i H v H' _ q y => ?_⟩
  · have h1 : i < xs.length := by omega
    have h2 : i < ys.length := by omega
    exact ⟨xs, ys, xs[i], ys[i], q.1, q.2, by simp [h1], by simp [h2]⟩
  · obtain ⟨T, x, z, h1, h2, h3, h4, h5⟩ := y
    exact ⟨T, x, z, h1, h2, h3, h4 xs q.1, h5 ys q.2⟩
theorem wk_zipM {K : PySem.W.Frag} {Z : Ad} {H : Hp} {a b : Addr} {us ws : List V} {ds es : List D} (l : TZ K H a us) (r : RZ K Z H us ds) (l2 : LZ K Z H b ws) (r2 : RZ K Z H ws es) : Wk K Z H (ItzM K a b) (zipD ds es) := by
  have hl : (zipD ds es).length = min us.length ws.length := by rw [r.length, r2.length]; simp [zipD]
  refine ⟨_, _, walk_zipM hl, fun Z2 H2 zz kp => ⟨(l.keep kp).sq, (l2.keep kp zz).sq⟩, fun i d Z2 H2 v H3 e zz kp dz y => ?_⟩
  obtain ⟨T, x, y', h1, h2, h3, h4, h5⟩ := y
  obtain ⟨x', z', hx, hz, rfl⟩ := zipD_get e
  obtain ⟨w, hw, rw_⟩ := r.get hx
  obtain ⟨w2, hw2, rw2⟩ := r2.get hz
  have h4 : us[i]? = some x := h4
  have h5 : ws[i]? = some y' := h5
  rw [hw] at h4
  cases h4
  rw [hw2] at h5
  cases h5
  exact pair_new dz h1 h2 h3 (rw_.keep kp zz) (rw2.keep kp zz)
theorem snd_zip (ok : CtxOk I n c X) (io : InfoOk I) {a b : Tm} {x : Str} {tg y z : Expr} {p pos : Pos} (hx : x = "zip") (hg : glB c.sc x = true) (hst : noStar y = true) (hsz : noStar z = true) (hea : esc a = true) (heb : esc b = true) (htg : isTup tg = true) (ha : PE X y (tE I C W a)) (hb : PE X z (tE I C W b)) :
    PI X tg (.Call (.Name x p) [y, z] [] pos) (tI I C W (.zip a b)) := by
  subst hx
  cases tg <;> simp only [isTup, Bool.false_eq_true] at htg
  rename_i elts kk tpos
  have p1 := _root_.RZ.pi_zipA (tpos := tpos) (elts := elts) (kk := kk) (p := p) (pos := pos) (gl_of ok hg) (bn_of ok io (by decide +kernel)) (pa_cons ha (pa_cons hb pa_nil (star_of hsz)) (star_of hst)) (star_of hst) (by rw [star_of hsz]; rfl)
  have p2 := pi_zipM (tpos := tpos) (elts := elts) (kk := kk) (p := p) (pos := pos) (gl_of ok hg) (bn_of ok io (by decide +kernel)) (pa_cons ha (pa_cons hb pa_nil (star_of hsz)) (star_of hst)) (star_of hst) (by rw [star_of hsz]; rfl)
  have po : PI X (.Tuple elts kk tpos) (.Call (.Name "zip" p) [y, z] [] pos) (fun σ H Q => _root_.RZ.iZipA X.K (tCons (tE I C W a) (tCons (tE I C W b) tNil)) σ H Q ∨ iZipM X.K (tCons (tE I C W a) (tCons (tE I C W b) tNil)) σ H Q) :=
    ⟨fun pins s σ H R J h => h.elim (p1.run pins s σ H R J) (p2.run pins s σ H R J)⟩
  refine po.imp fun σ H Q ⟨Z, P, F, env, st, w⟩ => ?_
  simp only [ev, Den.ofI, Wp.bind, Wp.opt] at w
  by_cases mix : ∃ xs e1 ys e2, (ev I.GC C a).e env = .ok (.tuple xs) e1 ∧ (ev I.GC C b).e e1 = .ok (.list ys) e2
  · obtain ⟨xs, e1', ys, e2', m1, m2⟩ := mix
    refine .inr ⟨Z, P, F, env, st, ?_⟩
    refine w.monoE (fun d e1 q1 w1 v Z1 F1 H1 r1 => ⟨Z1, P, F1, e1, r1.st, w1.monoE (fun d2 e2 q2 ⟨ds, e3, w2⟩ v2 Z2 F2 H2 r2 => ?_) fun _ _ h => h.later r1.stp fun _ h => h⟩) fun _ _ h => h
    rw [m1] at q1
    cases q1
    rw [m2] at q2
    cases q2
    simp only [Option.some.injEq] at e3
    subst e3
    obtain ⟨q, us, rfl, l, r⟩ := ((r1.es hea).later r2.t).eTup
    obtain ⟨q2, us2, rfl, l2, rr2⟩ := (r2.es heb).eList
    refine ⟨q, q2, us, us2, rfl, ok.kk ▸ l.sq, ok.kk ▸ l2.sq, ?_⟩
    rw [ok.kk]
    exact w2 _ Z2 F2 H2 ((r1.t.trans r2.t).i (wk_zipM l r l2 rr2))
  refine .inl ⟨Z, P, F, env, st, ?_⟩
  refine w.monoE (fun d e1 q1 w1 v Z1 F1 H1 r1 => ⟨Z1, P, F1, e1, r1.st, w1.monoE (fun d2 e2 q2 ⟨ds, e3, w2⟩ v2 Z2 F2 H2 r2 => ?_) fun _ _ h => h.later r1.stp fun _ h => h⟩) fun _ _ h => h
  cases d <;> cases d2 <;> simp only [reduceCtorEq, Option.some.injEq] at e3
  · subst e3
    obtain ⟨q, us, rfl, l, r⟩ := ((r1.es hea).later r2.t).eList
    obtain ⟨q2, us2, rfl, l2, rr2⟩ := (r2.es heb).eList
    refine ⟨q, q2, us, us2, rfl, .inl ⟨ok.kk ▸ l.sq, ok.kk ▸ l2.sq, ?_⟩⟩
    rw [ok.kk]
    exact w2 _ Z2 F2 H2 ((r1.t.trans r2.t).i (wk_zip l r l2 rr2))
  · exact absurd ⟨_, _, _, _, q1, q2⟩ mix
  · subst e3
    obtain ⟨q, us, rfl, l, r⟩ := ((r1.es hea).later r2.t).eTup
    obtain ⟨q2, us2, rfl, l2, rr2⟩ := (r2.es heb).eTup
    refine ⟨q, q2, us, us2, rfl, .inr ⟨ok.kk ▸ l.sq, ok.kk ▸ l2.sq, ?_⟩⟩
    rw [ok.kk]
    exact w2 _ Z2 F2 H2 ((r1.t.trans r2.t).i (wk_zipT l r l2 rr2))
/-! ### targets -/
theorem pg_n (ok : CtxOk I n c X) {i : Nat} {x : Str} {pos : Pos} (h : stoB c i x = true) : PG X (.Name x pos) (gName i) := by
  unfold stoB at h
  simp only [Bool.and_eq_true] at h
  obtain ⟨⟨⟨h1, _⟩, _⟩, h2⟩ := h
  have hi : X.N[i]? = some x := by
    rw [ok.N]
    split at h1
    · rename_i y e; rw [e, of_decide_eq_true h1]
    · cases h1
  have fn := ok.fn
  cases hw : c.ws with
  | none =>
    rw [hw] at h2 fn
    refine pg_name (ok.N ▸ ok.nd) hi ?_ (.inl (fn x))
    unfold L2.Loc
    rw [ok.sc]
    simp only [locB] at h2
    split at h2
    · exact .inl (by assumption)
    · exact .inr (by assumption)
    · cases h2
  | some s =>
    rw [hw] at h2 fn
    simp only [locB] at h2
    obtain ⟨f1, f2⟩ := fn
    split at h2
    · rename_i e
      have := f2 x _ e (by decide)
      exact pg_name (ok.N ▸ ok.nd) hi (.inl (by rw [ok.sc]; exact this)) (.inr (by rw [ok.sc]; exact this))
    · rename_i e
      have := f2 x _ e (by decide)
      exact pg_name (ok.N ▸ ok.nd) hi (.inr (by rw [ok.sc]; exact this)) (.inl (by rw [f1, e]; rfl))
    · cases h2
end
end PY

set_option Elab.async false
set_option linter.all false
set_option maxRecDepth 100000
set_option maxHeartbeats 1000000
/-! So8: targets, comprehensions. -/
namespace PY
open PySem PySem.Spec PyProof.Rows L2
theorem Sta.setD {K : PySem.W.Frag} {Z P : Ad} {F : Nat → Ad} {env : Env} {σ : L2.St} {H : Hp} {i : Nat} {v : V} {d : D} (st : Sta K Z P F env σ H) (r : RV K Z H v d) : Sta K Z P F (env.set i (.d d)) (σ.set i (some v)) H where
  len := by rw [List.length_set, List.length_set]; exact st.len
  sd := fun j e h => by
    by_cases hj : i = j
    · subst hj
      rw [List.getElem?_set] at h
      simp only [if_true] at h
      split at h
      · cases h
        rename_i hl
        exact ⟨v, by rw [List.getElem?_set]; simp [← st.len, hl], r⟩
      · cases h
    · rw [List.getElem?_set_ne hj] at h ⊢
      exact st.sd j e h
  sm := fun j e h => by
    by_cases hj : i = j
    · subst hj
      rw [List.getElem?_set] at h
      simp only [if_true] at h
      split at h <;> cases h
    · rw [List.getElem?_set_ne hj] at h ⊢
      exact st.sm j e h
  ff := st.ff
  fz := st.fz
  fp := st.fp
  zp := st.zp
  df := st.df
  dz := st.dz
  dp := st.dp
def tG (K : PySem.W.Frag) (g : G) : TG := fun v σ H Q => ∃ Z P F env d env', Sta K Z P F env σ H ∧ RV K Z H v d ∧ asgG g d env = some env' ∧ ∀ σ', Sta K Z P F env' σ' H → (∀ j, j ∉ gIx g → σ'[j]? = σ[j]?) → Q σ' H
def tGs (K : PySem.W.Frag) (g : G) : TGs := fun vs σ H Q => ∃ Z P F env ds env', Sta K Z P F env σ H ∧ RZ K Z H vs ds ∧ asgG.asgGs g ds env = some env' ∧ ∀ σ', Sta K Z P F env' σ' H → (∀ j, j ∉ gIx g → σ'[j]? = σ[j]?) → Q σ' H
section
variable {I : Info} {C : Nat → List Sl → CR} {W : WX} {X : Cx} {n : Nat} {c : Ctx}
theorem _root_.L2.PG.imp {X : Cx} {e : Expr} {t t' : TG} (h : PG X e t) (k : ∀ v σ H Q, t' v σ H Q → t v σ H Q) : PG X e t' := ⟨fun pins s σ H v u Q I r q => h.run pins s σ H v u Q I r (k v σ H Q q)⟩
theorem _root_.L2.PGs.imp {X : Cx} {e : List Expr} {t t' : TGs} (h : PGs X e t) (k : ∀ v σ H Q, t' v σ H Q → t v σ H Q) : PGs X e t' := ⟨fun pins s σ H v u Q I r q => h.run pins s σ H v u Q I r (k v σ H Q q)⟩
theorem asgN_of {e : Expr} {es : List Expr} {env : PySem.Env} (h : noStar e = true) : assignEach (e :: es) env = (false, assign e env) :: assignEach es env := by
  cases e <;> first | rfl | cases h
theorem asg_len : ∀ {es : List Expr} {env : PySem.Env}, es.all noStar = true → (assignEach es env).length = es.length ∧ (assignEach es env).findIdx? (·.1) = none
  | [], env, _ => ⟨rfl, rfl⟩
  | e :: es, env, h => by
    simp only [List.all_cons, Bool.and_eq_true] at h
    obtain ⟨h1, h2⟩ := asg_len (env := env) h.2
    rw [asgN_of h.1]
    exact ⟨by simp [h1], by simp [List.findIdx?_cons, h2]⟩
theorem gs_star : ∀ {g : G} {es : List Expr}, (mG c g).l es = true → es.all noStar = true ∧ ∀ ds env env', asgG.asgGs g ds env = some env' → ds.length = es.length
  | .n _, es, h => by simp [mG, Mt.no] at h
  | .t _, es, h => by simp [mG, Mt.no] at h
  | .nil, [], h => ⟨rfl, fun ds env env' e => by cases ds <;> simp [asgG.asgGs] at e ⊢⟩
  | .nil, _ :: _, h => by simp [mG] at h
  | .cons a b, [], h => by simp [mG] at h
  | .cons a b, e :: es, h => by
    simp only [mG, Bool.and_eq_true] at h
    obtain ⟨h1, h2⟩ := gs_star (g := b) h.2
    refine ⟨by simp [h.1.1, h1], fun ds env env' q => ?_⟩
    cases ds with
    | nil => simp [asgG.asgGs] at q
    | cons d ds =>
      simp only [asgG.asgGs, Option.bind_eq_some_iff] at q
      obtain ⟨_, _, q⟩ := q
      simp [h2 _ _ _ q]
theorem snd_g (ok : CtxOk I n c X) : ∀ g : G, (∀ e, (mG c g).e e = true → PG X e (tG I.K g)) ∧ (∀ es, (mG c g).l es = true → PGs X es (tGs I.K g))
  | .n i => by
    refine ⟨fun e h => ?_, fun es h => by simp [mG, Mt.no] at h⟩
    cases e <;> simp only [mG, Bool.false_eq_true] at h
    refine (pg_n ok h).imp fun v σ H Q ⟨Z, P, F, env, d, env', st, rv, e, q⟩ => ?_
    simp only [asgG, Option.some.injEq] at e
    subst e
    refine q _ (st.setD rv) fun j hj => ?_
    simp only [gIx, List.mem_singleton] at hj
    rw [List.getElem?_set_ne (Ne.symm hj)]
  | .t g => by
    obtain ⟨_, ih⟩ := snd_g ok g
    refine ⟨fun e h => ?_, fun es h => by simp [mG, Mt.no] at h⟩
    cases e <;> simp only [mG, Bool.false_eq_true] at h
    rename_i es k pos
    obtain ⟨h1, h2⟩ := gs_star h
    obtain ⟨h3, h4⟩ := asg_len (env := X.env) h1
    refine (pg_tup ok.calm (ih es h) h3 h4).imp fun v σ H Q ⟨Z, P, F, env, d, env', st, rv, e, q⟩ => ?_
    cases d <;> simp only [asgG, reduceCtorEq] at e
    obtain ⟨a, us, rfl, l, rz⟩ := rv.eTup
    exact ⟨a, us, rfl, ok.kk ▸ l.sq, by rw [rz.length]; exact h2 _ _ _ e, Z, P, F, env, _, env', st, rz, e, fun σ' s' hj => q σ' s' hj⟩
  | .nil => by
    refine ⟨fun e h => by simp [mG, Mt.no] at h, fun es h => ?_⟩
    cases es <;> simp only [mG, Bool.false_eq_true] at h
    refine pgs_nil.imp fun vs σ H Q ⟨Z, P, F, env, ds, env', st, rz, e, q⟩ => ?_
    cases ds <;> simp only [asgG.asgGs, reduceCtorEq, Option.some.injEq] at e
    subst e
    cases rz
    exact ⟨rfl, q σ st fun _ _ => rfl⟩
  | .cons a b => by
    obtain ⟨iha, _⟩ := snd_g ok a
    obtain ⟨_, ihb⟩ := snd_g ok b
    refine ⟨fun e h => by simp [mG, Mt.no] at h, fun es h => ?_⟩
    cases es with
    | nil => simp [mG] at h
    | cons x es =>
      simp only [mG, Bool.and_eq_true] at h
      refine (pgs_cons (iha x h.1.2) (ihb es h.2) (by rw [asgN_of h.1.1]; rfl)).imp fun vs σ H Q ⟨Z, P, F, env, ds, env', st, rz, e, q⟩ => ?_
      cases ds with
      | nil => simp [asgG.asgGs] at e
      | cons d ds =>
        simp only [asgG.asgGs, Option.bind_eq_some_iff] at e
        obtain ⟨e1, ea, eb⟩ := e
        cases vs with
        | nil => cases rz
        | cons v vs =>
          refine ⟨v, vs, rfl, Z, P, F, env, d, e1, st, rz.head, ea, fun σ1 s1 j1 => ⟨Z, P, F, e1, ds, env', s1, rz.tail, eb, fun σ2 s2 j2 => q σ2 s2 fun j hj => ?_⟩⟩
          simp only [gIx, List.mem_append, not_or] at hj
          rw [j2 j hj.2, j1 j hj.1]
mutual
theorem asgG_len : ∀ {g : G} {d : D} {e e' : Env}, asgG g d e = some e' → e'.length = e.length
  | .n i, d, e, e', h => by
    simp only [asgG, Option.some.injEq] at h
    subst h
    rw [List.length_set]
  | .t g, d, e, e', h => by
    cases d <;> simp only [asgG, reduceCtorEq] at h
    exact asgGs_len h
  | .nil, d, e, e', h => by simp [asgG] at h
  | .cons _ _, d, e, e', h => by simp [asgG] at h
theorem asgGs_len : ∀ {g : G} {ds : List D} {e e' : Env}, asgG.asgGs g ds e = some e' → e'.length = e.length
  | .n i, d, e, e', h => by simp [asgG.asgGs] at h
  | .t g, d, e, e', h => by simp [asgG.asgGs] at h
  | .nil, ds, e, e', h => by
    cases ds <;> simp only [asgG.asgGs, reduceCtorEq, Option.some.injEq] at h
    subst h; rfl
  | .cons a b, ds, e, e', h => by
    cases ds with
    | nil => simp [asgG.asgGs] at h
    | cons d ds =>
      simp only [asgG.asgGs, Option.bind_eq_some_iff] at h
      obtain ⟨e1, h1, h2⟩ := h
      rw [asgGs_len h2, asgG_len h1]
end
/-! ### the own slots forgotten -/
theorem wipe_at {α : Type} {vs : List Nat} {σ : List (Option α)} : True := trivial
theorem wipeS {σ : L2.St} : ∀ {vs : List Nat} {j : Nat}, (L2.wipe σ vs)[j]? = if j ∈ vs then (if j < σ.length then some none else none) else σ[j]?
  | [], j => by simp [L2.wipe]
  | v :: vs, j => by
    unfold L2.wipe
    rw [List.getElem?_set, L2.wipe_length]
    by_cases hj : v = j
    · subst hj; simp
    · rw [if_neg hj, wipeS]
      simp [Ne.symm hj]
theorem wipeE {e : Env} : ∀ {vs : List Nat} {j : Nat}, (PY.wipe e vs)[j]? = if j ∈ vs then (if j < e.length then some .un else none) else e[j]?
  | [], j => by simp [PY.wipe]
  | v :: vs, j => by
    have hl : (PY.wipe e vs).length = e.length := by
      clear wipeE
      induction vs with
      | nil => rfl
      | cons v vs ih => unfold PY.wipe; rw [List.length_set, ih]
    unfold PY.wipe
    rw [List.getElem?_set, hl]
    by_cases hj : v = j
    · subst hj; simp
    · rw [if_neg hj, wipeE]
      simp [Ne.symm hj]
theorem wipeE_len {e : Env} : ∀ {vs : List Nat}, (PY.wipe e vs).length = e.length
  | [] => rfl
  | v :: vs => by unfold PY.wipe; rw [List.length_set, wipeE_len]
theorem backE {e0 e1 : Env} : ∀ {vs : List Nat} {j : Nat}, (back vs e0 e1)[j]? = if j ∈ vs then (if j < e1.length then some ((e0[j]?).getD .un) else none) else e1[j]?
  | [], j => by simp [back]
  | v :: vs, j => by
    have hl : (back vs e0 e1).length = e1.length := by
      clear backE
      induction vs with
      | nil => rfl
      | cons v vs ih => unfold back; rw [List.length_set, ih]
    unfold back
    rw [List.getElem?_set, hl]
    by_cases hj : v = j
    · subst hj; simp
    · rw [if_neg hj, backE]
      simp [Ne.symm hj]
theorem backE_len {e0 e1 : Env} : ∀ {vs : List Nat}, (back vs e0 e1).length = e1.length
  | [] => rfl
  | v :: vs => by unfold back; rw [List.length_set, backE_len]
theorem Sta.wipe {K : PySem.W.Frag} {Z P : Ad} {F : Nat → Ad} {env : Env} {σ σ2 : L2.St} {H : Hp} {own : List Nat} (st : Sta K Z P F env σ2 H) (hs : L2.wipe σ2 own = L2.wipe σ own) : Sta K Z P F (PY.wipe env own) (L2.wipe σ own) H where
  len := by rw [wipeE_len, ← hs, L2.wipe_length]; exact st.len
  sd := fun j d e => by
    rw [wipeE] at e
    split at e
    · split at e <;> cases e
    · obtain ⟨v, h1, h2⟩ := st.sd j d e
      refine ⟨v, ?_, h2⟩
      rw [← hs, wipeS, if_neg (by assumption)]
      exact h1
  sm := fun j d e => by
    rw [wipeE] at e
    split at e
    · split at e <;> cases e
    · obtain ⟨v, h1, h2⟩ := st.sm j d e
      refine ⟨v, ?_, h2⟩
      rw [← hs, wipeS, if_neg (by assumption)]
      exact h1
  ff := st.ff
  fz := st.fz
  fp := st.fp
  zp := st.zp
  df := st.df
  dz := st.dz
  dp := st.dp
/-- an object that others hold is changed -/
theorem Sta.other {K : PySem.W.Frag} {Z P : Ad} {F : Nat → Ad} {env : Env} {σ : L2.St} {H : Hp} {p : Addr} {us ws : List V} (st : Sta K Z P F env σ H) (hp : P p) (h : H p = some (.lst us)) : Sta K Z P F env σ (upd H p (.lst ws)) := by
  have nz : ∀ b, Z b → b ≠ p := fun b z e => by subst e; exact st.zp _ z hp
  have nf : ∀ i b, F i b → b ≠ p := fun i b z e => by subst e; exact st.fp _ _ z hp
  have kz : Keep Z H (upd H p (.lst ws)) := ⟨fun b z => upd_ne (nz b z), fun b us e => by
    by_cases hb : b = p
    · subst hb; rw [h] at e; cases e
    · rw [upd_ne hb]; exact e⟩
  have dm : ∀ b, H b ≠ none → upd H p (.lst ws) b ≠ none := fun b h => by
    by_cases hb : b = p
    · subst hb; rw [upd_same]; exact fun z => nomatch z
    · rw [upd_ne hb]; exact h
  exact ⟨st.len, fun i d e => let ⟨v, h1, h2⟩ := st.sd i d e; ⟨v, h1, h2.keep kz fun _ z => z⟩, fun i m e => let ⟨v, h1, h2⟩ := st.sm i m e; ⟨v, h1, h2.keep kz (fun _ z => z) fun b z => upd_ne (nf i b z)⟩,
    st.ff, st.fz, st.fp, st.zp, fun i b z => dm b (st.df i b z), fun b z => dm b (st.dz b z), fun b z => dm b (st.dp b z)⟩
theorem relS_look {scope sc : Scope} {x : Str} {k : NameKind} (h : scope.names.lookup x = some k) (hk : k ≠ .free) : (relS scope sc).names.lookup x = some k := by
  unfold relS
  simp only
  generalize scope.names = ns at h
  induction ns with
  | nil => cases h
  | cons y r ih =>
    obtain ⟨m, q⟩ := y
    rw [List.lookup_cons] at h
    simp only [List.map_cons]
    cases hx : x == m with
    | true =>
      rw [hx] at h
      cases h
      have : (k == NameKind.free) = false := by cases k <;> first | rfl | exact absurd rfl hk
      simp [this, List.lookup_cons, hx]
    | false =>
      rw [hx] at h
      have := ih h
      split <;> simp [List.lookup_cons, hx] <;> simpa using this
theorem blk_ok (ok : CtxOk I n c X) {s : Shared} {H : Hp} {scope : Scope} {A : Addr} {cl : List (Str × Addr)} {fp : List Addr} : CtxOk I n ⟨c.N, relS scope c.sc, some scope, c.prot⟩ (X.blk s H scope (compEnvC scope cl A X.env) fp) where
  pr := ok.pr
  ww := ok.ww
  kk := ok.kk
  mg := ok.mg
  bs := ok.bs
  N := ok.N
  nd := ok.nd
  sc := by
    show relabel scope X.env = relS scope c.sc
    rw [← ok.sc]
    rfl
  calm := ok.calm
  room := ok.room
  fn := ⟨fun x => rfl, fun x k h hk => relS_look h hk⟩
/-- the tests of a clause -/
def tTs (I : Info) (C : Nat → List Sl → CR) (W : WX) (x : Tm) : TT := tT I C W x
theorem pts_none {W : WX} : PTs X [] (tT I C W (.bl true)) :=
  ⟨fun pins s σ H Q Iv ⟨Z, P, F, env, st, w⟩ => pts_nil.run pins s σ H Q Iv (w Z F H (.refl st))⟩
theorem Wp.noex {α : Type} {r : R α} {Ko : α → Env → Prop} {Kx : Ex → Env → Prop} (h : Wp (PY.noex r) Ko Kx) : Wp r Ko (fun _ _ => False) := by
  cases r <;> first | exact h | exact h.elim
/-- a comprehension over anything that is walked -/
theorem comp_imp {own : List Nat} {g : G} {it t e : Tm} (hgi : (gIx g).all (own.contains ·) = true) (hee : esc e = true) (σ : L2.St) (H : Hp) (Q : VK) (hh : tM I C W (.comp own g it t e) σ H Q) :
    tLc (tI I C W it) (tG I.K g) (tT I C (fun _ _ _ _ => False) t) (tE I C (fun _ _ _ _ => False) e) own σ H Q := by
  obtain ⟨Z, P, F, env, st, w⟩ := hh
  refine ⟨Z, P, F, env, st, ?_⟩
  simp only [ev, Den.ofM, Wp.bind] at w
  refine w.mono (fun ds e1 w1 J Z1 F1 H1 r1 D hD => ?_) fun _ _ h => h
  obtain ⟨⟨Gd, Y, wk, hG, hY⟩⟩ := r1.wk
  split at w1
  case isFalse => exact w1.elim
  rename_i hlen
  rw [Wp.bind] at w1
  have w2 := Wp.noex w1
  simp only [Wp.ok] at w2
  -- what is kept within
  let Pb : Ad := fun a => (P a ∨ ∃ j, j ∈ own ∧ F1 j a) ∨ a = D
  let Fb : Nat → Ad := fun j a => j ∉ own ∧ F1 j a
  have s1 := r1.st
  have sb0 : Sta I.K Z1 Pb Fb (PY.wipe e1 own) (L2.wipe σ own) (upd H1 D (.lst [])) := by
    have g0 : Grow Z1 H1 Z1 (upd H1 D (.lst [])) := Grow.newT s1.dz hD
    have s2 := (s1.grow g0).wipe (own := own) (σ := σ) rfl
    refine ⟨s2.len, s2.sd, fun j m em => ?_, fun j k a f f' => s2.ff j k a f.2 f'.2, fun j a f => s2.fz j a f.2, fun j a f p => ?_, fun a z p => ?_, fun j a f => s2.df j a f.2, s2.dz, fun a p => ?_⟩
    · obtain ⟨v, h1, h2⟩ := s2.sm j m em
      refine ⟨v, h1, h2.wide fun a f => ⟨fun hj => ?_, f⟩⟩
      rw [wipeE, if_pos hj] at em
      split at em <;> cases em
    · rcases p with (p | ⟨k, hk, p⟩) | rfl
      · exact s2.fp j a f.2 p
      · exact f.1 (s2.ff j k a f.2 p ▸ hk)
      · exact s1.df j a f.2 hD
    · rcases p with (p | ⟨k, hk, p⟩) | rfl
      · exact s2.zp a z p
      · exact s2.fz k a p z
      · exact s1.dz a z hD
    · rcases p with (p | ⟨k, hk, p⟩) | rfl
      · exact s2.dp a p
      · exact s2.df k a p
      · rw [upd_same]; exact fun z => nomatch z
  let f := turnC own g (ev I.GC C t).t (ev I.GC C e).e
  let Pv : Nat → Hp → Prop := fun i Hi => ∃ Z2 F2 env2 us acc, Sta I.K Z2 Pb F2 (PY.wipe env2 own) (L2.wipe σ own) Hi ∧ env2.length = e1.length ∧ Step Z1 (fun a => P a ∨ ∃ j, j ∈ own ∧ F1 j a) H1 Z2 Hi ∧ Hi D = some (.lst us) ∧ RZ I.K Z2 Hi us acc ∧ acc.length ≤ i ∧ i ≤ ds.length ∧
    Wp (compL f (ds.drop i) env2) (fun r env3 => ∀ v Z' F' H' A, ResM I.K (qui (.comp own g it t e)) Z P F H env σ Z' F' H' (back own e1 env3) A v (.fl (acc ++ r)) → Q v H') (fun _ _ => False)
  refine lc_it wk (Qd := fun H => Q (.ref D) H) Pv ?_ ?_ ?_ ?_
  · refine ⟨Z1, Fb, e1, [], [], sb0, rfl, ?_, upd_same, .nil, Nat.le_refl _, Nat.zero_le _, ?_⟩
    · exact ⟨fun _ z => z, fun a z => upd_ne fun e => by
        subst e
        rcases z with z | z | ⟨j, _, z⟩
        · exact s1.dz _ z hD
        · exact s1.dp _ z hD
        · exact s1.df j _ z hD, fun a us e => by rw [upd_ne (ne_of_none e hD)]; exact e⟩
    · simpa using w2
  · rintro i H2 hi ⟨Z2, F2, env2, us, acc, s2, hl2, stp, hd, rz, hz, hi', wc⟩
    exact hG Z2 H2 stp.zz (stp.kp.mono fun _ z => .inl z)
  · rintro i v H2 H3 hi ⟨Z2, F2, env2, us, acc, s2, hl2, stp, hd, rz, hz, hi', wc⟩ hy
    have hdi : ds[i]? = some ds[i] := by simp [hi]
    have hdr : ds.drop i = ds[i] :: ds.drop (i + 1) := by rw [List.drop_eq_getElem_cons hi]
    obtain ⟨Z3, g3, rv⟩ := hY i ds[i] Z2 H2 v H3 hdi stp.zz (stp.kp.mono fun _ z => .inl z) s2.dz hy
    rw [hdr] at wc
    simp only [compL, f, turnC, Wp.bind, Wp.opt] at wc
    obtain ⟨env3, ea, wc⟩ := wc
    have s3 := s2.grow g3
    refine ⟨Z3, Pb, F2, _, ds[i], env3, s3, rv, ea, fun σ2 s4 hj => ?_⟩
    have hw : L2.wipe σ2 own = L2.wipe σ own := by
      apply List.ext_getElem?
      intro j
      have hll : σ2.length = σ.length := by
        have h1 := s4.len
        have h2 := s3.len
        have h3 : env3.length = (PY.wipe env2 own).length := asgG_len ea
        rw [L2.wipe_length] at h2
        omega
      rw [wipeS, wipeS]
      by_cases hjo : j ∈ own
      · simp [hjo, hll]
      · rw [if_neg hjo, if_neg hjo]
        have : j ∉ gIx g := fun hm => by
          have := List.all_eq_true.mp hgi j hm
          simp at this
          exact hjo this
        rw [hj j this, wipeS, if_neg hjo]
    refine ⟨hw, Z3, Pb, F2, env3, s4, wc.mono (fun k env4 w4 Z4 F4 H4 r4 => ?_) fun _ _ h => h.elim⟩
    have st4 : Step Z1 (fun a => P a ∨ ∃ j, j ∈ own ∧ F1 j a) H1 Z4 H4 := (stp.trans (s2.gstep g3) fun _ h => .inl h).trans r4.stp fun _ h => .inl h
    have hlen4 : env4.length = e1.length := by
      have h1 := r4.st.len
      have h2 := s4.len
      have h3 : env3.length = (PY.wipe env2 own).length := asgG_len ea
      rw [wipeE_len] at h3
      omega
    have hD3 : H3 D = some (.lst us) := g3.hh _ _ hd
    have kD : ∀ {Z' H'}, Step Z3 Pb H3 Z' H' → H' D = some (.lst us) := fun stp => (stp.kp.at_ D (.inr (.inr rfl))).trans hD3
    have rz3 : RZ I.K Z3 H3 us acc := rz.grow g3 s2.dz
    cases k with
    | false =>
      rw [if_neg (by decide)] at w4
      refine iteF ?_
      simp only [Wp.ok] at w4
      refine ⟨Z4, F4, env4, us, acc, r4.st.wipe hw, hlen4, st4, kD r4.stp, rz3.keep (r4.stp.kp.mono fun _ z => .inl z) r4.stp.zz, by omega, by omega, ?_⟩
      simpa [Wp.bind, Wp.ok] using w4
    | true =>
      rw [if_pos rfl] at w4
      refine iteT ?_
      simp only [Wp.bind, Wp.ok] at w4
      refine ⟨Z4, Pb, F4, env4, r4.st, w4.mono (fun y env5 w5 vy Z5 F5 H5 r5 => ?_) fun _ _ h => h.elim⟩
      have st5 : Step Z1 (fun a => P a ∨ ∃ j, j ∈ own ∧ F1 j a) H1 Z5 H5 := st4.trans r5.stp fun _ h => .inl h
      have hD5 : H5 D = some (.lst us) := (r5.stp.kp.at_ D (.inr (.inr rfl))).trans (kD r4.stp)
      have rz5 : RZ I.K Z5 H5 us acc := (rz3.keep (r4.stp.kp.mono fun _ z => .inl z) r4.stp.zz).keep (r5.stp.kp.mono fun _ z => .inl z) r5.stp.zz
      have hzl : us.length < sizeLine := by
        rw [rz5.length]
        exact line_lt (by omega)
      refine ⟨us, hD5, hzl, ?_⟩
      have nz : ∀ b, Z5 b → b ≠ D := fun b z e => by subst e; exact r5.st.zp _ z (.inr rfl)
      have kz : Keep Z5 H5 (upd H5 D (.lst (us ++ [vy]))) := ⟨fun b z => upd_ne (nz b z), fun b ws e => by
        by_cases hb : b = D
        · subst hb; rw [hD5] at e; cases e
        · rw [upd_ne hb]; exact e⟩
      refine ⟨Z5, F5, env5, us ++ [vy], acc ++ [y], (r5.st.wipe hw).other (.inr rfl) hD5, ?_, ?_, upd_same, (rz5.append (r5.es hee)).keep kz fun _ z => z, by simp; omega, by omega, ?_⟩
      · have h1 := r5.st.len
        have h2 := r4.st.len
        omega
      · refine ⟨st5.zz, fun a z => ?_, fun a ws e => kz.tup a ws (st5.kp.tup a ws e)⟩
        rw [upd_ne (fun e => ?_), st5.kp.at_ a z]
        subst e
        rcases z with z | z | ⟨j, _, z⟩
        · exact s1.dz _ z hD
        · exact s1.dp _ z hD
        · exact s1.df j _ z hD
      · refine w5.mono (fun r env6 h v Z' F' H' A rr => h v Z' F' H' A ?_) fun _ _ h => h
        simpa using rr
  · rintro H2 ⟨Z2, F2, env2, us, acc, s2, hl2, stp, hd, rz, hz, hi', wc⟩
    simp only [List.drop_length, compL, Wp.ok, List.append_nil] at wc
    refine wc (.ref D) Z2 (fun j a => if j ∈ own then F1 j a else F2 j a) H2 (fun a => a = D) ⟨?_, ?_, .fl hd rz rfl (B := fun _ => False) (fun z => z) (fun _ z => z.elim) .nil, ?_, fun z => nomatch z⟩
    · have fk : ∀ j a, j ∈ own → F1 j a → H2 a = H1 a := fun j a hj f => stp.kp.at_ a (.inr (.inr ⟨j, hj, f⟩))
      refine ⟨?_, fun j d ed => ?_, fun j m em => ?_, fun j k a f f' => ?_, fun j a f z => ?_, fun j a f p => ?_, fun a z p => ?_, fun j a f => ?_, s2.dz, fun a p => ?_⟩
      · rw [backE_len, hl2]; exact s1.len
      · rw [backE] at ed
        split at ed
        · split at ed <;> simp only [Option.some.injEq, reduceCtorEq] at ed
          cases e0 : e1[j]? with
          | none => rw [e0] at ed; cases ed
          | some y =>
            rw [e0] at ed
            simp only [Option.getD_some] at ed
            subst ed
            obtain ⟨v, h1, h2⟩ := s1.sd j d e0
            exact ⟨v, h1, h2.keep (stp.kp.mono fun _ z => .inl z) stp.zz⟩
        · rename_i hj
          have := s2.sd j d (by rw [wipeE, if_neg hj]; exact ed)
          rw [wipeS, if_neg hj] at this
          exact this
      · rw [backE] at em
        split at em
        · rename_i hj
          split at em <;> simp only [Option.some.injEq, reduceCtorEq] at em
          cases e0 : e1[j]? with
          | none => rw [e0] at em; cases em
          | some y =>
            rw [e0] at em
            simp only [Option.getD_some] at em
            subst em
            obtain ⟨v, h1, h2⟩ := s1.sm j m e0
            refine ⟨v, h1, ?_⟩
            simp only [hj, if_true]
            exact h2.keep (stp.kp.mono fun _ z => .inl z) stp.zz (fk j · hj)
        · rename_i hj
          have := s2.sm j m (by rw [wipeE, if_neg hj]; exact em)
          rw [wipeS, if_neg hj] at this
          simpa [hj] using this
      · by_cases h1 : j ∈ own <;> by_cases h2 : k ∈ own <;> simp only [h1, h2, if_true, if_false] at f f'
        · exact s1.ff j k a f f'
        · exact absurd (.inl (.inr ⟨j, h1, f⟩)) (s2.fp k a f')
        · exact absurd (.inl (.inr ⟨k, h2, f'⟩)) (s2.fp j a f)
        · exact s2.ff j k a f f'
      · by_cases h1 : j ∈ own <;> simp only [h1, if_true, if_false] at f
        · exact s2.zp a z (.inl (.inr ⟨j, h1, f⟩))
        · exact s2.fz j a f z
      · by_cases h1 : j ∈ own <;> simp only [h1, if_true, if_false] at f
        · rcases p with p | rfl
          · exact s1.fp j a f p
          · exact s1.df j _ f hD
        · rcases p with p | rfl
          · exact s2.fp j a f (.inl (.inl p))
          · exact s2.fp j _ f (.inr rfl)
      · rcases p with p | rfl
        · exact s2.zp a z (.inl (.inl p))
        · exact s2.zp _ z (.inr rfl)
      · by_cases h1 : j ∈ own <;> simp only [h1, if_true, if_false] at f
        · rw [fk j a h1 f]; exact s1.df j a f
        · exact s2.df j a f
      · rcases p with p | rfl
        · exact s2.dp a (.inl (.inl p))
        · exact s2.dp _ (.inr rfl)
    · exact r1.stp.trans stp fun _ h => .inl h
    · rintro a rfl p
      exact s1.dp _ p hD
theorem snd_comp (ok : CtxOk I n c X) {own : List Nat} {g : G} {it t e : Tm} {el tg i : Expr} {ifs : List Expr} {scope : Scope} {pos : Pos} (hgi : (gIx g).all (own.contains ·) = true) (hbl : blkC c.N c.sc scope (own.map fun i => (c.N.getD i "", i)) = true) (hee : esc e = true)
    (hs : ∀ x, foldedSetIterable i X.env x = pure x) (hi : PI X tg i (tI I C W it))
    (hg : ∀ X', CtxOk I n ⟨c.N, relS scope c.sc, some scope, c.prot⟩ X' → PG X' tg (tG I.K g))
    (ht : ∀ X', CtxOk I n ⟨c.N, relS scope c.sc, some scope, c.prot⟩ X' → PTs X' ifs (tT I C (fun _ _ _ _ => False) t))
    (he : ∀ X', CtxOk I n ⟨c.N, relS scope c.sc, some scope, c.prot⟩ X' → PE X' el (tE I C (fun _ _ _ _ => False) e)) :
    PE X (.ListComp el [⟨tg, i, ifs, 0⟩] scope pos) (tM I C W (.comp own g it t e)) ∧
    ∀ {k : Nat} {y : Str} {py spos : Pos}, X.N[k]? = some y → X.env.scope.names.lookup y = some .local → swapsWith (.ListComp el [⟨tg, i, ifs, 0⟩] scope pos) (some (.Name y py)) spos.line X.env = pure true →
      PS X (.Assign [.Name y py] (.ListComp el [⟨tg, i, ifs, 0⟩] scope pos) spos) (tAsg (tM I C W (.comp own g it t e)) (gName k)) := by
  have hsc := ok.sc
  have bk := blkOk_by (N := X.N) (sc := X.env.scope) (scope := scope) (own := own.map fun i => (c.N.getD i "", i)) (by rw [ok.N, hsc]; exact hbl)
  have hlc := pe_lc (pos := pos) ok.calm (ok.N ▸ ok.nd) hi bk (fun s H A cl fp => hg _ (blk_ok ok)) (fun s H A cl fp => ht _ (blk_ok ok)) (fun s H A cl fp => he _ (blk_ok ok)) hs
  have hown : (own.map fun i => (c.N.getD i "", i)).map (·.2) = own := by rw [List.map_map]; simp [Function.comp_def]
  rw [hown] at hlc
  refine ⟨hlc.imp (comp_imp hgi hee), fun {k y py spos} hN hy hsw => ?_⟩
  have hls := ps_setLc (pos := pos) (py := py) (spos := spos) ok.calm (ok.N ▸ ok.nd) hN hy hsw hi bk (fun s H A cl fp => hg _ (blk_ok ok)) (fun s H A cl fp => ht _ (blk_ok ok)) (fun s H A cl fp => he _ (blk_ok ok)) hs
  rw [hown] at hls
  exact ⟨fun pins s σ H D Iv q => hls.run pins s σ H D Iv (comp_imp hgi hee σ H _ q)⟩
end
end PY

set_option Elab.async false
set_option linter.all false
set_option maxRecDepth 100000
set_option maxHeartbeats 1000000
/-! SoDk: own dicts whose keys are numbers and texts: {}, d[x], x in d, dict(list(d.items()) + [(k, v)]). -/
namespace PY
open PySem PySem.Spec PyProof.Rows L2
section
variable {I : Info} {C : Nat → List Sl → CR} {W : WX} {X : Cx} {n : Nat} {c : Ctx}
theorem fdOf_is {s : Option Sl} {ws : List (L2.Key × D)} (h : fdOf s = some ws) : s = some (.m (.fd ws)) := by
  unfold fdOf at h
  split at h <;> cases h
  rfl
theorem keyD_is {K : PySem.W.Frag} {Z : Ad} {H : Hp} {x : D} {k : L2.Key} {v : V} (h : keyD x = some k) (r : RV K Z H v x) : v = kV k := by
  cases x <;> simp only [keyD, Option.some.injEq, reduceCtorEq] at h
  · subst h; exact r.eInt
  · subst h; exact r.eStr
theorem keyD_rw {K : PySem.W.Frag} {Z : Ad} {F : Nat → Ad} {H : Hp} {x : D} {k : L2.Key} {v : V} (h : keyD x = some k) (r : RW K Z F H v x) : v = kV k := by
  cases x <;> simp only [keyD, Option.some.injEq, reduceCtorEq] at h
  · subst h; exact r.eInt
  · subst h; exact r.eStr
theorem paired_imp {α β : Type} {R S : α → β → Prop} {xs : List α} {ys : List β} (h : Paired R xs ys) (f : ∀ a b, R a b → S a b) : Paired S xs ys := by
  induction h with
  | nil => exact .nil
  | cons a _ ih => exact .cons (f _ _ a) ih
theorem paired_snoc {α β : Type} {R : α → β → Prop} {xs : List α} {ys : List β} {a : α} {b : β} (h : Paired R xs ys) (r : R a b) : Paired R (xs ++ [a]) (ys ++ [b]) := by
  induction h with
  | nil => exact .cons r .nil
  | cons a _ ih => exact .cons a ih
/-- a new own dict -/
theorem ResT.ownFd {K : PySem.W.Frag} {q : Bool} {Z Z1 P : Ad} {F F1 : Nat → Ad} {H H1 : Hp} {env env1 : Env} {σ : L2.St} {p : Addr} {kvs : List (L2.Key × V)} {ws : List (L2.Key × D)} (r : ResT K q Z P F H env σ Z1 F1 H1 env1) (hp : H1 p = none)
    (hk : kvs.map (·.1) = ws.map (·.1)) (rz : RZ K Z1 H1 (kvs.map (·.2)) (ws.map (·.2))) : ResM K q Z P F H env σ Z1 F1 (upd H1 p (.dK kvs)) env1 (fun a => a = p) (.ref p) (.fd ws) := by
  have g : Grow Z1 H1 Z1 (upd H1 p (.dK kvs)) := Grow.newT r.st.dz hp
  have s2 := r.st.grow g
  refine ⟨⟨s2.len, s2.sd, s2.sm, s2.ff, s2.fz, fun i a f h => ?_, fun a z h => ?_, s2.df, s2.dz, fun a h => ?_⟩, r.stp.trans (r.st.gstep g) fun _ h => h, .fd upd_same hk (rz.grow g r.st.dz) rfl (B := fun _ => False) (fun z => z) (fun _ z => z.elim) .nil, ?_, fun h => (r.qt h).trans (Qt.grow r.st g)⟩
  · rcases h with h | rfl
    · exact s2.fp i a f h
    · exact r.st.df i a f hp
  · rcases h with h | rfl
    · exact s2.zp a z h
    · exact r.st.dz a z hp
  · rcases h with h | rfl
    · exact s2.dp a h
    · rw [upd_same]; exact fun z => nomatch z
  · rintro a rfl h
    exact r.st.dp a h hp
theorem snd_dnw {pos : Pos} : PE X (.Dict [] [] pos) (tM I C W .dnw) := by
  refine pe_dnewK.imp fun σ H Q ⟨Z, P, F, env, st, w⟩ p hp => ?_
  simp only [ev, Den.ofM, Wp.ok] at w
  exact w _ Z F _ _ (ResT.ownFd (q := qui .dnw) (ResT.refl st) hp rfl .nil)
theorem snd_dgv (ok : CtxOk I n c X) (hu : X.A.units + 1 < cLine) {i : Nat} {a : Tm} {x : Str} {y : Expr} {p pos : Pos} (h : varB c i x = true) (hs : NoSl y) (ha : PE X y (tE I C W a)) : PE X (.Subscript (.Name x p) y pos) (tE I C W (.dgv i a)) := by
  refine (pe_dget hu (pe_place ok (.v i) (.Name x p) h) ha hs).imp fun σ H Q ⟨Z, P, F, env, st, w⟩ => ?_
  simp only [ev, Den.ofE, Wp.bind, Wp.opt, Option.bind_eq_some_iff] at w
  obtain ⟨ws0, e0, w⟩ := w
  obtain ⟨v0, h1, h2⟩ := st.sm i _ (fdOf_is e0)
  obtain ⟨a0, kvs0, rfl, _, _, _, _⟩ := h2.dict
  refine ⟨fun _ => True, _, h1, Z, P, F, env, st, w.mono (fun d e1 ⟨z, ⟨ws, ew, k, ek, eg⟩, w1⟩ v Z1 F1 H1 r1 => ?_) fun _ _ h => h⟩
  obtain ⟨v1, g1, g2⟩ := r1.st.sm i _ (fdOf_is ew)
  rw [h1] at g1
  cases g1
  obtain ⟨a1, kvs, e2, h3, h4, h5, _⟩ := g2.dict
  cases e2
  obtain ⟨v, h6, h7⟩ := getD_of h4 h5 eg
  exact ⟨a0, v, rfl, .inl ⟨kvs, k, .inl h3, keyD_rw ek r1.rw, h6.symm⟩, w1 v Z1 F1 H1 (r1.t.here h7)⟩
theorem snd_din (ok : CtxOk I n c X) (hu : X.A.units + 1 < cLine) {i : Nat} {a : Tm} {x : Str} {y : Expr} {p pos : Pos} (h : varB c i x = true) (ha : PE X y (tE I C W a)) :
    PE X (.Compare y [.In] [.Name x p] pos) (tE I C W (.din i a)) ∧ PT X (.Compare y [.In] [.Name x p] pos) (tT I C W (.din i a)) := by
  refine ⟨(pe_cmp (pc_din hu ha (pe_place ok (.v i) (.Name x p) h)) rfl).imp fun σ H Q ⟨Z, P, F, env, st, w⟩ => ⟨Z, P, F, env, st, ?_⟩, (pt_cmp (pc_din hu ha (pe_place ok (.v i) (.Name x p) h)) rfl).imp fun σ H Q ⟨Z, P, F, env, st, w⟩ => ⟨Z, P, F, env, st, ?_⟩⟩
  all_goals simp only [ev, Den.ofE, Wp.bind, Wp.opt, Option.bind_eq_some_iff, Option.map_eq_some_iff] at w
  · refine w.mono (fun d e1 ⟨z, ⟨ws, ew, k, ek, eg⟩, w1⟩ v Z1 F1 H1 r1 => ?_) fun _ _ h => h
    obtain ⟨v1, g1, g2⟩ := r1.st.sm i _ (fdOf_is ew)
    obtain ⟨a1, kvs, rfl, h3, h4, h5, _⟩ := g2.dict
    subst eg
    refine ⟨fun _ => True, _, g1, a1, valV kvs k, rfl, .inl ⟨kvs, k, .inl h3, keyD_rw ek r1.rw, rfl⟩, ?_⟩
    have := w1 (.bl (ws.any fun kv => decide (kv.1 = k))) Z1 F1 H1 (r1.t.here (.bl .nil))
    rw [← any_of h4, valV_any] at this
    exact this
  · refine w.mono (fun d e1 ⟨z, ⟨ws, ew, k, ek, eg⟩, b, eb, w1⟩ v Z1 F1 H1 r1 => ?_) fun _ _ h => h
    obtain ⟨v1, g1, g2⟩ := r1.st.sm i _ (fdOf_is ew)
    obtain ⟨a1, kvs, rfl, h3, h4, h5, _⟩ := g2.dict
    subst eg
    refine ⟨fun _ => True, _, g1, a1, valV kvs k, rfl, .inl ⟨kvs, k, .inl h3, keyD_rw ek r1.rw, rfl⟩, ?_⟩
    simp only [truD, Option.some.injEq] at eb
    subst eb
    refine ⟨_, rfl, ?_⟩
    have := w1 Z1 F1 H1 r1.t
    rw [← any_of h4, valV_any] at this
    exact this
theorem snd_dcp (ok : CtxOk I n c X) (io : InfoOk I) {i : Nat} {a : Tm} {f g x nm : Str} {y : Expr} {p1 p2 p3 ap cp pos2 pos3 pos : Pos} (hf : f = "dict") (hg : g = "list") (hgf : glB c.sc f = true) (hgg : glB c.sc g = true) (hn : nm = "items") (hl : (ap.endLine == cp.line) = true)
    (h : varB c i x = true) (ha : PE X y (tM I C W a)) :
    PE X (.Call (.Name f p1) [.BinOp (.Call (.Name g p2) [.Call (.Attribute (.Name x p3) nm ap) [] [] cp] [] pos2) .Add y pos3] [] pos) (tM I C W (.dcp i a)) := by
  subst hf hg hn
  have pL := LiI.pe_listItems (p := p2) (pos := pos2) ok.calm (pe_place ok (.v i) (.Name x p3) h) (gl_of ok hgg) (bn_of ok io (by decide +kernel)) (by decide +kernel) rfl hl rfl
  refine (pe_callTy (call_dictP ok.calm) (gl_of ok hgf) (bn_of ok io (by decide +kernel)) (by decide +kernel) (pa_cons (pe_op op_catS pL ha) pa_nil rfl) (by decide) (by decide) rfl rfl).imp fun σ H Q ⟨Z, P, F, env, st, w⟩ => ?_
  simp only [ev, Den.ofM, Wp.bind, Wp.opt] at w
  obtain ⟨ws, e0, w⟩ := w
  obtain ⟨v0, h1, h2⟩ := st.sm i _ (fdOf_is e0)
  obtain ⟨d, kvs, rfl, h3, h4, h5, _⟩ := h2.dict
  refine ⟨fun _ => True, _, h1, d, kvs, rfl, h3, fun H' p ts k1 k2 k3 k4 k5 k6 => ?_⟩
  have g : Grow Z H Z H' := ⟨k1, fun _ z => z, fun _ z => .inl z, fun b z => by
    cases e : H b with
    | none => exact absurd e (st.dz b z)
    | some o => rw [k1 b o e]; exact fun z => nomatch z⟩
  have s1 := st.grow g
  have s2 : Sta I.K Z (fun a => P a ∨ a = p) F env σ H' := by
    refine ⟨s1.len, s1.sd, s1.sm, s1.ff, s1.fz, fun i a f h => ?_, fun a z h => ?_, s1.df, s1.dz, fun a h => ?_⟩
    · rcases h with h | rfl
      · exact s1.fp i a f h
      · exact st.df i a f k2
    · rcases h with h | rfl
      · exact s1.zp a z h
      · exact st.dz a z k2
    · rcases h with h | rfl
      · exact s1.dp a h
      · rw [k5]; exact fun z => nomatch z
  refine ⟨Z, _, F, env, s2, w.mono (fun m e1 ⟨m2, em, w1⟩ v2 Z2 F2 H2 A2 r2 => ?_) fun _ _ h => h.later (st.gstep g) fun _ h => .inl h⟩
  unfold dCopy at em
  split at em
  case h_2 => cases em
  rename_i kx dy
  simp only [Option.bind_eq_some_iff] at em
  obtain ⟨k, ek, em⟩ := em
  split at em <;> cases em
  rename_i hnd
  obtain ⟨a2, us, rfl, g1, g2, _⟩ := r2.ro.flat
  have hul := g2.length
  match us, hul with
  | [u], _ =>
    obtain ⟨t2, vs, rfl, tz, g3⟩ := g2.head.eTup
    have hvl := g3.length
    match vs, hvl with
    | [wk, wy], _ =>
      have ewk := keyD_is ek g3.head
      subst ewk
      have hp2 : H2 p = some (.lst (ts.map V.ref)) := (r2.stp.kp.at_ p (.inr (.inr rfl))).trans k5
      have htl : ts.length = kvs.length := Paired.length k6
      have hwl : kvs.length = ws.length := by
        have := congrArg List.length h4
        simpa using this
      refine ⟨p, a2, _, _, rfl, rfl, SqL.of hp2, SqL.of g1, ?_, fun p3 hp3 => ?_⟩
      · rw [List.length_map, htl, hwl]
        have := sizeLine_eq
        have := hnd.2
        simp only [List.length_cons, List.length_nil]
        omega
      · have n3 : ∀ b u, H2 b = some u → upd H2 p3 (.lst (ts.map V.ref ++ [V.ref t2])) b = some u := fun b u e => by rw [upd_ne (ne_of_none e hp3)]; exact e
        refine ⟨p3, ts ++ [t2], kvs ++ [(k, wy)], rfl, ?_, ?_, fun p4 hp4 => ?_⟩
        · rw [List.map_append]
          exact SqL.of upd_same
        · have hpq : Paired (fun (q : Addr) (kv : L2.Key × V) => SqT X.K (upd H2 p3 (.lst (ts.map V.ref ++ [V.ref t2]))) q [kV kv.1, kv.2]) ts kvs := paired_imp k6 fun q kv e => .inl (.inl (n3 _ _ (r2.stp.kp.tup _ _ e)))
          have hlast : SqT X.K (upd H2 p3 (.lst (ts.map V.ref ++ [V.ref t2]))) t2 [kV k, wy] := by
            rw [ok.kk]
            refine (TZ.sq ?_)
            rcases tz with tz | tz
            · exact .inl (n3 _ _ tz)
            · exact .inr tz
          exact paired_snoc hpq hlast
        · have em : mergeK [] (kvs ++ [(k, wy)]) = putK kvs k wy := by
            have e1 : mergeK [] kvs = kvs := by
              have := nodup_merge (more := kvs) (acc := []) (fun _ _ y hy => by cases hy) (by rw [h4]; exact hnd.1)
              simpa using this
            show List.foldl _ _ _ = _
            rw [List.foldl_append]
            show putK (mergeK [] kvs) k wy = _
            rw [e1]
          rw [em]
          have gA : Grow Z2 H2 Z2 (upd H2 p3 (.lst (ts.map V.ref ++ [V.ref t2]))) := Grow.newT r2.st.dz hp3
          have t0 : ResT I.K false Z P F H env σ Z2 F2 H2 e1 := ⟨r2.st.narrow fun _ h => .inl (.inl h), (st.gstep g).trans r2.stp fun _ h => .inl h, fun z => nomatch z⟩
          have t1 : ResT I.K false Z P F H env σ Z2 F2 (upd H2 p3 (.lst (ts.map V.ref ++ [V.ref t2]))) e1 := ⟨t0.st.grow gA, t0.stp.trans (t0.st.gstep gA) fun _ h => h, fun z => nomatch z⟩
          have kz : RZ I.K Z2 H2 (kvs.map (·.2)) (ws.map (·.2)) := (h5.grow g st.dz).keep (r2.stp.kp.mono fun _ z => .inl z) r2.stp.zz
          obtain ⟨q1, q2⟩ := putD_of (k := k) (g3.tail.head) h4 kz
          exact w1 _ Z2 F2 _ _ (t1.ownFd hp4 q1 (q2.grow gA r2.st.dz))
theorem tdOf_is {s : Option Sl} {ws : List (List Int × D)} (h : tdOf s = some ws) : s = some (.m (.td ws)) := by
  unfold tdOf at h
  split at h <;> cases h
  rfl
/-- an entry, what it stands for -/
def TdR (K : PySem.W.Frag) (Z : Ad) (H : Hp) (x : List Int × Addr × Value) (w : List Int × D) : Prop := x.1 = w.1 ∧ RV K Z H (.ref x.2.1) (tupI w.1) ∧ ∃ v, L2.RelV v x.2.2 ∧ RV K Z H v w.2
theorem intsD_map : ∀ l : List Int, intsD (l.map PyData.int) = some l
  | [] => rfl
  | a :: l => by simp [intsD, intsD_map l]
theorem tupI_sq {K : PySem.W.Frag} {Z : Ad} {H : Hp} {b : Addr} {k : List Int} (h : RV K Z H (.ref b) (tupI k)) : SqT K H b (k.map V.int) := by
  obtain ⟨a, us, e, tz, rz⟩ := h.eTup
  cases e
  obtain ⟨e1, _⟩ := rz.ints (intsD_map k)
  rw [← e1]
  exact tz.sq
theorem tupOf_is {K : PySem.W.Frag} {Z : Ad} {H : Hp} {d : D} {k : List Int} {v : V} (e : tupOf d = some k) (h : RV K Z H v d) : ∃ b, v = .ref b ∧ RV K Z H (.ref b) (tupI k) := by
  cases d <;> simp only [tupOf, reduceCtorEq] at e
  obtain ⟨a, us, rfl, tz, rz⟩ := h.eTup
  obtain ⟨e1, e2⟩ := rz.ints e
  subst e2
  exact ⟨a, rfl, h⟩
theorem tdGet_of {K : PySem.W.Frag} {Z : Ad} {H : Hp} {xs : List (List Int × Addr × Value)} {ws : List (List Int × D)} (h : Paired (TdR K Z H) xs ws) {k : List Int} {d : D} (e : tdGet ws k = some d) : ∃ p v, PySem.atKey xs k = some p ∧ L2.RelV v p.2 ∧ RV K Z H v d := by
  induction h with
  | nil => cases e
  | @cons x w xs ws r t ih =>
    by_cases hk : w.1 = k
    · simp only [tdGet, if_pos hk, Option.some.injEq] at e
      subst e
      obtain ⟨e1, _, v, rv, q⟩ := r
      refine ⟨x.2, v, ?_, rv, q⟩
      unfold PySem.atKey
      rw [List.find?_cons_of_pos (by simp [e1, hk])]
      rfl
    · simp only [tdGet, if_neg hk] at e
      obtain ⟨p, v, h1, h2⟩ := ih e
      refine ⟨p, v, ?_, h2⟩
      unfold PySem.atKey at h1 ⊢
      rw [List.find?_cons_of_neg (by simp [r.1, hk])]
      exact h1
theorem atKey_any {K : PySem.W.Frag} {Z : Ad} {H : Hp} {xs : List (List Int × Addr × Value)} {ws : List (List Int × D)} (h : Paired (TdR K Z H) xs ws) (k : List Int) : (PySem.atKey xs k).isSome = ws.any fun kv => decide (kv.1 = k) := by
  induction h with
  | nil => rfl
  | @cons x w xs ws r t ih =>
    unfold PySem.atKey at ih ⊢
    by_cases hk : w.1 = k
    · rw [List.find?_cons_of_pos (by simp [r.1, hk]), List.any_cons, decide_eq_true hk]
      rfl
    · rw [List.find?_cons_of_neg (by simp [r.1, hk]), List.any_cons, decide_eq_false hk, Bool.false_or]
      exact ih
theorem storedH_of {K : PySem.W.Frag} {Z : Ad} {H : Hp} {xs : List (List Int × Addr × Value)} {ws : List (List Int × D)} (h : Paired (TdR K Z H) xs ws) {k : List Int} {b : Addr} {u : Value} {v : V} {d : D} (hb : RV K Z H (.ref b) (tupI k)) (rv : L2.RelV v u) (hd : RV K Z H v d) :
    Paired (TdR K Z H) (PySem.storedH xs k b u) (tdPut ws k d) := by
  unfold PySem.storedH tdPut
  rw [atKey_any h k]
  split
  · have key : ∀ {xs ws}, Paired (TdR K Z H) xs ws → Paired (TdR K Z H) (xs.map (PySem.putAt k u)) (ws.map fun kv => if kv.1 = k then (kv.1, d) else kv) := by
      intro xs ws hh
      induction hh with
      | nil => exact .nil
      | @cons x w xs ws r t ih =>
        refine .cons ?_ ih
        show TdR K Z H (if x.1 = k then (x.1, x.2.1, u) else x) (if w.1 = k then (w.1, d) else w)
        by_cases hk : w.1 = k
        · rw [if_pos hk, if_pos (r.1.trans hk)]
          exact ⟨r.1, r.2.1, v, rv, hd⟩
        · rw [if_neg hk, if_neg (fun e => hk (r.1.symm.trans e))]
          exact r
    exact key h
  · exact paired_snoc h ⟨rfl, hb, v, rv, hd⟩
theorem storedAll_of {K : PySem.W.Frag} {Z : Ad} {H : Hp} {prs : List (List Int × Addr × Value)} {ps : List (List Int × D)} (hp : Paired (TdR K Z H) prs ps) : ∀ {xs : List (List Int × Addr × Value)} {ws : List (List Int × D)}, Paired (TdR K Z H) xs ws → Paired (TdR K Z H) (PySem.storedAllH xs prs) (ps.foldl (fun acc p => tdPut acc p.1 p.2) ws) := by
  induction hp with
  | nil => exact fun h => h
  | @cons x w prs ps r t ih =>
    intro xs ws h
    obtain ⟨e1, e2, v, rv, hd⟩ := r
    have := ih (storedH_of (k := w.1) (b := x.2.1) (u := x.2.2) h e2 rv hd)
    rw [← e1] at this
    unfold PySem.storedAllH at this ⊢
    rw [List.foldl_cons, List.foldl_cons, ← e1]
    exact this
theorem prs_of {K : PySem.W.Frag} {Z : Ad} {H : Hp} : ∀ {us : List V} {ds : List D} {ps : List (List Int × D)}, RZ K Z H us ds → prsD ds = some ps →
    ∃ (qs : List Addr) (ks : List (List Int × Addr × V)), us = qs.map V.ref ∧ Paired (fun p k => SqT K H p [V.ref k.2.1, k.2.2]) qs ks ∧ Paired (fun k w => k.1 = w.1 ∧ RV K Z H (.ref k.2.1) (tupI w.1) ∧ RV K Z H k.2.2 w.2) ks ps
  | [], [], ps, _, e => by
    simp only [prsD, Option.some.injEq] at e
    subst e
    exact ⟨[], [], rfl, .nil, .nil⟩
  | u :: us, d :: ds, ps, h, e => by
    unfold prsD at e
    split at e
    · rename_i he; cases he
    · rename_i k v r he
      cases he
      simp only [Option.bind_eq_some_iff, Option.map_eq_some_iff] at e
      obtain ⟨n, en, ps', ep, rfl⟩ := e
      obtain ⟨t, vs, rfl, tz, g⟩ := h.head.eTup
      have hvl := g.length
      match vs, hvl with
      | [wk, wv], _ =>
        obtain ⟨b, rfl, hb⟩ := tupOf_is en g.head
        obtain ⟨qs, ks, e1, e2, e3⟩ := prs_of h.tail ep
        subst e1
        exact ⟨t :: qs, (n, b, wv) :: ks, rfl, .cons tz.sq e2, .cons ⟨rfl, hb, g.tail.head⟩ e3⟩
    · cases e
  | [], _ :: _, _, h, _ => by cases h
  | _ :: _, [], _, h, _ => by cases h
/-- a new own dict with tuples as keys -/
theorem ResT.ownTd {K : PySem.W.Frag} {q : Bool} {Z Z1 P : Ad} {F F1 : Nat → Ad} {H H1 : Hp} {env env1 : Env} {σ : L2.St} {p : Addr} {xs : List (List Int × Addr × Value)} {ws : List (List Int × D)} (r : ResT K q Z P F H env σ Z1 F1 H1 env1) (hp : H1 p = none)
    (hk : Paired (TdR K Z1 H1) xs ws) : ResM K q Z P F H env σ Z1 F1 (upd H1 p (TD.TdO p xs)) env1 (fun a => a = p) (.ref p) (.td ws) := by
  have g : Grow Z1 H1 Z1 (upd H1 p (TD.TdO p xs)) := Grow.newT r.st.dz hp
  have s2 := r.st.grow g
  refine ⟨⟨s2.len, s2.sd, s2.sm, s2.ff, s2.fz, fun i a f h => ?_, fun a z h => ?_, s2.df, s2.dz, fun a h => ?_⟩, r.stp.trans (r.st.gstep g) fun _ h => h,   .td upd_same (Paired.mapP hk fun _ _ ⟨e, y, v, rv, z⟩ => ⟨e, y.grow g r.st.dz, v, rv, z.grow g r.st.dz⟩) rfl (B := fun _ => False) (fun z => z) (fun _ z => z.elim) .nil, ?_, fun h => (r.qt h).trans (Qt.grow r.st g)⟩
  · rcases h with h | rfl
    · exact s2.fp i a f h
    · exact r.st.df i a f hp
  · rcases h with h | rfl
    · exact s2.zp a z h
    · exact r.st.dz a z hp
  · rcases h with h | rfl
    · exact s2.dp a h
    · rw [upd_same]; exact fun z => nomatch z
  · rintro a rfl h
    exact r.st.dp a h hp
theorem snd_dgt (ok : CtxOk I n c X) (hu : X.A.units + 1 < cLine) {i : Nat} {a : Tm} {x : Str} {y : Expr} {p pos : Pos} (h : varB c i x = true) (hs : NoSl y) (ha : PE X y (tE I C W a)) : PE X (.Subscript (.Name x p) y pos) (tE I C W (.dgt i a)) := by
  refine (TD.pe_dgetI hu (pe_place ok (.v i) (.Name x p) h) ha hs).imp fun σ H Q ⟨Z, P, F, env, st, w⟩ => ?_
  simp only [ev, Den.ofE, Wp.bind, Wp.opt, Option.bind_eq_some_iff] at w
  obtain ⟨ws0, e0, w⟩ := w
  obtain ⟨v0, h1, h2⟩ := st.sm i _ (tdOf_is e0)
  obtain ⟨a0, xs0, rfl, _, _, _⟩ := h2.tdict
  refine ⟨fun _ => True, _, h1, Z, P, F, env, st, w.mono (fun d e1 ⟨z, ⟨ws, ew, k, ek, eg⟩, w1⟩ v Z1 F1 H1 r1 => ?_) fun _ _ h => h⟩
  obtain ⟨v1, g1, g2⟩ := r1.st.sm i _ (tdOf_is ew)
  rw [h1] at g1
  cases g1
  obtain ⟨a1, xs, e2, h3, h4, _⟩ := g2.tdict
  cases e2
  have h4 : Paired (TdR I.K _ H1) xs ws := h4
  obtain ⟨b, rfl, hb⟩ : ∃ b, v = .ref b ∧ SqT I.K H1 b (k.map V.int) := by
    cases d <;> simp only [tupOf, reduceCtorEq] at ek
    obtain ⟨b, us, rfl, tz, rz⟩ := r1.rw.eTup
    obtain ⟨e3, _⟩ := rz.ints ek
    exact ⟨b, rfl, e3 ▸ tz.sq⟩
  obtain ⟨p2, v2, hp, rv, rvd⟩ := tdGet_of h4 eg
  refine ⟨a0, xs, b, k, p2, v2, rfl, h3, ?_, rfl, ok.kk ▸ hb, hp, rv, w1 v2 Z1 F1 H1 (r1.t.here rvd)⟩
  have all : ∀ {l : List (List Int × Addr × Value)} {m : List (List Int × D)} {Z2 : Ad}, Paired (TdR I.K Z2 H1) l m → ∀ q ∈ l, SqT I.K H1 q.2.1 (q.1.map V.int) := by
    intro l m Z2 hh
    induction hh with
    | nil => intro q hq; exact nomatch hq
    | @cons x0 w0 l m r t ih =>
      intro q hq
      rcases List.mem_cons.mp hq with e | hq
      · subst e
        rw [r.1]
        exact tupI_sq r.2.1
      · exact ih q hq
  rw [ok.kk]
  exact all h4
theorem snd_dpt (ok : CtxOk I n c X) (io : InfoOk I) {a : Tm} {f : Str} {y : Expr} {p1 pos : Pos} (hf : f = "dict") (hgf : glB c.sc f = true) (hst : noStar y = true) (ha : PE X y (tM I C W a)) : PE X (.Call (.Name f p1) [y] [] pos) (tM I C W (.dpt a)) := by
  subst hf
  refine (pe_callTy (TD.cr_dictI ok.calm (by have := ok.room.units; omega)) (gl_of ok hgf) (bn_of ok io (by decide +kernel)) (by decide +kernel) (pa_cons ha pa_nil (star_of hst)) (by decide) (by decide) (star_of hst) rfl).imp fun σ H Q ⟨Z, P, F, env, st, w⟩ => ⟨Z, P, F, env, st, ?_⟩
  simp only [ev, Den.ofM, Wp.bind, Wp.opt] at w
  refine w.mono (fun m e1 ⟨m2, em, w1⟩ v2 Z2 F2 H2 A2 r2 => ?_) fun _ _ h => h
  unfold dPrs at em
  split at em
  case h_2 => cases em
  rename_i ds
  simp only [Option.map_eq_some_iff] at em
  obtain ⟨ps, ep, rfl⟩ := em
  obtain ⟨a2, us, rfl, g1, g2, _⟩ := r2.ro.flat
  obtain ⟨qs, ks, rfl, h1, h2⟩ := prs_of g2 ep
  refine ⟨a2, qs, ks, rfl, SqL.of g1, ok.kk ▸ h1, ?_, fun p3 prs hp3 hrel => ?_⟩
  · have all : ∀ {l : List (List Int × Addr × V)} {m : List (List Int × D)} {Z3 : Ad}, Paired (fun k w => k.1 = w.1 ∧ RV I.K Z3 H2 (.ref k.2.1) (tupI w.1) ∧ RV I.K Z3 H2 k.2.2 w.2) l m → ∀ k ∈ l, SqT I.K H2 k.2.1 (k.1.map V.int) := by
      intro l m Z3 hh
      induction hh with
      | nil => intro q hq; exact nomatch hq
      | @cons x0 w0 l m r t ih =>
        intro q hq
        rcases List.mem_cons.mp hq with e | hq
        · subst e
          rw [r.1]
          exact tupI_sq r.2.1
        · exact ih q hq
    rw [ok.kk]
    exact all h2
  · have hj : ∀ {ks : List (List Int × Addr × V)} {prs : List (List Int × Addr × Value)}, Paired (fun (k : List Int × Addr × V) (q : List Int × Addr × Value) => k.1 = q.1 ∧ k.2.1 = q.2.1 ∧ L2.RelV k.2.2 q.2.2) ks prs → ∀ {ps : List (List Int × D)} {Z3 : Ad}, Paired (fun k w => k.1 = w.1 ∧ RV I.K Z3 H2 (.ref k.2.1) (tupI w.1) ∧ RV I.K Z3 H2 k.2.2 w.2) ks ps → Paired (TdR I.K Z3 H2) prs ps := by
      intro ks prs hh
      induction hh with
      | nil => intro ps Z3 h; cases h; exact .nil
      | @cons x0 w0 l m r t ih =>
        intro ps Z3 h
        cases h with
        | cons r2 t2 => exact .cons ⟨r.1.symm.trans r2.1, r.2.1 ▸ r2.2.1, _, r.2.2, r2.2.2⟩ (ih t2)
    have t0 : ResT I.K false Z P F H env σ Z2 F2 H2 e1 := ⟨r2.st.narrow fun _ h => .inl h, r2.stp, fun z => nomatch z⟩
    exact w1 _ Z2 F2 _ _ (t0.ownTd hp3 (storedAll_of (hj hrel h2) .nil))
theorem slM_is {s : Option Sl} {m : M} (h : slM s = some m) : s = some (.m m) := by
  unfold slM at h
  split at h <;> cases h
  rfl
/-- a slice of an own list, read when its ends are known -/
theorem snd_slv (ok : CtxOk I n c X) {i : Nat} {lo hi : Tm} {x : Str} {l h : Option Expr} {p pos p2 : Pos} (hv : varB c i x = true) (hl : PO X l (tOp I C W lo)) (hh : PO X h (tOp I C W hi)) :
    PE X (.Subscript (.Name x p) (.Slice l h none p2) pos) (tE I C W (.slv i lo hi)) := by
  refine (pe_slice (ok.kk ▸ sl_D) (pe_place ok (.v i) (.Name x p) hv) hl hh).imp fun σ H Q ⟨Z, P, F, env, st, w⟩ => ?_
  simp only [ev, Den.ofE, Wp.bind, Wp.opt, Option.bind_eq_some_iff] at w
  obtain ⟨m0, em0, w⟩ := w
  obtain ⟨v0, h1, h2⟩ := st.sm i _ (slM_is em0)
  refine ⟨fun _ => True, _, h1, Z, P, F, env, st, w.mono (fun d2 e2 ⟨o, eo, w2⟩ => ⟨o, eo, fun Z2 F2 H2 r2 => ⟨Z2, P, F2, e2, r2.st, w2.mono (fun d3 e3 ⟨o', eo', w3⟩ => ⟨o', eo', fun Z3 F3 H3 r3 => ?_⟩)
    fun _ _ h => h.later r2.stp fun _ h => h⟩⟩) fun _ _ h => h⟩
  obtain ⟨d, ⟨dv, ⟨m, em, ev2⟩, ed⟩, w3⟩ := w3
  obtain ⟨v1, g1, g2⟩ := r3.st.sm i _ (slM_is em)
  rw [h1] at g1
  cases g1
  cases m <;> simp [M.view] at ev2
  subst ev2
  obtain ⟨a, us, rfl, q1, q2, q3⟩ := g2.flat
  refine ⟨Z3, F3, _, d, .inr ⟨i, a, us, _, q3, rfl, rfl, q1, q2⟩, ed, r3.st.dz, fun v Z' H' g rv => w3 v Z' F3 H' (((r2.trans r3).wk fun h => ?_).fin g rv)⟩
  simpa only [qui] using h
end
end PY

set_option Elab.async false
set_option linter.all false
set_option maxRecDepth 100000
set_option maxHeartbeats 1000000
/-! So9: calls of defs. -/
namespace PY
open PySem PySem.Spec PyProof.Rows L2
/-- the values of the changeable ones -/
def mutS : List Sl → List V → List V
  | .m _ :: ss, v :: vs => v :: mutS ss vs
  | _ :: ss, _ :: vs => mutS ss vs
  | _, _ => []
structure PostC (I : Info) (Z P : Ad) (H : Hp) (Z' : Ad) (H' : Hp) (A : Ad) : Prop where
  stp : Step Z P H Z' H'
  az : ∀ a, A a → ¬ Z' a
  ap : ∀ a, A a → ¬ P a
  ad : ∀ a, A a → H' a ≠ none
  zp : ∀ a, Z' a → ¬ P a
  zd : ∀ a, Z' a → H' a ≠ none
/-- the promise of a def, by what its text computes -/
def spF (I : Info) (C : Nat → List Sl → CR) (f : Nat) : Sp := fun vs H Q E => ∃ Z P A ss, RS I.K Z noF H vs ss A ∧ (∀ a, A a → ¬ Z a) ∧ (∀ a, A a → ¬ P a) ∧ (∀ a, A a → H a ≠ none) ∧ (∀ a, Z a → ¬ P a) ∧ (∀ a, Z a → H a ≠ none) ∧ (∀ a, P a → H a ≠ none) ∧
  match C f ss with
  | .ok r ms => ∀ v Z' H' A', PostC I Z P H Z' H' A' → RS I.K Z' noF H' (v :: mutS ss vs) (r :: ms) A' → Q v H'
  | .ex x ms => ∀ cv dd Z' H' A', PostC I Z P H Z' H' A' → RS I.K Z' noF H' (mutS ss vs) ms A' → ExR I Z' H' cv dd x → E cv dd H'
  | .bad => False
structure FnsOk (I : Info) (n : Nat) (C : Nat → List Sl → CR) : Prop where
  ok : ∀ f fd, I.T f = some fd → FnOk I.P I.w I.K I.mg I.base (L2.CX I.P I.w) n (I.fa f) (I.fdt f) (I.fps f) (spF I C f) ∧ I.mg (I.fn f) = some (.ref (I.fa f)) ∧ PySem.W.keepIn I.K (.ref (I.fa f)) = true ∧ Binds I.K (I.fdt f) (I.fps f) [] ∧
    (∀ k, [k] ∈ I.kk f → ∀ (s : Shared) (us ws : List Value), I.K.In s.heap → us.length = k → (us ++ ws).length = (I.fps f).length → BindsTo s (I.fdt f) ⟨us, ((I.fps f).drop k).zip ws⟩ ((I.fps f).zip (us ++ ws))) ∧
    ∀ q, 99 :: q ∈ I.kk f → ∀ (s : Shared) (us ws : List Value), I.K.In s.heap → us.length + q.length = (I.fps f).length → ws.length = q.length → BindsTo s (I.fdt f) ⟨us, (q.map fun i => (I.fps f).getD i "").zip ws⟩ ((I.fps f).zip (us ++ permL ws (pmOf q us.length)))
section
variable {K : PySem.W.Frag} {Z P A : Ad} {F : Nat → Ad} {env : Env} {σ : L2.St} {H : Hp}
theorem fillA_other {a b : Tm} {ss r : List Sl} {env : Env} (h : notAm a = true) (e : fillA (.cons a b) ss env = some r) : ∃ d t r', ss = .d d :: t ∧ fillA b t env = some r' ∧ r = .d d :: r' := by
  cases ss with
  | nil => cases a <;> first | (simp [notAm] at h; done) | simp [fillA] at e
  | cons s t =>
    cases s with
    | d d => cases a <;> first | (simp [notAm] at h; done) | (simp only [fillA, Option.map_eq_some_iff] at e; obtain ⟨r', h1, h2⟩ := e; exact ⟨d, t, r', rfl, h1, h2.symm⟩)
    | m m => cases a <;> first | (simp [notAm] at h; done) | simp [fillA] at e
    | un => cases a <;> first | (simp [notAm] at h; done) | simp [fillA] at e
theorem other_facts {a b : Tm} {σ : L2.St} {v : V} {vs : List V} (h : notAm a = true) : amIx (.cons a b) = amIx b ∧ amV (.cons a b) = amV b ∧ (plOk σ (.cons a b) (v :: vs) ↔ plOk σ b vs) ∧ ∀ ms e, backA (.cons a b) ms e = backA b ms e := by
  cases a <;> first | (simp [notAm] at h; done) | exact ⟨rfl, rfl, Iff.rfl, fun ms e => by cases ms <;> rfl⟩
theorem cons3 (a : Tm) : (∃ p, a = .am p) ∨ (∃ x, a = .at x) ∨ notAm a = true := by
  cases a <;> first | exact .inl ⟨_, rfl⟩ | exact .inr (.inl ⟨_, rfl⟩) | exact .inr (.inr rfl)
theorem fill_ok (st : Sta K Z (fun a => P a ∨ A a) F env σ H) : ∀ {x : Tm} {vs : List V} {ss ss' : List Sl} {A0 : Ad}, amV x = true → (amIx x).Nodup → plOk σ x vs → RS K Z noF H vs ss A0 → (∀ a, A0 a → A a) → fillA x ss env = some ss' → RS K Z noF H vs ss' (fun a => A0 a ∨ ∃ i, i ∈ amIx x ∧ F i a) := by
  intro x
  induction x with
  | nil =>
    intro vs ss ss' A0 _ _ _ r _ e
    cases ss <;> simp only [fillA, reduceCtorEq, Option.some.injEq] at e
    subst e
    cases r
    exact .nil
  | cons a b iha ihb =>
    clear iha
    intro vs ss ss' A0 hv nd pl r sub e
    rcases cons3 a with ⟨p, rfl⟩ | ⟨y, rfl⟩ | hn
    · cases p <;> simp only [amV, Bool.false_eq_true] at hv
      rename_i i
      cases r with
      | nil => simp [fillA] at e
      | d _ _ => simp [fillA] at e
      | m _ _ _ _ _ => simp [fillA] at e
      | un t =>
        simp only [fillA, getP, Option.bind_eq_some_iff, Option.map_eq_some_iff] at e
        obtain ⟨m, em, r', er, rfl⟩ := e
        simp only [amIx, List.nodup_cons] at nd
        obtain ⟨pl1, pl2⟩ := pl
        have e1 : env[i]? = some (.m m) := by
          unfold slM at em
          split at em <;> cases em
          assumption
        obtain ⟨w, h1, h2⟩ := st.sm i m e1
        rw [pl1] at h1
        cases h1
        have ih := ihb hv nd.2 pl2 t sub er
        refine .m h2 ih ?_ (fun a z => .inr ⟨i, by simp [amIx], z⟩) ?_
        · rintro a f (z | ⟨j, hj, f'⟩)
          · exact st.fp i a f (.inr (sub a z))
          · exact nd.1 (st.ff i j a f f' ▸ hj)
        · rintro a (z | ⟨j, hj, f'⟩)
          · exact .inl z
          · exact .inr ⟨j, by simp [amIx, hj], f'⟩
    · cases r with
      | nil => simp [fillA] at e
      | d _ _ => simp [fillA] at e
      | un _ => simp [fillA] at e
      | m q t d1 d2 d3 =>
        simp only [fillA, Option.map_eq_some_iff] at e
        obtain ⟨r', er, rfl⟩ := e
        refine .m q (ihb hv nd pl t (fun a z => sub a (d3 a z)) er) ?_ (fun a z => .inl (d2 a z)) (fun a z => z.imp (d3 a) id)
        rintro a z (z' | ⟨j, hj, f⟩)
        · exact d1 a z z'
        · exact st.fp j a f (.inr (sub a (d2 a z)))
    · obtain ⟨d, t, r', rfl, er, rfl⟩ := fillA_other hn e
      cases r with
      | d q t =>
        obtain ⟨f1, f2, f3, _⟩ := other_facts (b := b) (σ := σ) (v := _) (vs := _) hn
        rw [f1] at nd ⊢
        rw [f2] at hv
        exact .d q (ihb hv nd (f3.mp pl) t sub er)
  | _ => intro vs ss ss' A0 _ _ _ _ _ e; cases ss <;> simp [fillA] at e
/-- the state but for some slots -/
structure StaN (K : PySem.W.Frag) (S : List Nat) (Z P : Ad) (F : Nat → Ad) (env : Env) (σ : L2.St) (H : Hp) : Prop where
  len : env.length = σ.length
  sd : ∀ (i : Nat) (d : D), i ∉ S → env[i]? = some (.d d) → ∃ v, σ[i]? = some (some v) ∧ RV K Z H v d
  sm : ∀ (i : Nat) (m : M), i ∉ S → env[i]? = some (.m m) → ∃ v, σ[i]? = some (some v) ∧ RO K Z H v m (F i)
  ff : ∀ i j a, F i a → F j a → i = j
  fz : ∀ i a, F i a → ¬ Z a
  fp : ∀ i a, F i a → ¬ P a
  zp : ∀ a, Z a → ¬ P a
  df : ∀ i a, F i a → H a ≠ none
  dz : ∀ a, Z a → H a ≠ none
  dp : ∀ a, P a → H a ≠ none
theorem StaN.all (s : StaN K [] Z P F env σ H) : Sta K Z P F env σ H := ⟨s.len, fun i d => s.sd i d (by simp), fun i m => s.sm i m (by simp), s.ff, s.fz, s.fp, s.zp, s.df, s.dz, s.dp⟩
theorem StaN.put {S : List Nat} {i : Nat} {m : M} {v : V} {B : Ad} (s : StaN K (i :: S) Z P F env σ H) (hi : i ∉ S) (hs : σ[i]? = some (some v)) (r : RO K Z H v m B) (fB : ∀ j a, F j a → ¬ B a) (fi : ∀ a, ¬ F i a) (bz : ∀ a, B a → ¬ Z a) (bp : ∀ a, B a → ¬ P a) (bd : ∀ a, B a → H a ≠ none) :
    StaN K S Z P (fun j a => (j = i ∧ B a) ∨ F j a) (env.set i (.m m)) σ H where
  len := by rw [List.length_set]; exact s.len
  sd := fun j d hj e => by
    by_cases h : i = j
    · subst h
      rw [List.getElem?_set] at e
      simp only [if_true] at e
      split at e <;> cases e
    · rw [List.getElem?_set_ne h] at e
      exact s.sd j d (by simp [hj, Ne.symm h]) e
  sm := fun j x hj e => by
    by_cases h : i = j
    · subst h
      rw [List.getElem?_set] at e
      simp only [if_true] at e
      split at e <;> cases e
      exact ⟨v, hs, r.wide fun a z => .inl ⟨rfl, z⟩⟩
    · rw [List.getElem?_set_ne h] at e
      obtain ⟨w, h1, h2⟩ := s.sm j x (by simp [hj, Ne.symm h]) e
      exact ⟨w, h1, h2.wide fun a z => .inr z⟩
  ff := fun j k a h1 h2 => by
    rcases h1 with ⟨rfl, h1⟩ | h1 <;> rcases h2 with ⟨rfl, h2⟩ | h2
    · rfl
    · exact absurd h1 (fB k a h2)
    · exact absurd h2 (fB j a h1)
    · exact s.ff j k a h1 h2
  fz := fun j a h => h.elim (fun h => bz a h.2) (s.fz j a)
  fp := fun j a h => h.elim (fun h => bp a h.2) (s.fp j a)
  zp := s.zp
  df := fun j a h => h.elim (fun h => bd a h.2) (s.df j a)
  dz := s.dz
  dp := s.dp
theorem back_ok {e0 : Env} : ∀ {x : Tm} {vs : List V} {ss ss' ms : List Sl} {env env' : Env} {F : Nat → Ad} {A : Ad}, amV x = true → (amIx x).Nodup → plOk σ x vs → fillA x ss e0 = some ss' → vs.length = ss'.length → RS K Z noF H (mutS ss' vs) ms A → backA x ms env = some env' →
    StaN K (amIx x) Z P F env σ H → (∀ i a, F i a → ¬ A a) → (∀ i, i ∈ amIx x → ∀ a, ¬ F i a) → (∀ a, A a → ¬ Z a) → (∀ a, A a → ¬ P a) → (∀ a, A a → H a ≠ none) → ∃ F', Sta K Z P F' env' σ H ∧ (∀ i a, F' i a → F i a ∨ A a) ∧ (amIx x = [] → F' = F ∧ env' = env) := by
  intro x
  induction x with
  | nil =>
    intro vs ss ss' ms env env' F A _ _ _ _ _ _ eb st _ _ _ _ _
    have : env' = env := by cases ms <;> simp [backA] at eb <;> exact eb.symm
    subst this
    exact ⟨F, st.all, fun _ _ z => .inl z, fun _ => ⟨rfl, rfl⟩⟩
  | cons a b iha ihb =>
    clear iha
    intro vs ss ss' ms env env' F A hv nd pl ef hl r eb st fA fi az ap ad
    rcases cons3 a with ⟨p, rfl⟩ | ⟨y, rfl⟩ | hn
    · cases p <;> simp only [amV, Bool.false_eq_true] at hv
      rename_i i
      cases ss with
      | nil => simp [fillA] at ef
      | cons s ss =>
        cases s <;> simp only [fillA, reduceCtorEq] at ef
        simp only [getP, Option.bind_eq_some_iff, Option.map_eq_some_iff] at ef
        obtain ⟨m0, _, r', er, rfl⟩ := ef
        cases vs with
        | nil => simp at hl
        | cons v vs =>
          obtain ⟨pl1, pl2⟩ := pl
          simp only [amIx, List.nodup_cons] at nd
          simp only [mutS] at r
          cases r with
          | d _ _ => simp [backA] at eb
          | un _ => simp [backA] at eb
          | @m _ _ _ _ _ B1 C1 q t d1 d2 d3 =>
            simp only [backA, setP, Option.bind_some] at eb
            have s2 := StaN.put (i := i) st nd.1 pl1 q (fun j a f z => fA j a f (d2 a z)) (fi i (by simp [amIx])) (fun a z => az a (d2 a z)) (fun a z => ap a (d2 a z)) (fun a z => ad a (d2 a z))
            have q1 : ∀ (j : Nat) (a : Addr), (j = i ∧ B1 a) ∨ F j a → ¬ C1 a := by
              rintro j a (⟨_, z⟩ | z) z'
              · exact d1 a z z'
              · exact fA j a z (d3 a z')
            have q2 : ∀ j, j ∈ amIx b → ∀ a, ¬ ((j = i ∧ B1 a) ∨ F j a) := by
              rintro j hj a (⟨rfl, z⟩ | z)
              · exact nd.1 hj
              · exact fi j (by simp [amIx, hj]) a z
            obtain ⟨F', h1, h2, _⟩ := ihb hv nd.2 pl2 er (by simpa using hl) t eb s2 q1 q2 (fun a z => az a (d3 a z)) (fun a z => ap a (d3 a z)) (fun a z => ad a (d3 a z))
            refine ⟨F', h1, fun j a f => ?_, fun z => by simp [amIx] at z⟩
            rcases h2 j a f with (⟨_, z⟩ | z) | z
            · exact .inr (d2 a z)
            · exact .inl z
            · exact .inr (d3 a z)
    · cases ss with
      | nil => simp [fillA] at ef
      | cons s ss =>
        cases s <;> simp only [fillA, reduceCtorEq] at ef
        simp only [Option.map_eq_some_iff] at ef
        obtain ⟨r', er, rfl⟩ := ef
        cases vs with
        | nil => simp at hl
        | cons v vs =>
          simp only [mutS] at r
          cases ms with
          | nil => cases r
          | cons s ms =>
            have rt : ∃ A1, RS K Z noF H (mutS r' vs) ms A1 ∧ ∀ a, A1 a → A a := by
              cases r with
              | d _ t => exact ⟨_, t, fun _ z => z⟩
              | m _ t _ _ h => exact ⟨_, t, h⟩
              | un t => exact ⟨_, t, fun _ z => z⟩
            obtain ⟨A1, rt, hA1⟩ := rt
            have eb' : backA b ms env = some env' := eb
            obtain ⟨F', h1, h2, h3⟩ := ihb hv nd pl er (by simpa using hl) rt eb' st (fun i a f z => fA i a f (hA1 a z)) fi (fun a z => az a (hA1 a z)) (fun a z => ap a (hA1 a z)) (fun a z => ad a (hA1 a z))
            exact ⟨F', h1, fun i a f => (h2 i a f).imp id (hA1 a), h3⟩
    · obtain ⟨d, t, r', rfl, er, rfl⟩ := fillA_other hn ef
      cases vs with
      | nil => simp at hl
      | cons v vs =>
        obtain ⟨f1, f2, f3, f4⟩ := other_facts (b := b) (σ := σ) (v := v) (vs := vs) hn
        rw [f1] at nd st fi ⊢
        rw [f2] at hv
        rw [f4] at eb
        exact ihb hv nd (f3.mp pl) er (by simpa using hl) (by simpa only [mutS] using r) eb st fA fi az ap ad
  | _ => intro vs ss ss' ms env env' F A _ _ _ ef; cases ss <;> simp [fillA] at ef
theorem RS.length {K : PySem.W.Frag} {Z A : Ad} {F : Nat → Ad} {H : Hp} {vs : List V} {ss : List Sl} (h : RS K Z F H vs ss A) : vs.length = ss.length := by
  induction h with
  | nil => rfl
  | d _ _ ih => simp [ih]
  | m _ _ _ _ _ ih => simp [ih]
  | un _ ih => simp [ih]
end
section
variable {I : Info} {C : Nat → List Sl → CR} {W : WX} {X : Cx} {n : Nat} {c : Ctx}
/-- a call, by its argument values: what the callee wants -/
theorem call_sp {f : Nat} {as : Tm} {q : Bool} {Z P A : Ad} {F F1 : Nat → Ad} {Z1 : Ad} {H H1 : Hp} {env e1 : Env} {σ : L2.St} {vs : List V} {ss : List Sl} {Q : VK} (hv : amV as = true) (nd : (amIx as).Nodup) (hno : q = true → amIx as = [])
    (st : Sta I.K Z1 (fun a => P a ∨ A a) F1 e1 σ H1) (stp : Step Z P H Z1 H1) (rs : RS I.K Z1 noF H1 vs ss A) (ap : ∀ a, A a → ¬ P a) (pl : plOk σ as vs) (qt : q = true → Qt env F H e1 F1 H1)
    (w : Wp (callE C f as ss e1) (fun r env' => ∀ v Z' F' H' B, Sta I.K Z' (fun a => P a ∨ B a) F' env' σ H' → Step Z P H Z' H' → RS I.K Z' noF H' [v] [r] B → (∀ a, B a → ¬ P a) → (q = true → Qt env F H env' F' H') → Q v H') (exK I W σ Z P H)) :
    spF I C f vs H1 Q (WE W σ) := by
  simp only [callE, Wp.bind, Wp.opt] at w
  obtain ⟨ss', ef, w⟩ := w
  have r2 := fill_ok st hv nd pl rs (fun _ z => z) ef
  -- what others hold
  refine ⟨Z1, fun a => P a ∨ ∃ i, i ∉ amIx as ∧ F1 i a, _, ss', r2, ?_, ?_, ?_, ?_, st.dz, ?_, ?_⟩
  · rintro a (z | ⟨i, _, z⟩) z'
    · exact st.zp a z' (.inr z)
    · exact st.fz i a z z'
  · rintro a (z | ⟨i, hi, z⟩) (z' | ⟨j, hj, z'⟩)
    · exact ap a z z'
    · exact st.fp j a z' (.inr z)
    · exact st.fp i a z (.inl z')
    · exact hj (st.ff i j a z z' ▸ hi)
  · rintro a (z | ⟨i, _, z⟩)
    · exact st.dp a (.inr z)
    · exact st.df i a z
  · rintro a z (z' | ⟨i, _, z'⟩)
    · exact st.zp a z (.inl z')
    · exact st.fz i a z' z
  · rintro a (z | ⟨i, _, z⟩)
    · exact st.dp a (.inl z)
    · exact st.df i a z
  · -- behind the call
    have behind : ∀ {Z' : Ad} {H' : Hp} {A' A2 : Ad} {ms : List Sl} {env' : Env}, PostC I Z1 (fun a => P a ∨ ∃ i, i ∉ amIx as ∧ F1 i a) H1 Z' H' A' → RS I.K Z' noF H' (mutS ss' vs) ms A2 → (∀ a, A2 a → A' a) → backA as ms e1 = some env' →
        ∃ F', Sta I.K Z' P F' env' σ H' ∧ (∀ i a, F' i a → (i ∉ amIx as ∧ F1 i a) ∨ A2 a) ∧ (q = true → Qt env F H env' F' H') := by
      intro Z' H' A' A2 ms env' po rm sub eb
      have kz : Keep Z1 H1 H' := po.stp.kp.mono fun _ z => .inl z
      have fk : ∀ i a, i ∉ amIx as → F1 i a → H' a = H1 a := fun i a hi f => po.stp.kp.at_ a (.inr (.inr ⟨i, hi, f⟩))
      have sN : StaN I.K (amIx as) Z' P (fun i a => i ∉ amIx as ∧ F1 i a) e1 σ H' := by
        refine ⟨st.len, fun i d _ e => ?_, fun i m hi e => ?_, fun i j a f g => st.ff i j a f.2 g.2, fun i a f z => ?_, fun i a f p => st.fp i a f.2 (.inl p), fun a z p => po.zp a z (.inl p), fun i a f => ?_, po.zd, fun a p => ?_⟩
        · obtain ⟨v, h1, h2⟩ := st.sd i d e
          exact ⟨v, h1, h2.keep kz po.stp.zz⟩
        · obtain ⟨v, h1, h2⟩ := st.sm i m e
          exact ⟨v, h1, (h2.keep kz po.stp.zz (fk i · hi)).wide fun a z => ⟨hi, z⟩⟩
        · exact po.zp a z (.inr ⟨i, f.1, f.2⟩)
        · rw [fk i a f.1 f.2]; exact st.df i a f.2
        · rw [po.stp.kp.at_ a (.inr (.inl p))]; exact st.dp a (.inl p)
      obtain ⟨F', h1, h2, h3⟩ := back_ok hv nd pl ef r2.length rm eb sN (fun i a f z => po.ap a (sub a z) (.inr ⟨i, f.1, f.2⟩)) (fun i hi a f => f.1 hi) (fun a z => po.az a (sub a z)) (fun a z p => po.ap a (sub a z) (.inl p)) (fun a z => po.ad a (sub a z))
      refine ⟨F', h1, h2, fun hq => ?_⟩
      have hn := hno hq
      obtain ⟨rfl, rfl⟩ := h3 hn
      refine (qt hq).trans ⟨rfl, ?_, fun i a f => fk i a (by rw [hn]; simp) f⟩
      funext i a
      exact propext ⟨fun f => f.2, fun f => ⟨by rw [hn]; simp, f⟩⟩
    have stp' : ∀ {Z' : Ad} {H' : Hp} {A' : Ad}, PostC I Z1 (fun a => P a ∨ ∃ i, i ∉ amIx as ∧ F1 i a) H1 Z' H' A' → Step Z P H Z' H' := fun po => stp.trans po.stp fun _ h => .inl h
    cases e : C f ss' with
    | bad => rw [e] at w; exact w.elim
    | ok r ms =>
      rw [e] at w
      simp only [Wp.bind, Wp.opt, Wp.ok] at w
      obtain ⟨env', eb, w⟩ := w
      intro v Z' H' A' po rr
      have rt : ∃ B A2, RS I.K Z' noF H' [v] [r] B ∧ RS I.K Z' noF H' (mutS ss' vs) ms A2 ∧ (∀ a, B a → A' a) ∧ (∀ a, A2 a → A' a) ∧ ∀ a, B a → A2 a → False := by
        cases rr with
        | d q t => exact ⟨fun _ => False, _, .d q .nil, t, fun _ z => z.elim, fun _ z => z, fun _ z => z.elim⟩
        | m q t d1 d2 d3 => exact ⟨_, _, .m q .nil (C := fun _ => False) (fun _ _ z => z) (fun _ z => z) (fun _ z => z.elim), t, d2, d3, d1⟩
        | un t => exact ⟨fun _ => False, _, .un .nil, t, fun _ z => z.elim, fun _ z => z, fun _ z => z.elim⟩
      obtain ⟨B, A2, rv, rm, sB, sA, dis⟩ := rt
      obtain ⟨F', s3, hF, hq⟩ := behind po rm sA eb
      refine w v Z' F' H' B ⟨s3.len, s3.sd, s3.sm, s3.ff, s3.fz, fun i a f p => ?_, fun a z p => ?_, s3.df, s3.dz, fun a p => ?_⟩ (stp' po) rv (fun a z p => po.ap a (sB a z) (.inl p)) hq
      · rcases p with p | p
        · exact s3.fp i a f p
        · rcases hF i a f with ⟨h1, h2⟩ | h
          · exact po.ap a (sB a p) (.inr ⟨i, h1, h2⟩)
          · exact dis a p h
      · rcases p with p | p
        · exact s3.zp a z p
        · exact po.az a (sB a p) z
      · rcases p with p | p
        · exact s3.dp a p
        · exact po.ad a (sB a p)
    | ex x ms =>
      rw [e] at w
      simp only [Wp.bind, Wp.opt] at w
      obtain ⟨env', eb, w⟩ := w
      intro cv dd Z' H' A' po rm er
      obtain ⟨F', s3, _, _⟩ := behind po rm (fun _ z => z) eb
      exact w cv dd Z' F' H' s3 (stp' po) er
end
end PY

set_option Elab.async false
set_option linter.all false
set_option maxRecDepth 100000
set_option maxHeartbeats 1000000
/-! SoA: calls of defs, in the text. -/
namespace PY
open PySem PySem.Spec PyProof.Rows L2
section
variable {I : Info} {C : Nat → List Sl → CR} {W : WX} {X : Cx} {n : Nat} {c : Ctx}
theorem noAm_ix : ∀ {x : Tm}, noAm x = true → amIx x = [] := by
  intro x
  induction x with
  | cons a b iha ihb =>
    intro h
    clear iha
    cases a <;> first | (simp only [noAm] at h; simp only [amIx]; exact ihb h) | (simp [noAm] at h; done)
  | _ => intro _; rfl
theorem noAm_V : ∀ {x : Tm}, noAm x = true → amV x = true := by
  intro x
  induction x with
  | cons a b iha ihb =>
    intro h
    clear iha
    cases a <;> first | (simp only [noAm] at h; simp only [amV]; exact ihb h) | (simp [noAm] at h; done)
  | _ => intro _; rfl
/-- behind a call that gives a value -/
theorem call_D {Z P : Ad} {F : Nat → Ad} {H : Hp} {env : Env} {σ : L2.St} {q : Bool} {es : Bool} {r : Sl} {env' : Env} {Q : VK} (w : Wp (retD r env') (fun d env' => ∀ v Z' F' H', ResE I.K es q Z P F H env σ Z' F' H' env' v d → Q v H') (exK I W σ Z P H)) :
    ∀ v Z' F' H' B, Sta I.K Z' (fun a => P a ∨ B a) F' env' σ H' → Step Z P H Z' H' → RS I.K Z' noF H' [v] [r] B → (∀ a, B a → ¬ P a) → (q = true → Qt env F H env' F' H') → Q v H' := by
  intro v Z' F' H' B st stp rs bp qt
  simp only [retD, Wp.opt] at w
  obtain ⟨d, ed, w⟩ := w
  cases r <;> simp only [slD, reduceCtorEq, Option.some.injEq] at ed
  subst ed
  cases rs with
  | d q _ =>
    rcases q with q | ⟨_, _, _, _, f, _⟩
    · exact w v Z' F' H' ⟨st.narrow fun _ h => .inl h, stp, .inl q, fun _ => q, qt⟩
    · exact f.elim
theorem call_M {Z P : Ad} {F : Nat → Ad} {H : Hp} {env : Env} {σ : L2.St} {q : Bool} {r : Sl} {env' : Env} {Q : VK} (w : Wp (retM r env') (fun m env' => ∀ v Z' F' H' A, ResM I.K q Z P F H env σ Z' F' H' env' A v m → Q v H') (exK I W σ Z P H)) :
    ∀ v Z' F' H' B, Sta I.K Z' (fun a => P a ∨ B a) F' env' σ H' → Step Z P H Z' H' → RS I.K Z' noF H' [v] [r] B → (∀ a, B a → ¬ P a) → (q = true → Qt env F H env' F' H') → Q v H' := by
  intro v Z' F' H' B st stp rs bp qt
  cases rs with
  | d q _ =>
    rcases q with q | ⟨_, _, _, _, f, _⟩
    · exact w v Z' F' H' _ (ResE.toM ⟨st.narrow fun _ h => .inl h, stp, .inl q, fun _ => q, qt⟩)
    · exact f.elim
  | m q t d1 d2 d3 => exact w v Z' F' H' B ⟨st, stp, q.wide d2, bp, qt⟩
  | un _ => exact w.elim
theorem fn_at (ok : CtxOk I n c X) (io : InfoOk I) (fs : FnsOk I n C) {f : Nat} (hp : plainName (I.fn f) = true) : ∃ fd, I.T f = some fd ∧ FnOk X.prog X.w X.K X.mg X.base (L2.CX X.prog X.w) n (I.fa f) (I.fdt f) (I.fps f) (spF I C f) ∧ X.mg (I.fn f) = some (.ref (I.fa f)) ∧ PySem.W.keepIn X.K (.ref (I.fa f)) = true ∧ Binds X.K (I.fdt f) (I.fps f) [] := by
  obtain ⟨fd, e⟩ := io.tn f hp
  obtain ⟨h1, h2, h3, h4, _⟩ := fs.ok f fd e
  refine ⟨fd, e, ?_⟩
  rw [ok.pr, ok.ww, ok.kk, ok.mg, ok.bs]
  exact ⟨h1, h2, h3, h4⟩
theorem call_run {f : Nat} {as : Tm} {k : Nat} {α : Type} {σ : L2.St} {H : Hp} {Q : VK} {Z P : Ad} {F : Nat → Ad} {env : Env} {Ko : α → Env → Prop} {ret : Sl → Env → R α} (st : Sta I.K Z P F env σ H) (hes : escs as = true) (hv : amV as = true) (nd : (amIx as).Nodup)
    (hr : ∀ r env', Wp (ret r env') Ko (exK I W σ Z P H) → ∀ v Z' F' H' B, Sta I.K Z' (fun a => P a ∨ B a) F' env' σ H' → Step Z P H Z' H' → RS I.K Z' noF H' [v] [r] B → (∀ a, B a → ¬ P a) → ((noAm as && qui as) = true → Qt env F H env' F' H') → Q v H')
    (w : Wp (((ev I.GC C as).a env).bind fun ss env => (callE C f as ss env).bind ret) Ko (exK I W σ Z P H)) : tCallS (spF I C f) (WE W) (tA I C W as) σ H Q := by
  refine ⟨Z, P, F, env, st, ?_⟩
  simp only [Wp.bind] at w
  refine w.mono (fun ss e1 w1 vs Z1 F1 H1 A r1 => ?_) fun _ _ h => h
  refine call_sp (q := noAm as && qui as) hv nd (fun h => noAm_ix ((Bool.and_eq_true _ _ ▸ h).1)) r1.st r1.stp (r1.es hes) r1.ap r1.pl (fun h => r1.qt ((Bool.and_eq_true _ _ ▸ h).2)) ?_
  exact w1.mono (fun r e2 w2 => hr r e2 w2) fun _ _ h => h
theorem db_of {x : Str} (h : plainName x = true) : (x == ("__debug__" : Str)) = false := by
  simp only [plainName, Bool.and_eq_true, Bool.not_eq_true'] at h
  exact h.1.1
theorem snd_call (ok : CtxOk I n c X) (io : InfoOk I) (fs : FnsOk I n C) (tk : Takes X W) {f : Nat} {as : Tm} {x : Str} {a : Expr} {es : List Expr} {p pos : Pos} (hx : x = I.fn f) (hg : glB c.sc x = true) (hp : plainName x = true) (hes : escs as = true) (hv : amV as = true) (nd : (amIx as).Nodup) (hst : (a :: es).all noStar = true)
    (ha : PA X (a :: es) (tA I C W as)) : PE X (.Call (.Name x p) (a :: es) [] pos) (tE I C W (.call f as)) ∧ PE X (.Call (.Name x p) (a :: es) [] pos) (tM I C W (.call f as)) := by
  subst hx
  obtain ⟨fd, _, hF, hm, hk, hb⟩ := fn_at ok io fs hp
  simp only [List.all_cons, Bool.and_eq_true] at hst
  have key := pe_callS (p := p) (pos := pos) hF ok.room (gl_of ok hg) hm hk hb (passAt tk) ha (db_of hp) (star_of hst.1) (pl_nostar hst.2)
  constructor
  · exact key.imp fun σ H Q ⟨Z, P, F, env, st, w⟩ => call_run (k := 0) st hes hv nd (fun r env' w => call_D w) w
  · exact key.imp fun σ H Q ⟨Z, P, F, env, st, w⟩ => call_run (k := 0) st hes hv nd (fun r env' w => call_M w) w
/-! keywords -/
theorem pe_callKS {CX : CXT} {k : Nat} {f : Addr} {fd : FuncData} {ps ks : List Str} {sp : Sp} {E : L2.St → XK} {x : Str} {p pos : Pos} {e : Expr} {es : List Expr} {kws : List Keyword} {t tk : TA} (F : FnOk X.prog X.w X.K X.mg X.base CX k f fd ps sp) (hr : Room k X.A) (hg : Gl X x) (hm : X.mg x = some (.ref f)) (hk : PySem.W.keepIn X.K (.ref f) = true)
    (hb : ∀ (s : Shared) (us ws : List Value), X.K.In s.heap → us.length = es.length + 1 → (us ++ ws).length = ps.length → BindsTo s fd ⟨us, ks.zip ws⟩ (ps.zip (us ++ ws))) (hx : ∀ σ, PassesAt CX X σ (E σ))
    (ha : PA X (e :: es) t) (hkw : PK X kws tk) (hall : (backToKw pos (keywordEach kws X.env)).all (·.1.isSome) = true) (hks : (backToKw pos (keywordEach kws X.env)).filterMap (·.1) = ks)
    (hdb : (x == ("__debug__" : Str)) = false) (he : starEach (e :: es) X.env = (false, eval e X.env) :: starEach es X.env)
    (hpl : ((backTo pos (starEach (e :: es) X.env)).any (·.1) || (backToKw pos (keywordEach kws X.env)).any (·.1.isNone)) = false) :
    PE X (.Call (.Name x p) (e :: es) kws pos) (fun σ H Q => t σ H fun vs H1 => vs.length = es.length + 1 ∧ tk σ H1 fun zs H2 => sp (vs ++ zs) H2 Q (E σ)) := by
  refine ⟨fun pins s σ H Q I h => ?_⟩
  refine wpAny_Call_Name_kw (ld_glob I hg hm ?_ hdb)
  refine PySem.W.callWith_KW (h₀ := X.base) I.ok.mod.kin hk hall (thn (ha.run pos pins s σ H _ I h) fun us s1 ⟨vs, H1, I1, r, hl, q⟩ => ?_) hpl he
  refine thn (hkw.run pos pins s1 σ H1 _ I1 q) fun ws s2 ⟨zs, H2, I2, rz, q2⟩ => ⟨I2.kIn, ?_⟩
  rw [hks]
  have r2 := r.append rz
  have hL : (us ++ ws).length = ps.length := by rw [← r2.length]; exact F.len _ _ _ _ q2
  refine wpAny_call (codeAny_mono (F.run X.A X.stack s2 H2 ⟨us, ks.zip ws⟩ (us ++ ws) (vs ++ zs) Q (E σ) hr I2.env0 (hb s2 us ws I2.kIn (by rw [← r.length]; exact hl) hL) r2 q2) fun r s' hq => ?_)
  cases r with
  | error e => exact hx σ pins H2 s2 e s' I2 hq
  | ok fl =>
    cases fl with
    | ret u => exact I2.after hq
    | next => exact False.elim hq
    | brk => exact False.elim hq
    | cont => exact False.elim hq
def alen : Tm → Nat
  | .cons _ b => alen b + 1
  | _ => 0
theorem Wp.eqn {α : Type} {r : R α} {Ko : α → Env → Prop} {Kx : Ex → Env → Prop} (h : Wp r Ko Kx) : Wp r (fun a e => r = .ok a e ∧ Ko a e) Kx := by
  cases r with
  | ok a e => exact ⟨rfl, h⟩
  | ex x e => exact h
  | bad => exact h
theorem R.bindOk {α β : Type} {r : R α} {f : α → Env → R β} {b : β} {e : Env} (h : r.bind f = .ok b e) : ∃ a e1, r = .ok a e1 ∧ f a e1 = .ok b e := by
  cases r with
  | ok a e1 => exact ⟨a, e1, rfl, h⟩
  | ex x e => cases h
  | bad => cases h
theorem cons_shape {a b : Tm} {env e' : Env} {ss : List Sl} (h : (ev I.GC C (.cons a b)).a env = .ok ss e') : ∃ s r e1, (ev I.GC C b).a e1 = .ok r e' ∧ ss = s :: r ∧ (notAm a = true → ∃ d, s = .d d) := by
  rcases cons3 a with ⟨p, rfl⟩ | ⟨y, rfl⟩ | hn
  · have h' : ((R.opt (getP p env) env).bind fun _ env => ((ev I.GC C b).a env).bind fun r env => R.ok (Sl.un :: r) env) = .ok ss e' := h
    obtain ⟨_, e1, _, h2⟩ := R.bindOk h'
    obtain ⟨r, e2, h3, h4⟩ := R.bindOk h2
    cases h4
    exact ⟨_, r, e1, h3, rfl, fun z => by simp [notAm] at z⟩
  · have h' : (((ev I.GC C y).m env).bind fun m env => ((ev I.GC C b).a env).bind fun r env => R.ok (Sl.m m :: r) env) = .ok ss e' := h
    obtain ⟨_, e1, _, h2⟩ := R.bindOk h'
    obtain ⟨r, e2, h3, h4⟩ := R.bindOk h2
    cases h4
    exact ⟨_, r, e1, h3, rfl, fun z => by simp [notAm] at z⟩
  · rw [ev_cons hn] at h
    have h : (((ev I.GC C a).e env).bind fun d env => ((ev I.GC C b).a env).bind fun r env => R.ok (Sl.d d :: r) env) = .ok ss e' := h
    obtain ⟨d, e1, _, h2⟩ := R.bindOk h
    obtain ⟨r, e2, h3, h4⟩ := R.bindOk h2
    cases h4
    exact ⟨_, r, e1, h3, rfl, fun _ => ⟨d, rfl⟩⟩
theorem a_len : ∀ {as : Tm} {env e' : Env} {ss : List Sl}, (mX I.fn I.gn I.fps I.kk as c).l = (mX I.fn I.gn I.fps I.kk as c).l → (ev I.GC C as).a env = .ok ss e' → (as = .nil ∨ ∃ a b, as = .cons a b) → (∀ (es : List Expr), (mX I.fn I.gn I.fps I.kk as c).l es = true → ss.length = es.length ∧ ss.length = alen as) := by
  intro as
  induction as with
  | nil =>
    intro env e' ss _ h _ es hm
    have : R.ok [] env = R.ok ss e' := h
    cases this
    cases es with
    | nil => exact ⟨rfl, rfl⟩
    | cons _ _ => simp [mX, Mt.no] at hm
  | cons a b iha ihb =>
    clear iha
    intro env e' ss _ h _ es hm
    obtain ⟨s, r, e1, h1, rfl, _⟩ := cons_shape h
    cases es with
    | nil => simp [mX, Mt.no] at hm
    | cons y ys =>
      simp only [mX, Bool.and_eq_true] at hm
      have hb : b = .nil ∨ ∃ a' b', b = .cons a' b' := by
        cases b <;> first | exact .inl rfl | exact .inr ⟨_, _, rfl⟩ | (simp [mX, Mt.no] at hm; done)
      obtain ⟨h2, h3⟩ := ihb rfl h1 hb ys hm.2
      exact ⟨by simp [h2], by simp [h3, alen]⟩
  | _ => intro env e' ss _ _ h; rcases h with h | ⟨_, _, h⟩ <;> cases h
def isLs : Tm → Bool
  | .nil => true
  | .cons _ b => isLs b
  | _ => false
theorem isLs_of : ∀ {as : Tm} {es : List Expr}, (mX I.fn I.gn I.fps I.kk as c).l es = true → isLs as = true := by
  intro as
  induction as with
  | nil => intro _ _; rfl
  | cons a b iha ihb =>
    clear iha
    intro es h
    cases es with
    | nil => simp [mX, Mt.no] at h
    | cons y ys =>
      simp only [mX, Bool.and_eq_true] at h
      exact ihb h.2
  | _ => intro es h; simp [mX, Mt.no] at h
theorem noStars_of : ∀ {as : Tm} {es : List Expr}, (mX I.fn I.gn I.fps I.kk as c).l es = true → es.all noStar = true := by
  intro as
  induction as with
  | nil => intro es h; cases es <;> simp [mX, Mt.no] at h ⊢
  | cons a b iha ihb =>
    clear iha
    intro es h
    cases es with
    | nil => rfl
    | cons y ys =>
      simp only [mX, Bool.and_eq_true] at h
      simp only [List.all_cons, Bool.and_eq_true]
      exact ⟨h.1.1.2, ihb h.2⟩
  | _ => intro es h; simp [mX, Mt.no] at h
theorem app_ix {ks : Tm} (hk : noAm ks = true) : ∀ {as : Tm}, isLs as = true → amIx (appA ks as) = amIx as ∧ (amV as = true → amV (appA ks as) = true) := by
  intro as
  induction as with
  | nil => intro _; exact ⟨noAm_ix hk, fun _ => noAm_V hk⟩
  | cons a b iha ihb =>
    clear iha
    intro h
    obtain ⟨h1, h2⟩ := ihb h
    rcases cons3 a with ⟨p, rfl⟩ | ⟨y, rfl⟩ | hn
    · cases p with
      | v i =>
        simp only [appA, amIx, amV]
        exact ⟨by rw [h1], h2⟩
      | _ =>
        simp only [appA, amIx, amV]
        exact ⟨h1, fun z => by cases z⟩
    · exact ⟨h1, h2⟩
    · obtain ⟨f1, f2, _⟩ := other_facts (b := b) (σ := []) (v := .non) (vs := []) hn
      obtain ⟨g1, g2, _⟩ := other_facts (b := appA ks b) (σ := []) (v := .non) (vs := []) hn
      simp only [appA]
      rw [f1, f2, g1, g2]
      exact ⟨h1, h2⟩
  | _ => intro h; simp [isLs] at h
theorem noAm_pl {σ : L2.St} : ∀ {x : Tm} {vs : List V}, noAm x = true → plOk σ x vs := by
  intro x
  induction x with
  | cons a b iha ihb =>
    clear iha
    intro vs h
    cases vs with
    | nil => cases a <;> first | trivial | (rename_i p; cases p <;> trivial)
    | cons v vs =>
      cases a <;> first | (simp only [noAm] at h; simp only [plOk]; exact ihb h) | (simp [noAm] at h; done)
  | _ => intro vs _; cases vs <;> trivial
theorem app_pl {ks : Tm} {σ : L2.St} (hk : noAm ks = true) {zs : List V} : ∀ {as : Tm} {vs : List V}, isLs as = true → vs.length = alen as → plOk σ as vs → plOk σ (appA ks as) (vs ++ zs) := by
  intro as
  induction as with
  | nil =>
    intro vs _ _ _
    exact noAm_pl hk
  | cons a b iha ihb =>
    clear iha
    intro vs h hl pl
    cases vs with
    | nil => simp [alen] at hl
    | cons v vs =>
      have hl' : vs.length = alen b := by simpa [alen] using hl
      rcases cons3 a with ⟨p, rfl⟩ | ⟨y, rfl⟩ | hn
      · cases p with
        | v i => exact ⟨pl.1, ihb h hl' pl.2⟩
        | _ => exact ihb (vs := vs) h hl' pl
      · exact ihb (vs := vs) h hl' pl
      · have e1 := (other_facts (b := b) (σ := σ) (v := v) (vs := vs) hn).2.2.1
        have e2 := (other_facts (b := appA ks b) (σ := σ) (v := v) (vs := vs ++ zs) hn).2.2.1
        exact e2.mpr (ihb h hl' (e1.mp pl))
  | _ => intro vs h; simp [isLs] at h
theorem RS.app {K : PySem.W.Frag} {Z A B : Ad} {F : Nat → Ad} {H : Hp} {vs zs : List V} {ss ks : List Sl} (h : RS K Z F H vs ss A) (h2 : RS K Z F H zs ks B) (dis : ∀ a, A a → B a → False) : RS K Z F H (vs ++ zs) (ss ++ ks) (fun a => A a ∨ B a) := by
  induction h with
  | nil => exact RS.wide h2 fun _ z => .inr z
  | d r _ ih => exact RS.d r (ih dis)
  | m r t d1 h3 h4 ih => exact RS.m r (ih fun a z => dis a (h4 a z)) (fun a z => fun z' => z'.elim (d1 a z) (dis a (h3 a z))) (fun a z => .inl (h3 a z)) fun a z => z.imp (h4 a) id
  | un _ ih => exact RS.un (ih dis)
theorem RS.keepN {K : PySem.W.Frag} {Z Z' A : Ad} {H H' : Hp} {vs : List V} {ss : List Sl} (h : RS K Z noF H vs ss A) (k : Keep Z H H') (hz : ∀ a, Z a → Z' a) (ka : ∀ a, A a → H' a = H a) : RS K Z' noF H' vs ss A := by
  induction h with
  | nil => exact .nil
  | d r _ ih =>
    refine RS.d ?_ (ih ka)
    rcases r with r | ⟨_, _, _, _, f, _⟩
    · exact .inl (r.keep k hz)
    · exact f.elim
  | m r t d1 h3 h4 ih => exact RS.m (r.keep k hz fun a z => ka a (h3 a z)) (ih fun a z => ka a (h4 a z)) d1 h3 h4
  | un _ ih => exact RS.un (ih ka)
theorem kw_facts {env : PySem.Env} {pos : Pos} : ∀ {kws : List Keyword} {ks : List Str}, kwNames kws = ks.map some → (backToKw pos (keywordEach kws env)).all (·.1.isSome) = true ∧ (backToKw pos (keywordEach kws env)).filterMap (·.1) = ks ∧ (backToKw pos (keywordEach kws env)).any (·.1.isNone) = false := by
  intro kws
  induction kws with
  | nil =>
    intro ks h
    cases ks with
    | nil => exact ⟨rfl, rfl, rfl⟩
    | cons _ _ => cases h
  | cons k kws ih =>
    intro ks h
    obtain ⟨nm, e, kp⟩ := k
    cases ks with
    | nil => cases h
    | cons y ys =>
      simp only [kwNames, List.map_cons, List.cons.injEq] at h
      obtain ⟨rfl, h⟩ := h
      obtain ⟨h1, h2, h3⟩ := ih h
      refine ⟨?_, ?_, ?_⟩
      · show (true && (backToKw pos (keywordEach kws env)).all (·.1.isSome)) = true
        rw [h1]; rfl
      · show y :: (backToKw pos (keywordEach kws env)).filterMap (·.1) = y :: ys
        rw [h2]
      · show (false || (backToKw pos (keywordEach kws env)).any (·.1.isNone)) = false
        rw [h3]; rfl
end
section
variable {I : Info} {C : Nat → List Sl → CR} {W : WX} {X : Cx} {n : Nat} {c : Ctx}
theorem callK_run {f : Nat} {as ks : Tm} {es : List Expr} {α : Type} {σ : L2.St} {H : Hp} {Q : VK} {Z P : Ad} {F : Nat → Ad} {env : Env} {Ko : α → Env → Prop} {ret : Sl → Env → R α} (st : Sta I.K Z P F env σ H) (hes : escs as = true) (hek : escs ks = true) (hv : amV as = true) (nd : (amIx as).Nodup) (hk : noAm ks = true) (hm : (mX I.fn I.gn I.fps I.kk as c).l es = true)
    (hr : ∀ r env', Wp (ret r env') Ko (exK I W σ Z P H) → ∀ v Z' F' H' B, Sta I.K Z' (fun a => P a ∨ B a) F' env' σ H' → Step Z P H Z' H' → RS I.K Z' noF H' [v] [r] B → (∀ a, B a → ¬ P a) → ((noAm as && noAm ks && qui as && qui ks) = true → Qt env F H env' F' H') → Q v H')
    (w : Wp (((ev I.GC C as).a env).bind fun ss env => ((ev I.GC C ks).a env).bind fun kz env => (callE C f (appA ks as) (ss ++ kz) env).bind ret) Ko (exK I W σ Z P H)) :
    tA I C W as σ H fun vs H1 => vs.length = es.length ∧ tA I C W ks σ H1 fun zs H2 => spF I C f (vs ++ zs) H2 Q (WE W σ) := by
  refine ⟨Z, P, F, env, st, ?_⟩
  simp only [Wp.bind] at w
  refine w.eqn.mono (fun ss e1 ⟨eq, w1⟩ vs Z1 F1 H1 A r1 => ?_) fun _ _ h => h
  have il := isLs_of hm
  obtain ⟨l1, l2⟩ := a_len rfl eq (by cases as <;> first | exact .inl rfl | exact .inr ⟨_, _, rfl⟩ | simp [isLs] at il) es hm
  have lv : vs.length = ss.length := r1.rs.length
  refine ⟨lv.trans l1, Z1, fun a => P a ∨ A a, F1, e1, r1.st, w1.mono (fun kz e2 w2 zs Z2 F2 H2 B r2 => ?_) fun _ _ h => h.later r1.stp fun _ h => .inl h⟩
  obtain ⟨hi, hV⟩ := app_ix hk il
  have rA := RS.keepN (r1.es hes) (r2.stp.kp.mono fun _ z => .inl z) r2.stp.zz fun a z => r2.stp.kp.at_ a (.inr (.inr z))
  have stp := r1.stp.trans r2.stp fun _ h => .inl h
  refine call_sp (env := env) (F := F) (q := noAm as && noAm ks && qui as && qui ks) (hV hv) (hi ▸ nd) (fun h => ?_) (r2.st.narrow fun a h => ?_) stp (rA.app (r2.es hek) fun a z z' => r2.ap a z' (.inr z)) (fun a z p => ?_) (app_pl hk il (lv.trans l2) r1.pl) (fun h => ?_) ?_
  · simp only [Bool.and_eq_true] at h
    rw [hi]; exact noAm_ix h.1.1.1
  · rcases h with h | h | h
    · exact .inl (.inl h)
    · exact .inl (.inr h)
    · exact .inr h
  · rcases z with z | z
    · exact r1.ap a z p
    · exact r2.ap a z (.inl p)
  · simp only [Bool.and_eq_true] at h
    exact (r1.qt h.1.2).trans (r2.qt h.2)
  · exact w2.mono (fun r e2 w2 => hr r e2 w2) fun _ _ h => h
theorem snd_callK (ok : CtxOk I n c X) (io : InfoOk I) (fs : FnsOk I n C) (tk : Takes X W) {f : Nat} {as ks : Tm} {x : Str} {a : Expr} {es : List Expr} {kws : List Keyword} {p pos : Pos} (hx : x = I.fn f) (hg : glB c.sc x = true) (hp : plainName x = true) (hes : escs as = true) (hek : escs ks = true) (hv : amV as = true) (hk : noAm ks = true) (nd : (amIx as).Nodup)
    (hkk : (I.kk f).contains [es.length + 1] = true) (hn : kwNames kws = ((I.fps f).drop (es.length + 1)).map some) (hm : (mX I.fn I.gn I.fps I.kk as c).l (a :: es) = true) (ha : PA X (a :: es) (tA I C W as)) (hks : PK X kws (tA I C W ks)) :
    PE X (.Call (.Name x p) (a :: es) kws pos) (tE I C W (.callK f as ks)) ∧ PE X (.Call (.Name x p) (a :: es) kws pos) (tM I C W (.callK f as ks)) := by
  subst hx
  obtain ⟨fd, e⟩ := io.tn f hp
  obtain ⟨h1, h2, h3, _, h5, _⟩ := fs.ok f fd e
  have h5 := h5 (es.length + 1) (by simpa using hkk)
  rw [← ok.pr, ← ok.ww, ← ok.kk, ← ok.mg, ← ok.bs] at h1
  rw [← ok.mg] at h2
  rw [← ok.kk] at h3
  rw [← ok.kk] at h5
  have hst := noStars_of hm
  simp only [List.all_cons, Bool.and_eq_true] at hst
  obtain ⟨k1, k2, k3⟩ := kw_facts (env := X.env) (pos := pos) hn
  have key := pe_callKS (p := p) (pos := pos) h1 ok.room (gl_of ok hg) h2 h3 h5 (passAt tk) ha hks k1 k2 (db_of hp) (star_of hst.1) (by
    rw [star_of hst.1, k3, Bool.or_false]
    show (false || (backTo pos (starEach es X.env)).any (·.1)) = false
    rw [pl_nostar hst.2]; rfl)
  constructor
  · exact key.imp fun σ H Q ⟨Z, P, F, env, st, w⟩ => callK_run st hes hek hv nd hk hm (fun r env' w => call_D w) w
  · exact key.imp fun σ H Q ⟨Z, P, F, env, st, w⟩ => callK_run st hes hek hv nd hk hm (fun r env' w => call_M w) w
end
/-! calls without arguments, calls with keywords in any order -/
section
variable {I : Info} {C : Nat → List Sl → CR} {W : WX} {X : Cx} {n : Nat} {c : Ctx}
theorem pe_call0S {CX : CXT} {k : Nat} {f : Addr} {fd : FuncData} {ps : List Str} {sp : Sp} {E : L2.St → XK} {x : Str} {p pos : Pos} (F : FnOk X.prog X.w X.K X.mg X.base CX k f fd ps sp) (hr : Room k X.A) (hg : Gl X x) (hm : X.mg x = some (.ref f)) (hk : PySem.W.keepIn X.K (.ref f) = true)
    (hb : Binds X.K fd ps []) (hx : ∀ σ, PassesAt CX X σ (E σ)) (hdb : (x == ("__debug__" : Str)) = false) : PE X (.Call (.Name x p) [] [] pos) (fun σ H Q => sp [] H Q (E σ)) := by
  refine ⟨fun pins s σ H Q I h => ?_⟩
  refine wpAny_Call_Name_kw (ld_glob I hg hm ?_ hdb)
  refine PySem.W.callWith_K0 I.kIn hk ?_
  have hL : (([] : List Value) ++ []).length = ps.length := F.len [] _ _ _ h
  refine wpAny_call (codeAny_mono (F.run X.A X.stack s H ⟨[], []⟩ [] [] Q (E σ) hr I.env0 (hb s [] I.kIn hL) .nil h) fun r s' hq => ?_)
  cases r with
  | error e => exact hx σ pins H s e s' I hq
  | ok fl =>
    cases fl with
    | ret u => exact I.after hq
    | next => exact False.elim hq
    | brk => exact False.elim hq
    | cont => exact False.elim hq
theorem permV {q : List Nat} : ∀ {vs : List V} {us : List Value}, Vals vs us → Vals (permL vs q) (permL us q) := by
  induction q with
  | nil => intro vs us _; exact .nil
  | cons i q ih =>
    intro vs us r
    have hi : ∀ {vs : List V} {us : List Value} (i : Nat), Vals vs us → (∃ v u, vs[i]? = some v ∧ us[i]? = some u ∧ L2.RelV v u) ∨ (vs[i]? = none ∧ us[i]? = none) := by
      intro vs us i r
      induction r generalizing i with
      | nil => exact .inr ⟨rfl, rfl⟩
      | cons r1 _ ih =>
        cases i with
        | zero => exact .inl ⟨_, _, rfl, rfl, r1⟩
        | succ i => simpa using ih i
    unfold permL
    rcases hi i r with ⟨v, u, e1, e2, r1⟩ | ⟨e1, e2⟩
    · rw [e1, e2]; exact .cons r1 (ih r)
    · rw [e1, e2]; exact ih r
theorem pe_callPS {CX : CXT} {k : Nat} {f : Addr} {fd : FuncData} {ps ks : List Str} {q : List Nat} {sp : Sp} {E : L2.St → XK} {x : Str} {p pos : Pos} {e : Expr} {es : List Expr} {kws : List Keyword} {t tk : TA} (F : FnOk X.prog X.w X.K X.mg X.base CX k f fd ps sp) (hr : Room k X.A) (hg : Gl X x) (hm : X.mg x = some (.ref f)) (hk : PySem.W.keepIn X.K (.ref f) = true)
    (hb : ∀ (s : Shared) (us ws : List Value), X.K.In s.heap → us.length = es.length + 1 → ws.length = q.length → BindsTo s fd ⟨us, ks.zip ws⟩ (ps.zip (us ++ permL ws (pmOf q us.length)))) (hx : ∀ σ, PassesAt CX X σ (E σ))
    (ha : PA X (e :: es) t) (hkw : PK X kws tk) (hall : (backToKw pos (keywordEach kws X.env)).all (·.1.isSome) = true) (hks : (backToKw pos (keywordEach kws X.env)).filterMap (·.1) = ks)
    (hdb : (x == ("__debug__" : Str)) = false) (he : starEach (e :: es) X.env = (false, eval e X.env) :: starEach es X.env)
    (hpl : ((backTo pos (starEach (e :: es) X.env)).any (·.1) || (backToKw pos (keywordEach kws X.env)).any (·.1.isNone)) = false) :
    PE X (.Call (.Name x p) (e :: es) kws pos) (fun σ H Q => t σ H fun vs H1 => vs.length = es.length + 1 ∧ tk σ H1 fun zs H2 => zs.length = q.length ∧ sp (vs ++ permL zs (pmOf q vs.length)) H2 Q (E σ)) := by
  refine ⟨fun pins s σ H Q I h => ?_⟩
  refine wpAny_Call_Name_kw (ld_glob I hg hm ?_ hdb)
  refine PySem.W.callWith_KW (h₀ := X.base) I.ok.mod.kin hk hall (thn (ha.run pos pins s σ H _ I h) fun us s1 ⟨vs, H1, I1, r, hl, q1⟩ => ?_) hpl he
  refine thn (hkw.run pos pins s1 σ H1 _ I1 q1) fun ws s2 ⟨zs, H2, I2, rz, hl2, q2⟩ => ⟨I2.kIn, ?_⟩
  rw [hks]
  have rl := r.length
  have r2 := r.append (permV (q := pmOf q us.length) rz)
  rw [← rl] at r2
  refine wpAny_call (codeAny_mono (F.run X.A X.stack s2 H2 ⟨us, ks.zip ws⟩ (us ++ permL ws (pmOf q vs.length)) (vs ++ permL zs (pmOf q vs.length)) Q (E σ) hr I2.env0 (by rw [rl]; exact hb s2 us ws I2.kIn (by rw [← rl]; exact hl) (by rw [← rz.length]; exact hl2)) r2 q2) fun r s' hq => ?_)
  cases r with
  | error e => exact hx σ pins H2 s2 e s' I2 hq
  | ok fl =>
    cases fl with
    | ret u => exact I2.after hq
    | next => exact False.elim hq
    | brk => exact False.elim hq
    | cont => exact False.elim hq
theorem pe_callP0 {CX : CXT} {k : Nat} {f : Addr} {fd : FuncData} {ps ks : List Str} {q : List Nat} {sp : Sp} {E : L2.St → XK} {x : Str} {p pos : Pos} {kws : List Keyword} {tk : TA} (F : FnOk X.prog X.w X.K X.mg X.base CX k f fd ps sp) (hr : Room k X.A) (hg : Gl X x) (hm : X.mg x = some (.ref f)) (hk : PySem.W.keepIn X.K (.ref f) = true)
    (hb : ∀ (s : Shared) (ws : List Value), X.K.In s.heap → ws.length = q.length → BindsTo s fd ⟨[], ks.zip ws⟩ (ps.zip (permL ws (pmOf q 0)))) (hx : ∀ σ, PassesAt CX X σ (E σ))
    (hkw : PK X kws tk) (hall : (backToKw pos (keywordEach kws X.env)).all (·.1.isSome) = true) (hks : (backToKw pos (keywordEach kws X.env)).filterMap (·.1) = ks)
    (hdb : (x == ("__debug__" : Str)) = false) (hpl : (backToKw pos (keywordEach kws X.env)).any (·.1.isNone) = false) :
    PE X (.Call (.Name x p) [] kws pos) (fun σ H Q => tk σ H fun zs H2 => zs.length = q.length ∧ sp (permL zs (pmOf q 0)) H2 Q (E σ)) := by
  refine ⟨fun pins s σ H Q I h => ?_⟩
  refine wpAny_Call_Name_kw (ld_glob I hg hm ?_ hdb)
  refine PySem.W.callWith_KW0 (h₀ := X.base) I.ok.mod.kin hk hall (thn (hkw.run pos pins s σ H _ I h) fun ws s2 ⟨zs, H2, I2, rz, hl2, q2⟩ => ⟨I2.kIn, ?_⟩) (by rw [hpl]; rfl)
  rw [hks]
  refine wpAny_call (codeAny_mono (F.run X.A X.stack s2 H2 ⟨[], ks.zip ws⟩ (permL ws (pmOf q 0)) (permL zs (pmOf q 0)) Q (E σ) hr I2.env0 (hb s2 ws I2.kIn (by rw [← rz.length]; exact hl2)) (permV rz) q2) fun r s' hq => ?_)
  cases r with
  | error e => exact hx σ pins H2 s2 e s' I2 hq
  | ok fl =>
    cases fl with
    | ret u => exact I2.after hq
    | next => exact False.elim hq
    | brk => exact False.elim hq
    | cont => exact False.elim hq
theorem RS.perm {K : PySem.W.Frag} {Z B : Ad} {H : Hp} {zs : List V} {kz : List Sl} (h : RS K Z noF H zs kz B) (hd : ∀ s, s ∈ kz → ∃ d, s = .d d) : ∀ pm : List Nat, RS K Z noF H (permL zs pm) (permL kz pm) B := by
  have at_ : ∀ i : Nat, (∃ v d, zs[i]? = some v ∧ kz[i]? = some (.d d) ∧ RW K Z noF H v d) ∨ (zs[i]? = none ∧ kz[i]? = none) := by
    induction h with
    | nil => intro i; exact .inr ⟨rfl, rfl⟩
    | d r _ ih =>
      intro i
      cases i with
      | zero => exact .inl ⟨_, _, rfl, rfl, r⟩
      | succ i => simpa using ih (fun s hs => hd s (by simp [hs])) i
    | m _ _ _ _ _ _ => obtain ⟨d, e⟩ := hd _ (List.mem_cons_self); cases e
    | un _ _ => obtain ⟨d, e⟩ := hd _ (List.mem_cons_self); cases e
  intro pm
  induction pm with
  | nil => exact .nil
  | cons i pm ih =>
    unfold permL
    rcases at_ i with ⟨v, d, e1, e2, r⟩ | ⟨e1, e2⟩
    · rw [e1, e2]; exact .d r ih
    · rw [e1, e2]; exact ih
theorem kz_d : ∀ {ks : Tm} {kws : List Keyword} {env e' : Env} {kz : List Sl}, (mX I.fn I.gn I.fps I.kk ks c).k kws = true → (ev I.GC C ks).a env = .ok kz e' → (∀ s, s ∈ kz → ∃ d, s = .d d) ∧ kz.length = kws.length := by
  intro ks
  induction ks with
  | nil =>
    intro kws env e' kz hk h
    have : R.ok [] env = R.ok kz e' := h
    cases this
    cases kws with
    | nil => exact ⟨fun s hs => (by cases hs), rfl⟩
    | cons _ _ => simp [mX, Mt.no] at hk
  | cons a b iha ihb =>
    clear iha
    intro kws env e' kz hk h
    cases kws with
    | nil => simp [mX, Mt.no] at hk
    | cons y ys =>
      obtain ⟨nm, y, kp⟩ := y
      cases nm with
      | none => simp [mX, Mt.no] at hk
      | some nm =>
        simp only [mX, Bool.and_eq_true] at hk
        obtain ⟨s, r, e1, h1, rfl, h3⟩ := cons_shape h
        obtain ⟨i1, i2⟩ := ihb hk.2 h1
        refine ⟨fun z hz => ?_, by simp [i2]⟩
        rcases List.mem_cons.mp hz with rfl | hz
        · exact h3 hk.1.1.1
        · exact i1 z hz
  | _ => intro kws env e' kz hk h; simp [mX, Mt.no] at hk
theorem callP_run {f : Nat} {as ks : Tm} {q : List Nat} {es : List Expr} {kws : List Keyword} {α : Type} {σ : L2.St} {H : Hp} {Q : VK} {Z P : Ad} {F : Nat → Ad} {env : Env} {Ko : α → Env → Prop} {ret : Sl → Env → R α} (st : Sta I.K Z P F env σ H) (hes : escs as = true) (hek : escs ks = true) (hv : amV as = true) (nd : (amIx as).Nodup) (hk : noAm ks = true) (hm : (mX I.fn I.gn I.fps I.kk as c).l es = true)
    (hmk : (mX I.fn I.gn I.fps I.kk ks c).k kws = true) (hq : kws.length = q.length)
    (hr : ∀ r env', Wp (ret r env') Ko (exK I W σ Z P H) → ∀ v Z' F' H' B, Sta I.K Z' (fun a => P a ∨ B a) F' env' σ H' → Step Z P H Z' H' → RS I.K Z' noF H' [v] [r] B → (∀ a, B a → ¬ P a) → ((noAm as && noAm ks && qui as && qui ks) = true → Qt env F H env' F' H') → Q v H')
    (w : Wp (((ev I.GC C as).a env).bind fun ss env => ((ev I.GC C ks).a env).bind fun kz env => (callE C f (appA ks as) (ss ++ permL kz (pmOf q ss.length)) env).bind ret) Ko (exK I W σ Z P H)) :
    tA I C W as σ H fun vs H1 => vs.length = es.length ∧ tA I C W ks σ H1 fun zs H2 => zs.length = q.length ∧ spF I C f (vs ++ permL zs (pmOf q vs.length)) H2 Q (WE W σ) := by
  refine ⟨Z, P, F, env, st, ?_⟩
  simp only [Wp.bind] at w
  refine w.eqn.mono (fun ss e1 ⟨eq, w1⟩ vs Z1 F1 H1 A r1 => ?_) fun _ _ h => h
  have il := isLs_of hm
  obtain ⟨l1, l2⟩ := a_len rfl eq (by cases as <;> first | exact .inl rfl | exact .inr ⟨_, _, rfl⟩ | simp [isLs] at il) es hm
  have lv : vs.length = ss.length := r1.rs.length
  refine ⟨lv.trans l1, Z1, fun a => P a ∨ A a, F1, e1, r1.st, w1.eqn.mono (fun kz e2 ⟨eqk, w2⟩ zs Z2 F2 H2 B r2 => ?_) fun _ _ h => h.later r1.stp fun _ h => .inl h⟩
  obtain ⟨kd, kl⟩ := kz_d hmk eqk
  refine ⟨by rw [r2.rs.length, kl, hq], ?_⟩
  rw [lv]
  obtain ⟨hi, hV⟩ := app_ix hk il
  have rA := RS.keepN (r1.es hes) (r2.stp.kp.mono fun _ z => .inl z) r2.stp.zz fun a z => r2.stp.kp.at_ a (.inr (.inr z))
  have stp := r1.stp.trans r2.stp fun _ h => .inl h
  refine call_sp (env := env) (F := F) (q := noAm as && noAm ks && qui as && qui ks) (hV hv) (hi ▸ nd) (fun h => ?_) (r2.st.narrow fun a h => ?_) stp (rA.app ((r2.es hek).perm kd _) fun a z z' => r2.ap a z' (.inr z)) (fun a z p => ?_) (app_pl hk il (lv.trans l2) r1.pl) (fun h => ?_) ?_
  · simp only [Bool.and_eq_true] at h
    rw [hi]; exact noAm_ix h.1.1.1
  · rcases h with h | h | h
    · exact .inl (.inl h)
    · exact .inl (.inr h)
    · exact .inr h
  · rcases z with z | z
    · exact r1.ap a z p
    · exact r2.ap a z (.inl p)
  · simp only [Bool.and_eq_true] at h
    exact (r1.qt h.1.2).trans (r2.qt h.2)
  · exact w2.mono (fun r e2 w2 => hr r e2 w2) fun _ _ h => h
theorem callP0_run {f : Nat} {ks : Tm} {q : List Nat} {kws : List Keyword} {α : Type} {σ : L2.St} {H : Hp} {Q : VK} {Z P : Ad} {F : Nat → Ad} {env : Env} {Ko : α → Env → Prop} {ret : Sl → Env → R α} (st : Sta I.K Z P F env σ H) (hek : escs ks = true) (hk : noAm ks = true)
    (hmk : (mX I.fn I.gn I.fps I.kk ks c).k kws = true) (hq : kws.length = q.length)
    (hr : ∀ r env', Wp (ret r env') Ko (exK I W σ Z P H) → ∀ v Z' F' H' B, Sta I.K Z' (fun a => P a ∨ B a) F' env' σ H' → Step Z P H Z' H' → RS I.K Z' noF H' [v] [r] B → (∀ a, B a → ¬ P a) → ((noAm .nil && noAm ks && qui .nil && qui ks) = true → Qt env F H env' F' H') → Q v H')
    (w : Wp (((ev I.GC C ks).a env).bind fun kz env => (callE C f (appA ks .nil) ([] ++ permL kz (pmOf q 0)) env).bind ret) Ko (exK I W σ Z P H)) :
    tA I C W ks σ H fun zs H2 => zs.length = q.length ∧ spF I C f (permL zs (pmOf q 0)) H2 Q (WE W σ) := by
  refine ⟨Z, P, F, env, st, ?_⟩
  simp only [Wp.bind] at w
  refine w.eqn.mono (fun kz e2 ⟨eqk, w2⟩ zs Z2 F2 H2 B r2 => ?_) fun _ _ h => h
  obtain ⟨kd, kl⟩ := kz_d hmk eqk
  refine ⟨by rw [r2.rs.length, kl, hq], ?_⟩
  refine call_sp (env := env) (F := F) (q := noAm .nil && noAm ks && qui .nil && qui ks) (noAm_V hk) (by show (amIx ks).Nodup; rw [noAm_ix hk]; exact .nil) (fun _ => noAm_ix hk) r2.st r2.stp ((r2.es hek).perm kd _) r2.ap (noAm_pl hk) (fun h => ?_) ?_
  · simp only [Bool.and_eq_true] at h
    exact r2.qt h.2
  · exact w2.mono (fun r e2 w2 => hr r e2 w2) fun _ _ h => h
theorem kwn_len : ∀ {kws : List Keyword} {l : List (Option Str)}, kwNames kws = l → kws.length = l.length := by
  intro kws
  induction kws with
  | nil => intro l h; subst h; rfl
  | cons k kws ih =>
    intro l h
    obtain ⟨nm, e, kp⟩ := k
    subst h
    simp [kwNames, ih rfl]
theorem snd_callP (ok : CtxOk I n c X) (io : InfoOk I) (fs : FnsOk I n C) (tk : Takes X W) {f : Nat} {as ks : Tm} {q : List Nat} {x : Str} {es : List Expr} {kws : List Keyword} {p pos : Pos} (hx : x = I.fn f) (hg : glB c.sc x = true) (hp : plainName x = true) (hes : escs as = true) (hek : escs ks = true) (hv : amV as = true) (hk : noAm ks = true) (nd : (amIx as).Nodup)
    (hkk : (I.kk f).contains (99 :: q) = true) (hn : kwNames kws = q.map fun i => some ((I.fps f).getD i "")) (hl : es.length + q.length = (I.fps f).length) (hm : (mX I.fn I.gn I.fps I.kk as c).l es = true) (hmk : (mX I.fn I.gn I.fps I.kk ks c).k kws = true) (ha : PA X es (tA I C W as)) (hks : PK X kws (tA I C W ks)) :
    PE X (.Call (.Name x p) es kws pos) (tE I C W (.callP f as ks q)) ∧ PE X (.Call (.Name x p) es kws pos) (tM I C W (.callP f as ks q)) := by
  subst hx
  obtain ⟨fd, e⟩ := io.tn f hp
  obtain ⟨h1, h2, h3, _, _, h5⟩ := fs.ok f fd e
  have h5 := h5 q (by simpa using hkk)
  rw [← ok.pr, ← ok.ww, ← ok.kk, ← ok.mg, ← ok.bs] at h1
  rw [← ok.mg] at h2
  rw [← ok.kk] at h3
  rw [← ok.kk] at h5
  have hq : kws.length = q.length := by rw [kwn_len hn, List.length_map]
  have hst := noStars_of hm
  obtain ⟨k1, k2, k3⟩ := kw_facts (env := X.env) (pos := pos) (ks := q.map fun i => (I.fps f).getD i "") (by rw [hn, List.map_map]; rfl)
  cases es with
  | nil =>
    have has : as = .nil := by
      cases as <;> first | rfl | (simp [mX, Mt.no] at hm; done)
    subst has
    have key := pe_callP0 (p := p) (pos := pos) (q := q) h1 ok.room (gl_of ok hg) h2 h3 (fun s ws hi hw => by simpa using h5 s [] ws hi (by simpa using hl) hw) (passAt tk) hks k1 k2 (db_of hp) k3
    constructor
    · exact key.imp fun σ H Q ⟨Z, P, F, env, st, w⟩ => callP0_run st hek hk hmk hq (fun r env' w => call_D w) w
    · exact key.imp fun σ H Q ⟨Z, P, F, env, st, w⟩ => callP0_run st hek hk hmk hq (fun r env' w => call_M w) w
  | cons a es =>
    simp only [List.all_cons, Bool.and_eq_true] at hst
    have key := pe_callPS (p := p) (pos := pos) (q := q) h1 ok.room (gl_of ok hg) h2 h3 (fun s us ws hi hu hw => h5 s us ws hi (by rw [hu]; exact hl) hw) (passAt tk) ha hks k1 k2 (db_of hp) (star_of hst.1) (by
      rw [star_of hst.1, k3, Bool.or_false]
      show (false || (backTo pos (starEach es X.env)).any (·.1)) = false
      rw [pl_nostar hst.2]; rfl)
    constructor
    · exact key.imp fun σ H Q ⟨Z, P, F, env, st, w⟩ => callP_run st hes hek hv nd hk hm hmk hq (fun r env' w => call_D w) w
    · exact key.imp fun σ H Q ⟨Z, P, F, env, st, w⟩ => callP_run st hes hek hv nd hk hm hmk hq (fun r env' w => call_M w) w
theorem snd_call0 (ok : CtxOk I n c X) (io : InfoOk I) (fs : FnsOk I n C) (tk : Takes X W) {f : Nat} {x : Str} {p pos : Pos} (hx : x = I.fn f) (hg : glB c.sc x = true) (hp : plainName x = true) :
    PE X (.Call (.Name x p) [] [] pos) (tE I C W (.call f .nil)) ∧ PE X (.Call (.Name x p) [] [] pos) (tM I C W (.call f .nil)) := by
  subst hx
  obtain ⟨fd, _, hF, hm, hk, hb⟩ := fn_at ok io fs hp
  have key := pe_call0S (p := p) (pos := pos) hF ok.room (gl_of ok hg) hm hk hb (passAt tk) (db_of hp)
  have nilA : ∀ {Z P : Ad} {F : Nat → Ad} {env : Env} {σ : L2.St} {H : Hp}, Sta I.K Z P F env σ H → Sta I.K Z (fun a => P a ∨ False) F env σ H := fun st => st.narrow fun a h => h.elim id False.elim
  constructor
  · exact key.imp fun σ H Q ⟨Z, P, F, env, st, w⟩ => call_sp (A := fun _ => False) (q := true) (as := .nil) (ss := []) rfl .nil (fun _ => rfl) (nilA st) .refl .nil (fun _ z => z.elim) trivial (fun _ => Qt.refl) (Wp.mono (Wp.bind.mp w) (fun r e2 w2 => call_D w2) fun _ _ h => h)
  · exact key.imp fun σ H Q ⟨Z, P, F, env, st, w⟩ => call_sp (A := fun _ => False) (q := true) (as := .nil) (ss := []) rfl .nil (fun _ => rfl) (nilA st) .refl .nil (fun _ z => z.elim) trivial (fun _ => Qt.refl) (Wp.mono (Wp.bind.mp w) (fun r e2 w2 => call_M w2) fun _ _ h => h)
end
end PY

set_option Elab.async false
set_option linter.all false
set_option maxRecDepth 100000
set_option maxHeartbeats 2000000
/-! SoB: every expression that the look ties to its text is read as the plain computation says. -/
namespace PY
open PySem PySem.Spec PyProof.Rows L2
def plainT : Expr → Bool
  | .BoolOp .. => false
  | .IfExp .. => false
  | .Compare .. => false
  | .UnaryOp .Not _ _ => false
  | _ => true
theorem plainT_ok {e : Expr} {env : PySem.Env} (h : plainT e = true) : ∀ whole, isTrue e env whole = (do let v ← whole; standAt e.pos; holding [v] (truthy v)) := by
  intro whole
  cases e with
  | UnaryOp o _ _ => cases o <;> first | rfl | cases h
  | _ => first | rfl | cases h
section
variable (I : Info) (C : Nat → List Sl → CR)
/-- what a claim may lean on -/
structure At (W : WX) (X : Cx) (n : Nat) (c : Ctx) : Prop where
  ok : CtxOk I n c X
  fs : FnsOk I n C
  tk : Takes X W
abbrev mxe (x : Tm) (c : Ctx) : Expr → Bool := (mX I.fn I.gn I.fps I.kk x c).e
abbrev mxl (x : Tm) (c : Ctx) : List Expr → Bool := (mX I.fn I.gn I.fps I.kk x c).l
abbrev mxk (x : Tm) (c : Ctx) : List Keyword → Bool := (mX I.fn I.gn I.fps I.kk x c).k
structure Snd (x : Tm) : Prop where
  e : ∀ {W X n c ex}, At I C W X n c → mxe I x c ex = true → PE X ex (tE I C W x)
  m : ∀ {W X n c ex}, At I C W X n c → mxe I x c ex = true → esc x = true → PE X ex (tM I C W x)
  t : ∀ {W X n c ex}, At I C W X n c → mxe I x c ex = true → noT x = false → PT X ex (tT I C W x)
  w : ∀ {W X n c op es pos}, At I C W X n c → mxe I x c (.BoolOp op es pos) = true → PW X (.BoolOp op es pos) (tT I C W x)
  i : ∀ {W X n c ex tg}, At I C W X n c → mxe I x c ex = true → esc x = true → (needTup x = true → isTup tg = true) → PI X tg ex (tI I C W x)
  l : ∀ {W X n c es}, At I C W X n c → mxl I x c es = true → PA X es (tA I C W x)
  k : ∀ {W X n c ks}, At I C W X n c → mxk I x c ks = true → PK X ks (tA I C W x)
variable {I C}
abbrev ClE (x : Tm) : Prop := ∀ {W X n c ex}, At I C W X n c → mxe I x c ex = true → PE X ex (tE I C W x)
theorem mkE {x : Tm} (hd : ev I.GC C x = Den.ofE (ev I.GC C x).e) (hp : ∀ c ex, mxe I x c ex = true → noT x = false → plainT ex = true) (hl : ∀ c es, mxl I x c es = false) (hk : ∀ c es, mxk I x c es = false) (hw : ∀ c op es pos, mxe I x c (.BoolOp op es pos) = false)
    (he : ∀ {W X n c ex}, At I C W X n c → mxe I x c ex = true → PE X ex (tE I C W x)) : Snd I C x where
  e := he
  m := fun a h hx => m_of_e (by conv => lhs; rw [hd]) hx (he a h)
  t := fun a h hn => t_of_e a.ok.kk (by conv => lhs; rw [hd]) (plainT_ok (hp _ _ h hn)) (he a h)
  w := fun a h => by rw [hw] at h; cases h
  i := fun a h hx _ => i_of_e a.ok (by conv => lhs; rw [hd]) hx (he a h)
  l := fun a h => by rw [hl] at h; cases h
  k := fun a h => by rw [hk] at h; cases h
theorem mkM {x : Tm} (hd : ev I.GC C x = Den.ofM (ev I.GC C x).m) (hx : esc x = true) (hp : ∀ c ex, mxe I x c ex = true → noT x = false → plainT ex = true) (hl : ∀ c es, mxl I x c es = false) (hk : ∀ c es, mxk I x c es = false) (hw : ∀ c op es pos, mxe I x c (.BoolOp op es pos) = false)
    (hm : ∀ {W X n c ex}, At I C W X n c → mxe I x c ex = true → PE X ex (tM I C W x)) : Snd I C x where
  e := fun a h => e_of_m hd (hm a h)
  m := fun a h _ => hm a h
  t := fun a h hn => t_of_e a.ok.kk (by conv => lhs; rw [hd]
                                        conv => rhs; rw [hd]
                                        funext env
                                        simp only [Den.ofM, Den.ofE]
                                        cases (ev I.GC C x).m env <;> simp only [R.bind, R.opt]
                                        rename_i m e
                                        cases m.frz <;> rfl) (plainT_ok (hp _ _ h hn)) (e_of_m hd (hm a h))
  w := fun a h => by rw [hw] at h; cases h
  i := fun a h _ _ => i_of_e a.ok (by conv => lhs; rw [hd]
                                      conv => rhs; rw [hd]
                                      funext env
                                      simp only [Den.ofM, Den.ofE]
                                      cases (ev I.GC C x).m env <;> simp only [R.bind, R.opt]
                                      rename_i m e
                                      cases m.frz <;> rfl) hx (e_of_m hd (hm a h))
  l := fun a h => by rw [hl] at h; cases h
  k := fun a h => by rw [hk] at h; cases h
theorem bad_e {W : WX} {X : Cx} {x : Tm} {ex : Expr} (h : ∀ env, (ev I.GC C x).e env = .bad) : PE X ex (tE I C W x) := ⟨fun pins s σ H Q Iv ⟨Z, P, F, env, st, w⟩ => by rw [h] at w; exact w.elim⟩
theorem bad_m {W : WX} {X : Cx} {x : Tm} {ex : Expr} (h : ∀ env, (ev I.GC C x).m env = .bad) : PE X ex (tM I C W x) := ⟨fun pins s σ H Q Iv ⟨Z, P, F, env, st, w⟩ => by rw [h] at w; exact w.elim⟩
theorem bad_t {W : WX} {X : Cx} {x : Tm} {ex : Expr} (h : ∀ env, (ev I.GC C x).t env = .bad) : PT X ex (tT I C W x) := ⟨fun pins s σ H Q Iv ⟨Z, P, F, env, st, w⟩ => by rw [h] at w; exact w.elim⟩
theorem mkI {x : Tm} (hd : ev I.GC C x = Den.ofI (ev I.GC C x).i) (hl : ∀ c es, mxl I x c es = false) (hk : ∀ c es, mxk I x c es = false) (hw : ∀ c op es pos, mxe I x c (.BoolOp op es pos) = false)
    (hi : ∀ {W X n c ex tg}, At I C W X n c → mxe I x c ex = true → (needTup x = true → isTup tg = true) → PI X tg ex (tI I C W x)) : Snd I C x where
  e := fun a h => bad_e fun env => by rw [hd]; rfl
  m := fun a h _ => bad_m fun env => by rw [hd]; rfl
  t := fun a h _ => bad_t fun env => by rw [hd]; rfl
  w := fun a h => by rw [hw] at h; cases h
  i := fun a h _ ht => hi a h ht
  l := fun a h => by rw [hl] at h; cases h
  k := fun a h => by rw [hk] at h; cases h
theorem plainIx_of {e : Expr} (h : isSl e = false) : PlainIx e := by
  cases e <;> first | (intro o i; rfl) | cases h
theorem no_l {x : Tm} (h : ∀ c, mX I.fn I.gn I.fps I.kk x c = { Mt.no with e := (mX I.fn I.gn I.fps I.kk x c).e }) : (∀ c es, mxl I x c es = false) ∧ (∀ c es, mxk I x c es = false) := by
  constructor
  · intro c es; show (mX I.fn I.gn I.fps I.kk x c).l es = false; rw [h]; rfl
  · intro c es; show (mX I.fn I.gn I.fps I.kk x c).k es = false; rw [h]; rfl
end
section
variable {I : Info} {C : Nat → List Sl → CR}
theorem po_of {W : WX} {X : Cx} {n : Nat} {c : Ctx} {x : Tm} {l : Option Expr} (hx : Snd I C x) (a : At I C W X n c) (h : optB (isAbs x) (mxe I x c) l = true) : PO X l (tOp I C W x) := by
  cases l with
  | none =>
    have : x = .abs := by cases x <;> first | rfl | cases h
    subst this
    exact po_abs
  | some e =>
    simp only [optB, Bool.and_eq_true, Bool.not_eq_true'] at h
    exact po_int (hx.e a h.2) (by rintro rfl; cases h.1)
theorem Snd.var {i : Nat} : Snd I C (.var i) := by
  refine mkE rfl (by intro c ex h hn; cases ex <;> first | rfl | (simp [mxe, mX, Mt.no] at h; done) | (rename_i o _ _; cases o <;> first | rfl | (simp [mxe, mX, Mt.no] at h; done))) (no_l fun _ => rfl).1 (no_l fun _ => rfl).2 (fun _ _ _ _ => rfl) fun {W X n c ex} a h => ?_
  simp only [mxe, mX] at h
  split at h
  · try simp only [Bool.and_eq_true, Bool.not_eq_true', decide_eq_true_eq] at h
    exact snd_var a.ok h
  · cases h
theorem Snd.mv {i : Nat} : Snd I C (.mv i) := by
  refine mkM rfl rfl (by intro c ex h hn; cases ex <;> first | rfl | (simp [mxe, mX, Mt.no] at h; done) | (rename_i o _ _; cases o <;> first | rfl | (simp [mxe, mX, Mt.no] at h; done))) (no_l fun _ => rfl).1 (no_l fun _ => rfl).2 (fun _ _ _ _ => rfl) fun {W X n c ex} a h => ?_
  simp only [mxe, mX] at h
  split at h
  · try simp only [Bool.and_eq_true, Bool.not_eq_true', decide_eq_true_eq] at h
    exact snd_mv a.ok h.1
  · cases h
theorem Snd.int {i : Int} : Snd I C (.int i) := by
  refine mkE rfl (by intro c ex h hn; cases ex <;> first | rfl | (simp [mxe, mX, Mt.no] at h; done) | (rename_i o _ _; cases o <;> first | rfl | (simp [mxe, mX, Mt.no] at h; done))) (no_l fun _ => rfl).1 (no_l fun _ => rfl).2 (fun _ _ _ _ => rfl) fun {W X n c ex} a h => ?_
  simp only [mxe, mX] at h
  split at h
  · try simp only [Bool.and_eq_true, Bool.not_eq_true', decide_eq_true_eq] at h
    exact h ▸ snd_int
  · cases h
theorem Snd.bl {i : Bool} : Snd I C (.bl i) := by
  refine mkE rfl (by intro c ex h hn; cases ex <;> first | rfl | (simp [mxe, mX, Mt.no] at h; done) | (rename_i o _ _; cases o <;> first | rfl | (simp [mxe, mX, Mt.no] at h; done))) (no_l fun _ => rfl).1 (no_l fun _ => rfl).2 (fun _ _ _ _ => rfl) fun {W X n c ex} a h => ?_
  simp only [mxe, mX] at h
  split at h
  · try simp only [Bool.and_eq_true, Bool.not_eq_true', decide_eq_true_eq] at h
    exact h ▸ snd_bl
  · cases h
theorem Snd.non : Snd I C (.non) := by
  refine mkE rfl (by intro c ex h hn; cases ex <;> first | rfl | (simp [mxe, mX, Mt.no] at h; done) | (rename_i o _ _; cases o <;> first | rfl | (simp [mxe, mX, Mt.no] at h; done))) (no_l fun _ => rfl).1 (no_l fun _ => rfl).2 (fun _ _ _ _ => rfl) fun {W X n c ex} a h => ?_
  simp only [mxe, mX] at h
  split at h
  · try simp only [Bool.and_eq_true, Bool.not_eq_true', decide_eq_true_eq] at h
    exact snd_non
  · cases h
theorem Snd.str {i : Str} : Snd I C (.str i) := by
  refine mkE rfl (by intro c ex h hn; cases ex <;> first | rfl | (simp [mxe, mX, Mt.no] at h; done) | (rename_i o _ _; cases o <;> first | rfl | (simp [mxe, mX, Mt.no] at h; done))) (no_l fun _ => rfl).1 (no_l fun _ => rfl).2 (fun _ _ _ _ => rfl) fun {W X n c ex} a h => ?_
  simp only [mxe, mX] at h
  split at h
  · try simp only [Bool.and_eq_true, Bool.not_eq_true', decide_eq_true_eq] at h
    exact h ▸ snd_str
  · cases h
theorem Snd.gc (io : InfoOk I) {g : Nat} : Snd I C (.gc g) := by
  refine mkE rfl (by intro c ex h hn; cases ex <;> first | rfl | (simp [mxe, mX, Mt.no] at h; done) | (rename_i o _ _; cases o <;> first | rfl | (simp [mxe, mX, Mt.no] at h; done))) (no_l fun _ => rfl).1 (no_l fun _ => rfl).2 (fun _ _ _ _ => rfl) fun {W X n c ex} a h => ?_
  simp only [mxe, mX] at h
  split at h
  · try simp only [Bool.and_eq_true, Bool.not_eq_true', decide_eq_true_eq] at h
    exact snd_gc a.ok io h.1.1 h.1.2 h.2
  · cases h
theorem Snd.tup {es : Tm} (hes : Snd I C es) : Snd I C (.tup es) := by
  refine mkE rfl (by intro c ex h hn; cases ex <;> first | rfl | (simp [mxe, mX, Mt.no] at h; done) | (rename_i o _ _; cases o <;> first | rfl | (simp [mxe, mX, Mt.no] at h; done))) (no_l fun _ => rfl).1 (no_l fun _ => rfl).2 (fun _ _ _ _ => rfl) fun {W X n c ex} a h => ?_
  simp only [mxe, mX] at h
  split at h
  · try simp only [Bool.and_eq_true, Bool.not_eq_true', decide_eq_true_eq] at h
    exact snd_tup h.1 (hes.l a h.2)
  · cases h
theorem Snd.lst {es : Tm} (hes : Snd I C es) : Snd I C (.lst es) := by
  refine mkM rfl rfl (by intro c ex h hn; cases ex <;> first | rfl | (simp [mxe, mX, Mt.no] at h; done) | (rename_i o _ _; cases o <;> first | rfl | (simp [mxe, mX, Mt.no] at h; done))) (no_l fun _ => rfl).1 (no_l fun _ => rfl).2 (fun _ _ _ _ => rfl) fun {W X n c ex} a h => ?_
  simp only [mxe, mX] at h
  split at h
  · try simp only [Bool.and_eq_true, Bool.not_eq_true', decide_eq_true_eq] at h
    exact snd_lst h.1 (hes.l a h.2)
  · cases h
theorem Snd.nst {es : Tm} (hes : Snd I C es) : Snd I C (.nst es) := by
  refine mkM rfl rfl (by intro c ex h hn; cases ex <;> first | rfl | (simp [mxe, mX, Mt.no] at h; done) | (rename_i o _ _; cases o <;> first | rfl | (simp [mxe, mX, Mt.no] at h; done))) (no_l fun _ => rfl).1 (no_l fun _ => rfl).2 (fun _ _ _ _ => rfl) fun {W X n c ex} a h => ?_
  simp only [mxe, mX] at h
  split at h
  · try simp only [Bool.and_eq_true, Bool.not_eq_true', decide_eq_true_eq] at h
    exact snd_nst h.1 (hes.l a h.2)
  · cases h
theorem Snd.bin {o : Bop} {x y : Tm} (hx : Snd I C x) (hy : Snd I C y) : Snd I C (.bin o x y) := by
  refine mkE rfl (by intro c ex h hn; cases ex <;> first | rfl | (simp [mxe, mX, Mt.no] at h; done) | (rename_i o _ _; cases o <;> first | rfl | (simp [mxe, mX, Mt.no] at h; done))) (no_l fun _ => rfl).1 (no_l fun _ => rfl).2 (fun _ _ _ _ => rfl) fun {W X n c ex} a h => ?_
  simp only [mxe, mX] at h
  split at h
  · try simp only [Bool.and_eq_true, Bool.not_eq_true', decide_eq_true_eq] at h
    obtain ⟨⟨⟨rfl, h1⟩, h2⟩, h3⟩ := h; exact snd_bin a.ok h1 (hx.e a h2) (hy.e a h3)
  · cases h
theorem Snd.neg {x : Tm} (hx : Snd I C x) : Snd I C (.neg x) := by
  refine mkE rfl (by intro c ex h hn; cases ex <;> first | rfl | (simp [mxe, mX, Mt.no] at h; done) | (rename_i o _ _; cases o <;> first | rfl | (simp [mxe, mX, Mt.no] at h; done))) (no_l fun _ => rfl).1 (no_l fun _ => rfl).2 (fun _ _ _ _ => rfl) fun {W X n c ex} a h => ?_
  simp only [mxe, mX] at h
  split at h
  · try simp only [Bool.and_eq_true, Bool.not_eq_true', decide_eq_true_eq] at h
    exact snd_neg a.ok (hx.e a h)
  · cases h
theorem Snd.idx {x y : Tm} (hx : Snd I C x) (hy : Snd I C y) : Snd I C (.idx x y) := by
  refine mkE rfl (by intro c ex h hn; cases ex <;> first | rfl | (simp [mxe, mX, Mt.no] at h; done) | (rename_i o _ _; cases o <;> first | rfl | (simp [mxe, mX, Mt.no] at h; done))) (no_l fun _ => rfl).1 (no_l fun _ => rfl).2 (fun _ _ _ _ => rfl) fun {W X n c ex} a h => ?_
  simp only [mxe, mX] at h
  split at h
  · try simp only [Bool.and_eq_true, Bool.not_eq_true', decide_eq_true_eq] at h
    obtain ⟨⟨⟨h0, h1⟩, h2⟩, h3⟩ := h; exact snd_idx a.ok (plainIx_of h0) h1 (hx.e a h2) (hy.e a h3)
  · cases h
theorem Snd.slc {x lo hi : Tm} (hx : Snd I C x) (hl : Snd I C lo) (hh : Snd I C hi) : Snd I C (.slc x lo hi) := by
  refine mkE rfl (by intro c ex h hn; cases ex <;> first | rfl | (simp [mxe, mX, Mt.no] at h; done) | (rename_i o _ _; cases o <;> first | rfl | (simp [mxe, mX, Mt.no] at h; done))) (no_l fun _ => rfl).1 (no_l fun _ => rfl).2 (fun _ _ _ _ => rfl) fun {W X n c ex} a h => ?_
  simp only [mxe, mX] at h
  split at h
  · try simp only [Bool.and_eq_true, Bool.not_eq_true', decide_eq_true_eq] at h
    obtain ⟨⟨⟨h0, h1⟩, h2⟩, h3⟩ := h; exact snd_slc a.ok h0 (hx.e a h1) (po_of hl a h2) (po_of hh a h3)
  · cases h
theorem Snd.slv {i : Nat} {lo hi : Tm} (hl : Snd I C lo) (hh : Snd I C hi) : Snd I C (.slv i lo hi) := by
  refine mkE rfl (by intro c ex h hn; cases ex <;> first | rfl | (simp [mxe, mX, Mt.no] at h; done) | (rename_i o _ _; cases o <;> first | rfl | (simp [mxe, mX, Mt.no] at h; done))) (no_l fun _ => rfl).1 (no_l fun _ => rfl).2 (fun _ _ _ _ => rfl) fun {W X n c ex} a h => ?_
  simp only [mxe, mX] at h
  split at h
  · try simp only [Bool.and_eq_true, Bool.not_eq_true', decide_eq_true_eq] at h
    obtain ⟨⟨h1, h2⟩, h3⟩ := h; exact snd_slv a.ok h1 (po_of hl a h2) (po_of hh a h3)
  · cases h
theorem Snd.slm {x lo hi : Tm} (hx : Snd I C x) (hl : Snd I C lo) (hh : Snd I C hi) : Snd I C (.slm x lo hi) := by
  refine mkM rfl rfl (by intro c ex h hn; cases ex <;> first | rfl | (simp [mxe, mX, Mt.no] at h; done) | (rename_i o _ _; cases o <;> first | rfl | (simp [mxe, mX, Mt.no] at h; done))) (no_l fun _ => rfl).1 (no_l fun _ => rfl).2 (fun _ _ _ _ => rfl) fun {W X n c ex} a h => ?_
  simp only [mxe, mX] at h
  split at h
  · try simp only [Bool.and_eq_true, Bool.not_eq_true', decide_eq_true_eq] at h
    obtain ⟨⟨⟨h0, h1⟩, h2⟩, h3⟩ := h; exact snd_slm a.ok h0 (hx.e a h1) (po_of hl a h2) (po_of hh a h3)
  · cases h
theorem Snd.bi (io : InfoOk I) {b : Bi} {as : Tm} (ha : Snd I C as) : Snd I C (.bi b as) := by
  refine mkE rfl (by intro c ex h hn; cases ex <;> first | rfl | (simp [mxe, mX, Mt.no] at h; done) | (rename_i o _ _; cases o <;> first | rfl | (simp [mxe, mX, Mt.no] at h; done))) (no_l fun _ => rfl).1 (no_l fun _ => rfl).2 (fun _ _ _ _ => rfl) fun {W X n c ex} a h => ?_
  simp only [mxe, mX] at h
  split at h
  · try simp only [Bool.and_eq_true, Bool.not_eq_true', decide_eq_true_eq] at h
    exact snd_bi a.ok io h.1.1 h.1.2 (noStars_of h.2) (ha.l a h.2)
  · cases h
theorem Snd.isi (io : InfoOk I) {x : Tm} {ts : List Ty} (hx : Snd I C x) : Snd I C (.isi x ts) := by
  refine mkE rfl (by intro c ex h hn; cases ex <;> first | rfl | (simp [mxe, mX, Mt.no] at h; done) | (rename_i o _ _; cases o <;> first | rfl | (simp [mxe, mX, Mt.no] at h; done))) (no_l fun _ => rfl).1 (no_l fun _ => rfl).2 (fun _ _ _ _ => rfl) fun {W X n c ex} a h => ?_
  simp only [mxe, mX] at h
  split at h
  · try simp only [Bool.and_eq_true, Bool.not_eq_true', decide_eq_true_eq] at h
    obtain ⟨⟨⟨⟨⟨h0, h1⟩, h2⟩, h3⟩, h4⟩, h5⟩ := h
    match ts, h3 with
    | [t], h3 => exact snd_isi a.ok io h0 (of_decide_eq_true h3) h1 h2 h4 (hx.e a h5)
  · cases h
theorem Snd.me {m : Me} {x y : Tm} (hx : Snd I C x) (hy : Snd I C y) : Snd I C (.me m x y) := by
  refine mkE rfl (by intro c ex h hn; cases ex <;> first | rfl | (simp [mxe, mX, Mt.no] at h; done) | (rename_i o _ _; cases o <;> first | rfl | (simp [mxe, mX, Mt.no] at h; done))) (no_l fun _ => rfl).1 (no_l fun _ => rfl).2 (fun _ _ _ _ => rfl) fun {W X n c ex} a h => ?_
  simp only [mxe, mX] at h
  split at h
  · try simp only [Bool.and_eq_true, Bool.not_eq_true', decide_eq_true_eq] at h
    obtain ⟨⟨⟨⟨⟨⟨h0, h1⟩, h2⟩, h3⟩, h4⟩, h5⟩, h6⟩ := h; exact snd_me a.ok h0 h1 h2 h3 h4 (hx.e a h5) (hy.e a h6)
  · cases h
theorem Snd.lof (io : InfoOk I) {x : Tm} (hx : Snd I C x) : Snd I C (.lof x) := by
  refine mkM rfl rfl (by intro c ex h hn; cases ex <;> first | rfl | (simp [mxe, mX, Mt.no] at h; done) | (rename_i o _ _; cases o <;> first | rfl | (simp [mxe, mX, Mt.no] at h; done))) (no_l fun _ => rfl).1 (no_l fun _ => rfl).2 (fun _ _ _ _ => rfl) fun {W X n c ex} a h => ?_
  simp only [mxe, mX] at h
  split at h
  · try simp only [Bool.and_eq_true, Bool.not_eq_true', decide_eq_true_eq] at h
    exact snd_lof a.ok io h.1.1.1 h.1.1.2 h.1.2 (hx.e a h.2)
  · cases h
theorem Snd.cat {x y : Tm} (hx : Snd I C x) (hy : Snd I C y) : Snd I C (.cat x y) := by
  refine mkM rfl rfl (by intro c ex h hn; cases ex <;> first | rfl | (simp [mxe, mX, Mt.no] at h; done) | (rename_i o _ _; cases o <;> first | rfl | (simp [mxe, mX, Mt.no] at h; done))) (no_l fun _ => rfl).1 (no_l fun _ => rfl).2 (fun _ _ _ _ => rfl) fun {W X n c ex} a h => ?_
  simp only [mxe, mX] at h
  split at h
  · try simp only [Bool.and_eq_true, Bool.not_eq_true', decide_eq_true_eq] at h
    exact snd_cat a.ok (hx.m a h.1.1 h.1.2) (hy.m a h.2.1 h.2.2)
  · cases h
theorem Snd.pop {p : Pl} : Snd I C (.pop p) := by
  refine mkM rfl rfl (by intro c ex h hn; cases ex <;> first | rfl | (simp [mxe, mX, Mt.no] at h; done) | (rename_i o _ _; cases o <;> first | rfl | (simp [mxe, mX, Mt.no] at h; done))) (no_l fun _ => rfl).1 (no_l fun _ => rfl).2 (fun _ _ _ _ => rfl) fun {W X n c ex} a h => ?_
  simp only [mxe, mX] at h
  split at h
  · try simp only [Bool.and_eq_true, Bool.not_eq_true', decide_eq_true_eq] at h
    exact snd_pop a.ok h.1.1.1 h.1.1.2 h.1.2 h.2
  · cases h
theorem Snd.popAt {p : Pl} {x : Tm} (hx : Snd I C x) : Snd I C (.popAt p x) := by
  refine mkM rfl rfl (by intro c ex h hn; cases ex <;> first | rfl | (simp [mxe, mX, Mt.no] at h; done) | (rename_i o _ _; cases o <;> first | rfl | (simp [mxe, mX, Mt.no] at h; done))) (no_l fun _ => rfl).1 (no_l fun _ => rfl).2 (fun _ _ _ _ => rfl) fun {W X n c ex} a h => ?_
  simp only [mxe, mX] at h
  split at h
  · try simp only [Bool.and_eq_true, Bool.not_eq_true', decide_eq_true_eq] at h
    obtain ⟨⟨⟨⟨⟨⟨h0, h1⟩, h2⟩, h3⟩, h4⟩, h5⟩, h6⟩ := h; exact snd_popAt a.ok h0 h1 h2 h3 h4 h5 (hx.e a h6)
  · cases h

theorem Snd.cmp {o : Cop} {x y : Tm} (hx : Snd I C x) (hy : Snd I C y) : Snd I C (.cmp o x y) := by
  have key : ∀ {W X n c ex}, At I C W X n c → mxe I (.cmp o x y) c ex = true → PE X ex (tE I C W (.cmp o x y)) ∧ PT X ex (tT I C W (.cmp o x y)) := by
    intro W X n c ex a h
    simp only [mxe, mX] at h
    split at h
    · try simp only [Bool.and_eq_true, Bool.not_eq_true', decide_eq_true_eq] at h
      obtain ⟨⟨⟨⟨rfl, h1⟩, h2⟩, h3⟩, h4⟩ := h; exact snd_cmp a.ok a.ok.room.units h1 h2 (hx.e a h3) (hy.e a h4)
    · cases h
  exact ⟨fun a h => (key a h).1, fun a h hx => m_of_e rfl hx (key a h).1, fun a h _ => (key a h).2, fun a h => (by cases h), fun a h hx _ => i_of_e a.ok rfl hx (key a h).1, fun a h => (by cases h), fun a h => by cases h⟩
theorem Snd.chain {o o' : Cop} {x y z : Tm} (hx : Snd I C x) (hy : Snd I C y) (hz : Snd I C z) : Snd I C (Tm.chain o o' x y z) := by
  have key : ∀ {W X n c ex}, At I C W X n c → mxe I (Tm.chain o o' x y z) c ex = true → PE X ex (tE I C W (Tm.chain o o' x y z)) ∧ PT X ex (tT I C W (Tm.chain o o' x y z)) := by
    intro W X n c ex a h
    simp only [mxe, mX] at h
    split at h
    · try simp only [Bool.and_eq_true, Bool.not_eq_true', decide_eq_true_eq] at h
      obtain ⟨⟨⟨⟨⟨⟨⟨rfl, rfl⟩, h1⟩, h2⟩, h3⟩, h4⟩, h5⟩, h6⟩ := h; exact snd_chain a.ok a.ok.room.units h1 h2 h3 (hx.e a h4) (hy.e a h5) (hz.e a h6)
    · cases h
  exact ⟨fun a h => (key a h).1, fun a h hx => m_of_e rfl hx (key a h).1, fun a h _ => (key a h).2, fun a h => (by cases h), fun a h hx _ => i_of_e a.ok rfl hx (key a h).1, fun a h => (by cases h), fun a h => by cases h⟩
theorem Snd.isN {x : Tm} (hx : Snd I C x) : Snd I C (.isN x) := by
  have key : ∀ {W X n c ex}, At I C W X n c → mxe I (.isN x) c ex = true → PE X ex (tE I C W (.isN x)) ∧ PT X ex (tT I C W (.isN x)) := by
    intro W X n c ex a h
    simp only [mxe, mX] at h
    split at h
    · try simp only [Bool.and_eq_true, Bool.not_eq_true', decide_eq_true_eq] at h
      exact snd_isN (hx.e a h)
    · cases h
  exact ⟨fun a h => (key a h).1, fun a h hx => m_of_e rfl hx (key a h).1, fun a h _ => (key a h).2, fun a h => (by cases h), fun a h hx _ => i_of_e a.ok rfl hx (key a h).1, fun a h => (by cases h), fun a h => by cases h⟩
theorem Snd.notN {x : Tm} (hx : Snd I C x) : Snd I C (.notN x) := by
  have key : ∀ {W X n c ex}, At I C W X n c → mxe I (.notN x) c ex = true → PE X ex (tE I C W (.notN x)) ∧ PT X ex (tT I C W (.notN x)) := by
    intro W X n c ex a h
    simp only [mxe, mX] at h
    split at h
    · try simp only [Bool.and_eq_true, Bool.not_eq_true', decide_eq_true_eq] at h
      exact snd_notN (hx.e a h)
    · cases h
  exact ⟨fun a h => (key a h).1, fun a h hx => m_of_e rfl hx (key a h).1, fun a h _ => (key a h).2, fun a h => (by cases h), fun a h hx _ => i_of_e a.ok rfl hx (key a h).1, fun a h => (by cases h), fun a h => by cases h⟩
theorem Snd.not {x : Tm} (hx : Snd I C x) : Snd I C (.not x) := by
  have key : ∀ {W X n c ex}, At I C W X n c → mxe I (.not x) c ex = true → PE X ex (tE I C W (.not x)) ∧ PT X ex (tT I C W (.not x)) := by
    intro W X n c ex a h
    simp only [mxe, mX] at h
    split at h
    · try simp only [Bool.and_eq_true, Bool.not_eq_true', decide_eq_true_eq] at h
      exact ⟨snd_notV a.ok.kk (hx.e a h.2), snd_not (hx.t a h.2 h.1)⟩
    · cases h
  exact ⟨fun a h => (key a h).1, fun a h hx => m_of_e rfl hx (key a h).1, fun a h _ => (key a h).2, fun a h => (by cases h), fun a h hx _ => i_of_e a.ok rfl hx (key a h).1, fun a h => (by cases h), fun a h => by cases h⟩
theorem Snd.and {x y : Tm} (hx : Snd I C x) (hy : Snd I C y) : Snd I C (.and x y) := by
  have key : ∀ {W X n c ex}, At I C W X n c → mxe I (.and x y) c ex = true → PE X ex (tE I C W (.and x y)) ∧ PW X ex (tT I C W (.and x y)) := by
    intro W X n c ex a h
    simp only [mxe, mX] at h
    split at h
    · simp only [Bool.and_eq_true, Bool.not_eq_true'] at h
      obtain ⟨⟨⟨h1, h2⟩, h3⟩, h4⟩ := h
      exact ⟨snd_andV (hx.e a h3) (pe_one (hy.e a h4)), snd_andT (hx.t a h3 h1) (pw_and1 (hy.t a h4 h2))⟩
    · simp only [Bool.and_eq_true, Bool.not_eq_true'] at h
      obtain ⟨⟨h1, h3⟩, h4⟩ := h
      exact ⟨snd_andV (hx.e a h3) (hy.e a h4), snd_andT (hx.t a h3 h1) (hy.w a h4)⟩
    · cases h
  exact ⟨fun a h => (key a h).1, fun a h hx => m_of_e rfl hx (key a h).1, fun a h _ => (key a h).2.pt, fun a h => (key a h).2, fun a h hx _ => i_of_e a.ok rfl hx (key a h).1, fun a h => (by cases h), fun a h => by cases h⟩
theorem Snd.or {x y : Tm} (hx : Snd I C x) (hy : Snd I C y) : Snd I C (.or x y) := by
  have key : ∀ {W X n c ex}, At I C W X n c → mxe I (.or x y) c ex = true → PE X ex (tE I C W (.or x y)) ∧ PW X ex (tT I C W (.or x y)) := by
    intro W X n c ex a h
    simp only [mxe, mX] at h
    split at h
    · simp only [Bool.and_eq_true, Bool.not_eq_true'] at h
      obtain ⟨⟨⟨h1, h2⟩, h3⟩, h4⟩ := h
      exact ⟨snd_orV (hx.e a h3) (pe_one (hy.e a h4)), snd_orT (hx.t a h3 h1) (pw_or1 (hy.t a h4 h2))⟩
    · simp only [Bool.and_eq_true, Bool.not_eq_true'] at h
      obtain ⟨⟨h1, h3⟩, h4⟩ := h
      exact ⟨snd_orV (hx.e a h3) (hy.e a h4), snd_orT (hx.t a h3 h1) (hy.w a h4)⟩
    · cases h
  exact ⟨fun a h => (key a h).1, fun a h hx => m_of_e rfl hx (key a h).1, fun a h _ => (key a h).2.pt, fun a h => (key a h).2, fun a h hx _ => i_of_e a.ok rfl hx (key a h).1, fun a h => (by cases h), fun a h => by cases h⟩
theorem Snd.ite {t x y : Tm} (ht : Snd I C t) (hx : Snd I C x) (hy : Snd I C y) : Snd I C (.ite t x y) := by
  refine mkE rfl (fun _ _ _ h => by cases h) (no_l fun _ => rfl).1 (no_l fun _ => rfl).2 (fun _ _ _ _ => rfl) fun {W X n c ex} a h => ?_
  simp only [mxe, mX] at h
  split at h
  · simp only [Bool.and_eq_true, Bool.not_eq_true'] at h
    exact snd_ite trivial (ht.t a h.1.1.2 h.1.1.1) (hx.e a h.1.2) (hy.e a h.2)
  · cases h
theorem plX_T {c : Ctx} {p : Pl} {ex : Expr} (h : plX c p ex = true) : plainT ex = true ∧ isBO ex = false := by
  cases ex <;> first | exact ⟨rfl, rfl⟩ | (cases p <;> cases h)
theorem Snd.lf {p : Pl} : Snd I C (.lf p) := by
  refine mkE rfl (fun c ex h _ => (plX_T h).1) (no_l fun _ => rfl).1 (no_l fun _ => rfl).2 (fun c op es pos => ?_) fun {W X n c ex} a h => snd_lf a.ok h
  cases h : mxe I (.lf p) c (.BoolOp op es pos) with
  | false => rfl
  | true => exact absurd (plX_T h).2 (by simp [isBO])
theorem Snd.vw {p : Pl} : Snd I C (.vw p) := by
  refine mkE rfl (fun c ex h _ => (plX_T h).1) (no_l fun _ => rfl).1 (no_l fun _ => rfl).2 (fun c op es pos => ?_) fun {W X n c ex} a h => snd_vw a.ok h
  cases h : mxe I (.vw p) c (.BoolOp op es pos) with
  | false => rfl
  | true => exact absurd (plX_T h).2 (by simp [isBO])
theorem Snd.am {p : Pl} : Snd I C (.am p) := by
  refine mkE rfl (fun c ex h _ => ?_) (no_l fun _ => rfl).1 (no_l fun _ => rfl).2 (fun c op es pos => ?_) fun {W X n c ex} a h => bad_e fun env => rfl
  · simp only [mxe, mX, Bool.and_eq_true] at h
    exact (plX_T h.2).1
  · cases h : mxe I (.am p) c (.BoolOp op es pos) with
    | false => rfl
    | true =>
      simp only [mxe, mX, Bool.and_eq_true] at h
      exact absurd (plX_T h.2).2 (by simp [isBO])
theorem Snd.at_ {x : Tm} (hx : Snd I C x) : Snd I C (.at x) := by
  refine mkM rfl rfl (fun _ _ _ h => by cases h) (no_l fun _ => rfl).1 (no_l fun _ => rfl).2 (fun c op es pos => ?_) fun {W X n c ex} a h => ?_
  · simp only [mxe, mX, isBO, Bool.not_true, Bool.and_false, Bool.false_and]
  · simp only [mxe, mX, Bool.and_eq_true] at h
    exact hx.m a h.2 h.1.1
theorem Snd.abs : Snd I C .abs := mkE rfl (fun _ _ h _ => by cases h) (no_l fun _ => rfl).1 (no_l fun _ => rfl).2 (fun _ _ _ _ => rfl) fun a h => by cases h
theorem Snd.nil : Snd I C .nil where
  e := fun a h => by cases h
  m := fun a h => by cases h
  t := fun a h => by cases h
  w := fun a h => by cases h
  i := fun a h => by cases h
  l := fun {W X n c es} a h => by cases es <;> first | exact snd_nil | cases h
  k := fun {W X n c es} a h => by cases es <;> first | exact snd_knil | cases h
theorem Snd.cons {x y : Tm} (hx : Snd I C x) (hy : Snd I C y) : Snd I C (.cons x y) where
  e := fun a h => by cases h
  m := fun a h => by cases h
  t := fun a h => by cases h
  w := fun a h => by cases h
  i := fun a h => by cases h
  l := fun {W X n c es} a h => by
    cases es with
    | nil => cases h
    | cons e es =>
      simp only [mxl, mX, Bool.and_eq_true] at h
      obtain ⟨⟨⟨h1, h2⟩, h3⟩, h4⟩ := h
      rcases cons3 x with ⟨p, rfl⟩ | ⟨z, rfl⟩ | hn
      · simp only [mX, Bool.and_eq_true] at h3
        cases p <;> simp only [isVp, Bool.false_eq_true, false_and] at h3
        cases e <;> simp only [plX, Bool.false_eq_true, and_false] at h3
        exact snd_am a.ok h3.2 (hy.l a h4)
      · exact snd_at h2 (hx.m a h3 rfl) (hy.l a h4)
      · exact snd_cons hn h2 h1 (hx.e a h3) (hy.l a h4)
  k := fun {W X n c es} a h => by
    cases es with
    | nil => cases h
    | cons e es =>
      obtain ⟨nm, e, kp⟩ := e
      cases nm with
      | none => cases h
      | some nm =>
        simp only [mxk, mX, Bool.and_eq_true] at h
        obtain ⟨⟨⟨h0, h1⟩, h3⟩, h4⟩ := h
        exact snd_kcons h0 h1 (hx.e a h3) (hy.k a h4)
theorem Snd.call (io : InfoOk I) {f : Nat} {as : Tm} (ha : Snd I C as) : Snd I C (.call f as) := by
  have key : ∀ {W X n c ex}, At I C W X n c → mxe I (.call f as) c ex = true → plainT ex = true ∧ PE X ex (tE I C W (.call f as)) ∧ PE X ex (tM I C W (.call f as)) := by
    intro W X n c ex a h
    simp only [mxe, mX] at h
    split at h
    · simp only [Bool.and_eq_true, Bool.not_eq_true', decide_eq_true_eq, ndB] at h
      obtain ⟨⟨⟨⟨⟨⟨h1, h2⟩, h3⟩, h4⟩, h5⟩, h6⟩, h7⟩ := h
      rename_i x p es pos
      cases es with
      | nil =>
        have has : as = .nil := by
          cases as <;> first | rfl | (simp [mX, Mt.no] at h7; done)
        subst has
        exact ⟨rfl, snd_call0 a.ok io a.fs a.tk h1 h2 h3⟩
      | cons y es => exact ⟨rfl, snd_call a.ok io a.fs a.tk h1 h2 h3 h4 h5 h6 (noStars_of h7) (ha.l a h7)⟩
    · cases h
  exact ⟨fun a h => (key a h).2.1, fun a h _ => (key a h).2.2, fun a h _ => t_of_e a.ok.kk rfl (plainT_ok (key a h).1) (key a h).2.1, fun a h => (by cases h), fun a h hx _ => i_of_e a.ok rfl hx (key a h).2.1, fun a h => (by cases h), fun a h => by cases h⟩
theorem Snd.callK (io : InfoOk I) {f : Nat} {as ks : Tm} (ha : Snd I C as) (hk : Snd I C ks) : Snd I C (.callK f as ks) := by
  have key : ∀ {W X n c ex}, At I C W X n c → mxe I (.callK f as ks) c ex = true → plainT ex = true ∧ PE X ex (tE I C W (.callK f as ks)) ∧ PE X ex (tM I C W (.callK f as ks)) := by
    intro W X n c ex a h
    simp only [mxe, mX] at h
    split at h
    · simp only [Bool.and_eq_true, Bool.not_eq_true', decide_eq_true_eq, ndB] at h
      obtain ⟨⟨⟨⟨⟨⟨⟨⟨⟨⟨⟨h1, h2⟩, h3⟩, h4⟩, h5⟩, h6⟩, h7⟩, h8⟩, h9⟩, h10⟩, h11⟩, h12⟩ := h
      exact ⟨rfl, snd_callK a.ok io a.fs a.tk h1 h2 h3 h4 h5 h6 h7 h8 h9 h10 h11 (ha.l a h11) (hk.k a h12)⟩
    · cases h
  exact ⟨fun a h => (key a h).2.1, fun a h _ => (key a h).2.2, fun a h _ => t_of_e a.ok.kk rfl (plainT_ok (key a h).1) (key a h).2.1, fun a h => (by cases h), fun a h hx _ => i_of_e a.ok rfl hx (key a h).2.1, fun a h => (by cases h), fun a h => by cases h⟩
theorem Snd.callP (io : InfoOk I) {f : Nat} {as ks : Tm} {q : List Nat} (ha : Snd I C as) (hk : Snd I C ks) : Snd I C (.callP f as ks q) := by
  have key : ∀ {W X n c ex}, At I C W X n c → mxe I (.callP f as ks q) c ex = true → plainT ex = true ∧ PE X ex (tE I C W (.callP f as ks q)) ∧ PE X ex (tM I C W (.callP f as ks q)) := by
    intro W X n c ex a h
    simp only [mxe, mX] at h
    split at h
    · simp only [Bool.and_eq_true, Bool.not_eq_true', decide_eq_true_eq, ndB] at h
      obtain ⟨⟨⟨⟨⟨⟨⟨⟨⟨⟨⟨⟨h1, h2⟩, h3⟩, h4⟩, h5⟩, h6⟩, h7⟩, h8⟩, h9⟩, h10⟩, h11⟩, h12⟩, h13⟩ := h
      exact ⟨rfl, snd_callP a.ok io a.fs a.tk h1 h2 h3 h4 h5 h6 h7 h8 h9 h10 h11 h12 h13 (ha.l a h12) (hk.k a h13)⟩
    · cases h
  exact ⟨fun a h => (key a h).2.1, fun a h _ => (key a h).2.2, fun a h _ => t_of_e a.ok.kk rfl (plainT_ok (key a h).1) (key a h).2.1, fun a h => (by cases h), fun a h hx _ => i_of_e a.ok rfl hx (key a h).2.1, fun a h => (by cases h), fun a h => by cases h⟩
theorem Snd.rev {x : Tm} (hx : Snd I C x) : Snd I C (.rev x) := by
  refine mkE rfl (by intro c ex h hn; cases ex <;> first | rfl | (simp [mxe, mX, Mt.no] at h; done) | (rename_i o _ _; cases o <;> first | rfl | (simp [mxe, mX, Mt.no] at h; done))) (no_l fun _ => rfl).1 (no_l fun _ => rfl).2 (fun _ _ _ _ => rfl) fun {W X n c ex} a h => ?_
  simp only [mxe, mX] at h
  split at h
  · exact snd_rev a.ok (hx.e a h)
  · cases h
theorem Snd.rlst (io : InfoOk I) {x : Tm} (hx : Snd I C x) : Snd I C (.rlst x) := by
  refine mkM rfl rfl (by intro c ex h hn; cases ex <;> first | rfl | (simp [mxe, mX, Mt.no] at h; done) | (rename_i o _ _; cases o <;> first | rfl | (simp [mxe, mX, Mt.no] at h; done))) (no_l fun _ => rfl).1 (no_l fun _ => rfl).2 (fun _ _ _ _ => rfl) fun {W X n c ex} a h => ?_
  simp only [mxe, mX] at h
  split at h
  · simp only [Bool.and_eq_true, decide_eq_true_eq] at h
    obtain ⟨⟨⟨⟨⟨h1, h2⟩, h3⟩, h4⟩, h5⟩, h6⟩ := h
    exact snd_rlst a.ok io h1 h2 h3 h4 h5 (hx.e a h6)
  · cases h
theorem Snd.rtup (io : InfoOk I) {x : Tm} (hx : Snd I C x) : Snd I C (.rtup x) := by
  refine mkE rfl (by intro c ex h hn; cases ex <;> first | rfl | (simp [mxe, mX, Mt.no] at h; done) | (rename_i o _ _; cases o <;> first | rfl | (simp [mxe, mX, Mt.no] at h; done))) (no_l fun _ => rfl).1 (no_l fun _ => rfl).2 (fun _ _ _ _ => rfl) fun {W X n c ex} a h => ?_
  simp only [mxe, mX] at h
  split at h
  · simp only [Bool.and_eq_true, decide_eq_true_eq] at h
    obtain ⟨⟨⟨⟨⟨h1, h2⟩, h3⟩, h4⟩, h5⟩, h6⟩ := h
    exact snd_rtup a.ok io h1 h2 h3 h4 h5 (hx.e a h6)
  · cases h
theorem Snd.srs (io : InfoOk I) {x : Tm} (hx : Snd I C x) : Snd I C (.srs x) := by
  refine mkE rfl (by intro c ex h hn; cases ex <;> first | rfl | (simp [mxe, mX, Mt.no] at h; done) | (rename_i o _ _; cases o <;> first | rfl | (simp [mxe, mX, Mt.no] at h; done))) (no_l fun _ => rfl).1 (no_l fun _ => rfl).2 (fun _ _ _ _ => rfl) fun {W X n c ex} a h => ?_
  simp only [mxe, mX] at h
  split at h
  · simp only [Bool.and_eq_true, decide_eq_true_eq] at h
    obtain ⟨⟨⟨⟨⟨⟨h1, h2⟩, h3⟩, h4⟩, h5⟩, _⟩, h6⟩ := h
    exact snd_srs a.ok io h1 h2 h3 h4 h5 (hx.e a h6)
  · cases h
theorem Snd.revm {x : Tm} (hx : Snd I C x) : Snd I C (.revm x) := by
  refine mkM rfl rfl (by intro c ex h hn; cases ex <;> first | rfl | (simp [mxe, mX, Mt.no] at h; done) | (rename_i o _ _; cases o <;> first | rfl | (simp [mxe, mX, Mt.no] at h; done))) (no_l fun _ => rfl).1 (no_l fun _ => rfl).2 (fun _ _ _ _ => rfl) fun {W X n c ex} a h => ?_
  simp only [mxe, mX] at h
  split at h
  · exact snd_revm a.ok (hx.e a h)
  · cases h
theorem Snd.rep {x y : Tm} (hx : Snd I C x) (hy : Snd I C y) : Snd I C (.rep x y) := by
  refine mkM rfl rfl (by intro c ex h hn; cases ex <;> first | rfl | (simp [mxe, mX, Mt.no] at h; done) | (rename_i o _ _; cases o <;> first | rfl | (simp [mxe, mX, Mt.no] at h; done))) (no_l fun _ => rfl).1 (no_l fun _ => rfl).2 (fun _ _ _ _ => rfl) fun {W X n c ex} a h => ?_
  simp only [mxe, mX] at h
  split at h
  · simp only [Bool.and_eq_true] at h
    exact snd_rep a.ok (hx.m a h.1.2 h.1.1) (hy.e a h.2)
  · cases h
theorem Snd.gcd (io : InfoOk I) {as : Tm} (ha : Snd I C as) : Snd I C (.gcd as) := by
  refine mkE rfl (by intro c ex h hn; cases ex <;> first | rfl | (simp [mxe, mX, Mt.no] at h; done) | (rename_i o _ _; cases o <;> first | rfl | (simp [mxe, mX, Mt.no] at h; done))) (no_l fun _ => rfl).1 (no_l fun _ => rfl).2 (fun _ _ _ _ => rfl) fun {W X n c ex} a h => ?_
  simp only [mxe, mX] at h
  split at h
  · try simp only [Bool.and_eq_true, Bool.not_eq_true', decide_eq_true_eq] at h
    exact snd_gcd a.ok io h.1.1.1 h.1.1.2 h.1.2 (noStars_of h.2) (ha.l a h.2)
  · cases h
theorem noSet {e : Expr} {env : PySem.Env} (h : isSetE e = false) : ∀ x, foldedSetIterable e env x = pure x := by
  intro x; cases e <;> first | rfl | cases h
theorem ifs_of {X : Cx} {n : Nat} {c : Ctx} {t : Tm} {ifs : List Expr} (ht : Snd I C t) (a : At I C (fun _ _ _ _ => False) X n c) (hn : noT t = false) (h : ifsB (isTT t) (mxe I t c) ifs = true) : PTs X ifs (tT I C (fun _ _ _ _ => False) t) := by
  match ifs, h with
  | [], h =>
    have : t = .bl true := by
      cases t with
      | bl b => cases b with
        | true => rfl
        | false => cases h
      | _ => cases h
    subst this
    exact pts_none
  | [x], h => exact pts_one (ht.t a h hn)
  | _ :: _ :: _, h => cases h
theorem comp_all {own : List Nat} {g : G} {it t e : Tm} (hi : Snd I C it) (ht : Snd I C t) (he : Snd I C e) {W : WX} {X : Cx} {n : Nat} {c : Ctx} {ex : Expr} (a : At I C W X n c) (h : mxe I (.comp own g it t e) c ex = true) :
    (∃ el tg i ifs scope pos, ex = .ListComp el [⟨tg, i, ifs, 0⟩] scope pos) ∧ PE X ex (tM I C W (.comp own g it t e)) ∧ ∀ {k : Nat} {y : Str} {py spos : Pos}, X.N[k]? = some y → X.env.scope.names.lookup y = some .local → swapsWith ex (some (.Name y py)) spos.line X.env = pure true →
      PS X (.Assign [.Name y py] ex spos) (tAsg (tM I C W (.comp own g it t e)) (gName k)) := by
  simp only [mxe, mX] at h
  split at h
  · simp only [Bool.and_eq_true, Bool.not_eq_true', Bool.or_eq_true] at h
    obtain ⟨⟨⟨⟨⟨⟨⟨s1, s2⟩, s3⟩, s4⟩, s5⟩, s7⟩, s8⟩, ⟨⟨⟨⟨t1, t2⟩, t3⟩, t4⟩, t5⟩⟩ := h
    have sub : ∀ {c'} X', CtxOk I n c' X' → At I C (fun _ _ _ _ => False) X' n c' := fun X' o => ⟨o, a.fs, fun u s' ⟨_, _, _, _, _, _, _, _, _, _, _, _, _, _, _, _, z⟩ => z.elim⟩
    exact ⟨⟨_, _, _, _, _, _, rfl⟩, snd_comp a.ok s7 s8 t4 (noSet s1) (hi.i a s2 s4 fun z => s3.elim (fun y => by rw [z] at y; cases y) id) (fun X' o => (snd_g o g).1 _ t1) (fun X' o => ifs_of ht (sub X' o) t2 t3) (fun X' o => he.e (sub X' o) t5)⟩
  · cases h
theorem Snd.comp {own : List Nat} {g : G} {it t e : Tm} (hi : Snd I C it) (ht : Snd I C t) (he : Snd I C e) : Snd I C (.comp own g it t e) := by
  refine mkM rfl rfl (by intro c ex h hn; cases ex <;> first | rfl | (simp [mxe, mX, plX, Mt.no] at h; done) | (rename_i o _ _; cases o <;> first | rfl | (simp [mxe, mX, plX, Mt.no] at h; done))) (no_l fun _ => rfl).1 (no_l fun _ => rfl).2 (fun _ _ _ _ => rfl) fun {W X n c ex} a h => (comp_all hi ht he a h).2.1
theorem Snd.rng1 (io : InfoOk I) {x : Tm} (hx : Snd I C x) : Snd I C (.rng1 x) := by
  refine mkI rfl (no_l fun _ => rfl).1 (no_l fun _ => rfl).2 (fun _ _ _ _ => rfl) fun {W X n c ex tg} a h htg => ?_
  simp only [mxe, mX] at h
  split at h
  · simp only [Bool.and_eq_true, decide_eq_true_eq] at h
    obtain ⟨⟨⟨h1, h2⟩, h3⟩, h4⟩ := h
    exact snd_rng1 a.ok io h1 h2 h3 (hx.e a h4)
  · cases h
theorem Snd.rng2 (io : InfoOk I) {x y : Tm} (hx : Snd I C x) (hy : Snd I C y) : Snd I C (.rng2 x y) := by
  refine mkI rfl (no_l fun _ => rfl).1 (no_l fun _ => rfl).2 (fun _ _ _ _ => rfl) fun {W X n c ex tg} a h htg => ?_
  simp only [mxe, mX] at h
  split at h
  · simp only [Bool.and_eq_true, decide_eq_true_eq] at h
    obtain ⟨⟨⟨⟨⟨h1, h2⟩, h3⟩, h4⟩, h5⟩, h6⟩ := h
    exact snd_rng2 a.ok io h1 h2 h3 h4 (hx.e a h5) (hy.e a h6)
  · cases h
theorem Snd.enum (io : InfoOk I) {x : Tm} (hx : Snd I C x) : Snd I C (.enum x) := by
  refine mkI rfl (no_l fun _ => rfl).1 (no_l fun _ => rfl).2 (fun _ _ _ _ => rfl) fun {W X n c ex tg} a h htg => ?_
  simp only [mxe, mX] at h
  split at h
  · simp only [Bool.and_eq_true, decide_eq_true_eq] at h
    obtain ⟨⟨⟨⟨h1, h2⟩, h3⟩, h4⟩, h5⟩ := h
    exact snd_enum a.ok io h1 h2 h3 h4 (htg rfl) (hx.e a h5)
  · cases h
theorem Snd.zip (io : InfoOk I) {x y : Tm} (hx : Snd I C x) (hy : Snd I C y) : Snd I C (.zip x y) := by
  refine mkI rfl (no_l fun _ => rfl).1 (no_l fun _ => rfl).2 (fun _ _ _ _ => rfl) fun {W X n c ex tg} a h htg => ?_
  simp only [mxe, mX] at h
  split at h
  · simp only [Bool.and_eq_true, decide_eq_true_eq] at h
    obtain ⟨⟨⟨⟨⟨⟨⟨h1, h2⟩, h3⟩, h4⟩, h5⟩, h6⟩, h7⟩, h8⟩ := h
    exact snd_zip a.ok io h1 h2 h3 h4 h5 h6 (htg rfl) (hx.e a h7) (hy.e a h8)
  · cases h
/-- pairs of written keys and these values -/
def Pp (I : Info) (C : Nat → List Sl → CR) (x : Tm) : Prop := ∀ {W : WX} {X : Cx} {n : Nat} {c : Ctx} {keys : List (Option Expr)} {ks : List Str} {values : List Expr} {pos : Pos}, At I C W X n c → keysB keys ks = true → mxl I x c values = true → noAt x = true → keys.length = values.length → PPs X pos keys values (trsOf I C W ks x) ∧ tlen x = values.length
theorem pn {x : Tm} (h : ∀ c es, mxl I x c es = false) : Pp I C x := fun _ _ hl _ _ => by rw [h] at hl; cases hl
theorem pp_nil : Pp I C .nil := fun {W X n c keys ks values pos} a hk hl hn hlen => by
  cases values with
  | nil =>
    have : keys = [] := List.length_eq_zero_iff.mp hlen
    subst this
    cases ks with
    | nil => exact ⟨pps_nil, rfl⟩
    | cons _ _ => cases hk
  | cons _ _ => cases hl
theorem pp_cons {x y : Tm} (hx : Snd I C x) (hy : Pp I C y) : Pp I C (.cons x y) := fun {W X n c keys ks values pos} a hk hl hn hlen => by
  cases values with
  | nil => cases hl
  | cons e es =>
    cases keys with
    | nil => simp at hlen
    | cons k keys =>
      simp only [mxl, mX, Bool.and_eq_true] at hl
      simp only [noAt, Bool.and_eq_true] at hn
      cases ks with
      | nil => cases k <;> first | cases hk | (rename_i e' ; cases e' <;> first | cases hk | (rename_i c' _ _; cases c' <;> cases hk))
      | cons j ks =>
        cases k with
        | none => cases hk
        | some e' =>
          cases e' <;> first | (cases hk; done) | skip
          rename_i c' _ _
          cases c' <;> first | (cases hk; done) | skip
          simp only [keysB, Bool.and_eq_true, decide_eq_true_eq] at hk
          obtain ⟨rfl, hk⟩ := hk
          obtain ⟨h1, h2⟩ := hy a hk hl.2 hn.2 (by simpa using hlen)
          exact ⟨pps_cons pe_str (hx.e a hl.1.2) h1, by simp [tlen, h2]⟩
theorem Snd.dg {i : Nat} {k : Str} : Snd I C (.dg i k) := by
  refine mkE rfl (by intro c ex h hn; cases ex <;> first | rfl | (simp [mxe, mX, Mt.no] at h; done) | (rename_i o _ _; cases o <;> first | rfl | (simp [mxe, mX, Mt.no] at h; done))) (no_l fun _ => rfl).1 (no_l fun _ => rfl).2 (fun _ _ _ _ => rfl) fun {W X n c ex} a h => ?_
  simp only [mxe, mX] at h
  split at h
  · simp only [Bool.and_eq_true, decide_eq_true_eq] at h
    obtain ⟨h1, rfl⟩ := h
    exact snd_dg a.ok (by have := a.ok.room.units; omega) h1
  · cases h
theorem Snd.dnw : Snd I C .dnw := by
  refine mkM rfl rfl (by intro c ex h hn; cases ex <;> first | rfl | (simp [mxe, mX, Mt.no] at h; done) | (rename_i o _ _; cases o <;> first | rfl | (simp [mxe, mX, Mt.no] at h; done))) (no_l fun _ => rfl).1 (no_l fun _ => rfl).2 (fun _ _ _ _ => rfl) fun {W X n c ex} a h => ?_
  simp only [mxe, mX] at h
  split at h
  · exact snd_dnw
  · cases h
theorem Snd.dgt {i : Nat} {x : Tm} (hx : Snd I C x) : Snd I C (.dgt i x) := by
  refine mkE rfl (by intro c ex h hn; cases ex <;> first | rfl | (simp [mxe, mX, Mt.no] at h; done) | (rename_i o _ _; cases o <;> first | rfl | (simp [mxe, mX, Mt.no] at h; done))) (no_l fun _ => rfl).1 (no_l fun _ => rfl).2 (fun _ _ _ _ => rfl) fun {W X n c ex} a h => ?_
  simp only [mxe, mX] at h
  split at h
  · simp only [Bool.and_eq_true, Bool.not_eq_true'] at h
    obtain ⟨⟨h1, h2⟩, h3⟩ := h
    exact snd_dgt a.ok (by have := a.ok.room.units; omega) h1 (plainIx_of h2) (hx.e a h3)
  · cases h
theorem Snd.dpt (io : InfoOk I) {x : Tm} (hx : Snd I C x) : Snd I C (.dpt x) := by
  refine mkM rfl rfl (by intro c ex h hn; cases ex <;> first | rfl | (simp [mxe, mX, Mt.no] at h; done) | (rename_i o _ _; cases o <;> first | rfl | (simp [mxe, mX, Mt.no] at h; done))) (no_l fun _ => rfl).1 (no_l fun _ => rfl).2 (fun _ _ _ _ => rfl) fun {W X n c ex} a h => ?_
  simp only [mxe, mX] at h
  split at h
  · simp only [Bool.and_eq_true, decide_eq_true_eq] at h
    obtain ⟨⟨⟨⟨h1, h2⟩, h3⟩, h4⟩, h5⟩ := h
    exact snd_dpt a.ok io h1 h2 h3 (hx.m a h5 h4)
  · cases h
theorem Snd.dgv {i : Nat} {x : Tm} (hx : Snd I C x) : Snd I C (.dgv i x) := by
  refine mkE rfl (by intro c ex h hn; cases ex <;> first | rfl | (simp [mxe, mX, Mt.no] at h; done) | (rename_i o _ _; cases o <;> first | rfl | (simp [mxe, mX, Mt.no] at h; done))) (no_l fun _ => rfl).1 (no_l fun _ => rfl).2 (fun _ _ _ _ => rfl) fun {W X n c ex} a h => ?_
  simp only [mxe, mX] at h
  split at h
  · simp only [Bool.and_eq_true, Bool.not_eq_true'] at h
    obtain ⟨⟨h1, h2⟩, h3⟩ := h
    exact snd_dgv a.ok (by have := a.ok.room.units; omega) h1 (plainIx_of h2) (hx.e a h3)
  · cases h
theorem Snd.din {i : Nat} {x : Tm} (hx : Snd I C x) : Snd I C (.din i x) := by
  have key : ∀ {W X n c ex}, At I C W X n c → mxe I (.din i x) c ex = true → PE X ex (tE I C W (.din i x)) ∧ PT X ex (tT I C W (.din i x)) := by
    intro W X n c ex a h
    simp only [mxe, mX] at h
    split at h
    · try simp only [Bool.and_eq_true, Bool.not_eq_true', decide_eq_true_eq] at h
      exact snd_din a.ok (by have := a.ok.room.units; omega) h.1 (hx.e a h.2)
    · cases h
  exact ⟨fun a h => (key a h).1, fun a h hx => m_of_e rfl hx (key a h).1, fun a h _ => (key a h).2, fun a h => (by cases h), fun a h hx _ => i_of_e a.ok rfl hx (key a h).1, fun a h => (by cases h), fun a h => by cases h⟩
theorem Snd.dcp (io : InfoOk I) {i : Nat} {x : Tm} (hx : Snd I C x) : Snd I C (.dcp i x) := by
  refine mkM rfl rfl (by intro c ex h hn; cases ex <;> first | rfl | (simp [mxe, mX, Mt.no] at h; done) | (rename_i o _ _; cases o <;> first | rfl | (simp [mxe, mX, Mt.no] at h; done))) (no_l fun _ => rfl).1 (no_l fun _ => rfl).2 (fun _ _ _ _ => rfl) fun {W X n c ex} a h => ?_
  simp only [mxe, mX] at h
  split at h
  · simp only [Bool.and_eq_true, decide_eq_true_eq] at h
    obtain ⟨⟨⟨⟨⟨⟨⟨⟨h1, h2⟩, h3⟩, h4⟩, h5⟩, h6⟩, h7⟩, h8⟩, h9⟩ := h
    exact snd_dcp a.ok io h1 h2 h3 h4 h5 h6 h7 (hx.m a h9 h8)
  · cases h
theorem Snd.dct {ks : List Str} {vs : Tm} (hv : Pp I C vs) : Snd I C (.dct ks vs) := by
  refine mkM rfl rfl (by intro c ex h hn; cases ex <;> first | rfl | (simp [mxe, mX, Mt.no] at h; done) | (rename_i o _ _; cases o <;> first | rfl | (simp [mxe, mX, Mt.no] at h; done))) (no_l fun _ => rfl).1 (no_l fun _ => rfl).2 (fun _ _ _ _ => rfl) fun {W X n c ex} a h => ?_
  simp only [mxe, mX] at h
  split at h
  · simp only [Bool.and_eq_true, decide_eq_true_eq] at h
    obtain ⟨⟨⟨⟨⟨⟨h1, h2⟩, h3⟩, h4⟩, h5⟩, h6⟩, h7⟩ := h
    obtain ⟨q1, q2⟩ := hv a h1 h7 h3 h6
    exact snd_dct a.ok h1 h2 h3 h4 h5 h6 q2 q1
  · cases h
theorem snd_all2 (io : InfoOk I) : ∀ x : Tm, Snd I C x ∧ Pp I C x := by
  intro x
  induction x with
  | var i => exact ⟨.var, pn fun _ _ => rfl⟩
  | lf p => exact ⟨.lf, pn fun _ _ => rfl⟩
  | vw p => exact ⟨.vw, pn fun _ _ => rfl⟩
  | mv i => exact ⟨.mv, pn fun _ _ => rfl⟩
  | int i => exact ⟨.int, pn fun _ _ => rfl⟩
  | bl i => exact ⟨.bl, pn fun _ _ => rfl⟩
  | non => exact ⟨.non, pn fun _ _ => rfl⟩
  | str i => exact ⟨.str, pn fun _ _ => rfl⟩
  | gc g => exact ⟨.gc io, pn fun _ _ => rfl⟩
  | nil => exact ⟨.nil, pp_nil⟩
  | cons _ _ h1 h2 => exact ⟨.cons h1.1 h2.1, pp_cons h1.1 h2.2⟩
  | am p => exact ⟨.am, pn fun _ _ => rfl⟩
  | «at» _ h => exact ⟨.at_ h.1, pn fun _ _ => rfl⟩
  | tup _ h => exact ⟨.tup h.1, pn fun _ _ => rfl⟩
  | lst _ h => exact ⟨.lst h.1, pn fun _ _ => rfl⟩
  | nst _ h => exact ⟨.nst h.1, pn fun _ _ => rfl⟩
  | bin _ _ _ h1 h2 => exact ⟨.bin h1.1 h2.1, pn fun _ _ => rfl⟩
  | neg _ h => exact ⟨.neg h.1, pn fun _ _ => rfl⟩
  | cmp _ _ _ h1 h2 => exact ⟨.cmp h1.1 h2.1, pn fun _ _ => rfl⟩
  | chain _ _ _ _ _ h1 h2 h3 => exact ⟨.chain h1.1 h2.1 h3.1, pn fun _ _ => rfl⟩
  | isN _ h => exact ⟨.isN h.1, pn fun _ _ => rfl⟩
  | notN _ h => exact ⟨.notN h.1, pn fun _ _ => rfl⟩
  | and _ _ h1 h2 => exact ⟨.and h1.1 h2.1, pn fun _ _ => rfl⟩
  | or _ _ h1 h2 => exact ⟨.or h1.1 h2.1, pn fun _ _ => rfl⟩
  | not _ h => exact ⟨.not h.1, pn fun _ _ => rfl⟩
  | ite _ _ _ h1 h2 h3 => exact ⟨.ite h1.1 h2.1 h3.1, pn fun _ _ => rfl⟩
  | idx _ _ h1 h2 => exact ⟨.idx h1.1 h2.1, pn fun _ _ => rfl⟩
  | abs => exact ⟨.abs, pn fun _ _ => rfl⟩
  | slc _ _ _ h1 h2 h3 => exact ⟨.slc h1.1 h2.1 h3.1, pn fun _ _ => rfl⟩
  | slm _ _ _ h1 h2 h3 => exact ⟨.slm h1.1 h2.1 h3.1, pn fun _ _ => rfl⟩
  | call _ _ h => exact ⟨.call io h.1, pn fun _ _ => rfl⟩
  | callK _ _ _ h1 h2 => exact ⟨.callK io h1.1 h2.1, pn fun _ _ => rfl⟩
  | callP _ _ _ _ h1 h2 => exact ⟨.callP io h1.1 h2.1, pn fun _ _ => rfl⟩
  | rev _ h => exact ⟨.rev h.1, pn fun _ _ => rfl⟩
  | gcd _ h => exact ⟨.gcd io h.1, pn fun _ _ => rfl⟩
  | srs _ h => exact ⟨.srs io h.1, pn fun _ _ => rfl⟩
  | dg i k => exact ⟨.dg, pn fun _ _ => rfl⟩
  | dnw => exact ⟨.dnw, pn fun _ _ => rfl⟩
  | slv _ _ _ h1 h2 => exact ⟨.slv h1.1 h2.1, pn fun _ _ => rfl⟩
  | dpt _ h => exact ⟨.dpt io h.1, pn fun _ _ => rfl⟩
  | dgt _ _ h => exact ⟨.dgt h.1, pn fun _ _ => rfl⟩
  | dgv _ _ h => exact ⟨.dgv h.1, pn fun _ _ => rfl⟩
  | din _ _ h => exact ⟨.din h.1, pn fun _ _ => rfl⟩
  | dcp _ _ h => exact ⟨.dcp io h.1, pn fun _ _ => rfl⟩
  | dct _ _ h => exact ⟨.dct h.2, pn fun _ _ => rfl⟩
  | rlst _ h => exact ⟨.rlst io h.1, pn fun _ _ => rfl⟩
  | rtup _ h => exact ⟨.rtup io h.1, pn fun _ _ => rfl⟩
  | rep _ _ h1 h2 => exact ⟨.rep h1.1 h2.1, pn fun _ _ => rfl⟩
  | revm _ h => exact ⟨.revm h.1, pn fun _ _ => rfl⟩
  | bi _ _ h => exact ⟨.bi io h.1, pn fun _ _ => rfl⟩
  | isi _ _ h => exact ⟨.isi io h.1, pn fun _ _ => rfl⟩
  | me _ _ _ h1 h2 => exact ⟨.me h1.1 h2.1, pn fun _ _ => rfl⟩
  | comp _ _ _ _ _ h1 h2 h3 => exact ⟨.comp h1.1 h2.1 h3.1, pn fun _ _ => rfl⟩
  | cat _ _ h1 h2 => exact ⟨.cat h1.1 h2.1, pn fun _ _ => rfl⟩
  | lof _ h => exact ⟨.lof io h.1, pn fun _ _ => rfl⟩
  | rng1 _ h => exact ⟨.rng1 io h.1, pn fun _ _ => rfl⟩
  | rng2 _ _ h1 h2 => exact ⟨.rng2 io h1.1 h2.1, pn fun _ _ => rfl⟩
  | enum _ h => exact ⟨.enum io h.1, pn fun _ _ => rfl⟩
  | zip _ _ h1 h2 => exact ⟨.zip io h1.1 h2.1, pn fun _ _ => rfl⟩
  | pop p => exact ⟨.pop, pn fun _ _ => rfl⟩
  | popAt p _ h => exact ⟨.popAt h.1, pn fun _ _ => rfl⟩
theorem snd_all (io : InfoOk I) (x : Tm) : Snd I C x := (snd_all2 io x).1
end
end PY

set_option Elab.async false
set_option linter.all false
set_option maxRecDepth 100000
set_option maxHeartbeats 2000000
/-! SoC: statements. -/
namespace PY
open PySem PySem.Spec PyProof.Rows L2
structure Ms where
  s : Stmt → Bool
  l : List Stmt → Bool
def Ms.no : Ms := ⟨fun _ => false, fun _ => false⟩
def frzB (c : Ctx) : S → Bool
  | .frz i => !(c.prot.contains i)
  | _ => false
def isCmpE : Expr → Bool
  | .ListComp .. => true
  | .SetComp .. => true
  | .DictComp .. => true
  | _ => false
def isTupE : Expr → Bool
  | .Tuple .. => true
  | _ => false
def augB : Bop → Operator → Bool
  | .add, .Add => true
  | .sub, .Sub => true
  | .mul, .Mult => true
  | _, _ => false
def locN (c : Ctx) (x : Str) : Bool := c.sc.names.lookup x == some .local
def parB (c : Ctx) (x y : Str) (px py : Pos) (p q : Expr) : Bool := locN c x && locN c y && decide (x ≠ y) && (py.line == px.line) && noStar p && noStar q && !([p, q].all (foldedForSure 8)) && !([p, q].all (constantsAlone 8))
def parB3 (c : Ctx) (x y z : Str) (px py pz : Pos) (p q r : Expr) : Bool := locN c x && locN c y && locN c z && decide (x ≠ y) && decide (x ≠ z) && decide (y ≠ z) && (py.line == px.line) && (pz.line == px.line) && noStar p && noStar q && noStar r && !([p, q, r].all (foldedForSure 8)) && !([p, q, r].all (constantsAlone 8))
/-- a value that no swap of stores is made for -/
def okTup : Expr → Bool
  | .Tuple vs _ _ => vs.all (foldedForSure 8) || !(vs.length == 2 || vs.length == 3)
  | _ => true
/-- some target is no plain local name: no swap of stores either -/
def nclT (c : Ctx) : Expr → Bool
  | .Tuple ts _ _ => ts.any fun e => match e with
      | .Name x _ => !(locN c x)
      | _ => false
  | _ => false
section
variable (fn gn : Nat → Str) (fps : Nat → List Str) (kk : Nat → List (List Nat))
def mS : S → Ctx → Ms
  | .skip, _ => { s := (fun | .Pass _ => true | .Expr (.Constant (.str _) _ _) _ => true | _ => false), l := (fun | [] => true | _ => false) }
  | .seq a b, c => { Ms.no with l := (fun l => if frzB c a then (mS b c).l l else match l with | st :: r => (mS a c).s st && (mS b c).l r | [] => false) }
  | .ret x, c => { Ms.no with s := (fun | .Return (some e) _ => esc x && (mX fn gn fps kk x c).e e | _ => false) }
  | .retM x, c => { Ms.no with s := (fun | .Return (some e) _ => esc x && (mX fn gn fps kk x c).e e | _ => false) }
  | .retN, _ => { Ms.no with s := (fun | .Return none _ => true | _ => false) }
  | .expr x, c => { Ms.no with s := (fun | .Expr e _ => !(isCmpE e) && esc x && (mX fn gn fps kk x c).e e | _ => false) }
  | .asg i x, c => { Ms.no with s := (fun | .Assign [.Name y _] e _ => stoB c i y && notAm x && esc x && (mX fn gn fps kk x c).e e | _ => false) }
  | .asgM i x, c => { Ms.no with s := (fun | .Assign [.Name y _] e _ => stoB c i y && notAm x && esc x && (mX fn gn fps kk x c).e e | _ => false) }
  | .asgT g x, c => { Ms.no with s := (fun | .Assign [tg] e _ => isTup tg && !(isCmpE e) && (okTup e || nclT c tg) && esc x && (mX fn gn fps kk x c).e e && (mG c g).e tg | _ => false) }
  | .par2 i j a b, c => { Ms.no with s := (fun | .Assign [.Tuple [.Name x px, .Name y py] _ _] (.Tuple [p, q] _ _) _ => stoB c i x && stoB c j y && !(i == j) && parB c x y px py p q && esc a && esc b && (mX fn gn fps kk a c).e p && (mX fn gn fps kk b c).e q | _ => false) }
  | .parA ts as, c => { Ms.no with s := (fun
      | .Assign [.Tuple [.Name x px, .Name y py] _ _] (.Tuple [p, q] _ _) _ => (match ts with
          | [i, j] => stoB c i x && stoB c j y && !(i == j) && parB c x y px py p q && escs as && noAm as && (mX fn gn fps kk as c).l [p, q]
          | _ => false)
      | .Assign [.Tuple [.Name x px, .Name y py, .Name z pz] _ _] (.Tuple [p, q, r] _ _) _ => (match ts with
          | [i, j, l] => stoB c i x && stoB c j y && stoB c l z && !(i == j) && !(i == l) && !(j == l) && parB3 c x y z px py pz p q r && escs as && noAm as && (mX fn gn fps kk as c).l [p, q, r]
          | _ => false)
      | _ => false) }
  | .aug i o x, c => { Ms.no with s := (fun | .AugAssign (.Name y _) p e _ => stoB c i y && augB o p && esc x && (mX fn gn fps kk x c).e e | _ => false) }
  | .ife t a b, c => { Ms.no with s := (fun | .If e p q _ => !(noT t) && (mX fn gn fps kk t c).e e && (mS a c).l p && (mS b c).l q | _ => false) }
  | .for_ g it b, c => { Ms.no with s := (fun | .For tg i body [] _ => !(isSetE i) && (!(needTup it) || isTup tg) && esc it && (mX fn gn fps kk it c).e i && (mG c g).e tg && (mS b c).l body | _ => false) }
  | .whl _ t b, c => { Ms.no with s := (fun | .While e body [] _ => !(noT t) && (mX fn gn fps kk t c).e e && (mS b c).l body | _ => false) }
  | .swp i a b x y, c => { Ms.no with s := (fun | .Assign [.Tuple [.Subscript (.Name o p1) k1 _, .Subscript (.Name o2 p2) k2 _] _ _] (.Tuple es k3 p3) _ => !(isSl k1) && !(isSl k2) && plX c (.v i) (.Name o p1) && plX c (.v i) (.Name o2 p2) && esc x && esc y && (mX fn gn fps kk a c).e k1 && (mX fn gn fps kk b c).e k2 && (mX fn gn fps kk (.tup (.cons x (.cons y .nil))) c).e (.Tuple es k3 p3) | _ => false) }
  | .brk, _ => { Ms.no with s := (fun | .Break _ => true | _ => false) }
  | .cnt, _ => { Ms.no with s := (fun | .Continue _ => true | _ => false) }
  | .stuck, _ => { Ms.no with s := (fun | .Raise .. => true | _ => false) }
  | .dset i k x, c => { Ms.no with s := (fun | .Assign [.Subscript (.Name o _) (.Constant (.str j) _ _) _] e _ => !(isCmpE e) && varB c i o && decide (j = k) && esc x && (mX fn gn fps kk x c).e e | _ => false) }
  | .ins p i x, c => { Ms.no with s := (fun | .Expr (.Call (.Attribute o n ap) [.Constant (.int j) _ _, y] [] q) _ => decide (n = "insert") && baseOk o && (ap.endLine == q.line) && plX c p o && noStar y && decide (j = (i : Int)) && decide (i < 1000) && (isVp p || qui x) && esc x && (mX fn gn fps kk x c).e y | _ => false) }
  | .app p x, c => { Ms.no with s := (fun | .Expr (.Call (.Attribute o n ap) [y] [] q) _ => decide (n = "append") && baseOk o && (ap.endLine == q.line) && plX c p o && noStar y && (isVp p || qui x) && esc x && (mX fn gn fps kk x c).e y | _ => false) }
  | .appM p x, c => { Ms.no with s := (fun | .Expr (.Call (.Attribute o n ap) [y] [] q) _ => decide (n = "append") && baseOk o && (ap.endLine == q.line) && plX c p o && noStar y && (isVp p || qui x) && esc x && (mX fn gn fps kk x c).e y | _ => false) }
  | .ext p x, c => { Ms.no with s := (fun | .Expr (.Call (.Attribute o n ap) [y] [] q) _ => decide (n = "extend") && baseOk o && (ap.endLine == q.line) && plX c p o && noStar y && (isVp p || qui x) && esc x && (mX fn gn fps kk x c).e y | _ => false) }
  | .set p i x, c => { Ms.no with s := (fun | .Assign [.Subscript o k _] e _ => !(isCmpE e) && !(isSl k) && plX c p o && (isVp p || qui i) && esc x && (mX fn gn fps kk x c).e e && (mX fn gn fps kk i c).e k | _ => false) }
  | _, _ => Ms.no
end
structure PostS (K : PySem.W.Frag) (pr : List Nat) (Z P : Ad) (σ : L2.St) (H : Hp) (Z' : Ad) (F' : Nat → Ad) (env' : Env) (σ' : L2.St) (H' : Hp) : Prop where
  st : Sta K Z' P F' env' σ' H'
  stp : Step Z P H Z' H'
  pr : ∀ i, i ∈ pr → σ'[i]? = σ[i]?
theorem PostS.trans {K : PySem.W.Frag} {pr : List Nat} {Z Z1 Z2 P : Ad} {σ σ1 σ2 : L2.St} {H H1 H2 : Hp} {F1 F2 : Nat → Ad} {e1 e2 : Env} (a : PostS K pr Z P σ H Z1 F1 e1 σ1 H1) (b : PostS K pr Z1 P σ1 H1 Z2 F2 e2 σ2 H2) : PostS K pr Z P σ H Z2 F2 e2 σ2 H2 :=
  ⟨b.st, a.stp.trans b.stp fun _ h => h, fun i h => (b.pr i h).trans (a.pr i h)⟩
def endS (I : Info) (pr : List Nat) (D : Ends) (Z P : Ad) (σ : L2.St) (H : Hp) : Flow → Env → Prop := fun w env' => match w with
  | .nx => ∀ Z' F' σ' H', PostS I.K pr Z P σ H Z' F' env' σ' H' → D.nx σ' H'
  | .bk => ∀ Z' F' σ' H', PostS I.K pr Z P σ H Z' F' env' σ' H' → D.bk σ' H'
  | .ct => ∀ Z' F' σ' H', PostS I.K pr Z P σ H Z' F' env' σ' H' → D.ct σ' H'
  | .rt r => ∀ v Z' F' σ' H' A, Sta I.K Z' (fun a => P a ∨ A a) F' env' σ' H' → Step Z P H Z' H' → (∀ i, i ∈ pr → σ'[i]? = σ[i]?) → RS I.K Z' noF H' [v] [r] A → (∀ a, A a → ¬ P a) → D.rt v H'
def exS (I : Info) (W : WX) (pr : List Nat) (Z P : Ad) (σ : L2.St) (H : Hp) : Ex → Env → Prop := fun x env' => ∀ cv dd Z' F' σ' H', PostS I.K pr Z P σ H Z' F' env' σ' H' → ExR I Z' H' cv dd x → W cv dd σ' H'
def tS (I : Info) (C : Nat → List Sl → CR) (W : WX) (pr : List Nat) (x : S) : TS := fun D σ H => ∃ Z P F env, Sta I.K Z P F env σ H ∧ Wp (evS I.GC C x env) (endS I pr D Z P σ H) (exS I W pr Z P σ H)
section
variable {I : Info} {C : Nat → List Sl → CR} {W : WX} {X : Cx} {n : Nat} {c : Ctx} {pr : List Nat} {Dn : Ends} {Z Z1 P : Ad} {σ σ1 : L2.St} {H H1 : Hp} {F1 : Nat → Ad} {e1 : Env}
theorem endS.later (p : PostS I.K pr Z P σ H Z1 F1 e1 σ1 H1) {w : Flow} {e : Env} (h : endS I pr Dn Z P σ H w e) : endS I pr Dn Z1 P σ1 H1 w e := by
  cases w with
  | nx => exact fun Z' F' σ' H' q => h Z' F' σ' H' (p.trans q)
  | bk => exact fun Z' F' σ' H' q => h Z' F' σ' H' (p.trans q)
  | ct => exact fun Z' F' σ' H' q => h Z' F' σ' H' (p.trans q)
  | rt r => exact fun v Z' F' σ' H' A st stp q rs ap => h v Z' F' σ' H' A st (p.stp.trans stp fun _ h => h) (fun i hi => (q i hi).trans (p.pr i hi)) rs ap
theorem exS.later (p : PostS I.K pr Z P σ H Z1 F1 e1 σ1 H1) {x : Ex} {e : Env} (h : exS I W pr Z P σ H x e) : exS I W pr Z1 P σ1 H1 x e := fun cv dd Z' F' σ' H' q r => h cv dd Z' F' σ' H' (p.trans q) r
theorem exS.k {x : Ex} {e : Env} (h : exS I W pr Z P σ H x e) : exK I W σ Z P H x e := fun cv dd Z' F' H' st stp r => h cv dd Z' F' σ H' ⟨st, stp, fun _ _ => rfl⟩ r
theorem ResT.post {q : Bool} {F F' : Nat → Ad} {env env' : Env} {Z' : Ad} {H' : Hp} (r : ResT I.K q Z P F H env σ Z' F' H' env') : PostS I.K pr Z P σ H Z' F' env' σ H' := ⟨r.st, r.stp, fun _ _ => rfl⟩
theorem _root_.L2.PS.imp {X : Cx} {s : Stmt} {t t' : TS} (h : PS X s t) (k : ∀ D σ H, t' D σ H → t D σ H) : PS X s t' := ⟨fun pins s σ H D I q => h.run pins s σ H D I (k D σ H q)⟩
theorem _root_.L2.PSs.imp {X : Cx} {s : List Stmt} {t t' : TS} (h : PSs X s t) (k : ∀ D σ H, t' D σ H → t D σ H) : PSs X s t' := ⟨fun pins s σ H D I q => h.run pins s σ H D I (k D σ H q)⟩
/-- an owned value stored -/
theorem Sta.setM {K : PySem.W.Frag} {Z P A : Ad} {F : Nat → Ad} {env : Env} {σ : L2.St} {H : Hp} {i : Nat} {v : V} {m : M} (st : Sta K Z (fun a => P a ∨ A a) F env σ H) (r : RO K Z H v m A) (ap : ∀ a, A a → ¬ P a) : Sta K Z P (fun j a => (j = i ∧ A a) ∨ (j ≠ i ∧ F j a)) (env.set i (.m m)) (σ.set i (some v)) H where
  len := by rw [List.length_set, List.length_set]; exact st.len
  sd := fun j e h => by
    by_cases hj : i = j
    · subst hj
      rw [List.getElem?_set] at h
      simp only [if_true] at h
      split at h <;> cases h
    · rw [List.getElem?_set_ne hj] at h ⊢
      exact st.sd j e h
  sm := fun j e h => by
    by_cases hj : i = j
    · subst hj
      rw [List.getElem?_set] at h
      simp only [if_true] at h
      split at h
      · cases h
        rename_i hl
        exact ⟨v, by rw [List.getElem?_set]; simp [← st.len, hl], r.wide fun a z => .inl ⟨rfl, z⟩⟩
      · cases h
    · rw [List.getElem?_set_ne hj] at h ⊢
      obtain ⟨w, h1, h2⟩ := st.sm j e h
      exact ⟨w, h1, h2.wide fun a z => .inr ⟨Ne.symm hj, z⟩⟩
  ff := fun j k a h1 h2 => by
    rcases h1 with ⟨rfl, h1⟩ | ⟨n1, h1⟩ <;> rcases h2 with ⟨rfl, h2⟩ | ⟨n2, h2⟩
    · rfl
    · exact absurd (.inr h1) (st.fp k a h2)
    · exact absurd (.inr h2) (st.fp j a h1)
    · exact st.ff j k a h1 h2
  fz := fun j a h z => h.elim (fun h => st.zp a z (.inr h.2)) fun h => st.fz j a h.2 z
  fp := fun j a h p => h.elim (fun h => ap a h.2 p) fun h => st.fp j a h.2 (.inl p)
  zp := fun a z p => st.zp a z (.inl p)
  df := fun j a h => h.elim (fun h => st.dp a (.inr h.2)) fun h => st.df j a h.2
  dz := st.dz
  dp := fun a p => st.dp a (.inl p)
/-- an owned thing that changes no more -/
theorem Sta.freeze {K : PySem.W.Frag} {Z P : Ad} {F : Nat → Ad} {env : Env} {σ : L2.St} {H : Hp} {i : Nat} {d : D} (st : Sta K Z P F env σ H) (e : (slM env[i]?).bind M.frz = some d) : Sta K (fun a => Z a ∨ F i a) P (fun j a => j ≠ i ∧ F j a) (env.set i (.d d)) σ H := by
  simp only [Option.bind_eq_some_iff] at e
  obtain ⟨m, em, ef⟩ := e
  have e1 : env[i]? = some (.m m) := by
    unfold slM at em
    split at em <;> cases em
    assumption
  obtain ⟨v, h1, h2⟩ := st.sm i m e1
  have rv := frz_ok m d v h2 ef
  refine ⟨by rw [List.length_set]; exact st.len, fun j d' h => ?_, fun j m' h => ?_, fun j k a f g => st.ff j k a f.2 g.2, fun j a f z => ?_, fun j a f => st.fp j a f.2, fun a z p => ?_, fun j a f => st.df j a f.2, fun a z => z.elim (st.dz a) (st.df i a), st.dp⟩
  · by_cases hj : i = j
    · subst hj
      rw [List.getElem?_set] at h
      simp only [if_true] at h
      split at h <;> cases h
      exact ⟨v, h1, rv⟩
    · rw [List.getElem?_set_ne hj] at h
      obtain ⟨w, g1, g2⟩ := st.sd j d' h
      exact ⟨w, g1, g2.mono fun _ z => .inl z⟩
  · by_cases hj : i = j
    · subst hj
      rw [List.getElem?_set] at h
      simp only [if_true] at h
      split at h <;> cases h
    · rw [List.getElem?_set_ne hj] at h
      obtain ⟨w, g1, g2⟩ := st.sm j m' h
      exact ⟨w, g1, (g2.keep Keep.refl (fun _ z => .inl z) fun _ _ => rfl).wide fun a z => ⟨Ne.symm hj, z⟩⟩
  · rcases z with z | z
    · exact st.fz j a f.2 z
    · exact f.1 (st.ff j i a f.2 z)
  · rcases z with z | z
    · exact st.zp a z p
    · exact st.fp i a z p
structure AtS (I : Info) (C : Nat → List Sl → CR) (W : WX) (X : Cx) (n : Nat) (c : Ctx) : Prop extends At I C W X n c where
  ws : c.ws = none
  kd : c.sc.kind = .function
  po : PassesOwn (model X.prog X.w) X.A X.env X.xe
theorem sto_of (a : AtS I C W X n c) {i : Nat} {y : Str} (h : stoB c i y = true) : X.N[i]? = some y ∧ i ∉ c.prot ∧ L2.Loc X.env.scope y ∧ X.fn y = true ∧ plainName y = true := by
  unfold stoB at h
  rw [a.ws] at h
  simp only [Bool.and_eq_true, Bool.not_eq_true'] at h
  obtain ⟨⟨⟨h1, h2⟩, h3⟩, h4⟩ := h
  refine ⟨?_, ?_, ?_, ?_, h3⟩
  · rw [a.ok.N]
    split at h1
    · rename_i y' e; rw [e, of_decide_eq_true h1]
    · cases h1
  · intro z
    rw [List.contains_iff_mem.mpr z] at h2
    cases h2
  · unfold locB at h4
    unfold L2.Loc
    rw [a.ok.sc]
    split at h4
    · exact .inl (by assumption)
    · exact .inr (by assumption)
    · cases h4
  · have := a.ok.fn
    rw [a.ws] at this
    exact this y
theorem sw_no {e : Expr} {t : Option Expr} {l : Nat} {env : PySem.Env} (h : isCmpE e = false) : swapsWith e t l env = pure false := by
  cases e <;> first | rfl | cases h
/-- name = e -/
theorem set_E (io : InfoOk I) (a : AtS I C W X n c) {i : Nat} {x : Tm} {y : Str} {e : Expr} {py pos : Pos} (h : stoB c i y = true) (hn : notAm x = true) (hx : esc x = true) (he : mxe I x c e = true) :
    PS X (.Assign [.Name y py] e pos) (tAsg (tE I C W x) (gName i)) ∧ PS X (.Assign [.Name y py] e pos) (tAsg (tM I C W x) (gName i)) := by
  obtain ⟨h1, h2, h3, h4, _⟩ := sto_of a h
  have sx := snd_all (C := C) io x
  have plain : swapsWith e (some (.Name y py)) pos.line X.env = pure false → PS X (.Assign [.Name y py] e pos) (tAsg (tE I C W x) (gName i)) ∧ PS X (.Assign [.Name y py] e pos) (tAsg (tM I C W x) (gName i)) := fun hs =>
    ⟨ps_set (a.ok.N ▸ a.ok.nd) h1 h3 (sx.e a.toAt he) hs (.inl h4), ps_set (a.ok.N ▸ a.ok.nd) h1 h3 (sx.m a.toAt he hx) hs (.inl h4)⟩
  cases hc : isCmpE e with
  | false => exact plain (sw_no hc)
  | true =>
    have : ∃ own g it t el, x = .comp own g it t el := by
      cases e <;> first | (simp [isCmpE] at hc; done) | skip
      all_goals cases x <;> first | exact ⟨_, _, _, _, _, rfl⟩ | (simp [mxe, mX, plX, Mt.no] at he; done) | (simp [notAm] at hn; done) | (rename_i p; cases p <;> (simp [mxe, mX, plX, Mt.no] at he; done))
    obtain ⟨own, g, it, t, el, rfl⟩ := this
    obtain ⟨⟨el', tg, i', ifs, scope, pos', rfl⟩, _, key⟩ := comp_all (snd_all io it) (snd_all io t) (snd_all io el) a.toAt he
    have hbk : X.env.blockKind = .function := by unfold PySem.Env.blockKind; rw [a.ok.sc, a.kd]; rfl
    have hsw : swapsWith (.ListComp el' [⟨tg, i', ifs, 0⟩] scope pos') (some (.Name y py)) pos.line X.env = pure (X.env.kindOf y == some .local && py.line == pos'.line && !(scope.names.any fun (n, k) => n == y && (k == .local || k == .cell))) := by
      unfold swapsWith
      simp only [hbk, Expr.pos]
      rfl
    cases hb : (X.env.kindOf y == some .local && py.line == pos'.line && !(scope.names.any fun (n, k) => n == y && (k == .local || k == .cell))) with
    | false => exact plain (hsw.trans (by rw [hb]))
    | true =>
      have hl : X.env.scope.names.lookup y = some .local := by
        simp only [Bool.and_eq_true, beq_iff_eq] at hb
        exact hb.1.1
      have km := key (py := py) (spos := pos) h1 hl (hsw.trans (by rw [hb]))
      refine ⟨km.imp fun Dn σ H ⟨Z, P, F, env, st, w⟩ => ⟨Z, P, F, env, st, ?_⟩, km⟩
      rw [show (ev I.GC C (.comp own g it t el)).e = (Den.ofM (ev I.GC C (.comp own g it t el)).m).e from rfl] at w
      simp only [Den.ofM, Wp.bind, Wp.opt] at w
      exact w.mono (fun m env1 ⟨d, e1, k⟩ v Z1 F1 H1 A r => k v _ F1 H1 (r.frz e1 fun a z => r.st.dp a (.inr z))) fun _ _ h => h
end
end PY

set_option Elab.async false
set_option linter.all false
set_option maxRecDepth 100000
set_option maxHeartbeats 2000000
/-! SoD: every statement that the look ties to its text. -/
namespace PY
open PySem PySem.Spec PyProof.Rows L2
section
variable (I : Info) (C : Nat → List Sl → CR)
abbrev mss (x : S) (c : Ctx) : Stmt → Bool := (mS I.fn I.gn I.fps I.kk x c).s
abbrev msl (x : S) (c : Ctx) : List Stmt → Bool := (mS I.fn I.gn I.fps I.kk x c).l
structure SndS (x : S) : Prop where
  s : ∀ {W X n c st}, AtS I C W X n c → mss I x c st = true → PS X st (tS I C W c.prot x)
  l : ∀ {W X n c st}, AtS I C W X n c → msl I x c st = true → PSs X st (tS I C W c.prot x)
end
section
variable {I : Info} {C : Nat → List Sl → CR}
theorem mkS {x : S} (hl : ∀ c st, msl I x c st = false) (h : ∀ {W X n c st}, AtS I C W X n c → mss I x c st = true → PS X st (tS I C W c.prot x)) : SndS I C x := ⟨h, fun a q => by rw [hl] at q; cases q⟩
theorem SndS.skip : SndS I C .skip := by
  refine ⟨fun {W X n c st} a h => ?_, fun {W X n c st} a h => ?_⟩
  · simp only [mss, mS] at h
    split at h
    · exact ps_pass.imp fun Dn σ H ⟨Z, P, F, env, st, w⟩ => w Z F σ H ⟨st, Step.refl, fun _ _ => rfl⟩
    · exact ps_doc.imp fun Dn σ H ⟨Z, P, F, env, st, w⟩ => w Z F σ H ⟨st, Step.refl, fun _ _ => rfl⟩
    · cases h
  · simp only [msl, mS] at h
    split at h
    · exact pss_nil.imp fun Dn σ H ⟨Z, P, F, env, st, w⟩ => w Z F σ H ⟨st, Step.refl, fun _ _ => rfl⟩
    · cases h
theorem SndS.seq {a b : S} (ha : SndS I C a) (hb : SndS I C b) : SndS I C (.seq a b) := by
  refine ⟨fun a h => (by cases h), fun {W X n c sts} at' h => ?_⟩
  simp only [msl, mS] at h
  cases hf : frzB c a with
  | true =>
    rw [hf, if_pos rfl] at h
    have : ∃ i, a = .frz i := by cases a <;> first | exact ⟨_, rfl⟩ | cases hf
    obtain ⟨i, rfl⟩ := this
    refine (hb.l at' h).imp fun Dn σ H ⟨Z, P, F, env, st, w⟩ => ?_
    simp only [evS, Wp.bind, Wp.opt, Wp.ok] at w
    obtain ⟨d, ed, w⟩ := w
    have s2 := st.freeze ed
    have po : PostS I.K c.prot Z P σ H (fun a => Z a ∨ F i a) (fun j a => j ≠ i ∧ F j a) (env.set i (.d d)) σ H := ⟨s2, ⟨fun _ z => .inl z, Keep.refl⟩, fun _ _ => rfl⟩
    exact ⟨_, P, _, _, s2, w.mono (fun _ _ h => h.later po) fun _ _ h => h.later po⟩
  | false =>
    rw [hf, if_neg (by decide)] at h
    cases sts with
    | nil => cases h
    | cons st r =>
      simp only [Bool.and_eq_true] at h
      refine (pss_cons (ha.s at' h.1) (hb.l at' h.2)).imp fun Dn σ H ⟨Z, P, F, env, st, w⟩ => ⟨Z, P, F, env, st, ?_⟩
      simp only [evS, Wp.bind] at w
      refine w.mono (fun w e h => ?_) fun _ _ h => h
      cases w with
      | nx => exact fun Z' F' σ' H' po => ⟨Z', P, F', e, po.st, Wp.mono h (fun _ _ h => h.later po) fun _ _ h => h.later po⟩
      | bk => exact h
      | ct => exact h
      | rt r => exact h
theorem SndS.ret (io : InfoOk I) {x : Tm} : SndS I C (.ret x) := by
  refine mkS (fun _ _ => rfl) fun {W X n c st} a h => ?_
  simp only [mss, mS] at h
  split at h
  · simp only [Bool.and_eq_true] at h
    refine (ps_ret ((snd_all io x).e a.toAt h.2)).imp fun Dn σ H ⟨Z, P, F, env, st, w⟩ => ⟨Z, P, F, env, st, ?_⟩
    simp only [evS, Wp.bind, Wp.ok] at w
    exact w.mono (fun d e1 q v Z1 F1 H1 r => q v Z1 F1 σ H1 (fun _ => False) (r.st.narrow fun _ z => z.elim id False.elim) r.stp (fun _ _ => rfl) (.d (.inl (r.es h.1)) .nil) fun _ z => z.elim) fun _ _ h => h.k
  · cases h
theorem SndS.retM (io : InfoOk I) {x : Tm} : SndS I C (.retM x) := by
  refine mkS (fun _ _ => rfl) fun {W X n c st} a h => ?_
  simp only [mss, mS] at h
  split at h
  · simp only [Bool.and_eq_true] at h
    refine (ps_ret ((snd_all io x).m a.toAt h.2 h.1)).imp fun Dn σ H ⟨Z, P, F, env, st, w⟩ => ⟨Z, P, F, env, st, ?_⟩
    simp only [evS, Wp.bind, Wp.ok] at w
    exact w.mono (fun d e1 q v Z1 F1 H1 A r => q v Z1 F1 σ H1 A r.st r.stp (fun _ _ => rfl) (.m r.ro .nil (C := fun _ => False) (fun _ _ z => z) (fun _ z => z) fun _ z => z.elim) r.ap) fun _ _ h => h.k
  · cases h
theorem SndS.retN : SndS I C .retN := by
  refine mkS (fun _ _ => rfl) fun {W X n c st} a h => ?_
  simp only [mss, mS] at h
  split at h
  · exact ps_retN.imp fun Dn σ H ⟨Z, P, F, env, st, w⟩ => w .non Z F σ H (fun _ => False) (st.narrow fun _ z => z.elim id False.elim) Step.refl (fun _ _ => rfl) (.d (.inl (.non .nil)) .nil) fun _ z => z.elim
  · cases h
theorem SndS.expr (io : InfoOk I) {x : Tm} : SndS I C (.expr x) := by
  refine mkS (fun _ _ => rfl) fun {W X n c st} a h => ?_
  simp only [mss, mS] at h
  split at h
  · simp only [Bool.and_eq_true, Bool.not_eq_true'] at h
    refine (ps_expr ((snd_all io x).m a.toAt h.2 h.1.2) (sw_no h.1.1)).imp fun Dn σ H ⟨Z, P, F, env, st, w⟩ => ⟨Z, P, F, env, st, ?_⟩
    simp only [evS, Wp.bind, Wp.ok] at w
    exact w.mono (fun d e1 q v Z1 F1 H1 A r => q Z1 F1 σ H1 r.t.post) fun _ _ h => h.k
  · cases h
theorem set_pr {i : Nat} {pr : List Nat} {σ : L2.St} {v : Option V} (h : i ∉ pr) : ∀ j, j ∈ pr → (σ.set i v)[j]? = σ[j]? := fun j hj => List.getElem?_set_ne fun e => h (by rw [e]; exact hj)
theorem SndS.asg (io : InfoOk I) {i : Nat} {x : Tm} : SndS I C (.asg i x) := by
  refine mkS (fun _ _ => rfl) fun {W X n c st} a h => ?_
  simp only [mss, mS] at h
  split at h
  · simp only [Bool.and_eq_true] at h
    have hp := (sto_of a h.1.1.1).2.1
    refine (set_E io a h.1.1.1 h.1.1.2 h.1.2 h.2).1.imp fun Dn σ H ⟨Z, P, F, env, st, w⟩ => ⟨Z, P, F, env, st, ?_⟩
    simp only [evS, Wp.bind, Wp.ok] at w
    exact w.mono (fun d e1 q v Z1 F1 H1 r => q Z1 F1 _ H1 ⟨r.st.setD (r.es h.1.2), r.stp, set_pr hp⟩) fun _ _ h => h.k
  · cases h
theorem SndS.asgM (io : InfoOk I) {i : Nat} {x : Tm} : SndS I C (.asgM i x) := by
  refine mkS (fun _ _ => rfl) fun {W X n c st} a h => ?_
  simp only [mss, mS] at h
  split at h
  · simp only [Bool.and_eq_true] at h
    have hp := (sto_of a h.1.1.1).2.1
    refine (set_E io a h.1.1.1 h.1.1.2 h.1.2 h.2).2.imp fun Dn σ H ⟨Z, P, F, env, st, w⟩ => ⟨Z, P, F, env, st, ?_⟩
    simp only [evS, Wp.bind, Wp.ok] at w
    exact w.mono (fun d e1 q v Z1 F1 H1 A r => q Z1 _ _ H1 ⟨r.st.setM r.ro r.ap, r.stp, set_pr hp⟩) fun _ _ h => h.k
  · cases h
mutual
theorem g_prE {c : Ctx} : ∀ (g : G) (e : Expr), (mG c g).e e = true → ∀ i, i ∈ gIx g → i ∉ c.prot
  | .n k, e, h, i, hi => by
    simp only [gIx, List.mem_singleton] at hi
    subst hi
    cases e <;> simp only [mG, Bool.false_eq_true] at h
    unfold stoB at h
    simp only [Bool.and_eq_true, Bool.not_eq_true'] at h
    intro z
    rw [List.contains_iff_mem.mpr z] at h
    exact absurd h.1.1.2 (by decide)
  | .t g, e, h, i, hi => by
    cases e <;> simp only [mG, Bool.false_eq_true] at h
    exact g_prL g _ h i hi
  | .nil, e, h, i, hi => by cases h
  | .cons _ _, e, h, i, hi => by cases h
theorem g_prL {c : Ctx} : ∀ (g : G) (es : List Expr), (mG c g).l es = true → ∀ i, i ∈ gIx g → i ∉ c.prot
  | .nil, es, h, i, hi => by simp [gIx] at hi
  | .cons a b, [], h, i, hi => by cases h
  | .cons a b, e :: es, h, i, hi => by
    simp only [mG, Bool.and_eq_true] at h
    simp only [gIx, List.mem_append] at hi
    rcases hi with hi | hi
    · exact g_prE a e h.1.2 i hi
    · exact g_prL b es h.2 i hi
  | .n _, es, h, i, hi => by cases h
  | .t _, es, h, i, hi => by cases h
end
theorem no_swap {e : Expr} {env : PySem.Env} {ts : List Expr} {k : Nat} {p : Pos} (h : okTup e = true) : swappedStores [.Tuple ts k p] e env = pure none := by
  cases e <;> first | rfl | skip
  rename_i vs k2 p2
  simp only [okTup, Bool.or_eq_true, Bool.not_eq_true'] at h
  unfold swappedStores
  simp only []
  split
  · rfl
  · rename_i h1
    split
    · rfl
    · split
      · rfl
      · rcases h with h | h
        · rw [if_pos h]
        · exfalso
          apply h1
          simp only [Bool.or_eq_true, bne_iff_ne, ne_eq, Bool.not_eq_true']
          by_cases hl : vs.length = ts.length
          · left; left; rw [← hl]; exact h
          · left; right; exact hl
theorem fm_short {α β : Type} {f : α → Option β} : ∀ {l : List α}, (∃ x, x ∈ l ∧ f x = none) → (l.filterMap f).length < l.length
  | [], ⟨_, h, _⟩ => nomatch h
  | a :: l, ⟨x, hx, e⟩ => by
    have h1 := List.length_filterMap_le f l
    rcases List.mem_cons.mp hx with rfl | hx
    · rw [List.filterMap_cons_none e, List.length_cons]; omega
    · have := fm_short ⟨x, hx, e⟩
      rw [List.filterMap_cons, List.length_cons]
      split
      · omega
      · rw [List.length_cons]; omega
theorem no_swap2 {c : Ctx} {env : PySem.Env} {ts : List Expr} {k : Nat} {p : Pos} {e : Expr} (hs : env.scope = c.sc) (h : nclT c (.Tuple ts k p) = true) : swappedStores [.Tuple ts k p] e env = pure none := by
  unfold swappedStores
  cases e <;> first | rfl | skip
  rename_i vs k2 p2
  simp only [nclT, List.any_eq_true] at h
  obtain ⟨x, hx, hn⟩ := h
  have hlt : (ts.filterMap fun | .Name id pos => if env.kindOf id == some .local && pos.line == (ts.head?.map (·.pos.line)).getD 0 then some id else none | _ => none).length < ts.length := by
    refine fm_short ⟨x, hx, ?_⟩
    cases x <;> first | (cases hn; done) | skip
    rename_i y py
    have hk : (env.kindOf y == some .local) = false := by
      rw [show env.kindOf y = c.sc.names.lookup y by rw [← hs]; rfl]
      simpa [locN] using hn
    simp only [hk, Bool.false_and, Bool.false_eq_true, if_false]
  simp only []
  split
  · rfl
  · split
    · rfl
    · split
      · rfl
      · rename_i h3
        refine absurd ?_ h3
        rw [Bool.or_eq_true]
        exact .inl (by rw [bne_iff_ne]; exact Nat.ne_of_lt hlt)
theorem SndS.asgT (io : InfoOk I) {g : G} {x : Tm} : SndS I C (.asgT g x) := by
  refine mkS (fun _ _ => rfl) fun {W X n c st} a h => ?_
  simp only [mss, mS] at h
  split at h
  · simp only [Bool.and_eq_true, Bool.not_eq_true', Bool.or_eq_true] at h
    obtain ⟨⟨⟨⟨⟨h1, h2⟩, h3⟩, h4⟩, h5⟩, h6⟩ := h
    rename_i _ tg e pos
    cases tg <;> simp only [isTup, Bool.false_eq_true] at h1
    have hs : ∀ {t}, swapsWithSole [t] e pos.line X.env = pure false := sw_no h2
    refine (ps_asg ((snd_all io x).e a.toAt h5) ((snd_g a.ok g).1 _ h6) hs (h3.elim no_swap (no_swap2 a.ok.sc)) rfl).imp fun Dn σ H ⟨Z, P, F, env, st, w⟩ => ⟨Z, P, F, env, st, ?_⟩
    simp only [evS, Wp.bind, Wp.opt, Wp.ok] at w
    exact w.mono (fun d e1 ⟨env2, eg, q⟩ v Z1 F1 H1 r => ⟨Z1, P, F1, e1, d, env2, r.st, r.es h4, eg, fun σ' s' hj => q Z1 F1 σ' H1 ⟨s', r.stp, fun j hjp => hj j fun hg => g_prE g _ h6 j hg hjp⟩⟩) fun _ _ h => h.k
  · cases h
theorem SndS.ife (io : InfoOk I) {t : Tm} {x y : S} (hx : SndS I C x) (hy : SndS I C y) : SndS I C (.ife t x y) := by
  refine mkS (fun _ _ => rfl) fun {W X n c st} a h => ?_
  simp only [mss, mS] at h
  split at h
  · simp only [Bool.and_eq_true, Bool.not_eq_true'] at h
    obtain ⟨⟨⟨h1, h2⟩, h3⟩, h4⟩ := h
    refine (ps_if ((snd_all io t).t a.toAt h2 h1) (hx.l a h3) (hy.l a h4)).imp fun Dn σ H ⟨Z, P, F, env, st, w⟩ => ⟨Z, P, F, env, st, ?_⟩
    simp only [evS, Wp.bind] at w
    refine w.mono (fun k e1 q Z1 F1 H1 r => ?_) fun _ _ h => h.k
    cases k with
    | true => exact ⟨Z1, P, F1, e1, r.st, Wp.mono q (fun _ _ h => h.later r.post) fun _ _ h => h.later r.post⟩
    | false => exact ⟨Z1, P, F1, e1, r.st, Wp.mono q (fun _ _ h => h.later r.post) fun _ _ h => h.later r.post⟩
  · cases h
theorem SndS.stuck : SndS I C .stuck := mkS (fun _ _ => rfl) fun {W X n c st} a h => ⟨fun pins s σ H D I q => by
  obtain ⟨_, _, _, _, _, w⟩ := q
  exact w.elim⟩
theorem SndS.brk : SndS I C .brk := by
  refine mkS (fun _ _ => rfl) fun {W X n c st} a h => ?_
  simp only [mss, mS] at h
  split at h
  · exact ps_break.imp fun Dn σ H ⟨Z, P, F, env, st, w⟩ => w Z F σ H ⟨st, Step.refl, fun _ _ => rfl⟩
  · cases h
theorem SndS.cnt : SndS I C .cnt := by
  refine mkS (fun _ _ => rfl) fun {W X n c st} a h => ?_
  simp only [mss, mS] at h
  split at h
  · exact ps_continue.imp fun Dn σ H ⟨Z, P, F, env, st, w⟩ => w Z F σ H ⟨st, Step.refl, fun _ _ => rfl⟩
  · cases h
theorem SndS.whl (io : InfoOk I) {m : Nat} {t : Tm} {b : S} (hb : SndS I C b) : SndS I C (.whl m t b) := by
  refine mkS (fun _ _ => rfl) fun {W X n c st} a h => ?_
  simp only [mss, mS] at h
  split at h
  · simp only [Bool.and_eq_true, Bool.not_eq_true'] at h
    obtain ⟨⟨h1, h2⟩, h3⟩ := h
    refine (ps_while a.po ((snd_all io t).t a.toAt h2 h1) (hb.l a h3)).imp fun Dn σ H ⟨Z, P, F, env, st, w⟩ => ?_
    simp only [evS] at w
    refine ⟨fun k σ' H' => ∃ Z' F' e', PostS I.K c.prot Z P σ H Z' F' e' σ' H' ∧ Wp (whlL (ev I.GC C t).t (evS I.GC C b) k e') (endS I c.prot Dn Z P σ H) (exS I W c.prot Z P σ H), ⟨m, Z, F, env, ⟨st, Step.refl, fun _ _ => rfl⟩, w⟩, ?_⟩
    rintro k σ1 H1 ⟨Z1, F1, e1, po, w⟩
    cases k with
    | zero => exact w.elim
    | succ k =>
      simp only [whlL, Wp.bind] at w
      refine ⟨Z1, P, F1, e1, po.st, w.mono (fun d e2 q Z2 F2 H2 r => ?_) fun _ _ h => (h.later po).k⟩
      cases d with
      | false =>
        rw [if_neg (by decide)] at q ⊢
        exact q Z2 F2 σ1 H2 (po.trans r.post)
      | true =>
        rw [if_pos rfl] at q ⊢
        simp only [Wp.bind] at q
        have po2 := po.trans (r.post (pr := c.prot))
        refine ⟨fun σ' H' => ∃ Z' F' e', PostS I.K c.prot Z P σ H Z' F' e' σ' H' ∧ Wp (whlL (ev I.GC C t).t (evS I.GC C b) k e') (endS I c.prot Dn Z P σ H) (exS I W c.prot Z P σ H), fun σ' H' z => ⟨k, Nat.lt_succ_self k, z⟩, Z2, P, F2, e2, r.st, q.mono (fun w e q => ?_) fun _ _ h => h.later po2⟩
        cases w with
        | nx => exact fun Z' F' σ' H' p3 => ⟨Z', F', e, po2.trans p3, q⟩
        | ct => exact fun Z' F' σ' H' p3 => ⟨Z', F', e, po2.trans p3, q⟩
        | bk => exact fun Z' F' σ' H' p3 => q Z' F' σ' H' (po2.trans p3)
        | rt r' =>
          have q : endS I c.prot Dn Z P σ H (.rt r') e := q
          exact q.later po2
  · cases h
theorem SndS.for_ (io : InfoOk I) {g : G} {it : Tm} {b : S} (hb : SndS I C b) : SndS I C (.for_ g it b) := by
  refine mkS (fun _ _ => rfl) fun {W X n c st} a h => ?_
  simp only [mss, mS] at h
  split at h
  · simp only [Bool.and_eq_true, Bool.not_eq_true', Bool.or_eq_true] at h
    obtain ⟨⟨⟨⟨⟨h1, h2⟩, h3⟩, h4⟩, h5⟩, h6⟩ := h
    refine (ps_for a.po a.ok.calm ((snd_all io it).i a.toAt h4 h3 fun z => h2.elim (fun y => by rw [z] at y; cases y) id) ((snd_g a.ok g).1 _ h5) (hb.l a h6) (noSet h1)).imp fun Dn σ H ⟨Z, P, F, env, st, w⟩ => ⟨Z, P, F, env, st, ?_⟩
    simp only [evS, Wp.bind] at w
    refine w.mono (fun ds e1 q J Z1 F1 H1 r => ?_) fun _ _ h => h.k
    obtain ⟨⟨Gd, Y, wk, hG, hY⟩⟩ := r.wk
    have r0 : PostS I.K c.prot Z P σ H Z1 F1 e1 σ H1 := ⟨r.st, r.stp, fun _ _ => rfl⟩
    let f : D → Env → R Flow := fun d env => (R.opt (asgG g d env) env).bind fun env _ => evS I.GC C b env
    let Pv : Nat → L2.St → Hp → Prop := fun i σ2 H2 => ∃ Z2 F2 e2, PostS I.K c.prot Z1 P σ H1 Z2 F2 e2 σ2 H2 ∧ Wp (forL f (ds.drop i) e2) (endS I c.prot Dn Z P σ H) (exS I W c.prot Z P σ H)
    refine for_it wk Pv ⟨Z1, F1, e1, ⟨r.st, Step.refl, fun _ _ => rfl⟩, by simpa using q⟩ ?_ ?_ ?_
    · rintro i σ2 H2 hi ⟨Z2, F2, e2, po, _⟩
      exact hG Z2 H2 po.stp.zz (po.stp.kp.mono fun _ z => .inl z)
    · rintro i v σ2 H2 H3 hi ⟨Z2, F2, e2, po, w2⟩ hy
      have hdi : ds[i]? = some ds[i] := by simp [hi]
      have hdr : ds.drop i = ds[i] :: ds.drop (i + 1) := by rw [List.drop_eq_getElem_cons hi]
      obtain ⟨Z3, g3, rv⟩ := hY i ds[i] Z2 H2 v H3 hdi po.stp.zz (po.stp.kp.mono fun _ z => .inl z) po.st.dz hy
      rw [hdr] at w2
      simp only [forL, Wp.bind, f, Wp.opt] at w2
      obtain ⟨e3, eg, w2⟩ := w2
      refine ⟨Z3, P, F2, e2, _, e3, po.st.grow g3, rv, eg, fun σ' s' hj => ?_⟩
      have po3 : PostS I.K c.prot Z1 P σ H1 Z3 F2 e3 σ' H3 := ⟨s', po.stp.trans (po.st.gstep g3) fun _ h => h, fun j hp => (hj j fun hg => g_prE g _ h5 j hg hp).trans (po.pr j hp)⟩
      refine ⟨Z3, P, F2, e3, s', w2.mono (fun w e q => ?_) fun _ _ h => h.later (r0.trans po3)⟩
      cases w with
      | nx => exact fun Z' F' σ'' H'' p4 => ⟨Z', F', e, po3.trans p4, q⟩
      | ct => exact fun Z' F' σ'' H'' p4 => ⟨Z', F', e, po3.trans p4, q⟩
      | bk => exact fun Z' F' σ'' H'' p4 => q Z' F' σ'' H'' (r0.trans (po3.trans p4))
      | rt r' =>
        have q : endS I c.prot Dn Z P σ H (.rt r') e := q
        exact q.later (r0.trans po3)
    · rintro σ2 H2 ⟨Z2, F2, e2, po, w2⟩
      rw [List.drop_length] at w2
      exact w2 Z2 F2 σ2 H2 (r0.trans po)
  · cases h
/-- op= by values -/
def augV : Bop → V → V → Option V
  | .add, .int i, .int j => some (.int (i + j))
  | .add, .str i, .str j => if i.length + j.length ≤ 1000000 then some (.str (i ++ j)) else none
  | .sub, .int i, .int j => some (.int (i - j))
  | .mul, .int i, .int j => if mulOk i j then some (.int (i * j)) else none
  | _, _, _ => none
def rAug (o : Bop) : TIp := fun x y H Q => ∃ z, augV o x y = some z ∧ Q z H
theorem ip_aug {X : Cx} {o : Bop} {p : Operator} (h : augB o p = true) : PIp X p (rAug o) := by
  intro pins s σ H x y v u Q I r1 r2 hh
  obtain ⟨z, e, q⟩ := hh
  cases o <;> cases p <;> first | (simp [augB] at h; done) | skip
  · cases x <;> cases y <;> simp only [augV, reduceCtorEq, Option.some.injEq] at e
    · subst e; exact ip_add pins s σ H _ _ v u Q I r1 r2 ⟨_, _, rfl, rfl, q⟩
    · split at e <;> cases e
      obtain ⟨t, rfl⟩ := r1
      obtain ⟨t', rfl⟩ := r2
      exact SB.iadd (fun t' k => ⟨.str _, H, I.tok _, ⟨_, rfl⟩, q⟩) (line_le (by assumption))
  · cases x <;> cases y <;> simp only [augV, reduceCtorEq, Option.some.injEq] at e
    subst e; exact ip_sub pins s σ H _ _ v u Q I r1 r2 ⟨_, _, rfl, rfl, q⟩
  · cases x <;> cases y <;> simp only [augV, reduceCtorEq, Option.some.injEq] at e
    split at e <;> cases e
    rename_i i j hh
    obtain ⟨t, rfl⟩ := r1
    obtain ⟨t', rfl⟩ := r2
    exact AutoIntOps.imul_0 ⟨.int _, H, I.tok _, ⟨_, rfl⟩, q⟩ (mulOk_ok hh)
theorem augD {K : PySem.W.Frag} {Z : Ad} {F : Nat → Ad} {H : Hp} {o : Bop} {p : Operator} {x y : V} {d e z : D} (h : augB o p = true) (r1 : RV K Z H x d) (r2 : RW K Z F H y e) (hz : binD o d e = some z) (hl : ∀ i, d ≠ .list i) (ht : ∀ i, d ≠ .tuple i) : ∃ w, augV o x y = some w ∧ RV K Z H w z := by
  cases o <;> cases p <;> first | (simp [augB] at h; done) | skip
  · cases d <;> cases e <;> simp only [binD, reduceCtorEq] at hz
    · have := r1.eInt; have := r2.eInt; subst_vars; cases hz; exact ⟨_, rfl, .int .nil⟩
    · have := r1.eStr; have := r2.eStr; subst_vars
      split at hz <;> cases hz
      exact ⟨_, by simp only [augV]; rw [if_pos (by assumption)], .str .nil⟩
    · exact absurd rfl (hl _)
    · exact absurd rfl (ht _)
  · cases d <;> cases e <;> simp only [binD, reduceCtorEq] at hz
    have := r1.eInt; have := r2.eInt; subst_vars; cases hz; exact ⟨_, rfl, .int .nil⟩
  · cases d <;> cases e <;> simp only [binD, reduceCtorEq] at hz
    · have := r1.eInt; have := r2.eInt; subst_vars
      split at hz <;> cases hz
      exact ⟨_, by simp only [augV]; rw [if_pos (by assumption)], .int .nil⟩
    · exact absurd rfl (ht _)
theorem augBin_of {o : Bop} {x y z : D} (h : augBin o x y = some z) : binD o x y = some z := by
  cases x <;> first | exact h | cases h
theorem SndS.aug (io : InfoOk I) {i : Nat} {o : Bop} {x : Tm} : SndS I C (.aug i o x) := by
  refine mkS (fun _ _ => rfl) fun {W X n c st} a h => ?_
  simp only [mss, mS] at h
  split at h
  · simp only [Bool.and_eq_true] at h
    obtain ⟨⟨⟨h1, h2⟩, h3⟩, h4⟩ := h
    obtain ⟨g1, g2, g3, g4, _⟩ := sto_of a h1
    refine (ps_aug (a.ok.N ▸ a.ok.nd) g1 g3 ((snd_all io x).e a.toAt h4) (ip_aug h2) (.inl g4)).imp fun Dn σ H ⟨Z, P, F, env, st, w⟩ => ?_
    simp only [evS, Wp.bind, Wp.opt, Wp.ok] at w
    obtain ⟨d0, e0, w⟩ := w
    have e1 : env[i]? = some (.d d0) := by
      unfold slD at e0
      split at e0 <;> cases e0
      assumption
    obtain ⟨v0, hv, r0⟩ := st.sd i d0 e1
    refine ⟨v0, hv, Z, P, F, env, st, w.mono (fun d e1 ⟨z, ez, q⟩ v Z1 F1 H1 r => ?_) fun _ _ h => h.k⟩
    have na : (∀ i, d0 ≠ .list i) ∧ ∀ i, d0 ≠ .tuple i := by
      constructor <;> (rintro j rfl; cases o <;> simp [augBin] at ez)
    obtain ⟨w', hw, rz⟩ := augD h2 (r0.keep (r.stp.kp.mono fun _ z => .inl z) r.stp.zz) r.rw (augBin_of ez) na.1 na.2
    exact ⟨w', hw, q Z1 F1 _ H1 ⟨r.st.setD rz, r.stp, set_pr g2⟩⟩
  · cases h
end
/-- a nested list at a place, and what stands behind its change -/
theorem nestAt {K : PySem.W.Frag} {Z P A0 : Ad} {F : Nat → Ad} {env : Env} {σ : L2.St} {H : Hp} {p : Pl} {ms : List M} (st : Sta K Z (fun a => P a ∨ A0 a) F env σ H) (ap : ∀ a, A0 a → ¬ P a) (sp : simpleP p = true) (e : getP p env = some (.ls ms)) :
    ∃ a us B, valP (F (rt p)) σ H p (.ref a) ∧ H a = some (.lst us) ∧ RM K Z H us ms B ∧ F (rt p) a ∧ ¬ B a ∧ (∀ b, B b → F (rt p) b) ∧
      ∀ ms' env' us' B', setP p env (.ls ms') = some env' → RM K Z H us' ms' B' → (∀ b, B' b → B b ∨ A0 b) → ∃ F', Sta K Z P F' env' σ (upd H a (.lst us')) ∧ Step Z P H Z (upd H a (.lst us')) := by
  obtain ⟨v, B, Cc, h1, r, s1, s2, s3, f⟩ := lens st p _ sp e
  obtain ⟨a, us, B0, rfl, h2, h3, h4, h5, h6⟩ := r.nest
  refine ⟨a, us, B0, h1, h2, h3, s1 a h4, h5, fun b z => s1 b (h6 b z), fun ms' env' us' B' es rm sub => ?_⟩
  obtain ⟨m0, v0, g1, g2, g3⟩ := f _ env' es
  have nz : ∀ b, Z b → b ≠ a := fun b z e => by subst e; exact st.fz _ _ (s1 b h4) z
  have np : ∀ b, P b → b ≠ a := fun b z e => by subst e; exact st.fp _ _ (s1 b h4) (.inl z)
  have kz : Keep Z H (upd H a (.lst us')) := ⟨fun b z => upd_ne (nz b z), fun b ws e => by
    by_cases hb : b = a
    · subst hb; rw [h2] at e; cases e
    · rw [upd_ne hb]; exact e⟩
  have na : ¬ B' a := fun z => (sub a z).elim h5 fun z => st.fp _ a (s1 a h4) (.inr z)
  have rm2 : RM K Z (upd H a (.lst us')) us' ms' B' := rm.keep kz (fun _ z => z) fun b z => upd_ne fun e => by subst e; exact na z
  have r0 : RO K Z (upd H a (.lst us')) (.ref a) (.ls ms') (fun b => b = a ∨ B' b) := .ls (B := B') (C := fun _ => False) upd_same (.inl rfl) na (fun z => z) (fun _ z => .inr z) (fun _ z => z.elim) (fun _ _ z => z) rm2 .nil
  have dis : ∀ b, (b = a ∨ B' b) → Cc b → False := fun b z q => by
    rcases z with rfl | z
    · exact s3 b h4 q
    · rcases sub b z with z | z
      · exact s3 b (h6 b z) q
      · exact st.fp _ b (s2 b q) (.inr z)
  have r1 := g3 _ Z (fun b => b = a ∨ B' b) kz (fun _ z => z) (fun b z => upd_ne fun e => by subst e; exact s3 b h4 z) r0 dis
  have kp : Keep (fun b => Z b ∨ P b) H (upd H a (.lst us')) := ⟨fun b z => upd_ne (z.elim (nz b) (np b)), kz.tup⟩
  have dm : ∀ b, H b ≠ none → upd H a (.lst us') b ≠ none := fun b h => by
    by_cases hb : b = a
    · subst hb; rw [upd_same]; exact fun z => nomatch z
    · rw [upd_ne hb]; exact h
  subst g2
  have su : ∀ b, (b = a ∨ B' b) ∨ Cc b → F (rt p) b ∨ A0 b := fun b z => by
    rcases z with (rfl | z) | z
    · exact .inl (s1 b h4)
    · exact (sub b z).imp (fun z => s1 b (h6 b z)) id
    · exact .inl (s2 b z)
  have st' : Sta K Z P F env σ H := st.narrow fun _ h => .inl h
  exact ⟨_, st'.put g1 kp (fun _ z => z) (fun _ z => .inl z) (fun b z => dm b (st.dz b z)) (fun j b hj fj => upd_ne fun e => by subst e; exact hj (st.ff _ _ _ fj (s1 b h4))) r1
    (fun j b hj z fj => (su b z).elim (fun z => hj (st.ff _ _ _ fj z)) fun z => st.fp _ b fj (.inr z)) (fun b z q => (su b z).elim (fun z => st.fz _ b z q) fun z => st.zp b q (.inr z)) (fun b z q => (su b z).elim (fun z => st.fp _ b z (.inl q)) fun z => ap b z q)
    (fun b z => dm b ((su b z).elim (st.df _ b) fun z => st.dp b (.inr z))), ⟨fun _ z => z, kp⟩⟩
theorem onP_eq {Ko : Flow → Env → Prop} {Kx : Ex → Env → Prop} {p : Pl} {f : M → Option M} {env : Env} (w : Wp (onP p f env) Ko Kx) : ∃ m m' env', getP p env = some m ∧ f m = some m' ∧ setP p env m' = some env' ∧ Ko .nx env' := by
  simp only [onP, Wp.bind, Wp.opt, Wp.ok, Option.bind_eq_some_iff] at w
  obtain ⟨m', ⟨m, e1, e2⟩, env', e3, w⟩ := w
  exact ⟨m, m', env', e1, e2, e3, w⟩
section
variable {I : Info} {C : Nat → List Sl → CR}
theorem SndS.app (io : InfoOk I) {p : Pl} {x : Tm} : SndS I C (.app p x) := by
  refine mkS (fun _ _ => rfl) fun {W X n c st} a h => ?_
  simp only [mss, mS] at h
  split at h
  · simp only [Bool.and_eq_true, decide_eq_true_eq] at h
    obtain ⟨⟨⟨⟨⟨⟨⟨rfl, h1⟩, h2⟩, h3⟩, h4⟩, h5⟩, h6⟩, h7⟩ := h
    refine (ps_expr (pe_bm PySem.F.plainAttrs_list PySem.F.slot_list_append PySem.F.type_list_append (mt_append (X := X)) (pe_place a.ok p _ h3) (pa_cons ((snd_all io x).e a.toAt h7) pa_nil (star_of h4)) (base_of h1) (by rw [star_of h4]; rfl) h2 (star_of h4) rfl) rfl).imp fun Dn σ H ⟨Z, P, F, env, st, w⟩ => ?_
    simp only [evS, Wp.bind, Wp.opt] at w
    obtain ⟨_, eL, w⟩ := w
    obtain ⟨v0, a0, us0, g1, rfl, g2⟩ := isL_at st (simple_of h3) eL
    refine ⟨_, _, g1, .inl ⟨rfl, us0, SqL.of g2⟩, Z, P, F, env, st, w.mono (fun d e1 w1 v Z1 F1 H1 r1 => ?_) fun _ _ h => h.k⟩
    obtain ⟨m, m', env', eg, ef, es, q⟩ := onP_eq w1
    have same : ∀ {v'}, valP (F1 (rt p)) σ H1 p v' → V.ref a0 = v' := fun g => place_same h5 g1 g fun hq b fb => by
      obtain ⟨q1, q2, q3⟩ := r1.qt hq
      exact q3 _ b fb
    cases m <;> simp only [reduceCtorEq] at ef
    · split at ef <;> cases ef
      obtain ⟨a1, us, g3, g4, g5, g6, f⟩ := flatAt r1.st (simple_of h3) eg
      cases same g3
      obtain ⟨F', s2, stp, _⟩ := f _ _ (us ++ [v]) es (g5.append (.cons (r1.es h6) .nil))
      refine ⟨a0, us, v, rfl, rfl, g4, ?_, q Z1 F' σ _ ⟨s2, r1.stp.trans stp fun _ h => h, fun _ _ => rfl⟩⟩
      have := g5.length; have h9 : (1000000 : Nat) ≤ sizeLine := line_le (Nat.le_refl _); omega
    · split at ef <;> cases ef
      obtain ⟨a1, us, B, g3, g4, g5, g6, g7, g8, f⟩ := nestAt (A0 := fun _ => False) (r1.st.narrow fun _ z => z.elim id False.elim) (fun _ z => z.elim) (simple_of h3) eg
      cases same g3
      have one : RM I.K Z1 H1 [v] [.p d] (fun _ => False) := RM.ofRZ (ds := [d]) (.cons (r1.es h6) .nil)
      obtain ⟨F', s2, stp⟩ := f _ _ (us ++ [v]) B es (RM.append g5 one (fun _ _ z => z) (fun _ z => z) fun _ z => z.elim) fun _ z => .inl z
      refine ⟨a0, us, v, rfl, rfl, g4, ?_, q Z1 F' σ _ ⟨s2, r1.stp.trans stp fun _ h => h, fun _ _ => rfl⟩⟩
      have := g5.length; have h9 : (1000000 : Nat) ≤ sizeLine := line_le (Nat.le_refl _); omega
  · cases h
theorem SndS.dset (io : InfoOk I) {i : Nat} {k : Str} {x : Tm} : SndS I C (.dset i k x) := by
  refine mkS (fun _ _ => rfl) fun {W X n c st} a h => ?_
  simp only [mss, mS] at h
  split at h
  · simp only [Bool.and_eq_true, Bool.not_eq_true', decide_eq_true_eq] at h
    obtain ⟨⟨⟨⟨h1, h2⟩, rfl⟩, h4⟩, h5⟩ := h
    rename_i o po j kd pk pe e pos
    have hs : ∀ {t}, swapsWithSole [t] e pos.line X.env = pure false := sw_no h1
    refine (ps_dput (by have := a.ok.room.units; omega) (pe_place a.ok (.v i) (.Name o po) h2) pe_str ((snd_all io x).e a.toAt h5) (hs (t := .Subscript (.Name o po) (.Constant (.str j) kd pk) pe))).imp fun Dn σ H ⟨Z, P, F, env, st, w⟩ => ⟨Z, P, F, env, st, ?_⟩
    simp only [evS, Wp.bind, Wp.opt, Wp.ok, Option.bind_eq_some_iff] at w
    refine w.mono (fun d e1 ⟨m', ⟨m, em, ed⟩, q⟩ v Z1 F1 H1 r1 => ?_) fun _ _ h => h.k
    cases m <;> simp only [dPut, reduceCtorEq] at ed
    rename_i ws
    split at ed <;> cases ed
    rename_i hw
    have e1' : e1[i]? = some (.m (.fd ws)) := by
      unfold slM at em
      split at em <;> cases em
      assumption
    obtain ⟨u, g1, g2⟩ := r1.st.sm i _ e1'
    obtain ⟨a0, kvs, rfl, g3, g4, g5, g6⟩ := g2.dict
    have rv := r1.es h4
    have hl : kvs.length < sizeLine := by
      have h7 := congrArg List.length g4
      rw [List.length_map, List.length_map] at h7
      have h9 : (1000000 : Nat) ≤ sizeLine := line_le (Nat.le_refl _)
      omega
    have kz : Keep Z1 H1 (upd H1 a0 (.dK (putK kvs (.inr j) v))) := ⟨fun b z => upd_ne fun e => r1.st.fz i b (e ▸ g6) z, fun b ws e => by
      by_cases hb : b = a0
      · subst hb; rw [g3] at e; cases e
      · rw [upd_ne hb]; exact e⟩
    have kp : Keep (fun b => Z1 b ∨ P b) H1 (upd H1 a0 (.dK (putK kvs (.inr j) v))) := ⟨fun b z => upd_ne fun e => z.elim (fun z => r1.st.fz i b (e ▸ g6) z) fun z => r1.st.fp i b (e ▸ g6) z, kz.tup⟩
    have dm : ∀ b, H1 b ≠ none → upd H1 a0 (.dK (putK kvs (.inr j) v)) b ≠ none := fun b h => by
      by_cases hb : b = a0
      · subst hb; rw [upd_same]; exact fun z => nomatch z
      · rw [upd_ne hb]; exact h
    obtain ⟨p1, p2⟩ := putD_of (k := .inr j) (rv.keep kz fun _ z => z) g4 (g5.keep kz fun _ z => z)
    refine ⟨fun _ => True, _, g1, a0, _, rfl, DPut.k (k := .inr j) g3 hl, q Z1 _ σ _ ⟨r1.st.put (A := fun b => b = a0) g1 kp (fun _ z => z) (fun _ z => .inl z) (fun b z => dm b (r1.st.dz b z)) (fun l b hlj f => upd_ne fun e => hlj (r1.st.ff l i b f (e ▸ g6))) (.fd upd_same p1 p2 rfl (B := fun _ => False) (fun z => z) (fun _ z => z.elim) .nil)
      (fun l b hlj z f => hlj (r1.st.ff l i b f (z ▸ g6))) (fun b z => z ▸ r1.st.fz i a0 g6) (fun b z => z ▸ r1.st.fp i a0 g6) (fun b z => by subst z; exact dm _ (r1.st.df i _ g6)), r1.stp.trans ⟨fun _ z => z, kp⟩ fun _ h => h, fun _ _ => rfl⟩⟩
  · cases h
theorem SndS.ins (io : InfoOk I) {p : Pl} {i : Nat} {x : Tm} : SndS I C (.ins p i x) := by
  refine mkS (fun _ _ => rfl) fun {W X n c st} a h => ?_
  simp only [mss, mS] at h
  split at h
  · simp only [Bool.and_eq_true, decide_eq_true_eq] at h
    obtain ⟨⟨⟨⟨⟨⟨⟨⟨⟨rfl, h1⟩, h2⟩, h3⟩, h4⟩, hj⟩, hi⟩, h5⟩, h6⟩, h7⟩ := h
    subst hj
    refine (ps_expr (pe_bm PySem.F.plainAttrs_list PySem.F.slot_list_insert PySem.F.type_list_insert (mt_insert (X := X)) (pe_place a.ok p _ h3) (pa_cons pe_int (pa_cons ((snd_all io x).e a.toAt h7) pa_nil (star_of h4)) rfl) (base_of h1) (by rw [star_of (e := .Constant _ _ _) rfl, star_of h4]; rfl) h2 rfl (pl_nostar (by simp [h4]))) rfl).imp fun Dn σ H ⟨Z, P, F, env, st, w⟩ => ?_
    simp only [evS, Wp.bind, Wp.opt] at w
    obtain ⟨_, eL, w⟩ := w
    obtain ⟨v0, a0, us0, g1, rfl, g2⟩ := isL_at st (simple_of h3) eL
    refine ⟨_, _, g1, .inl ⟨rfl, us0, SqL.of g2⟩, Z, P, F, env, st, w.mono (fun d e1 w1 v Z1 F1 H1 r1 => ?_) fun _ _ h => h.k⟩
    obtain ⟨m, m', env', eg, ef, es, q⟩ := onP_eq w1
    have same : ∀ {v'}, valP (F1 (rt p)) σ H1 p v' → V.ref a0 = v' := fun g => place_same h5 g1 g fun hq b fb => by
      obtain ⟨q1, q2, q3⟩ := r1.qt hq
      exact q3 _ b fb
    cases m <;> simp only [reduceCtorEq] at ef
    split at ef <;> cases ef
    obtain ⟨a1, us, g3, g4, g5, g6, f⟩ := flatAt r1.st (simple_of h3) eg
    cases same g3
    obtain ⟨F', s2, stp, _⟩ := f _ _ (us.take i ++ [v] ++ us.drop i) es (((g5.take i).append (.cons (r1.es h6) .nil)).append (g5.drop i))
    refine ⟨a0, us, (i : Int), v, rfl, rfl, g4, ?_, by omega, by omega, q Z1 F' σ _ ⟨s2, r1.stp.trans stp fun _ h => h, fun _ _ => rfl⟩⟩
    have := g5.length; have h9 : (1000000 : Nat) ≤ sizeLine := line_le (Nat.le_refl _); omega
  · cases h
theorem SndS.appM (io : InfoOk I) {p : Pl} {x : Tm} : SndS I C (.appM p x) := by
  refine mkS (fun _ _ => rfl) fun {W X n c st} a h => ?_
  simp only [mss, mS] at h
  split at h
  · simp only [Bool.and_eq_true, decide_eq_true_eq] at h
    obtain ⟨⟨⟨⟨⟨⟨⟨rfl, h1⟩, h2⟩, h3⟩, h4⟩, h5⟩, h6⟩, h7⟩ := h
    refine (ps_expr (pe_bm PySem.F.plainAttrs_list PySem.F.slot_list_append PySem.F.type_list_append (mt_append (X := X)) (pe_place a.ok p _ h3) (pa_cons ((snd_all io x).m a.toAt h7 h6) pa_nil (star_of h4)) (base_of h1) (by rw [star_of h4]; rfl) h2 (star_of h4) rfl) rfl).imp fun Dn σ H ⟨Z, P, F, env, st, w⟩ => ?_
    simp only [evS, Wp.bind, Wp.opt] at w
    obtain ⟨_, eL, w⟩ := w
    obtain ⟨v0, a0, us0, g1, rfl, g2⟩ := isL_at st (simple_of h3) eL
    refine ⟨_, _, g1, .inl ⟨rfl, us0, SqL.of g2⟩, Z, P, F, env, st, w.mono (fun d e1 w1 v Z1 F1 H1 A r1 => ?_) fun _ _ h => h.k⟩
    obtain ⟨m, m', env', eg, ef, es, q⟩ := onP_eq w1
    have same : ∀ {v'}, valP (F1 (rt p)) σ H1 p v' → V.ref a0 = v' := fun g => place_same h5 g1 g fun hq b fb => by
      obtain ⟨q1, q2, q3⟩ := r1.qt hq
      exact q3 _ b fb
    cases m <;> simp only [reduceCtorEq] at ef
    split at ef <;> cases ef
    obtain ⟨a1, us, B, g3, g4, g5, g6, g7, g8, f⟩ := nestAt r1.st r1.ap (simple_of h3) eg
    cases same g3
    have one : RM I.K Z1 H1 [v] [d] A := RM.join (C := fun _ => False) r1.ro .nil (fun _ _ z => z) (fun _ z => z) fun _ z => z.elim
    obtain ⟨F', s2, stp⟩ := f _ _ (us ++ [v]) (fun b => B b ∨ A b) es (RM.append g5 one (fun b z z' => r1.st.fp _ b (g8 b z) (.inr z')) (fun _ z => .inl z) fun _ z => .inr z) fun _ z => z
    refine ⟨a0, us, v, rfl, rfl, g4, ?_, q Z1 F' σ _ ⟨s2, r1.stp.trans stp fun _ h => h, fun _ _ => rfl⟩⟩
    have := g5.length; have h9 : (1000000 : Nat) ≤ sizeLine := line_le (Nat.le_refl _); omega
  · cases h
/-- list.extend with any list, a frozen one too -/
theorem ext_any (l : Addr) (xs : Array Value) (n : Nat) (b : Addr) (ys : Array Value) (n2 : Nat) (dd : Option Addr) (sl : Array (Option Value)) (h0 : ¬(!xs.isEmpty && Builtin.List.listTooLong (xs.size + ys.size)) = true) (h1 : xs.size ≤ sizeLine) (h2 : xs.size + ys.size ≤ sizeLine + 1) :
    Meets (Builtin.«list.extend» ⟨[.ref l, .ref b], []⟩) (fun _ R s => s.heap.get? l = some { cls := .type "list", dict := none, data := .seq xs n, slots := #[] } ∧ s.heap.get? b = some { cls := .type "list", dict := dd, data := .seq ys n2, slots := sl } ∧
      R (.ok (.ret Value.none)) { s with heap := s.heap.update l (Obj.mapSeq fun x => x ++ ys), toks := s.toks }) :=
  .of_wp fun prog w A R s h => by
    obtain ⟨hp, g, d, tk, os⟩ := s
    obtain ⟨hl, hb, h⟩ := h
    have a1 := AutoSeq1.idx_int
    have a2 := AutoSeq1.sub_tuple_tuple
    have a3 := AutoSeq1.sub_list_list
    have a4 := AutoSeq1.sub_tuple_list
    have a5 := AutoSeq1.sub_list_tuple
    have hz : (xs ++ ys).size ≤ sizeLine + 1 := by rw [Array.size_append]; exact h2
    wp_walk using (wpAny_updateSeq hl rfl (hz := h1) (_hz' := hz)), wpAny_loadPart' hl, wpAny_loadPart' hb
    exact ⟨_, rfl, h⟩
def rExtL (K : PySem.W.Frag) : V → List V → Hp → VK → Prop := fun x vs H Q => ∃ l b us ws, x = .ref l ∧ vs = [.ref b] ∧ H l = some (.lst us) ∧ SqL K H b ws ∧ us.length + ws.length ≤ sizeLine ∧ Q .non (upd H l (.lst (us ++ ws)))
theorem mt_extL {X : Cx} : MtM X "list.extend" (rExtL X.K) := by
  intro pins s σ H x vs v us Q I rx rv h
  obtain ⟨l, b, xs, zs, rfl, rfl, hH, hB, hz, q⟩ := h
  cases rx
  obtain ⟨u, rfl, ru⟩ := rv.one
  cases ru
  obtain ⟨z, its, n, r, hl, e⟩ := I.lstM hH
  obtain ⟨its2, r2, ⟨o, n2, e2, c2, d2, s2⟩, z2⟩ := I.list hB
  obtain ⟨cc, dd, da, sl⟩ := o
  simp only at c2 d2 s2
  subst c2 d2 s2
  have hl2 := r2.length
  have hs : its.toArray.size + its2.toArray.size ≤ sizeLine := by rw [List.size_toArray, List.size_toArray]; omega
  have hlong : ¬ (!its.toArray.isEmpty && Builtin.List.listTooLong (its.toArray.size + its2.toArray.size)) = true := by
    rw [notLongL hs, Bool.and_false]
    exact Bool.false_ne_true
  refine call_meets PySem.F.slot_list_extend ⟨_, e, rfl⟩ PySem.F.entry_list_extend (PySem.F.args_list_extend_2 _ _) (ext_any l its.toArray n b its2.toArray n2 none sl hlong (by rw [List.size_toArray]; omega) (by omega)) ⟨e, e2, ?_⟩
  exact ⟨.non, _, I.lset (its' := its ++ its2) hH e (by simp) (r.append r2) (by rw [List.length_append]; omega), rfl, q⟩
theorem ext_cases {m d m' : M} (h : (match m, d with
      | .fl ds, .fl es => if ds.length + es.length ≤ 1000000 then some (M.fl (ds ++ es)) else none
      | .fl ds, .p (.list es) => if ds.length + es.length ≤ 1000000 then some (.fl (ds ++ es)) else none
      | _, _ => none) = some m') : ∃ ds es, m = .fl ds ∧ (d = .fl es ∨ d = .p (.list es)) ∧ ds.length + es.length ≤ 1000000 ∧ m' = .fl (ds ++ es) := by
  split at h
  · split at h <;> cases h
    exact ⟨_, _, rfl, .inl rfl, by assumption, rfl⟩
  · split at h <;> cases h
    exact ⟨_, _, rfl, .inr rfl, by assumption, rfl⟩
  · cases h
theorem SndS.ext (io : InfoOk I) {p : Pl} {x : Tm} : SndS I C (.ext p x) := by
  refine mkS (fun _ _ => rfl) fun {W X n c st} a h => ?_
  simp only [mss, mS] at h
  split at h
  · simp only [Bool.and_eq_true, decide_eq_true_eq] at h
    obtain ⟨⟨⟨⟨⟨⟨⟨rfl, h1⟩, h2⟩, h3⟩, h4⟩, h5⟩, h6⟩, h7⟩ := h
    refine (ps_expr (pe_bm PySem.F.plainAttrs_list PySem.F.slot_list_extend PySem.F.type_list_extend (a.ok.kk ▸ mt_extL (X := X)) (pe_place a.ok p _ h3) (pa_cons ((snd_all io x).m a.toAt h7 h6) pa_nil (star_of h4)) (base_of h1) (by rw [star_of h4]; rfl) h2 (star_of h4) rfl) rfl).imp fun Dn σ H ⟨Z, P, F, env, st, w⟩ => ?_
    simp only [evS, Wp.bind, Wp.opt] at w
    obtain ⟨_, eL, w⟩ := w
    obtain ⟨v0, a0, us0, g1, rfl, g2⟩ := isL_at st (simple_of h3) eL
    refine ⟨_, _, g1, .inl ⟨rfl, us0, SqL.of g2⟩, Z, P, F, env, st, w.mono (fun d e1 w1 v Z1 F1 H1 A r1 => ?_) fun _ _ h => h.k⟩
    obtain ⟨m, m', env', eg, ef, es, q⟩ := onP_eq w1
    have same : ∀ {v'}, valP (F1 (rt p)) σ H1 p v' → V.ref a0 = v' := fun g => place_same h5 g1 g fun hq b fb => by
      obtain ⟨q1, q2, q3⟩ := r1.qt hq
      exact q3 _ b fb
    obtain ⟨ds, xs, rfl, hd, hlen, rfl⟩ := ext_cases ef
    have key : ∃ a2 us2, v = .ref a2 ∧ SqL I.K H1 a2 us2 ∧ RZ I.K Z1 H1 us2 xs := by
      rcases hd with rfl | rfl
      · obtain ⟨a2, us2, rfl, k1, k2, k3⟩ := r1.ro.flat
        exact ⟨a2, us2, rfl, SqL.of k1, k2⟩
      · obtain ⟨a2, us2, rfl, k1, k2⟩ := r1.ro.leaf.eList
        exact ⟨a2, us2, rfl, k1.sq, k2⟩
    obtain ⟨a2, us2, rfl, k1, k2⟩ := key
    obtain ⟨a1, us, g3, g4, g5, g6, f⟩ := flatAt (r1.st.narrow fun _ h => .inl h) (simple_of h3) eg
    cases same g3
    obtain ⟨F', s2, stp, _⟩ := f _ _ (us ++ us2) es (g5.append k2)
    refine ⟨a0, a2, us, us2, rfl, rfl, g4, k1, ?_, q Z1 F' σ _ ⟨s2, r1.stp.trans stp fun _ h => h, fun _ _ => rfl⟩⟩
    have := g5.length; have := k2.length; exact line_le (by omega)
  · cases h
theorem RM.setP {K : PySem.W.Frag} {Z : Ad} {H : Hp} {v : V} {d : D} (r : RV K Z H v d) : ∀ {vs : List V} {ms : List M} {A : Ad} (i : Nat), RM K Z H vs ms A → RM K Z H (vs.set i v) (ms.set i (.p d)) A := by
  intro vs ms A i h
  by_cases hi : i < ms.length
  · obtain ⟨w, B, Cc, _, _, s1, s2, s3, f⟩ := RM.at_ (i := i) (m := ms[i]) h (by simp [hi])
    exact f H Z v (.p d) (fun _ => False) A Keep.refl (fun _ z => z) (fun _ _ => rfl) (.p r .nil) (fun _ z => z.elim) (fun _ z => z.elim) s2
  · have hl := h.length
    rw [List.set_eq_of_length_le (l := vs) (by omega), List.set_eq_of_length_le (l := ms) (by omega)]
    exact h
theorem SndS.set (io : InfoOk I) {p : Pl} {i x : Tm} : SndS I C (.set p i x) := by
  refine mkS (fun _ _ => rfl) fun {W X n c st} a h => ?_
  simp only [mss, mS] at h
  split at h
  · simp only [Bool.and_eq_true, Bool.not_eq_true'] at h
    obtain ⟨⟨⟨⟨⟨⟨h1, h2⟩, h3⟩, h4⟩, h5⟩, h6⟩, h7⟩ := h
    rename_i _ o k p1 e pos
    have hs : ∀ {t}, swapsWithSole [t] e pos.line X.env = pure false := sw_no h1
    refine (ps_asg ((snd_all io x).e a.toAt h6) (pg_sub (pos := p1) (pe_place a.ok p _ h3) ((snd_all io i).e a.toAt h7) set_list (by
      intro v; cases k <;> first | rfl | cases h2)) hs rfl rfl).imp fun Dn σ H ⟨Z, P, F, env, st, w⟩ => ⟨Z, P, F, env, st, ?_⟩
    simp only [evS, Wp.bind, Wp.opt] at w
    refine w.mono (fun d e1 ⟨_, eL, w1⟩ v Z1 F1 H1 r1 => ?_) fun _ _ h => h.k
    obtain ⟨v0, a0, us0, g1, rfl, g2⟩ := isL_at r1.st (simple_of h3) eL
    refine ⟨_, _, g1, Z1, P, F1, e1, r1.st, w1.mono (fun kd e2 w2 kv Z2 F2 H2 r2 => ?_) fun _ _ h => (h.k).later r1.stp fun _ h => h⟩
    obtain ⟨m, m', env', eg, ef, es, q⟩ := onP_eq w2
    have same : ∀ {v'}, valP (F2 (rt p)) σ H2 p v' → V.ref a0 = v' := fun g => place_same h4 g1 g fun hq b fb => by
      obtain ⟨q1, q2, q3⟩ := r2.qt hq
      exact q3 _ b fb
    have rv2 : RV I.K Z2 H2 v d := (r1.es h5).later r2.t
    cases m <;> cases kd <;> simp only [setItemM, reduceCtorEq, Option.map_eq_some_iff] at ef
    · obtain ⟨j, ej, rfl⟩ := ef
      obtain ⟨a1, us, g3, g4, g5, g6, f⟩ := flatAt r2.st (simple_of h3) eg
      cases same g3
      obtain ⟨F', s2, stp, _⟩ := f _ _ (us.set j v) es (g5.set j rv2)
      refine ⟨a0, us, _, j, rfl, r2.rw.eInt, g4, by rw [g5.length]; exact ej, q Z2 F' σ _ ⟨s2, (r1.stp.trans r2.stp fun _ h => h).trans stp fun _ h => h, fun _ _ => rfl⟩⟩
    · obtain ⟨j, ej, rfl⟩ := ef
      obtain ⟨a1, us, B, g3, g4, g5, g6, g7, g8, f⟩ := nestAt (A0 := fun _ => False) (r2.st.narrow fun _ z => z.elim id False.elim) (fun _ z => z.elim) (simple_of h3) eg
      cases same g3
      obtain ⟨F', s2, stp⟩ := f _ _ (us.set j v) B es (RM.setP rv2 j g5) fun _ z => .inl z
      refine ⟨a0, us, _, j, rfl, r2.rw.eInt, g4, by rw [g5.length]; exact ej, q Z2 F' σ _ ⟨s2, (r1.stp.trans r2.stp fun _ h => h).trans stp fun _ h => h, fun _ _ => rfl⟩⟩
  · cases h
theorem gset {W : WX} {Z P : Ad} {F : Nat → Ad} {env : Env} {σ : L2.St} {H : Hp} {v : V} {d : D} {pr : List Nat} {i : Nat} {t : Tm} {Ko : Flow → Env → Prop} {Q : L2.St → Hp → Prop} (st : Sta I.K Z P F env σ H) (rv : RV I.K Z H v d) (w : Wp (setAt I.GC C i t d env) Ko (exS I W pr Z P σ H))
    (hQ : ∀ env' Z' F' H', Ko .nx env' → PostS I.K pr Z P σ H Z' F' env' σ H' → Q σ H') : gSub (tP (.v i)) (tE I C W t) rSetL v σ H Q := by
  simp only [setAt, Wp.bind, Wp.opt] at w
  obtain ⟨_, eL, w1⟩ := w
  obtain ⟨v0, a0, us0, g1, rfl, g2⟩ := isL_at st rfl eL
  refine ⟨_, _, g1, Z, P, F, env, st, w1.mono (fun kd e2 w2 kv Z2 F2 H2 r2 => ?_) fun _ _ h => h.k⟩
  obtain ⟨m, m', env', eg, ef, es, q⟩ := onP_eq w2
  have same : ∀ {v'}, valP (F2 (rt (.v i))) σ H2 (.v i) v' → V.ref a0 = v' := fun g => place_same (q := qui t) rfl g1 g fun hq b fb => by
    obtain ⟨q1, q2, q3⟩ := r2.qt hq
    exact q3 _ b fb
  have rv2 : RV I.K Z2 H2 v d := rv.later r2.t
  cases m <;> cases kd <;> simp only [setItemM, reduceCtorEq, Option.map_eq_some_iff] at ef
  · obtain ⟨j, ej, rfl⟩ := ef
    obtain ⟨a1, us, g3, g4, g5, g6, f⟩ := flatAt r2.st rfl eg
    cases same g3
    obtain ⟨F', s2, stp, _⟩ := f _ _ (us.set j v) es (g5.set j rv2)
    exact ⟨a0, us, _, j, rfl, r2.rw.eInt, g4, by rw [g5.length]; exact ej, hQ env' Z2 F' _ q ⟨s2, r2.stp.trans stp fun _ h => h, fun _ _ => rfl⟩⟩
  · obtain ⟨j, ej, rfl⟩ := ef
    obtain ⟨a1, us, B, g3, g4, g5, g6, g7, g8, f⟩ := nestAt (A0 := fun _ => False) (r2.st.narrow fun _ z => z.elim id False.elim) (fun _ z => z.elim) rfl eg
    cases same g3
    obtain ⟨F', s2, stp⟩ := f _ _ (us.set j v) B es (RM.setP rv2 j g5) fun _ z => .inl z
    exact ⟨a0, us, _, j, rfl, r2.rw.eInt, g4, by rw [g5.length]; exact ej, hQ env' Z2 F' _ q ⟨s2, r2.stp.trans stp fun _ h => h, fun _ _ => rfl⟩⟩
theorem no_swapS {o1 k1 o2 k2 : Expr} {p1 p2 pt : Pos} {kt : Nat} {e : Expr} {env : PySem.Env} : swappedStores [.Tuple [.Subscript o1 k1 p1, .Subscript o2 k2 p2] kt pt] e env = pure none := by
  unfold swappedStores
  cases e <;> first | rfl | skip
  simp only [List.filterMap_cons, List.filterMap_nil]
  split
  · rfl
  · split
    · rfl
    · rfl
theorem SndS.swp (io : InfoOk I) {i : Nat} {u w x y : Tm} : SndS I C (.swp i u w x y) := by
  refine mkS (fun _ _ => rfl) fun {W X n c st} a h => ?_
  simp only [mss, mS] at h
  split at h
  · simp only [Bool.and_eq_true, Bool.not_eq_true'] at h
    obtain ⟨⟨⟨⟨⟨⟨⟨⟨h1, h2⟩, h3⟩, h4⟩, h5⟩, h6⟩, h7⟩, h8⟩, h9⟩ := h
    rename_i _ o p1 k1 q1 o2 p2 k2 q2 kt pt es k3 p3 pos
    have hs : ∀ {t}, swapsWithSole [t] (.Tuple es k3 p3) pos.line X.env = pure false := fun {t} => rfl
    refine (ps_asg ((snd_all io (.tup (.cons x (.cons y .nil)))).e a.toAt h9) (pg_tup a.ok.calm (pgs_cons (pg_sub (pos := q1) (pe_place a.ok (.v i) _ h3) ((snd_all io u).e a.toAt h7) set_list (by
      intro v; cases k1 <;> first | rfl | cases h1)) (pgs_cons (pg_sub (pos := q2) (pe_place a.ok (.v i) _ h4) ((snd_all io w).e a.toAt h8) set_list (by
      intro v; cases k2 <;> first | rfl | cases h2)) pgs_nil))) hs no_swapS rfl).imp fun Dn σ H ⟨Z, P, F, env, st, w⟩ => ⟨Z, P, F, env, st, ?_⟩
    simp only [evS, Wp.bind] at w
    refine w.mono (fun d e1 w1 v Z1 F1 H1 r1 => ?_) fun _ _ h => h.k
    split at w1
    · rename_i d1 d2
      simp only [Wp.bind] at w1
      obtain ⟨p, us, rfl, l, z⟩ := (r1.es rfl).eTup
      obtain ⟨u1, u2, rfl⟩ : ∃ u1 u2, us = [u1, u2] := by
        have := z.length
        match us, this with
        | [u1, u2], _ => exact ⟨u1, u2, rfl⟩
      have z2 := z.tail.head
      refine ⟨p, [u1, u2], rfl, a.ok.kk ▸ l.sq, rfl, u1, [u2], rfl, ?_⟩
      refine gset r1.st z.head (w1.mono (fun _ _ h => h) fun _ _ h => h.later r1.t.post) fun e2 Z2 F2 H2 w2 ps => ⟨u2, [], rfl, ?_⟩
      refine gset ps.st (z2.keep (ps.stp.kp.mono fun _ z => .inl z) ps.stp.zz) (w2.mono (fun _ _ h => h) fun _ _ h => h.later (r1.t.post.trans ps)) fun e3 Z3 F3 H3 q ps2 => ⟨rfl, q Z3 F3 σ H3 ((r1.t.post.trans ps).trans ps2)⟩
    · exact w1.elim
  · cases h
theorem swapped_of {c : Ctx} {env : PySem.Env} {x y : Str} {px py pt pt2 : Pos} {kt k2 : Nat} {p q : Expr} (hk : env.blockKind = .function) (hs : env.scope = c.sc) (h : parB c x y px py p q = true) :
    swappedStores [.Tuple [.Name x px, .Name y py] kt pt] (.Tuple [p, q] k2 pt2) env = pure (some [x, y]) := by
  unfold parB locN at h
  simp only [Bool.and_eq_true, decide_eq_true_eq, Bool.not_eq_true', beq_iff_eq] at h
  obtain ⟨⟨⟨⟨⟨⟨⟨h1, h2⟩, h3⟩, h4⟩, h5⟩, h6⟩, h7⟩, h8⟩ := h
  have e1 : env.kindOf x = some .local := by rw [← h1, ← hs]; rfl
  have e2 : env.kindOf y = some .local := by rw [← h2, ← hs]; rfl
  have s1 : (match (generalizing := false) p with | .Starred .. => true | _ => false) = false := by cases p <;> first | rfl | cases h5
  have s2 : (match (generalizing := false) q with | .Starred .. => true | _ => false) = false := by cases q <;> first | rfl | cases h6
  unfold swappedStores
  simp [hk, e1, e2, s1, s2, h3, h4, h7, h8, Expr.pos]
  have ed : [x, y].eraseDups = [x, y] := by
    rw [List.eraseDups_cons]
    simp [Ne.symm h3, List.eraseDups_cons]
  rw [if_neg (by rintro (z | z); exact Bool.false_ne_true (s1.symm.trans z); exact Bool.false_ne_true (s2.symm.trans z)), ed]
  rfl
theorem parB_facts {c : Ctx} {x y : Str} {px py : Pos} {p q : Expr} (h : parB c x y px py p q = true) : c.sc.names.lookup x = some .local ∧ c.sc.names.lookup y = some .local ∧ noStar p = true ∧ noStar q = true := by
  unfold parB locN at h
  simp only [Bool.and_eq_true, decide_eq_true_eq, Bool.not_eq_true', beq_iff_eq] at h
  exact ⟨h.1.1.1.1.1.1.1, h.1.1.1.1.1.1.2, h.1.1.1.2, h.1.1.2⟩
theorem SndS.par2 (io : InfoOk I) {i j : Nat} {u w : Tm} : SndS I C (.par2 i j u w) := by
  refine mkS (fun _ _ => rfl) fun {W X n c st} a h => ?_
  simp only [mss, mS] at h
  split at h
  · simp only [Bool.and_eq_true, Bool.not_eq_true'] at h
    obtain ⟨⟨⟨⟨⟨⟨⟨h1, h2⟩, h3⟩, h4⟩, h5⟩, h6⟩, h7⟩, h8⟩ := h
    obtain ⟨g1, g2, _, _, _⟩ := sto_of a h1
    obtain ⟨k1, k2, _, _, _⟩ := sto_of a h2
    have hbk : X.env.blockKind = .function := by unfold PySem.Env.blockKind; rw [a.ok.sc, a.kd]; rfl
    have hsw := fun {pt pt2 kt kk} => swapped_of (pt := pt) (pt2 := pt2) (kt := kt) (k2 := kk) hbk a.ok.sc h4
    have hl := parB_facts h4
    rw [← a.ok.sc] at hl
    refine (ps_par a.ok.calm (a.ok.N ▸ a.ok.nd) g1 k1 (by simpa using h3) hl.1 hl.2.1 (pa_cons ((snd_all io u).e a.toAt h7) (pa_cons ((snd_all io w).e a.toAt h8) pa_nil (star_of hl.2.2.2)) (star_of hl.2.2.1)) hsw rfl).imp fun Dn σ H ⟨Z, P, F, env, st, w⟩ => ⟨Z, P, F, env, st, ?_⟩
    simp only [evS, Wp.bind, Wp.ok] at w
    refine w.mono (fun d1 e1 w1 v1 Z1 F1 H1 r1 => ⟨Z1, P, F1, e1, r1.st, w1.mono (fun d2 e2 q v2 Z2 F2 H2 r2 => ⟨v1, v2, rfl, ?_⟩) fun _ _ h => h.k.later r1.stp fun _ h => h⟩) fun _ _ h => h.k
    refine q Z2 F2 _ H2 ⟨(r2.st.setD ((r1.es h5).later r2.t)).setD (r2.es h6), r1.stp.trans r2.stp fun _ h => h, fun k hk => ?_⟩
    rw [set_pr k2 k hk, set_pr g2 k hk]
  · cases h
/-- names that take the values of arguments -/
theorem setA {K : PySem.W.Frag} {Z A : Ad} {H : Hp} {vs : List V} {ss : List Sl} (h : RS K Z noF H vs ss A) : ∀ {P : Ad} {F : Nat → Ad} {env env' : Env} {σ : L2.St} {ts : List Nat}, Sta K Z (fun a => P a ∨ A a) F env σ H → (∀ a, A a → ¬ P a) → setS ts ss env = some env' →
    ∃ F', Sta K Z P F' env' ((ts.zip vs).foldl (fun s x => s.set x.1 (some x.2)) σ) H := by
  induction h with
  | nil =>
    intro P F env env' σ ts st ap e
    cases ts <;> simp [setS] at e
    subst e
    exact ⟨F, st.narrow fun _ h => .inl h⟩
  | @d v0 d0 vs0 ss0 A0 r _ ih =>
    intro P F env env' σ ts st ap e
    cases ts with
    | nil => simp [setS] at e
    | cons i ts =>
      have rv : RV K Z H v0 d0 := by
        rcases r with r | ⟨_, _, _, _, f, _⟩
        · exact r
        · exact f.elim
      exact ih (st.setD rv) ap e
  | @m v0 m0 vs0 ss0 A0 B0 C0 r _ d1 d2 d3 ih =>
    intro P F env env' σ ts st ap e
    cases ts with
    | nil => simp [setS] at e
    | cons i ts =>
      have st2 := Sta.setM (P := fun a => P a ∨ C0 a) (A := B0) (i := i) (st.narrow fun a h => by
        rcases h with (h | h) | h
        · exact .inl h
        · exact .inr (d3 a h)
        · exact .inr (d2 a h)) r (fun a z h => h.elim (ap a (d2 a z)) (d1 a z))
      exact ih st2 (fun a z => ap a (d3 a z)) e
  | un _ _ =>
    intro P F env env' σ ts st ap e
    cases ts <;> simp [setS] at e
theorem swapped_of3 {c : Ctx} {env : PySem.Env} {x y z : Str} {px py pz pt pt2 : Pos} {kt k2 : Nat} {p q r : Expr} (hk : env.blockKind = .function) (hs : env.scope = c.sc) (h : parB3 c x y z px py pz p q r = true) :
    swappedStores [.Tuple [.Name x px, .Name y py, .Name z pz] kt pt] (.Tuple [p, q, r] k2 pt2) env = pure (some [x, y, z]) := by
  unfold parB3 locN at h
  simp only [Bool.and_eq_true, decide_eq_true_eq, Bool.not_eq_true', beq_iff_eq] at h
  obtain ⟨⟨⟨⟨⟨⟨⟨⟨⟨⟨⟨⟨h1, h2⟩, h2z⟩, hxy⟩, hxz⟩, hyz⟩, h4⟩, h4z⟩, h5⟩, h6⟩, h6z⟩, h7⟩, h8⟩ := h
  have e1 : env.kindOf x = some .local := by rw [← h1, ← hs]; rfl
  have e2 : env.kindOf y = some .local := by rw [← h2, ← hs]; rfl
  have e3 : env.kindOf z = some .local := by rw [← h2z, ← hs]; rfl
  have s1 : (match (generalizing := false) p with | .Starred .. => true | _ => false) = false := by cases p <;> first | rfl | cases h5
  have s2 : (match (generalizing := false) q with | .Starred .. => true | _ => false) = false := by cases q <;> first | rfl | cases h6
  have s3 : (match (generalizing := false) r with | .Starred .. => true | _ => false) = false := by cases r <;> first | rfl | cases h6z
  unfold swappedStores
  simp [hk, e1, e2, e3, s1, s2, s3, hxy, h4, h4z, h7, h8, Expr.pos]
  have ed : [x, y, z].eraseDups = [x, y, z] := by
    rw [List.eraseDups_cons]
    simp [Ne.symm hxy, Ne.symm hxz, List.eraseDups_cons, Ne.symm hyz]
  rw [if_neg (by rintro (w | w | w); exact Bool.false_ne_true (s1.symm.trans w); exact Bool.false_ne_true (s2.symm.trans w); exact Bool.false_ne_true (s3.symm.trans w)), ed]
  rfl
theorem SndS.parA (io : InfoOk I) {ts : List Nat} {as : Tm} : SndS I C (.parA ts as) := by
  refine mkS (fun _ _ => rfl) fun {W X n c st} a h => ?_
  simp only [mss, mS] at h
  split at h
  · split at h
    · rename_i i j
      simp only [Bool.and_eq_true, Bool.not_eq_true'] at h
      obtain ⟨⟨⟨⟨⟨⟨h1, h2⟩, h3⟩, h4⟩, h5⟩, h6⟩, h7⟩ := h
      obtain ⟨g1, g2, _, _, _⟩ := sto_of a h1
      obtain ⟨k1, k2, _, _, _⟩ := sto_of a h2
      have hbk : X.env.blockKind = .function := by unfold PySem.Env.blockKind; rw [a.ok.sc, a.kd]; rfl
      have hsw := fun {pt pt2 kt kk} => swapped_of (pt := pt) (pt2 := pt2) (kt := kt) (k2 := kk) hbk a.ok.sc h4
      have hl := parB_facts h4
      rw [← a.ok.sc] at hl
      refine (ps_par a.ok.calm (a.ok.N ▸ a.ok.nd) g1 k1 (by simpa using h3) hl.1 hl.2.1 ((snd_all io as).l a.toAt h7) hsw rfl).imp fun Dn σ H ⟨Z, P, F, env, st, w⟩ => ⟨Z, P, F, env, st, ?_⟩
      simp only [evS, Wp.bind, Wp.opt, Wp.ok] at w
      refine w.eqn.mono (fun ss e1 ⟨eq, env2, es, q⟩ vs Z1 F1 H1 A r1 => ?_) fun _ _ h => h.k
      have hlen : vs.length = 2 := by
        rw [r1.rs.length]
        have il := isLs_of h7
        exact (a_len rfl eq (by cases as <;> first | exact .inl rfl | exact .inr ⟨_, _, rfl⟩ | simp [isLs] at il) _ h7).1
      obtain ⟨v1, v2, rfl⟩ : ∃ v1 v2, vs = [v1, v2] := by
        match vs, hlen with
        | [v1, v2], _ => exact ⟨v1, v2, rfl⟩
      obtain ⟨F', s2⟩ := setA (r1.es h5) r1.st r1.ap es
      exact ⟨v1, v2, rfl, q Z1 F' _ H1 ⟨s2, r1.stp, fun k hk => by
        show ((σ.set i (some v1)).set j (some v2))[k]? = _
        rw [set_pr k2 k hk, set_pr g2 k hk]⟩⟩
    · cases h
  · split at h
    · rename_i i j l
      simp only [Bool.and_eq_true, Bool.not_eq_true'] at h
      obtain ⟨⟨⟨⟨⟨⟨⟨⟨⟨h1, h2⟩, h2l⟩, h3⟩, h3l⟩, h3m⟩, h4⟩, h5⟩, h6⟩, h7⟩ := h
      obtain ⟨g1, g2, _, _, _⟩ := sto_of a h1
      obtain ⟨k1, k2, _, _, _⟩ := sto_of a h2
      obtain ⟨l1, l2, _, _, _⟩ := sto_of a h2l
      have hbk : X.env.blockKind = .function := by unfold PySem.Env.blockKind; rw [a.ok.sc, a.kd]; rfl
      have hsw := fun {pt pt2 kt kk} => swapped_of3 (pt := pt) (pt2 := pt2) (kt := kt) (k2 := kk) hbk a.ok.sc h4
      have hl := h4
      unfold parB3 locN at hl
      simp only [Bool.and_eq_true, decide_eq_true_eq, Bool.not_eq_true', beq_iff_eq] at hl
      have hx := hl.1.1.1.1.1.1.1.1.1.1.1.1
      have hy := hl.1.1.1.1.1.1.1.1.1.1.1.2
      have hz := hl.1.1.1.1.1.1.1.1.1.1.2
      rw [← a.ok.sc] at hx hy hz
      refine (ps_par3 a.ok.calm (a.ok.N ▸ a.ok.nd) g1 k1 l1 (by simpa using h3) (by simpa using h3l) (by simpa using h3m) hx hy hz ((snd_all io as).l a.toAt h7) hsw rfl).imp fun Dn σ H ⟨Z, P, F, env, st, w⟩ => ⟨Z, P, F, env, st, ?_⟩
      simp only [evS, Wp.bind, Wp.opt, Wp.ok] at w
      refine w.eqn.mono (fun ss e1 ⟨eq, env2, es, q⟩ vs Z1 F1 H1 A r1 => ?_) fun _ _ h => h.k
      have hlen : vs.length = 3 := by
        rw [r1.rs.length]
        have il := isLs_of h7
        exact (a_len rfl eq (by cases as <;> first | exact .inl rfl | exact .inr ⟨_, _, rfl⟩ | simp [isLs] at il) _ h7).1
      obtain ⟨v1, v2, v3, rfl⟩ : ∃ v1 v2 v3, vs = [v1, v2, v3] := by
        match vs, hlen with
        | [v1, v2, v3], _ => exact ⟨v1, v2, v3, rfl⟩
      obtain ⟨F', s2⟩ := setA (r1.es h5) r1.st r1.ap es
      exact ⟨v1, v2, v3, rfl, q Z1 F' _ H1 ⟨s2, r1.stp, fun k hk => by
        show (((σ.set i (some v1)).set j (some v2)).set l (some v3))[k]? = _
        rw [set_pr l2 k hk, set_pr k2 k hk, set_pr g2 k hk]⟩⟩
    · cases h
  · cases h
theorem snd_allS (io : InfoOk I) : ∀ x : S, SndS I C x := by
  intro x
  induction x with
  | skip => exact .skip
  | seq _ _ h1 h2 => exact .seq h1 h2
  | ret x => exact .ret io
  | retM x => exact .retM io
  | retN => exact .retN
  | expr x => exact .expr io
  | asg i x => exact .asg io
  | asgM i x => exact .asgM io
  | asgT g x => exact .asgT io
  | par2 i j a b => exact .par2 io
  | parA ts as => exact .parA io
  | aug i o x => exact .aug io
  | ife t _ _ h1 h2 => exact .ife io h1 h2
  | for_ g it _ h => exact .for_ io h
  | whl m t _ h => exact .whl io h
  | brk => exact .brk
  | stuck => exact .stuck
  | swp i u w x y => exact .swp io
  | cnt => exact .cnt
  | frz i => exact mkS (fun _ _ => rfl) fun a h => by cases h
  | app p x => exact .app io
  | ins p i x => exact .ins io
  | dset i k x => exact .dset io
  | appM p x => exact .appM io
  | ext p x => exact .ext io
  | set p i x => exact .set io
end
end PY

set_option Elab.async false
set_option linter.all false
set_option maxRecDepth 100000
set_option maxHeartbeats 2000000
/-! SoE: defs keep the promise that their plain computation states. -/
namespace PY
open PySem PySem.Spec PyProof.Rows L2
def protL (ps : List Bool) : List Nat := (List.range ps.length).filter fun j => ps.getD j false
theorem protL_of {ps : List Bool} {j : Nat} (h : ps[j]? = some true) : j ∈ protL ps := by
  unfold protL
  rw [List.mem_filter, List.mem_range]
  have : j < ps.length := by
    by_cases hj : j < ps.length
    · exact hj
    · rw [List.getElem?_eq_none (by omega)] at h; cases h
  exact ⟨this, by simp [List.getD, h]⟩
structure FunOk (I : Info) (f : Nat) (fd : FD) : Prop where
  ex : ∃ st N, L2.Fun I.K (I.fn f) (I.fn f) st (I.fa f) (I.fdt f) ∧ C8.scC N (I.fps f) (defScope st) = true ∧ fd.ps.length = (I.fps f).length ∧ fd.ns = N.length ∧ msl I fd.body ⟨N, defScope st, none, protL fd.ps⟩ (defBody st) = true
  mg : I.mg (I.fn f) = some (.ref (I.fa f))
  bi : Binds I.K (I.fdt f) (I.fps f) []
  kb : ∀ k, [k] ∈ I.kk f → ∀ (s : Shared) (us ws : List Value), I.K.In s.heap → us.length = k → (us ++ ws).length = (I.fps f).length → BindsTo s (I.fdt f) ⟨us, ((I.fps f).drop k).zip ws⟩ ((I.fps f).zip (us ++ ws))
  kp : ∀ q, 99 :: q ∈ I.kk f → ∀ (s : Shared) (us ws : List Value), I.K.In s.heap → us.length + q.length = (I.fps f).length → ws.length = q.length → BindsTo s (I.fdt f) ⟨us, (q.map fun i => (I.fps f).getD i "").zip ws⟩ ((I.fps f).zip (us ++ permL ws (pmOf q us.length)))
theorem argOk_len : ∀ {ps : List Bool} {ss : List Sl}, argOk ps ss = true → ss.length = ps.length
  | [], [], _ => rfl
  | false :: ps, .d _ :: ss, h => by simp [argOk_len (ps := ps) (ss := ss) h]
  | true :: ps, .m _ :: ss, h => by simp [argOk_len (ps := ps) (ss := ss) h]
  | [], _ :: _, h => by simp [argOk] at h
  | false :: _, [], h => by simp [argOk] at h
  | true :: _, [], h => by simp [argOk] at h
  | false :: _, .m _ :: _, h => by simp [argOk] at h
  | false :: _, .un :: _, h => by simp [argOk] at h
  | true :: _, .d _ :: _, h => by simp [argOk] at h
  | true :: _, .un :: _, h => by simp [argOk] at h
theorem mutS_nil : ∀ {ps : List Bool} {ss : List Sl} {vs : List V}, argOk ps ss = true → (∀ j : Nat, ps[j]? ≠ some true) → mutS ss vs = []
  | [], [], vs, _, _ => by cases vs <;> rfl
  | false :: ps, .d _ :: ss, vs, h, k => by
    cases vs with
    | nil => rfl
    | cons v vs => exact mutS_nil (ps := ps) (ss := ss) h fun j e => k (j + 1) (by simpa using e)
  | true :: ps, _, _, _, k => absurd rfl (k 0)
  | [], _ :: _, _, h, _ => by simp [argOk] at h
  | false :: _, [], _, h, _ => by simp [argOk] at h
  | false :: _, .m _ :: _, _, h, _ => by simp [argOk] at h
  | false :: _, .un :: _, _, h, _ => by simp [argOk] at h
theorem muts_rs {K : PySem.W.Frag} {Z : Ad} {H : Hp} : ∀ (ps : List Bool) {ss : List Sl} {vs : List V} {es : Env} {ws : L2.St} {G : Nat → Ad}, argOk ps ss = true → vs.length = ss.length → es.length = ws.length →
    (∀ (j : Nat) (d : D), es[j]? = some (.d d) → ∃ v, ws[j]? = some (some v) ∧ RV K Z H v d) → (∀ (j : Nat) (m : M), es[j]? = some (.m m) → ∃ v, ws[j]? = some (some v) ∧ RO K Z H v m (G j)) → (∀ i j a, G i a → G j a → i = j) →
    (∀ j : Nat, ps[j]? = some true → ws[j]? = (vs[j]?).map some) → RS K Z noF H (mutS ss vs) (mutsE ps es) (fun a => ∃ j : Nat, ps[j]? = some true ∧ G j a)
  | [], ss, vs, es, ws, G, h, _, _, _, _, _, _ => by
    cases ss with
    | nil => cases vs <;> exact .nil
    | cons _ _ => simp [argOk] at h
  | b :: ps, ss, vs, es, ws, G, h, hl, hw, hd, hm, gg, hp => by
    cases ss with
    | nil => cases b <;> simp [argOk] at h
    | cons s ss =>
      cases vs with
      | nil => simp at hl
      | cons v vs =>
        cases es with
        | nil =>
          have hw0 : ws = [] := List.length_eq_zero_iff.mp hw.symm
          subst hw0
          have no : ∀ j : Nat, (b :: ps)[j]? ≠ some true := fun j e => by
            have := hp j e
            have hj : j < (v :: vs).length := by
              rw [hl, argOk_len h]
              by_cases q : j < (b :: ps).length
              · exact q
              · rw [List.getElem?_eq_none (by omega)] at e; cases e
            rw [List.getElem?_eq_getElem hj] at this
            simp at this
          rw [mutS_nil h no]
          cases b <;> exact .nil
        | cons e es =>
          cases ws with
          | nil => simp at hw
          | cons w ws =>
            have rec_ : argOk ps ss = true → RS K Z noF H (mutS ss vs) (mutsE ps es) (fun a => ∃ j : Nat, ps[j]? = some true ∧ G (j + 1) a) := fun h' =>
              muts_rs ps (G := fun j => G (j + 1)) h' (by simpa using hl) (by simpa using hw) (fun j d q => by simpa using hd (j + 1) d (by simpa using q)) (fun j m q => by simpa using hm (j + 1) m (by simpa using q)) (fun i j a p q => by have := gg _ _ a p q; omega) fun j q => by simpa using hp (j + 1) (by simpa using q)
            cases b with
            | false =>
              cases s <;> simp only [argOk, Bool.false_eq_true] at h
              exact RS.wide (rec_ h) fun a ⟨j, q, z⟩ => ⟨j + 1, by simpa using q, z⟩
            | true =>
              cases s <;> simp only [argOk, Bool.false_eq_true] at h
              have h0 := hp 0 rfl
              simp only [List.getElem?_cons_zero, Option.map_some, Option.some.injEq] at h0
              subst h0
              cases e with
              | d d =>
                obtain ⟨v', e1, r⟩ := hd 0 d rfl
                simp only [List.getElem?_cons_zero, Option.some.injEq] at e1
                subst e1
                exact RS.d (.inl r) (RS.wide (rec_ h) fun a ⟨j, q, z⟩ => ⟨j + 1, by simpa using q, z⟩)
              | m m =>
                obtain ⟨v', e1, r⟩ := hm 0 m rfl
                simp only [List.getElem?_cons_zero, Option.some.injEq] at e1
                subst e1
                exact RS.m r (rec_ h) (fun a p ⟨j, _, q⟩ => by have := gg _ _ a p q; omega) (fun a z => ⟨0, rfl, z⟩) fun a ⟨j, q, z⟩ => ⟨j + 1, by simpa using q, z⟩
              | un => exact RS.un (RS.wide (rec_ h) fun a ⟨j, q, z⟩ => ⟨j + 1, by simpa using q, z⟩)
theorem RS.starts {K : PySem.W.Frag} {Z A : Ad} {H : Hp} {vs : List V} {ss : List Sl} (h : RS K Z noF H vs ss A) : ∃ G : Nat → Ad, (∀ (i : Nat) (d : D), ss[i]? = some (.d d) → ∃ v, vs[i]? = some v ∧ RV K Z H v d) ∧
    (∀ (i : Nat) (m : M), ss[i]? = some (.m m) → ∃ v, vs[i]? = some v ∧ RO K Z H v m (G i)) ∧ (∀ i j a, G i a → G j a → i = j) ∧ ∀ i a, G i a → A a := by
  induction h with
  | nil => exact ⟨fun _ _ => False, fun i d e => by simp at e, fun i d e => by simp at e, fun _ _ _ z => z.elim, fun _ _ z => z.elim⟩
  | @d v d vs ss A r _ ih =>
    obtain ⟨G, h1, h2, h3, h4⟩ := ih
    have rv : RV K Z H v d := by
      rcases r with r | ⟨_, _, _, _, f, _⟩
      · exact r
      · exact f.elim
    refine ⟨fun i a => match i with | 0 => False | i + 1 => G i a, fun i d' e => ?_, fun i m e => ?_, fun i j a p q => ?_, fun i a p => ?_⟩
    · cases i with
      | zero => simp at e; subst e; exact ⟨v, rfl, rv⟩
      | succ i => simpa using h1 i d' (by simpa using e)
    · cases i with
      | zero => simp at e
      | succ i => simpa using h2 i m (by simpa using e)
    · cases i <;> cases j <;> first | exact p.elim | exact q.elim | exact congrArg (· + 1) (h3 _ _ a p q)
    · cases i with
      | zero => exact p.elim
      | succ i => exact h4 i a p
  | @m v m vs ss A B Cc r _ d1 d2 d3 ih =>
    obtain ⟨G, h1, h2, h3, h4⟩ := ih
    refine ⟨fun i a => match i with | 0 => B a | i + 1 => G i a, fun i d' e => ?_, fun i m' e => ?_, fun i j a p q => ?_, fun i a p => ?_⟩
    · cases i with
      | zero => simp at e
      | succ i => simpa using h1 i d' (by simpa using e)
    · cases i with
      | zero => simp at e; subst e; exact ⟨v, rfl, r⟩
      | succ i => simpa using h2 i m' (by simpa using e)
    · cases i <;> cases j
      · rfl
      · exact (d1 a p (h4 _ a q)).elim
      · exact (d1 a q (h4 _ a p)).elim
      · exact congrArg (· + 1) (h3 _ _ a p q)
    · cases i with
      | zero => exact d2 a p
      | succ i => exact d3 a (h4 i a p)
  | @un v vs ss A _ ih =>
    obtain ⟨G, h1, h2, h3, h4⟩ := ih
    refine ⟨fun i a => match i with | 0 => False | i + 1 => G i a, fun i d' e => ?_, fun i m e => ?_, fun i j a p q => ?_, fun i a p => ?_⟩
    · cases i with
      | zero => simp at e
      | succ i => simpa using h1 i d' (by simpa using e)
    · cases i with
      | zero => simp at e
      | succ i => simpa using h2 i m (by simpa using e)
    · cases i <;> cases j <;> first | exact p.elim | exact q.elim | exact congrArg (· + 1) (h3 _ _ a p q)
    · cases i with
      | zero => exact p.elim
      | succ i => exact h4 i a p
theorem unE_len : ∀ n, (unE n).length = n
  | 0 => rfl
  | n + 1 => by simp [unE, unE_len n]
theorem unE_get : ∀ {n i : Nat} {s : Sl}, (unE n)[i]? = some s → s = .un
  | 0, i, s, h => by simp [unE] at h
  | n + 1, 0, s, h => by simp [unE] at h; exact h.symm
  | n + 1, i + 1, s, h => unE_get (n := n) (i := i) (by simpa [unE] using h)
theorem start_get {N : List Str} {vs : List V} {i : Nat} {v : V} (h : vs[i]? = some v) : (L2.start N vs)[i]? = some (some v) := by
  have hi : i < vs.length := by
    by_cases q : i < vs.length
    · exact q
    · rw [List.getElem?_eq_none (by omega)] at h; cases h
  unfold L2.start
  rw [List.getElem?_append_left (by simpa using hi), List.getElem?_map, h]; rfl
theorem start_len {N : List Str} {vs : List V} (h : vs.length ≤ N.length) : (L2.start N vs).length = N.length := by
  unfold L2.start
  rw [List.length_append, List.length_map, List.length_replicate]; omega
theorem fun_ok {I : Info} (io : InfoOk I) {n : Nat} (fs : FnsOk I n (callF I.GC I.T n)) {f : Nat} {fd : FD} (ht : I.T f = some fd) (fk : FunOk I f fd) : FnOk I.P I.w I.K I.mg I.base (L2.CX I.P I.w) (n + 1) (I.fa f) (I.fdt f) (I.fps f) (spF I (callF I.GC I.T (n + 1)) f) := by
  obtain ⟨st, N, hF, hsc, hps, hns, look⟩ := fk.ex
  have S := C8.fnScope_by hsc
  have hpre : (I.fps f).length ≤ N.length := by
    have := congrArg List.length S.pre
    rw [List.length_take] at this; omega
  have unf : ∀ ss, callF I.GC I.T (n + 1) f ss = runF I.GC (callF I.GC I.T n) fd ss := fun ss => by simp only [callF, ht]
  refine hF.okX S (fun vs H Q E h => ?_) (fun cdv A outer s H vs Q E hr h => ⟨tS I (callF I.GC I.T n) (fun cls d _ H => E cls d H) (protL fd.ps) fd.body, ?_, ?_⟩)
  · obtain ⟨Z, P, A, ss, rs, _, _, _, _, _, _, m⟩ := h
    rw [unf] at m
    rw [rs.length, ← hps]
    unfold runF at m
    split at m
    · rename_i e; split at e <;> first | exact argOk_len (by assumption) | cases e
    · rename_i e; split at e <;> first | exact argOk_len (by assumption) | cases e
    · exact m.elim
  · have at' : AtS I (callF I.GC I.T n) (fun cls d _ H => E cls d H) (cxOf (L2.CX I.P I.w) I.P I.w I.K I.mg I.base N (I.fn f) (defScope st) (I.fa f) cdv A outer s H E) n ⟨N, defScope st, none, protL fd.ps⟩ :=
      { ok := ⟨rfl, rfl, rfl, rfl, rfl, rfl, S.nd, rfl, rfl, hr, fun _ => rfl⟩
        fs := fs
        tk := takes_of (X := cxOf (L2.CX I.P I.w) I.P I.w I.K I.mg I.base N (I.fn f) (defScope st) (I.fa f) cdv A outer s H E) rfl rfl rfl rfl
        ws := rfl
        kd := S.kind
        po := passes_of (X := cxOf (L2.CX I.P I.w) I.P I.w I.K I.mg I.base N (I.fn f) (defScope st) (I.fa f) cdv A outer s H E) rfl }
    exact (snd_allS io fd.body).l at' look
  · obtain ⟨Z, P, A, ss, rs, az, ap, ad, zp, zd, pd, m⟩ := h
    rw [unf] at m
    unfold runF at m
    cases hk : argOk fd.ps ss with
    | false => rw [hk, if_neg (by decide)] at m; exact m.elim
    | true =>
      rw [hk, if_pos rfl] at m
      have hlen : vs.length = ss.length := rs.length
      have hl2 : ss.length ≤ N.length := by rw [argOk_len hk, hps]; exact hpre
      obtain ⟨G, g1, g2, g3, g4⟩ := rs.starts
      have s0 : Sta I.K Z P G (startE fd ss) (L2.start N vs) H := by
        refine ⟨?_, fun i d e => ?_, fun i mm e => ?_, g3, fun i a z => az a (g4 i a z), fun i a z => ap a (g4 i a z), zp, fun i a z => ad a (g4 i a z), zd, pd⟩
        · rw [start_len (by omega)]
          unfold startE
          rw [List.length_append, unE_len]; omega
        · unfold startE at e
          rw [List.getElem?_append] at e
          split at e
          · obtain ⟨v, q1, q2⟩ := g1 i d e
            exact ⟨v, start_get q1, q2⟩
          · cases unE_get e
        · unfold startE at e
          rw [List.getElem?_append] at e
          split at e
          · obtain ⟨v, q1, q2⟩ := g2 i mm e
            exact ⟨v, start_get q1, q2⟩
          · cases unE_get e
      have fin : ∀ {Z' B : Ad} {F' : Nat → Ad} {e' : Env} {σ' : L2.St} {H' : Hp}, Sta I.K Z' (fun a => P a ∨ B a) F' e' σ' H' → Step Z P H Z' H' → (∀ i, i ∈ protL fd.ps → σ'[i]? = (L2.start N vs)[i]?) → (∀ a, B a → ¬ P a) →
          PostC I Z P H Z' H' (fun a => B a ∨ ∃ j : Nat, fd.ps[j]? = some true ∧ F' j a) ∧ RS I.K Z' noF H' (mutS ss vs) (mutsE fd.ps e') (fun a => ∃ j : Nat, fd.ps[j]? = some true ∧ F' j a) ∧ ∀ a, B a → (∃ j : Nat, fd.ps[j]? = some true ∧ F' j a) → False := by
        intro Z' B F' e' σ' H' st' stp pr bp
        refine ⟨⟨stp, ?_, ?_, ?_, fun a z p => st'.zp a z (.inl p), st'.dz⟩, muts_rs fd.ps hk hlen st'.len st'.sd st'.sm st'.ff fun j hj => ?_, fun a b ⟨j, _, z⟩ => st'.fp j a z (.inr b)⟩
        · rintro a (z | ⟨j, _, z⟩) z'
          · exact st'.zp a z' (.inr z)
          · exact st'.fz j a z z'
        · rintro a (z | ⟨j, _, z⟩) p
          · exact bp a z p
          · exact st'.fp j a z (.inl p)
        · rintro a (z | ⟨j, _, z⟩)
          · exact st'.dp a (.inr z)
          · exact st'.df j a z
        · rw [pr j (protL_of hj)]
          have : j < vs.length := by
            rw [hlen, argOk_len hk]
            by_cases q : j < fd.ps.length
            · exact q
            · rw [List.getElem?_eq_none (by omega)] at hj; cases hj
          rw [List.getElem?_eq_getElem this]
          exact start_get (List.getElem?_eq_getElem this)
      refine ⟨Z, P, G, startE fd ss, s0, ?_⟩
      cases hv : evS I.GC (callF I.GC I.T n) fd.body (startE fd ss) with
      | bad => rw [hv] at m; exact m.elim
      | ex x e' =>
        rw [hv] at m
        intro cv dd Z' F' σ' H' po er
        obtain ⟨p1, p2, _⟩ := fin (B := fun _ => False) (po.st.narrow fun _ z => z.elim id False.elim) po.stp po.pr fun _ z => z.elim
        exact m cv dd Z' H' _ p1 (RS.wide p2 fun _ z => .inr z) er
      | ok w e' =>
        rw [hv] at m
        cases w with
        | nx =>
          intro Z' F' σ' H' po
          obtain ⟨p1, p2, _⟩ := fin (B := fun _ => False) (po.st.narrow fun _ z => z.elim id False.elim) po.stp po.pr fun _ z => z.elim
          exact m .non Z' H' _ p1 (RS.d (.inl (.non .nil)) (RS.wide p2 fun _ z => .inr z))
        | bk => exact m.elim
        | ct => exact m.elim
        | rt r =>
          intro v Z' F' σ' H' B st' stp pr rr bp
          obtain ⟨p1, p2, p3⟩ := fin st' stp pr bp
          refine m v Z' H' _ p1 ?_
          cases rr with
          | d q t => exact RS.d q (RS.wide p2 fun _ z => .inr z)
          | m q t d1 d2 d3 => exact RS.m q p2 (fun a z z' => p3 a (d2 a z) z') (fun a z => .inl (d2 a z)) fun _ z => .inr z
          | un t => exact RS.un (RS.wide p2 fun _ z => .inr z)
theorem fns_ok {I : Info} (io : InfoOk I) (fk : ∀ f fd, I.T f = some fd → FunOk I f fd) : ∀ n, FnsOk I n (callF I.GC I.T n) := by
  intro n
  induction n with
  | zero =>
    refine ⟨fun f fd h => ?_⟩
    have k := fk f fd h
    obtain ⟨st, N, hF, _⟩ := k.ex
    refine ⟨⟨fun vs H Q E ⟨Z, P, A, ss, _, _, _, _, _, _, _, m⟩ => m.elim, fun A outer s H args us vs Q E hr e0 hb r ⟨Z, P, A', ss, _, _, _, _, _, _, _, m⟩ => m.elim⟩, k.mg, hF.kp, k.bi, k.kb, k.kp⟩
  | succ n ih =>
    refine ⟨fun f fd h => ?_⟩
    have k := fk f fd h
    obtain ⟨st, N, hF, _⟩ := k.ex
    exact ⟨fun_ok io ih h k, k.mg, hF.kp, k.bi, k.kb, k.kp⟩
end PY

set_option Elab.async false
set_option linter.all false
set_option maxRecDepth 100000
set_option maxHeartbeats 2000000
/-! SoF: a law by the plain computation of its defs. -/
namespace PY
open PySem PySem.Spec PyProof.Rows L2
/-- a def of the text: its name, parameters, how many positional arguments its keyword calls give, slots, plain form, text -/
structure DD where
  name : Str
  ps : List Str
  kk : List (List Nat)
  N : List Str
  fd : FD
  st : Stmt
def fnL (L : List DD) (f : Nat) : Str := match L[f]? with | some d => d.name | none => "__debug__"
def psL (L : List DD) (f : Nat) : List Str := match L[f]? with | some d => d.ps | none => []
def kkL (L : List DD) (f : Nat) : List (List Nat) := match L[f]? with | some d => d.kk | none => []
def TL (L : List DD) (f : Nat) : Option FD := match L[f]? with | some d => some d.fd | none => none
def gnL (_ : Nat) : Str := "__debug__"
/-- the names of a text that imports gcd -/
def gnG (_ : Nat) : Str := "gcd"
def gcL (_ : Nat) : Option D := none
structure DOkN (gn : Nat → Str) (L : List DD) (d : DD) : Prop where
  sc : C8.scC d.N d.ps (defScope d.st) = true
  len : d.fd.ps.length = d.ps.length
  ns : d.fd.ns = d.N.length
  look : (mS (fnL L) gn (psL L) (kkL L) d.fd.body ⟨d.N, defScope d.st, none, protL d.fd.ps⟩).l (defBody d.st) = true
  bi : ∀ (kV doc pm : Value) (an : Option Addr) (cdv ct : Value) (us : List Value), us.length = d.ps.length → bindArgs (PySem.W.fnOf d.name d.name (defArgs d.st) (defBody d.st) (defScope d.st) .none kV doc pm an cdv ct) ⟨us, []⟩ = pure (d.ps.zip us)
  kb : ∀ k, [k] ∈ d.kk → ∀ (kV doc pm : Value) (an : Option Addr) (cdv ct : Value) (us ws : List Value), us.length = k → (us ++ ws).length = d.ps.length → bindArgs (PySem.W.fnOf d.name d.name (defArgs d.st) (defBody d.st) (defScope d.st) .none kV doc pm an cdv ct) ⟨us, (d.ps.drop k).zip ws⟩ = pure (d.ps.zip (us ++ ws))
  kp : ∀ q, 99 :: q ∈ d.kk → ∀ (kV doc pm : Value) (an : Option Addr) (cdv ct : Value) (us ws : List Value), us.length + q.length = d.ps.length → ws.length = q.length → bindArgs (PySem.W.fnOf d.name d.name (defArgs d.st) (defBody d.st) (defScope d.st) .none kV doc pm an cdv ct) ⟨us, (q.map fun i => d.ps.getD i "").zip ws⟩ = pure (d.ps.zip (us ++ permL ws (pmOf q us.length)))
abbrev DOk := DOkN gnL
/-- a def as the top has left it -/
def OneFn (K : PySem.W.Frag) (d : DD) (x : Addr × FuncData) : Prop := PySem.W.nsIn K mainGlobals d.name = some (some (.ref x.1)) ∧ L2.Fun K d.name d.name d.st x.1 x.2
theorem one_fn {K : PySem.W.Frag} {d : DD} {f : Addr} {oc : Value} {od an : Option Addr} {osl : Array (Option Value)} {kV doc pm cdv ct : Value} (a : PySem.W.nsIn K mainGlobals d.name = some (some (.ref f)))
    (l : K.lookup f = some ⟨oc, od, .func (PySem.W.fnOf d.name d.name (defArgs d.st) (defBody d.st) (defScope d.st) .none kV doc pm an cdv ct), osl⟩) (c : PySem.W.codeIn K cdv d.name = true) (k : PySem.W.keepIn K (.ref f) = true) : ∃ x, OneFn K d x :=
  ⟨(f, _), a, fun_mk l c k⟩
def AllFn (K : PySem.W.Frag) : List DD → Prop
  | [] => True
  | d :: r => (∃ x, OneFn K d x) ∧ AllFn K r
def AllNo (K : PySem.W.Frag) : List Str → Prop
  | [] => True
  | x :: r => PySem.W.nsIn K mainGlobals x = some none ∧ AllNo K r
theorem AllNo.at_ {K : PySem.W.Frag} : ∀ {l : List Str}, AllNo K l → ∀ x, x ∈ l → PySem.W.nsIn K mainGlobals x = some none
  | y :: r, h, x, hx => by
    rcases List.mem_cons.mp hx with rfl | hx
    · exact h.1
    · exact h.2.at_ x hx
theorem AllFn.list {K : PySem.W.Frag} : ∀ {L : List DD}, AllFn K L → ∃ as : List (Addr × FuncData), ∀ (i : Nat) (d : DD), L[i]? = some d → ∃ x, as[i]? = some x ∧ OneFn K d x
  | [], _ => ⟨[], fun i d h => by simp at h⟩
  | d :: L, h => by
    obtain ⟨as, q⟩ := AllFn.list h.2
    obtain ⟨x, hx⟩ := h.1
    refine ⟨x :: as, fun i d' e => ?_⟩
    cases i with
    | zero => simp at e; subst e; exact ⟨x, rfl, hx⟩
    | succ i => simpa using q i d' (by simpa using e)
def theI (l : PySem.W.OpenLaw) (w : World) (K : PySem.W.Frag) (mg : Str → Option Value) (gn : Nat → Str) (base : Heap) (L : List DD) (as : List (Addr × FuncData)) (fd0 : FuncData) : Info where
  P := l.prog
  w := w
  K := K
  mg := mg
  base := base
  GC := gcL
  gn := gn
  XC := fun _ => none
  T := TL L
  fn := fnL L
  fa := fun f => match as[f]? with | some x => x.1 | none => mainGlobals
  fdt := fun f => match as[f]? with | some x => x.2 | none => fd0
  fps := psL L
  kk := kkL L
theorem law_fn {gn : Nat → Str} {l : PySem.W.OpenLaw} {w : World} {K : PySem.W.Frag} {mg : Str → Option Value} {h base : Heap} {L : List DD} {as : List (Addr × FuncData)} {fd0 : FuncData} (hL : ∀ d, d ∈ L → DOkN gn L d) (hA : ∀ (i : Nat) (d : DD), L[i]? = some d → ∃ x, as[i]? = some x ∧ OneFn K d x) (hN : AllNo K bnames) (hG : gn 1000 = "gcd" → PySem.W.nsIn K mainGlobals "gcd" = some (some (.builtin "math.gcd")))
    (X : K.In h) (G : h.Ns mainGlobals mg) (n : Nat) : FnsOk (theI l w K mg gn base L as fd0) n (callF gcL (TL L) n) := by
  have io : InfoOk (theI l w K mg gn base L as fd0) := by
    refine ⟨fun g d h => (by cases h), fun x hx => PySem.W.mg_none_of X G (hN.at_ x hx), fun e => PySem.W.mg_of X G (hG e), fun f hp => ?_⟩
    show ∃ fd, TL L f = some fd
    have hp : plainName (fnL L f) = true := hp
    unfold TL
    unfold fnL at hp
    cases e : L[f]? with
    | some d => exact ⟨_, rfl⟩
    | none =>
      rw [e] at hp
      exact absurd hp (by decide +kernel)
  refine fns_ok io (fun f fd ht => ?_) n
  have ht : TL L f = some fd := ht
  unfold TL at ht
  cases e : L[f]? with
  | none => rw [e] at ht; cases ht
  | some d =>
    rw [e] at ht
    cases ht
    obtain ⟨x, ex, nx, F⟩ := hA f d e
    have k := hL d (List.mem_of_getElem? e)
    have e1 : (theI l w K mg gn base L as fd0).fn f = d.name := by show fnL L f = d.name; unfold fnL; rw [e]
    have e2 : (theI l w K mg gn base L as fd0).fps f = d.ps := by show psL L f = d.ps; unfold psL; rw [e]
    have e3 : (theI l w K mg gn base L as fd0).fa f = x.1 := by show (match as[f]? with | some x => x.1 | none => mainGlobals) = x.1; rw [ex]
    have e4 : (theI l w K mg gn base L as fd0).fdt f = x.2 := by show (match as[f]? with | some x => x.2 | none => fd0) = x.2; rw [ex]
    have e5 : (theI l w K mg gn base L as fd0).kk f = d.kk := by show kkL L f = d.kk; unfold kkL; rw [e]
    refine ⟨⟨d.st, d.N, by rw [e1, e3, e4]; exact F, by rw [e2]; exact k.sc, by rw [e2]; exact k.len, k.ns, k.look⟩, ?_, ?_, ?_, ?_⟩
    · rw [e1, e3]; exact PySem.W.mg_of X G nx
    · rw [e2, e4]; exact F.binds k.bi
    · rw [e5, e2, e4]
      intro m hm s us ws hk hl1 hl2
      obtain ⟨oc, od, kV, doc, pm, an, cdv, ct, osl, q, _⟩ := F.ex
      rw [q]
      exact .of_eq (k.kb m hm kV doc pm an cdv ct us ws hl1 hl2)
    · rw [e5, e2, e4]
      intro m hm s us ws hk hl1 hl2
      obtain ⟨oc, od, kV, doc, pm, an, cdv, ct, osl, q, _⟩ := F.ex
      rw [q]
      exact .of_eq (k.kp m hm kV doc pm an cdv ct us ws hl1 hl2)
theorem ints_rz {K : PySem.W.Frag} {Z : Ad} {H : Hp} : ∀ ns : List Int, RZ K Z H (ns.map V.int) (ns.map PyData.int)
  | [] => .nil
  | n :: ns => .int (ints_rz ns)
/-- THE END: a law holds, by its plain computation -/
theorem law_endN {gn : Nat → Str} {l : PySem.W.OpenLaw} {q : Program} {loose : List Str} {XP : (Str → Option Value) → Heap → Prop} {YP : World → Heap → Prop} {d : DefRec} {K : Params → PySem.W.Frag} {L : List DD} {j n : Nat} {dl : DD} (hn : l.most = some 63) (hdf : d.params.defaults = []) (hr : Room n callerA)
    (hY : ∀ (w : World) (h : Heap), YP w h → (K w.params).In h) (hL : ∀ d, d ∈ L → DOkN gn L d) (hj : L[j]? = some dl) (hnm : d.name = dl.name) (hps : dl.ps = (["script"] : List Str))
    (run : ∀ ns : List Int, ns.length ≤ 63 → ∃ ms, callF gcL (TL L) n j [.d (.list (ns.map PyData.int))] = .ok (.d (.bool true)) ms)
    (F : ∀ (w : World) (mg : Str → Option Value) (fa : Addr) (h : Heap), (K w.params).In h → h.Ns mainGlobals mg → mg d.name = some (.ref fa) → AllFn (K w.params) L ∧ AllNo (K w.params) bnames ∧ (gn 1000 = "gcd" → PySem.W.nsIn (K w.params) mainGlobals "gcd" = some (some (.builtin "math.gcd")))) :
    PySem.W.WalkO q loose XP YP l.row.toRowW d [] (fun f vs => PySem.call f vs) := by
  refine L2.walk_of (n := 63) (k := n) (x := "script") (CX := fun w => L2.CX l.prog w) (sp := fun w vs H Q E => ∃ (a : Addr) (ns : List Int), vs = [.ref a] ∧ SqL (K w.params) H a (ns.map V.int) ∧ ns.length ≤ 63 ∧ Only H ∧ ∀ H', Q (.bl true) H') hn (by decide) hdf hr hY (fun w mg fa h X G hmg => ?_) (fun w H a ns hl hO hS => ⟨a, ns, rfl, hS, hl, hO, fun _ => rfl⟩) fun w H s e s' hc => ?_
  · obtain ⟨hA, hN, hG⟩ := F w mg fa h X G hmg
    obtain ⟨as, hA⟩ := hA.list
    obtain ⟨x, ex, nx, Fx⟩ := hA j dl hj
    have hx : fa = x.1 := by
      have h1 := PySem.W.mg_of X G nx
      rw [← hnm, hmg] at h1
      cases h1; rfl
    subst hx
    have k := hL dl (List.mem_of_getElem? hj)
    refine ⟨x.2, fun s u => ?_, fun base Xb Gb => ?_⟩
    · obtain ⟨oc, od, kV, doc, pm, an, cdv, ct, osl, q, _⟩ := Fx.ex
      rw [q]
      have := k.bi kV doc pm an cdv ct [u] (by rw [hps]; rfl)
      rw [hps] at this
      exact .of_eq this
    · have fs := law_fn (l := l) (w := w) (base := base) (fd0 := x.2) hL hA hN hG X G n
      obtain ⟨f1, _⟩ := fs.ok j dl.fd (by show TL L j = _; unfold TL; rw [hj])
      have e2 : (theI l w (K w.params) mg gn base L as x.2).fps j = (["script"] : List Str) := by show psL L j = _; unfold psL; rw [hj]; exact hps
      have e3 : (theI l w (K w.params) mg gn base L as x.2).fa j = x.1 := by show (match as[j]? with | some x => x.1 | none => mainGlobals) = x.1; rw [ex]
      have e4 : (theI l w (K w.params) mg gn base L as x.2).fdt j = x.2 := by show (match as[j]? with | some y => y.2 | none => x.2) = x.2; rw [ex]
      rw [e2, e3, e4] at f1
      refine f1.imp fun vs H Q E ⟨a, ns, e, hS, hl, hO, hq⟩ => ?_
      subst e
      obtain ⟨ms, hrun⟩ := run ns hl
      have rv : RV (K w.params) (fun b => ∃ o xs, H b = some (.frz o (.lst xs))) H (.ref a) (.list (ns.map PyData.int)) := by
        refine .lst (us := ns.map V.int) ?_ (ints_rz ns) .nil
        rcases hS with hS | hS
        · refine .inl ⟨?_, hS⟩
          rcases hO a with z | z
          · rcases hS with hS | ⟨o, hS⟩
            · rw [z] at hS; cases hS
            · rw [z] at hS; cases hS
          · exact z
        · exact .inr (.inr hS)
      refine ⟨fun b => ∃ o xs, H b = some (.frz o (.lst xs)), fun _ => False, fun _ => False, [.d (.list (ns.map PyData.int))], .d (.inl rv) .nil, fun _ z => z.elim, fun _ z => z.elim, fun _ z => z.elim, fun _ _ z => z, (fun a ⟨o, xs, z⟩ => by rw [z]; exact fun y => nomatch y), fun _ z => z.elim, ?_⟩
      show (match callF gcL (TL L) n j [.d (.list (ns.map PyData.int))] with | .ok r ms => _ | .ex x ms => _ | .bad => False)
      rw [hrun]
      intro v Z' H' A' po rr
      cases rr with
      | d q t =>
        rcases q with q | ⟨_, _, _, _, f, _⟩
        · rw [q.eBool]; exact hq _
        · exact f.elim
  · obtain ⟨_, _, _, _, _, _, _, _, _, _, _, _, z⟩ := hc
    exact z.elim
end PY

set_option Elab.async false
set_option linter.all false
set_option maxRecDepth 100000
set_option maxHeartbeats 2000000
/-! SoR: reasoning about the plain computation. -/
namespace PY
open PySem
/-- terms that only put together what is known -/
def cst (env : Env) : Tm → Option D
  | .var i => slD env[i]?
  | .int i => some (.int i)
  | .bl b => some (.bool b)
  | .non => some .none
  | .str s => some (.str s)
  | .nil => some (.list [])
  | .cons a b => if notAm a && !isLs a && isLs b then (match cst env a, cst env b with | some d, some (.list r) => some (.list (d :: r)) | _, _ => none) else none
  | .tup es => if isLs es then (match cst env es with | some (.list ds) => if ds.length ≤ 1000000 then some (.tuple ds) else none | _ => none) else none
  | .lst es => if isLs es then (match cst env es with | some (.list ds) => if ds.length ≤ 1000000 then some (.list ds) else none | _ => none) else none
  | _ => none
theorem dsOf_map : ∀ ds : List D, dsOf (ds.map Sl.d) = some ds
  | [] => rfl
  | d :: ds => by
    show (dsOf (ds.map Sl.d)).map (d :: ·) = _
    rw [dsOf_map ds]; rfl
theorem cst_ok {C : Nat → List Sl → CR} {env : Env} : ∀ (x : Tm) {c : D}, cst env x = some c → (isLs x = true → ∃ ds, c = .list ds ∧ (ev gcL C x).a env = .ok (ds.map .d) env) ∧ (isLs x = false → (ev gcL C x).e env = .ok c env) := by
  intro x
  induction x with
  | var i =>
    intro c h
    refine ⟨fun h => (nomatch h), fun _ => ?_⟩
    have h' : slD env[i]? = some c := h
    simp only [ev, Den.ofE, h', R.opt]
  | int i => intro c h; cases h; exact ⟨fun h => (nomatch h), fun _ => rfl⟩
  | bl i => intro c h; cases h; exact ⟨fun h => (nomatch h), fun _ => rfl⟩
  | str i => intro c h; cases h; exact ⟨fun h => (nomatch h), fun _ => rfl⟩
  | non => intro c h; cases h; exact ⟨fun h => (nomatch h), fun _ => rfl⟩
  | nil => intro c h; cases h; exact ⟨fun _ => ⟨[], rfl, rfl⟩, fun h => (nomatch h)⟩
  | cons a b iha ihb =>
    intro c h
    simp only [cst] at h
    split at h
    · rename_i hc
      simp only [Bool.and_eq_true, Bool.not_eq_true'] at hc
      split at h
      · rename_i d r ha hb
        cases h
        obtain ⟨ds, e1, e2⟩ := (ihb hb).1 hc.2
        cases e1
        refine ⟨fun _ => ⟨d :: r, rfl, ?_⟩, fun h => by simp [isLs, hc.2] at h⟩
        rw [show (ev gcL C (.cons a b)).a = fun env => ((ev gcL C a).e env).bind fun d env => ((ev gcL C b).a env).bind fun r env => .ok (.d d :: r) env by have hn := hc.1.1; cases a <;> first | rfl | cases hn]
        simp only [(iha ha).2 hc.1.2, R.bind_ok, e2]
        rfl
      · cases h
    · cases h
  | tup es ih =>
    intro c h
    simp only [cst] at h
    split at h
    · rename_i hc
      split at h
      · rename_i ds hd
        split at h
        · rename_i hl
          cases h
          obtain ⟨ds', e1, e2⟩ := (ih hd).1 hc
          injection e1 with e1
          subst e1
          refine ⟨fun h => (nomatch h), fun _ => ?_⟩
          simp only [ev, Den.ofE, e2, R.bind_ok, dsOf_map, if_pos hl, R.opt]
        · cases h
      · cases h
    · cases h
  | lst es ih =>
    intro c h
    simp only [cst] at h
    split at h
    · rename_i hc
      split at h
      · rename_i ds hd
        split at h
        · rename_i hl
          cases h
          obtain ⟨ds', e1, e2⟩ := (ih hd).1 hc
          injection e1 with e1
          subst e1
          refine ⟨fun h => (nomatch h), fun _ => ?_⟩
          simp only [ev, Den.ofM, e2, R.bind_ok, dsOf_map, if_pos hl, R.opt, M.frz]
        · cases h
      · cases h
    · cases h
  | _ => intro c h; simp [cst] at h
theorem w_cst {C : Nat → List Sl → CR} {env : Env} {Kx : Ex → Env → Prop} {Ko : D → Env → Prop} {x : Tm} {d : D} (hx : isLs x = false) (h : cst env x = some d) (k : Ko d env) : Wp ((ev gcL C x).e env) Ko Kx := by
  rw [(cst_ok x h).2 hx]; exact k
def Gives (c : CR) (Q : Sl → List Sl → Prop) : Prop := match c with
  | .ok r ms => Q r ms
  | _ => False
theorem Gives.mono {c : CR} {Q Q' : Sl → List Sl → Prop} (h : Gives c Q) (k : ∀ r ms, Q r ms → Q' r ms) : Gives c Q' := by
  cases c with
  | ok r ms => exact k r ms h
  | ex _ _ => exact h
  | bad => exact h
theorem Gives.get {c : CR} {Q : Sl → List Sl → Prop} (h : Gives c Q) : ∃ r ms, c = .ok r ms ∧ Q r ms := by
  cases c with
  | ok r ms => exact ⟨r, ms, rfl, h⟩
  | ex _ _ => exact h.elim
  | bad => exact h.elim
theorem run_of {C : Nat → List Sl → CR} {fd : FD} {vs : List Sl} {Q : Sl → List Sl → Prop} (ha : argOk fd.ps vs = true)
    (h : Wp (evS gcL C fd.body (startE fd vs)) (fun w e => match w with | .rt r => Q r (mutsE fd.ps e) | .nx => Q (.d .none) (mutsE fd.ps e) | _ => False) (fun _ _ => False)) : Gives (runF gcL C fd vs) Q := by
  unfold runF
  rw [ha, if_pos rfl]
  cases e : evS gcL C fd.body (startE fd vs) with
  | ok w e' =>
    rw [e] at h
    cases w with
    | nx => exact h
    | rt r => exact h
    | bk => exact h.elim
    | ct => exact h.elim
  | ex x e' => rw [e] at h; exact h.elim
  | bad => rw [e] at h; exact h.elim
theorem call_of {L : List DD} {n f : Nat} {fd : FD} {vs : List Sl} {Q : Sl → List Sl → Prop} (ht : TL L f = some fd) (h : Gives (runF gcL (callF gcL (TL L) n) fd vs) Q) : Gives (callF gcL (TL L) (n + 1) f vs) Q := by
  simp only [callF, ht]; exact h
theorem wp_call {C : Nat → List Sl → CR} {f : Nat} {as : Tm} {ss vs : List Sl} {env : Env} {Ko : Sl → Env → Prop} {Kx : Ex → Env → Prop} (h1 : fillA as ss env = some vs) (h : Gives (C f vs) fun r ms => ∃ env', backA as ms env = some env' ∧ Ko r env') : Wp (callE C f as ss env) Ko Kx := by
  unfold callE
  simp only [Wp.bind, Wp.opt]
  refine ⟨vs, h1, ?_⟩
  cases e : C f vs with
  | ok r ms =>
    rw [e] at h
    obtain ⟨env', h2, h3⟩ := h
    simp only [Wp.bind, Wp.opt, Wp.ok]
    exact ⟨env', h2, h3⟩
  | ex _ _ => rw [e] at h; exact h.elim
  | bad => rw [e] at h; exact h.elim
theorem mulOk_r {i j : Int} (h : j.natAbs.log2 < 60) : mulOk i j = true := by unfold mulOk; simp [h]
theorem mulOk_l {i j : Int} (h : i.natAbs.log2 < 60) : mulOk i j = true := by unfold mulOk; simp [h]
/-- a loop, by what stands before each turn: the items yet to come, the slots -/
theorem wp_for {f : D → Env → R Flow} {Ko : Flow → Env → Prop} {Kx : Ex → Env → Prop} (P : List D → Env → Prop) (hd : ∀ e, P [] e → Ko .nx e)
    (step : ∀ d ds e, P (d :: ds) e → Wp (f d e) (fun w e => match w with | .nx => P ds e | .ct => P ds e | .bk => Ko .nx e | .rt r => Ko (.rt r) e) Kx) : ∀ ds e, P ds e → Wp (forL f ds e) Ko Kx
  | [], e, h => hd e h
  | d :: ds, e, h => by
    simp only [forL, Wp.bind]
    refine (step d ds e h).mono (fun w e q => ?_) fun _ _ q => q
    cases w with
    | nx => exact wp_for P hd step ds e q
    | ct => exact wp_for P hd step ds e q
    | bk => exact q
    | rt r => exact q
/-- a comprehension: what has come so far, the items yet to come -/
theorem wp_compL {f : D → Env → R (Option D)} {Ko : List D → Env → Prop} {Kx : Ex → Env → Prop} (P : List D → List D → Env → Prop) (hd : ∀ acc e, P acc [] e → Ko acc e)
    (step : ∀ acc d ds e, P acc (d :: ds) e → Wp (f d e) (fun o e => P (match o with | some x => acc ++ [x] | none => acc) ds e) Kx) : ∀ ds e acc, P acc ds e → Wp (compL f ds e) (fun r e => Ko (acc ++ r) e) Kx
  | [], e, acc, h => by
    show Ko (acc ++ []) e
    rw [List.append_nil]; exact hd acc e h
  | d :: ds, e, acc, h => by
    simp only [compL, Wp.bind]
    refine (step acc d ds e h).mono (fun o e q => ?_) fun _ _ q => q
    refine (wp_compL P hd step ds e _ q).mono (fun r e q => ?_) fun _ _ q => q
    cases o with
    | some x => simpa [Wp.ok] using q
    | none => simpa [Wp.ok] using q
theorem wp_comp {f : D → Env → R (Option D)} {ds : List D} {e : Env} {Ko : List D → Env → Prop} {Kx : Ex → Env → Prop} (P : List D → List D → Env → Prop) (h0 : P [] ds e) (hd : ∀ acc e, P acc [] e → Ko acc e)
    (step : ∀ acc d ds e, P acc (d :: ds) e → Wp (f d e) (fun o e => P (match o with | some x => acc ++ [x] | none => acc) ds e) (fun _ _ => False)) : Wp (noex (compL f ds e)) Ko Kx := by
  have := wp_compL (Kx := fun _ _ => False) P hd step ds e [] h0
  simp only [List.nil_append] at this
  cases h : compL f ds e with
  | ok r e' => rw [h] at this; exact this
  | ex _ _ => rw [h] at this; exact this.elim
  | bad => rw [h] at this; exact this.elim
theorem atI_nn {α : Type} {xs : List α} {i : Int} (h0 : 0 ≤ i) (h1 : i < xs.length) : L2.atI xs i = xs[i.toNat]? := by
  unfold L2.atI L2.ixN
  rw [if_pos h0, if_pos h1]
  rfl
/-! ### rules: each term's value, then what is wanted of it -/
section
variable {C : Nat → List Sl → CR} {env : Env} {Kx : Ex → Env → Prop}
section
variable {Ko : D → Env → Prop}
theorem w_var {i : Nat} {d : D} (h : env[i]? = some (.d d)) (k : Ko d env) : Wp ((ev gcL C (.var i)).e env) Ko Kx := by
  simp only [ev, Den.ofE, Wp.opt]; rw [h]; exact ⟨d, rfl, k⟩
theorem w_lf {p : Pl} {d : D} (h : (getP p env).bind M.leaf = some d) (k : Ko d env) : Wp ((ev gcL C (.lf p)).e env) Ko Kx := by
  simp only [ev, Den.ofE, Wp.opt]; exact ⟨d, h, k⟩
theorem w_vw {p : Pl} {d : D} (h : (getP p env).bind M.view = some d) (k : Ko d env) : Wp ((ev gcL C (.vw p)).e env) Ko Kx := by
  simp only [ev, Den.ofE, Wp.opt]; exact ⟨d, h, k⟩
theorem w_int {i : Int} (k : Ko (.int i) env) : Wp ((ev gcL C (.int i)).e env) Ko Kx := k
theorem w_bl {i : Bool} (k : Ko (.bool i) env) : Wp ((ev gcL C (.bl i)).e env) Ko Kx := k
theorem w_non (k : Ko .none env) : Wp ((ev gcL C .non).e env) Ko Kx := k
theorem w_abs (k : Ko .none env) : Wp ((ev gcL C .abs).e env) Ko Kx := k
theorem w_str {i : Str} (k : Ko (.str i) env) : Wp ((ev gcL C (.str i)).e env) Ko Kx := k
theorem w_tup {as : Tm} (h : Wp ((ev gcL C as).a env) (fun ss e => ∃ ds, dsOf ss = some ds ∧ ds.length ≤ 1000000 ∧ Ko (.tuple ds) e) Kx) : Wp ((ev gcL C (.tup as)).e env) Ko Kx := by
  simp only [ev, Den.ofE, Wp.bind, Wp.opt]
  refine h.mono (fun ss e ⟨ds, h1, h2, h3⟩ => ⟨.tuple ds, ?_, h3⟩) fun _ _ h => h
  rw [h1]; exact if_pos h2
theorem w_lst {as : Tm} (h : Wp ((ev gcL C as).a env) (fun ss e => ∃ ds, dsOf ss = some ds ∧ ds.length ≤ 1000000 ∧ Ko (.list ds) e) Kx) : Wp ((ev gcL C (.lst as)).e env) Ko Kx := by
  simp only [ev, Den.ofM, Wp.bind, Wp.opt]
  refine h.mono (fun ss e ⟨ds, h1, h2, h3⟩ => ⟨.fl ds, ?_, .list ds, rfl, h3⟩) fun _ _ h => h
  rw [h1]; exact if_pos h2
theorem w_bin {o : Bop} {a b : Tm} (h : Wp ((ev gcL C a).e env) (fun x e => Wp ((ev gcL C b).e e) (fun y e => ∃ z, binD o x y = some z ∧ Ko z e) Kx) Kx) : Wp ((ev gcL C (.bin o a b)).e env) Ko Kx := by
  simp only [ev, Den.ofE, Wp.bind, Wp.opt]; exact h
theorem w_neg {a : Tm} (h : Wp ((ev gcL C a).e env) (fun x e => ∃ i, x = .int i ∧ Ko (.int (-i)) e) Kx) : Wp ((ev gcL C (.neg a)).e env) Ko Kx := by
  simp only [ev, Den.ofE, Wp.bind, Wp.opt]
  refine h.mono (fun x e ⟨i, h1, h2⟩ => ⟨_, ?_, h2⟩) fun _ _ h => h
  subst h1; rfl
theorem w_cmp {o : Cop} {a b : Tm} (h : Wp ((ev gcL C a).e env) (fun x e => Wp ((ev gcL C b).e e) (fun y e => ∃ z, cmpD o x y = some z ∧ Ko (.bool z) e) Kx) Kx) : Wp ((ev gcL C (.cmp o a b)).e env) Ko Kx := by
  simp only [ev, Den.ofE, Wp.bind, Wp.opt]
  exact h.mono (fun x e h => h.mono (fun y e ⟨z, h1, h2⟩ => ⟨_, by rw [h1]; rfl, h2⟩) fun _ _ h => h) fun _ _ h => h
theorem w_isN {a : Tm} (h : Wp ((ev gcL C a).e env) (fun x e => Ko (.bool (isNone x)) e) Kx) : Wp ((ev gcL C (.isN a)).e env) Ko Kx := by
  simp only [ev, Den.ofE, Wp.bind, Wp.ok]; exact h
theorem w_notN {a : Tm} (h : Wp ((ev gcL C a).e env) (fun x e => Ko (.bool (!isNone x)) e) Kx) : Wp ((ev gcL C (.notN a)).e env) Ko Kx := by
  simp only [ev, Den.ofE, Wp.bind, Wp.ok]; exact h
theorem w_and {a b : Tm} (h : Wp ((ev gcL C a).e env) (fun x e => ∃ k, x = .bool k ∧ (k = true → Wp ((ev gcL C b).e e) Ko Kx) ∧ (k = false → Ko (.bool false) e)) Kx) : Wp ((ev gcL C (.and a b)).e env) Ko Kx := by
  simp only [ev, Den.ofE, Wp.bind, Wp.opt]
  refine h.mono (fun x e ⟨k, h1, h2, h3⟩ => ⟨k, by subst h1; rfl, ?_⟩) fun _ _ h => h
  cases k with
  | true => exact h2 rfl
  | false => exact h3 rfl
theorem w_or {a b : Tm} (h : Wp ((ev gcL C a).e env) (fun x e => ∃ k, x = .bool k ∧ (k = false → Wp ((ev gcL C b).e e) Ko Kx) ∧ (k = true → Ko (.bool true) e)) Kx) : Wp ((ev gcL C (.or a b)).e env) Ko Kx := by
  simp only [ev, Den.ofE, Wp.bind, Wp.opt]
  refine h.mono (fun x e ⟨k, h1, h2, h3⟩ => ⟨k, by subst h1; rfl, ?_⟩) fun _ _ h => h
  cases k with
  | true => exact h3 rfl
  | false => exact h2 rfl
theorem w_not {a : Tm} (h : Wp ((ev gcL C a).e env) (fun x e => ∃ k, truD x = some k ∧ Ko (.bool (!k)) e) Kx) : Wp ((ev gcL C (.not a)).e env) Ko Kx := by
  simp only [ev, Den.ofE, Wp.bind, Wp.opt, Wp.ok]; exact h
theorem w_ite {t a b : Tm} (h : Wp ((ev gcL C t).t env) (fun k e => (k = true → Wp ((ev gcL C a).e e) Ko Kx) ∧ (k = false → Wp ((ev gcL C b).e e) Ko Kx)) Kx) : Wp ((ev gcL C (.ite t a b)).e env) Ko Kx := by
  simp only [ev, Den.ofE, Wp.bind]
  refine h.mono (fun k e h => ?_) fun _ _ h => h
  cases k with
  | true => exact h.1 rfl
  | false => exact h.2 rfl
theorem w_idx {a b : Tm} (h : Wp ((ev gcL C a).e env) (fun x e => Wp ((ev gcL C b).e e) (fun y e => ∃ z, idxD x y = some z ∧ Ko z e) Kx) Kx) : Wp ((ev gcL C (.idx a b)).e env) Ko Kx := by
  simp only [ev, Den.ofE, Wp.bind, Wp.opt]; exact h
theorem w_slc {a lo hi : Tm} (h : Wp ((ev gcL C a).e env) (fun x e => Wp ((ev gcL C lo).e e) (fun l e => ∃ o, optP lo l = some o ∧ Wp ((ev gcL C hi).e e) (fun u e => ∃ o', optP hi u = some o' ∧ ∃ z, slcD x o o' = some z ∧ Ko z e) Kx) Kx) Kx) : Wp ((ev gcL C (.slc a lo hi)).e env) Ko Kx := by
  simp only [ev, Den.ofE, Wp.bind, Wp.opt]; exact h
theorem w_bi {b : Bi} {as : Tm} (h : Wp ((ev gcL C as).a env) (fun ss e => ∃ ds, dsOf ss = some ds ∧ ∃ z, biD b ds = some z ∧ Ko z e) Kx) : Wp ((ev gcL C (.bi b as)).e env) Ko Kx := by
  simp only [ev, Den.ofE, Wp.bind, Wp.opt]
  exact h.mono (fun ss e ⟨ds, h1, z, h2, h3⟩ => ⟨z, by rw [h1]; exact h2, h3⟩) fun _ _ h => h
theorem w_isi {a : Tm} {ts : List Ty} (h : Wp ((ev gcL C a).e env) (fun x e => Ko (.bool (ts.any fun t => isiD t x)) e) Kx) : Wp ((ev gcL C (.isi a ts)).e env) Ko Kx := by
  simp only [ev, Den.ofE, Wp.bind, Wp.ok]; exact h
theorem w_me {m : Me} {o a : Tm} (h : Wp ((ev gcL C o).e env) (fun x e => ∃ s, strOf x = some s ∧ Wp ((ev gcL C a).e e) (fun y e => ∃ z, meD m (.str s) [y] = some z ∧ Ko z e) Kx) Kx) : Wp ((ev gcL C (.me m o a)).e env) Ko Kx := by
  simp only [ev, Den.ofE, Wp.bind, Wp.opt]; exact h
theorem w_call {f : Nat} {as : Tm} (h : Wp ((ev gcL C as).a env) (fun ss e => Wp (callE C f as ss e) (fun r e => ∃ d, r = .d d ∧ Ko d e) Kx) Kx) : Wp ((ev gcL C (.call f as)).e env) Ko Kx := by
  simp only [ev, Den.ofE, Wp.bind, retD, Wp.opt]
  exact h.mono (fun ss e h => h.mono (fun r e ⟨d, h1, h2⟩ => ⟨d, by subst h1; rfl, h2⟩) fun _ _ h => h) fun _ _ h => h
theorem w_dg {i : Nat} {k : Str} {d : D} (h : ((slM env[i]?).bind fun m => dGet m k) = some d) (q : Ko d env) : Wp ((ev gcL C (.dg i k)).e env) Ko Kx := by
  simp only [ev, Den.ofE, Wp.opt]
  exact ⟨d, h, q⟩
theorem w_dnw {Ko : M → Env → Prop} (h : Ko (.fd []) env) : Wp ((ev gcL C .dnw).m env) Ko Kx := h
theorem w_slv {i : Nat} {lo hi : Tm} {m0 : M} (h0 : env[i]? = some (.m m0)) (h : Wp ((ev gcL C lo).e env) (fun l e => ∃ o, optP lo l = some o ∧ Wp ((ev gcL C hi).e e) (fun u e => ∃ o', optP hi u = some o' ∧ ∃ ds, e[i]? = some (.m (.fl ds)) ∧ Ko (.list (cutL ds o o')) e) Kx) Kx) : Wp ((ev gcL C (.slv i lo hi)).e env) Ko Kx := by
  simp only [ev, Den.ofE, Wp.bind, Wp.opt]
  refine ⟨m0, by rw [h0]; rfl, h.mono (fun l e ⟨o, h1, h2⟩ => ⟨o, h1, h2.mono (fun u e ⟨o', h3, ds, h4, h5⟩ => ⟨o', h3, _, by rw [h4]; rfl, h5⟩) fun _ _ h => h⟩) fun _ _ h => h⟩
theorem w_dgt {i : Nat} {a : Tm} {ws : List (List Int × D)} (h0 : tdOf env[i]? = some ws) (h : Wp ((ev gcL C a).e env) (fun x e => ∃ ws, tdOf e[i]? = some ws ∧ ∃ k, tupOf x = some k ∧ ∃ d, tdGet ws k = some d ∧ Ko d e) Kx) : Wp ((ev gcL C (.dgt i a)).e env) Ko Kx := by
  simp only [ev, Den.ofE, Wp.bind, Wp.opt]
  exact ⟨ws, h0, h.mono (fun x e ⟨ws, h1, k, h2, d, h3, h4⟩ => ⟨d, by rw [h1, Option.bind_some, h2, Option.bind_some, h3], h4⟩) fun _ _ h => h⟩
theorem w_dpt {Ko : M → Env → Prop} {a : Tm} (h : Wp ((ev gcL C a).m env) (fun m e => ∃ z, dPrs m = some z ∧ Ko z e) Kx) : Wp ((ev gcL C (.dpt a)).m env) Ko Kx := by
  simp only [ev, Den.ofM, Wp.bind, Wp.opt]; exact h
theorem w_dgv {i : Nat} {a : Tm} {ws : List (L2.Key × D)} (h0 : fdOf env[i]? = some ws) (h : Wp ((ev gcL C a).e env) (fun x e => ∃ ws, fdOf e[i]? = some ws ∧ ∃ k, keyD x = some k ∧ ∃ d, getD ws k = some d ∧ Ko d e) Kx) : Wp ((ev gcL C (.dgv i a)).e env) Ko Kx := by
  simp only [ev, Den.ofE, Wp.bind, Wp.opt]
  exact ⟨ws, h0, h.mono (fun x e ⟨ws, h1, k, h2, d, h3, h4⟩ => ⟨d, by rw [h1, Option.bind_some, h2, Option.bind_some, h3], h4⟩) fun _ _ h => h⟩
theorem w_din {i : Nat} {a : Tm} (h : Wp ((ev gcL C a).e env) (fun x e => ∃ ws, fdOf e[i]? = some ws ∧ ∃ k, keyD x = some k ∧ Ko (.bool (ws.any fun kv => decide (kv.1 = k))) e) Kx) : Wp ((ev gcL C (.din i a)).e env) Ko Kx := by
  simp only [ev, Den.ofE, Wp.bind, Wp.opt]
  exact h.mono (fun x e ⟨ws, h1, k, h2, h3⟩ => ⟨_, by rw [h1, Option.bind_some, h2]; rfl, h3⟩) fun _ _ h => h
theorem w_dinT {Ko : Bool → Env → Prop} {i : Nat} {a : Tm} (h : Wp ((ev gcL C a).e env) (fun x e => ∃ ws, fdOf e[i]? = some ws ∧ ∃ k, keyD x = some k ∧ Ko (ws.any fun kv => decide (kv.1 = k)) e) Kx) : Wp ((ev gcL C (.din i a)).t env) Ko Kx := by
  simp only [ev, Den.ofE, Wp.bind, Wp.opt]
  exact h.mono (fun x e ⟨ws, h1, k, h2, h3⟩ => ⟨_, by rw [h1, Option.bind_some, h2]; rfl, _, rfl, h3⟩) fun _ _ h => h
theorem w_dcp {Ko : M → Env → Prop} {i : Nat} {a : Tm} {ws : List (L2.Key × D)} (h0 : fdOf env[i]? = some ws) (h : Wp ((ev gcL C a).m env) (fun m e => ∃ z, dCopy ws m = some z ∧ Ko z e) Kx) : Wp ((ev gcL C (.dcp i a)).m env) Ko Kx := by
  simp only [ev, Den.ofM, Wp.bind, Wp.opt]
  exact ⟨ws, h0, h⟩
theorem w_srs {a : Tm} (h : Wp ((ev gcL C a).e env) (fun x e => ∃ z, srsD x = some z ∧ Ko z e) Kx) : Wp ((ev gcL C (.srs a)).e env) Ko Kx := by
  simp only [ev, Den.ofE, Wp.bind, Wp.opt]; exact h
theorem w_rtup {a : Tm} (h : Wp ((ev gcL C a).e env) (fun x e => ∃ ds, rngD x = some ds ∧ Ko (.tuple ds) e) Kx) : Wp ((ev gcL C (.rtup a)).e env) Ko Kx := by
  simp only [ev, Den.ofE, Wp.bind, Wp.opt]
  exact h.mono (fun x e ⟨ds, h1, h2⟩ => ⟨_, by rw [h1]; rfl, h2⟩) fun _ _ h => h
theorem w_callP {f : Nat} {as ks : Tm} {q : List Nat} (h : Wp ((ev gcL C as).a env) (fun ss e => Wp ((ev gcL C ks).a e) (fun kz e => Wp (callE C f (appA ks as) (ss ++ permL kz (pmOf q ss.length)) e) (fun r e => ∃ d, r = .d d ∧ Ko d e) Kx) Kx) Kx) : Wp ((ev gcL C (.callP f as ks q)).e env) Ko Kx := by
  simp only [ev, Den.ofE, Wp.bind, retD, Wp.opt]
  exact h.mono (fun ss e h => h.mono (fun kz e h => h.mono (fun r e ⟨d, h1, h2⟩ => ⟨d, by subst h1; rfl, h2⟩) fun _ _ h => h) fun _ _ h => h) fun _ _ h => h
theorem w_rev {a : Tm} (h : Wp ((ev gcL C a).e env) (fun x e => ∃ z, revD x = some z ∧ Ko z e) Kx) : Wp ((ev gcL C (.rev a)).e env) Ko Kx := by
  simp only [ev, Den.ofE, Wp.bind, Wp.opt]; exact h
theorem w_callK {f : Nat} {as ks : Tm} (h : Wp ((ev gcL C as).a env) (fun ss e => Wp ((ev gcL C ks).a e) (fun kz e => Wp (callE C f (appA ks as) (ss ++ kz) e) (fun r e => ∃ d, r = .d d ∧ Ko d e) Kx) Kx) Kx) : Wp ((ev gcL C (.callK f as ks)).e env) Ko Kx := by
  simp only [ev, Den.ofE, Wp.bind, retD, Wp.opt]
  exact h.mono (fun ss e h => h.mono (fun kz e h => h.mono (fun r e ⟨d, h1, h2⟩ => ⟨d, by subst h1; rfl, h2⟩) fun _ _ h => h) fun _ _ h => h) fun _ _ h => h
/-- an owned thing read as plain -/
theorem w_eM {x : Tm} (hd : (ev gcL C x).e = (Den.ofM (ev gcL C x).m).e) (h : Wp ((ev gcL C x).m env) (fun m e => ∃ d, m.frz = some d ∧ Ko d e) Kx) : Wp ((ev gcL C x).e env) Ko Kx := by
  rw [hd]; simp only [Den.ofM, Wp.bind, Wp.opt]; exact h
end
section
variable {Ko : M → Env → Prop}
theorem w_mE {x : Tm} (hd : (ev gcL C x).m = (Den.ofE (ev gcL C x).e).m) (h : Wp ((ev gcL C x).e env) (fun d e => Ko (.p d) e) Kx) : Wp ((ev gcL C x).m env) Ko Kx := by
  rw [hd]; simp only [Den.ofE, Wp.bind, Wp.ok]; exact h
theorem w_mv {i : Nat} {m : M} (h : env[i]? = some (.m m)) (k : Ko m (env.set i .un)) : Wp ((ev gcL C (.mv i)).m env) Ko Kx := by
  simp only [ev, Den.ofM, Wp.bind, Wp.opt, Wp.ok]; rw [h]; exact ⟨m, rfl, k⟩
theorem w_lstM {as : Tm} (h : Wp ((ev gcL C as).a env) (fun ss e => ∃ ds, dsOf ss = some ds ∧ ds.length ≤ 1000000 ∧ Ko (.fl ds) e) Kx) : Wp ((ev gcL C (.lst as)).m env) Ko Kx := by
  simp only [ev, Den.ofM, Wp.bind, Wp.opt]
  refine h.mono (fun ss e ⟨ds, h1, h2, h3⟩ => ⟨.fl ds, ?_, h3⟩) fun _ _ h => h
  rw [h1]; exact if_pos h2
theorem w_nst {as : Tm} (h : Wp ((ev gcL C as).a env) (fun ss e => ∃ ms, msOf ss = some ms ∧ ms.length ≤ 1000000 ∧ Ko (.ls ms) e) Kx) : Wp ((ev gcL C (.nst as)).m env) Ko Kx := by
  simp only [ev, Den.ofM, Wp.bind, Wp.opt]
  refine h.mono (fun ss e ⟨ds, h1, h2, h3⟩ => ⟨.ls ds, ?_, h3⟩) fun _ _ h => h
  rw [h1]; exact if_pos h2
theorem w_dct {ks : List Str} {vs : Tm} (h : Wp ((ev gcL C vs).a env) (fun ss e => ∃ ds, dsOf ss = some ds ∧ ∃ m, dNew ks ds = some m ∧ Ko m e) Kx) : Wp ((ev gcL C (.dct ks vs)).m env) Ko Kx := by
  simp only [ev, Den.ofM, Wp.bind, Wp.opt]
  exact h.mono (fun x e ⟨ds, h1, m, h2, h3⟩ => ⟨m, by rw [h1]; exact h2, h3⟩) fun _ _ h => h
theorem w_rlst {a : Tm} (h : Wp ((ev gcL C a).e env) (fun x e => ∃ ds, rngD x = some ds ∧ Ko (.fl ds) e) Kx) : Wp ((ev gcL C (.rlst a)).m env) Ko Kx := by
  simp only [ev, Den.ofM, Wp.bind, Wp.opt]
  exact h.mono (fun x e ⟨ds, h1, h2⟩ => ⟨_, by rw [h1]; rfl, h2⟩) fun _ _ h => h
theorem w_revm {a : Tm} (h : Wp ((ev gcL C a).e env) (fun x e => ∃ xs, x = .list xs ∧ Ko (.fl xs.reverse) e) Kx) : Wp ((ev gcL C (.revm a)).m env) Ko Kx := by
  simp only [ev, Den.ofM, Wp.bind, Wp.opt]
  exact h.mono (fun x e ⟨xs, h1, h2⟩ => ⟨_, by rw [h1], h2⟩) fun _ _ h => h
theorem w_rep {a b : Tm} (h : Wp ((ev gcL C a).m env) (fun m e => Wp ((ev gcL C b).e e) (fun x e => ∃ z, repM m x = some z ∧ Ko z e) Kx) Kx) : Wp ((ev gcL C (.rep a b)).m env) Ko Kx := by
  simp only [ev, Den.ofM, Wp.bind, Wp.opt]; exact h
theorem w_slm {a lo hi : Tm} (h : Wp ((ev gcL C a).e env) (fun x e => Wp ((ev gcL C lo).e e) (fun l e => ∃ o, optP lo l = some o ∧ Wp ((ev gcL C hi).e e) (fun u e => ∃ o', optP hi u = some o' ∧ ∃ xs, x = .list xs ∧ Ko (.fl (cutL xs o o')) e) Kx) Kx) Kx) : Wp ((ev gcL C (.slm a lo hi)).m env) Ko Kx := by
  simp only [ev, Den.ofM, Wp.bind, Wp.opt]
  exact h.mono (fun x e h => h.mono (fun l e ⟨o, h1, h⟩ => ⟨o, h1, h.mono (fun u e ⟨o', h2, xs, h3, h4⟩ => ⟨o', h2, _, by subst h3; rfl, h4⟩) fun _ _ h => h⟩) fun _ _ h => h) fun _ _ h => h
theorem w_callM {f : Nat} {as : Tm} (h : Wp ((ev gcL C as).a env) (fun ss e => Wp (callE C f as ss e) (fun r e => ∃ m, r = .m m ∧ Ko m e) Kx) Kx) : Wp ((ev gcL C (.call f as)).m env) Ko Kx := by
  simp only [ev, Wp.bind]
  exact h.mono (fun ss e h => h.mono (fun r e ⟨d, h1, h2⟩ => by subst h1; exact h2) fun _ _ h => h) fun _ _ h => h
theorem w_comp {own : List Nat} {g : G} {it t x : Tm} (h : Wp ((ev gcL C it).i env) (fun ds e => ds.length ≤ 1000000 ∧ Wp (noex (compL (turnC own g (ev gcL C t).t (ev gcL C x).e) ds e)) (fun r e' => Ko (.fl r) (back own e e')) Kx) Kx) : Wp ((ev gcL C (.comp own g it t x)).m env) Ko Kx := by
  simp only [ev, Den.ofM, Wp.bind]
  refine h.mono (fun ds e ⟨h1, h2⟩ => ?_) fun _ _ h => h
  rw [if_pos h1]
  simp only [Wp.bind, Wp.ok]; exact h2
theorem w_lof {a : Tm} (h : Wp ((ev gcL C a).e env) (fun x e => ∃ ds, itemsD x = some ds ∧ Ko (.fl ds) e) Kx) : Wp ((ev gcL C (.lof a)).m env) Ko Kx := by
  simp only [ev, Den.ofM, Wp.bind, Wp.opt]
  exact h.mono (fun x e ⟨ds, h1, h2⟩ => ⟨_, by rw [h1]; rfl, h2⟩) fun _ _ h => h
theorem w_cat {a b : Tm} (h : Wp ((ev gcL C a).m env) (fun x e => Wp ((ev gcL C b).m e) (fun y e => ∃ xs ys, x = .fl xs ∧ y = .fl ys ∧ xs.length + ys.length ≤ 1000000 ∧ Ko (.fl (xs ++ ys)) e) Kx) Kx) : Wp ((ev gcL C (.cat a b)).m env) Ko Kx := by
  simp only [ev, Den.ofM, Wp.bind, Wp.opt]
  exact h.mono (fun x e h => h.mono (fun y e ⟨xs, ys, h1, h2, h3, h4⟩ => ⟨_, by subst h1 h2; exact if_pos h3, h4⟩) fun _ _ h => h) fun _ _ h => h
theorem w_pop {p : Pl} (h : ∃ m m' x env', getP p env = some m ∧ popM m = some (m', x) ∧ setP p env m' = some env' ∧ Ko x env') : Wp ((ev gcL C (.pop p)).m env) Ko Kx := by
  obtain ⟨m, m', x, env', h1, h2, h3, h4⟩ := h
  simp only [ev, Den.ofM, Wp.bind, Wp.opt, Wp.ok, h1, Option.bind_some, h2]
  exact ⟨_, rfl, env', h3, h4⟩
theorem w_popAt {p : Pl} {a : Tm} {m0 : M} {u : Unit} (h0 : (getP p env).bind M.isL = some u) (h : Wp ((ev gcL C a).e env) (fun x e => ∃ m i m' y env', x = .int i ∧ getP p e = some m ∧ popMAt m i = some (m', y) ∧ setP p e m' = some env' ∧ Ko y env') Kx) : Wp ((ev gcL C (.popAt p a)).m env) Ko Kx := by
  simp only [ev, Den.ofM, Wp.bind, Wp.opt, Wp.ok]
  refine ⟨u, h0, h.mono (fun x e ⟨m, i, m', y, env', h1, h2, h3, h4, h5⟩ => ⟨(m', y), ?_, env', h4, h5⟩) fun _ _ h => h⟩
  subst h1
  simp only [h2, Option.bind_some, dInt, h3]
end
section
variable {Ko : List Sl → Env → Prop}
theorem w_nil (k : Ko [] env) : Wp ((ev gcL C .nil).a env) Ko Kx := k
theorem w_cons {a b : Tm} (hn : notAm a = true) (h : Wp ((ev gcL C a).e env) (fun d e => Wp ((ev gcL C b).a e) (fun r e => Ko (.d d :: r) e) Kx) Kx) : Wp ((ev gcL C (.cons a b)).a env) Ko Kx := by
  rw [show (ev gcL C (.cons a b)).a = fun env => ((ev gcL C a).e env).bind fun d env => ((ev gcL C b).a env).bind fun r env => .ok (.d d :: r) env by cases a <;> first | rfl | cases hn]
  simp only [Wp.bind, Wp.ok]; exact h
theorem w_am {i : Nat} {b : Tm} {m : M} (h : env[i]? = some (.m m)) (k : Wp ((ev gcL C b).a env) (fun r e => Ko (.un :: r) e) Kx) : Wp ((ev gcL C (.cons (.am (.v i)) b)).a env) Ko Kx := by
  show Wp ((R.opt (getP (.v i) env) env).bind fun _ env => ((ev gcL C b).a env).bind fun r env => .ok (.un :: r) env) Ko Kx
  simp only [getP, h, slM, R.opt, R.bind_ok, Wp.bind, Wp.ok]; exact k
theorem w_at {a b : Tm} (h : Wp ((ev gcL C a).m env) (fun m e => Wp ((ev gcL C b).a e) (fun r e => Ko (.m m :: r) e) Kx) Kx) : Wp ((ev gcL C (.cons (.at a) b)).a env) Ko Kx := by
  show Wp (((ev gcL C a).m env).bind fun m env => ((ev gcL C b).a env).bind fun r env => .ok (.m m :: r) env) Ko Kx
  simp only [Wp.bind, Wp.ok]; exact h
end
section
variable {Ko : List D → Env → Prop}
theorem w_rng1 {a : Tm} (h : Wp ((ev gcL C a).e env) (fun x e => ∃ n, x = .int n ∧ small62 n = true ∧ Ko (rangeD 0 n) e) Kx) : Wp ((ev gcL C (.rng1 a)).i env) Ko Kx := by
  simp only [ev, Den.ofI, Wp.bind, Wp.opt]
  refine h.mono (fun x e ⟨n, h1, h2, h3⟩ => ⟨_, ?_, h3⟩) fun _ _ h => h
  subst h1; simp [dInt, h2]
theorem w_rng2 {a b : Tm} (h : Wp ((ev gcL C a).e env) (fun x e => Wp ((ev gcL C b).e e) (fun y e => ∃ m n, x = .int m ∧ y = .int n ∧ small62 m = true ∧ small62 n = true ∧ Ko (rangeD m n) e) Kx) Kx) : Wp ((ev gcL C (.rng2 a b)).i env) Ko Kx := by
  simp only [ev, Den.ofI, Wp.bind, Wp.opt]
  refine h.mono (fun x e h => h.mono (fun y e ⟨m, n, h1, h2, h3, h4, h5⟩ => ⟨_, ?_, h5⟩) fun _ _ h => h) fun _ _ h => h
  subst h1 h2; simp [dInt, h3, h4]
theorem w_enum {a : Tm} (h : Wp ((ev gcL C a).e env) (fun x e => ∃ ds, itemsD x = some ds ∧ Ko (enumD ds) e) Kx) : Wp ((ev gcL C (.enum a)).i env) Ko Kx := by
  simp only [ev, Den.ofI, Wp.bind, Wp.opt]
  exact h.mono (fun x e ⟨ds, h1, h2⟩ => ⟨_, by rw [h1]; rfl, h2⟩) fun _ _ h => h
theorem w_zipT {a b : Tm} (h : Wp ((ev gcL C a).e env) (fun x e => Wp ((ev gcL C b).e e) (fun y e => ∃ xs ys, x = .tuple xs ∧ y = .tuple ys ∧ Ko (zipD xs ys) e) Kx) Kx) : Wp ((ev gcL C (.zip a b)).i env) Ko Kx := by
  simp only [ev, Den.ofI, Wp.bind, Wp.opt]
  exact h.mono (fun x e h => h.mono (fun y e ⟨xs, ys, h1, h2, h3⟩ => ⟨_, by subst h1 h2; rfl, h3⟩) fun _ _ h => h) fun _ _ h => h
theorem w_zipM {a b : Tm} (h : Wp ((ev gcL C a).e env) (fun x e => Wp ((ev gcL C b).e e) (fun y e => ∃ xs ys, x = .tuple xs ∧ y = .list ys ∧ Ko (zipD xs ys) e) Kx) Kx) : Wp ((ev gcL C (.zip a b)).i env) Ko Kx := by
  simp only [ev, Den.ofI, Wp.bind, Wp.opt]
  exact h.mono (fun x e h => h.mono (fun y e ⟨xs, ys, h1, h2, h3⟩ => ⟨_, by subst h1 h2; rfl, h3⟩) fun _ _ h => h) fun _ _ h => h
theorem w_zipL {a b : Tm} (h : Wp ((ev gcL C a).e env) (fun x e => Wp ((ev gcL C b).e e) (fun y e => ∃ xs ys, x = .list xs ∧ y = .list ys ∧ Ko (zipD xs ys) e) Kx) Kx) : Wp ((ev gcL C (.zip a b)).i env) Ko Kx := by
  simp only [ev, Den.ofI, Wp.bind, Wp.opt]
  exact h.mono (fun x e h => h.mono (fun y e ⟨xs, ys, h1, h2, h3⟩ => ⟨_, by subst h1 h2; rfl, h3⟩) fun _ _ h => h) fun _ _ h => h
theorem w_it {x : Tm} (hd : (ev gcL C x).i = (Den.ofE (ev gcL C x).e).i) (h : Wp ((ev gcL C x).e env) (fun d e => ∃ ds, itemsD d = some ds ∧ Ko ds e) Kx) : Wp ((ev gcL C x).i env) Ko Kx := by
  rw [hd]; simp only [Den.ofE, Wp.bind, Wp.opt]; exact h
end
section
variable {Ko : Bool → Env → Prop}
theorem w_t {x : Tm} (hd : (ev gcL C x).t = (Den.ofE (ev gcL C x).e).t) (h : Wp ((ev gcL C x).e env) (fun d e => ∃ k, truD d = some k ∧ Ko k e) Kx) : Wp ((ev gcL C x).t env) Ko Kx := by
  rw [hd]; simp only [Den.ofE, Wp.bind, Wp.opt]; exact h
theorem w_blT {b : Bool} (k : Ko b env) : Wp ((ev gcL C (.bl b)).t env) Ko Kx := k
theorem w_cmpT {o : Cop} {a b : Tm} (h : Wp ((ev gcL C a).e env) (fun x e => Wp ((ev gcL C b).e e) (fun y e => ∃ z, cmpD o x y = some z ∧ Ko z e) Kx) Kx) : Wp ((ev gcL C (.cmp o a b)).t env) Ko Kx :=
  w_t rfl (w_cmp (h.mono (fun x e h => h.mono (fun y e ⟨z, h1, h2⟩ => ⟨z, h1, z, rfl, h2⟩) fun _ _ h => h) fun _ _ h => h))
theorem w_isiT {a : Tm} {ts : List Ty} (h : Wp ((ev gcL C a).e env) (fun x e => Ko (ts.any fun t => isiD t x) e) Kx) : Wp ((ev gcL C (.isi a ts)).t env) Ko Kx :=
  w_t rfl (w_isi (h.mono (fun x e h => ⟨_, rfl, h⟩) fun _ _ h => h))
theorem w_isNT {a : Tm} (h : Wp ((ev gcL C a).e env) (fun x e => Ko (isNone x) e) Kx) : Wp ((ev gcL C (.isN a)).t env) Ko Kx :=
  w_t rfl (w_isN (h.mono (fun x e h => ⟨_, rfl, h⟩) fun _ _ h => h))
theorem w_notNT {a : Tm} (h : Wp ((ev gcL C a).e env) (fun x e => Ko (!isNone x) e) Kx) : Wp ((ev gcL C (.notN a)).t env) Ko Kx :=
  w_t rfl (w_notN (h.mono (fun x e h => ⟨_, rfl, h⟩) fun _ _ h => h))
theorem w_notT {a : Tm} (h : Wp ((ev gcL C a).t env) (fun k e => Ko (!k) e) Kx) : Wp ((ev gcL C (.not a)).t env) Ko Kx := by
  simp only [ev, Wp.bind, Wp.ok]; exact h
theorem w_andT {a b : Tm} (h : Wp ((ev gcL C a).t env) (fun k e => (k = true → Wp ((ev gcL C b).t e) Ko Kx) ∧ (k = false → Ko false e)) Kx) : Wp ((ev gcL C (.and a b)).t env) Ko Kx := by
  simp only [ev, Wp.bind]
  refine h.mono (fun k e h => ?_) fun _ _ h => h
  cases k with
  | true => exact h.1 rfl
  | false => exact h.2 rfl
theorem w_orT {a b : Tm} (h : Wp ((ev gcL C a).t env) (fun k e => (k = true → Ko true e) ∧ (k = false → Wp ((ev gcL C b).t e) Ko Kx)) Kx) : Wp ((ev gcL C (.or a b)).t env) Ko Kx := by
  simp only [ev, Wp.bind]
  refine h.mono (fun k e h => ?_) fun _ _ h => h
  cases k with
  | true => exact h.1 rfl
  | false => exact h.2 rfl
end
theorem k_t {A B : Prop} (a : A) : (true = true → A) ∧ (true = false → B) := ⟨fun _ => a, fun h => nomatch h⟩
theorem k_f {A B : Prop} (b : B) : (false = true → A) ∧ (false = false → B) := ⟨(fun h => nomatch h), fun _ => b⟩
theorem k_tn {A B : Prop} (a : A) : ((!false) = true → A) ∧ ((!false) = false → B) := k_t a
theorem k_fn {A B : Prop} (b : B) : ((!true) = true → A) ∧ ((!true) = false → B) := k_f b
theorem k_t' {A B : Prop} (a : A) : (true = false → B) ∧ (true = true → A) := ⟨(fun h => nomatch h), fun _ => a⟩
theorem k_f' {A B : Prop} (b : B) : (false = false → B) ∧ (false = true → A) := ⟨fun _ => b, fun h => nomatch h⟩
/-- one turn of a comprehension -/
theorem w_turn {own : List Nat} {g : G} {t f : Tm} {d : D} {Ko : Option D → Env → Prop} {env' : Env} (h1 : asgG g d (wipe env own) = some env') (h : Wp ((ev gcL C t).t env') (fun k e => (k = true → Wp ((ev gcL C f).e e) (fun y e => Ko (some y) e) Kx) ∧ (k = false → Ko none e)) Kx) :
    Wp (turnC own g (ev gcL C t).t (ev gcL C f).e d env) Ko Kx := by
  unfold turnC
  rw [h1]
  simp only [R.opt, R.bind_ok, Wp.bind]
  refine h.mono (fun k e h => ?_) fun _ _ h => h
  cases k with
  | true => simp only [if_true, Wp.bind, Wp.ok]; exact h.1 rfl
  | false => exact h.2 rfl
/-! statements -/
def Ks (n : Env → Prop) (Ko : Flow → Env → Prop) : Flow → Env → Prop
  | .nx, e => n e
  | w, e => Ko w e
section
variable {Ko : Flow → Env → Prop}
theorem ks_nx {n : Env → Prop} (h : n env) : Ks n Ko .nx env := h
theorem ks_rt {n : Env → Prop} {r : Sl} (h : Ko (.rt r) env) : Ks n Ko (.rt r) env := h
theorem ks_bk {n : Env → Prop} (h : Ko .bk env) : Ks n Ko .bk env := h
theorem ks_ct {n : Env → Prop} (h : Ko .ct env) : Ks n Ko .ct env := h
theorem s_skip (k : Ko .nx env) : Wp (evS gcL C .skip env) Ko Kx := k
theorem s_seq {a b : S} (h : Wp (evS gcL C a env) (Ks (fun e => Wp (evS gcL C b e) Ko Kx) Ko) Kx) : Wp (evS gcL C (.seq a b) env) Ko Kx := by
  simp only [evS, Wp.bind]
  refine h.mono (fun w e h => ?_) fun _ _ h => h
  cases w <;> exact h
theorem s_ret {x : Tm} (h : Wp ((ev gcL C x).e env) (fun d e => Ko (.rt (.d d)) e) Kx) : Wp (evS gcL C (.ret x) env) Ko Kx := by simp only [evS, Wp.bind, Wp.ok]; exact h
theorem s_retM {x : Tm} (h : Wp ((ev gcL C x).m env) (fun d e => Ko (.rt (.m d)) e) Kx) : Wp (evS gcL C (.retM x) env) Ko Kx := by simp only [evS, Wp.bind, Wp.ok]; exact h
theorem s_retN (k : Ko (.rt (.d .none)) env) : Wp (evS gcL C .retN env) Ko Kx := k
theorem s_expr {x : Tm} (h : Wp ((ev gcL C x).m env) (fun _ e => Ko .nx e) Kx) : Wp (evS gcL C (.expr x) env) Ko Kx := by simp only [evS, Wp.bind, Wp.ok]; exact h
theorem s_asg {i : Nat} {x : Tm} (h : Wp ((ev gcL C x).e env) (fun d e => ∃ e', e.set i (.d d) = e' ∧ Ko .nx e') Kx) : Wp (evS gcL C (.asg i x) env) Ko Kx := by
  simp only [evS, Wp.bind, Wp.ok]; exact h.mono (fun d e ⟨e', h1, h2⟩ => h1 ▸ h2) fun _ _ h => h
theorem s_asgM {i : Nat} {x : Tm} (h : Wp ((ev gcL C x).m env) (fun d e => ∃ e', e.set i (.m d) = e' ∧ Ko .nx e') Kx) : Wp (evS gcL C (.asgM i x) env) Ko Kx := by
  simp only [evS, Wp.bind, Wp.ok]; exact h.mono (fun d e ⟨e', h1, h2⟩ => h1 ▸ h2) fun _ _ h => h
theorem s_asgT {g : G} {x : Tm} (h : Wp ((ev gcL C x).e env) (fun d e => ∃ e', asgG g d e = some e' ∧ Ko .nx e') Kx) : Wp (evS gcL C (.asgT g x) env) Ko Kx := by
  simp only [evS, Wp.bind, Wp.opt, Wp.ok]; exact h
theorem s_par2 {i j : Nat} {a b : Tm} (h : Wp ((ev gcL C a).e env) (fun x e => Wp ((ev gcL C b).e e) (fun y e => ∃ e', (e.set i (.d x)).set j (.d y) = e' ∧ Ko .nx e') Kx) Kx) : Wp (evS gcL C (.par2 i j a b) env) Ko Kx := by
  simp only [evS, Wp.bind, Wp.ok]; exact h.mono (fun d e h => h.mono (fun _ _ ⟨e', h1, h2⟩ => h1 ▸ h2) fun _ _ h => h) fun _ _ h => h
theorem s_parA {ts : List Nat} {as : Tm} (h : Wp ((ev gcL C as).a env) (fun ss e => ∃ e', setS ts ss e = some e' ∧ Ko .nx e') Kx) : Wp (evS gcL C (.parA ts as) env) Ko Kx := by
  simp only [evS, Wp.bind, Wp.opt, Wp.ok]; exact h
theorem s_aug {i : Nat} {o : Bop} {x : Tm} {v : D} (hv : env[i]? = some (.d v)) (h : Wp ((ev gcL C x).e env) (fun d e => ∃ z, augBin o v d = some z ∧ ∃ e', e.set i (.d z) = e' ∧ Ko .nx e') Kx) : Wp (evS gcL C (.aug i o x) env) Ko Kx := by
  simp only [evS, Wp.bind, Wp.opt, Wp.ok, hv, slD]
  exact ⟨v, rfl, h.mono (fun d e ⟨z, h1, e', h2, h3⟩ => ⟨z, h1, h2 ▸ h3⟩) fun _ _ h => h⟩
theorem s_ife {t : Tm} {a b : S} (h : Wp ((ev gcL C t).t env) (fun k e => (k = true → Wp (evS gcL C a e) Ko Kx) ∧ (k = false → Wp (evS gcL C b e) Ko Kx)) Kx) : Wp (evS gcL C (.ife t a b) env) Ko Kx := by
  simp only [evS, Wp.bind]
  refine h.mono (fun k e h => ?_) fun _ _ h => h
  cases k with
  | true => exact h.1 rfl
  | false => exact h.2 rfl
theorem s_for {g : G} {it : Tm} {b : S} (h : Wp ((ev gcL C it).i env) (fun ds e => Wp (forL (fun d env => (R.opt (asgG g d env) env).bind fun env _ => evS gcL C b env) ds e) Ko Kx) Kx) : Wp (evS gcL C (.for_ g it b) env) Ko Kx := by
  simp only [evS, Wp.bind]; exact h
theorem s_turn {g : G} {b : S} {d : D} {env' : Env} (h1 : asgG g d env = some env') (h : Wp (evS gcL C b env') Ko Kx) : Wp ((R.opt (asgG g d env) env).bind fun env _ => evS gcL C b env) Ko Kx := by
  rw [h1]; exact h
theorem s_whl {n : Nat} {t : Tm} {b : S} (h : Wp (whlL (ev gcL C t).t (evS gcL C b) n env) Ko Kx) : Wp (evS gcL C (.whl n t b) env) Ko Kx := h
theorem s_brk (k : Ko .bk env) : Wp (evS gcL C .brk env) Ko Kx := k
theorem s_cnt (k : Ko .ct env) : Wp (evS gcL C .cnt env) Ko Kx := k
theorem s_frz {i : Nat} {m : M} {d : D} {env' : Env} (h1 : env[i]? = some (.m m)) (h2 : m.frz = some d) (h3 : env.set i (.d d) = env') (k : Ko .nx env') : Wp (evS gcL C (.frz i) env) Ko Kx := by
  simp only [evS, Wp.bind, Wp.opt, Wp.ok, h1, slM, Option.bind_some]
  exact ⟨d, h2, h3 ▸ k⟩
theorem wp_onP {p : Pl} {f : M → Option M} (h : ∃ m m' env', getP p env = some m ∧ f m = some m' ∧ setP p env m' = some env' ∧ Ko .nx env') : Wp (onP p f env) Ko Kx := by
  obtain ⟨m, m', env', h1, h2, h3, h4⟩ := h
  simp only [onP, Wp.bind, Wp.opt, Wp.ok, h1, Option.bind_some]
  exact ⟨m', h2, env', h3, h4⟩
theorem s_app {p : Pl} {x : Tm} {u : Unit} (h0 : (getP p env).bind M.isL = some u) (h : Wp ((ev gcL C x).e env) (fun d e => ∃ ds env', getP p e = some (.fl ds) ∧ ds.length < 1000000 ∧ setP p e (.fl (ds ++ [d])) = some env' ∧ Ko .nx env') Kx) : Wp (evS gcL C (.app p x) env) Ko Kx := by
  simp only [evS, Wp.bind, Wp.opt]
  exact ⟨u, h0, h.mono (fun d e ⟨ds, env', h1, h2, h3, h4⟩ => wp_onP ⟨_, _, env', h1, if_pos h2, h3, h4⟩) fun _ _ h => h⟩
theorem s_dset {i : Nat} {k : Str} {x : Tm} (h : Wp ((ev gcL C x).e env) (fun d e => ∃ m, ((slM e[i]?).bind fun m => dPut m k d) = some m ∧ ∃ e', e.set i (.m m) = e' ∧ Ko .nx e') Kx) : Wp (evS gcL C (.dset i k x) env) Ko Kx := by
  simp only [evS, Wp.bind, Wp.opt, Wp.ok]
  exact h.mono (fun d e ⟨m, h1, e', h2, h3⟩ => ⟨m, h1, h2 ▸ h3⟩) fun _ _ h => h
theorem s_ins {p : Pl} {i : Nat} {x : Tm} {u : Unit} (h0 : (getP p env).bind M.isL = some u) (h : Wp ((ev gcL C x).e env) (fun d e => ∃ ds env', getP p e = some (.fl ds) ∧ ds.length < 1000000 ∧ setP p e (.fl (ds.take i ++ [d] ++ ds.drop i)) = some env' ∧ Ko .nx env') Kx) : Wp (evS gcL C (.ins p i x) env) Ko Kx := by
  simp only [evS, Wp.bind, Wp.opt]
  exact ⟨u, h0, h.mono (fun d e ⟨ds, env', h1, h2, h3, h4⟩ => wp_onP ⟨_, _, env', h1, if_pos h2, h3, h4⟩) fun _ _ h => h⟩
theorem s_set {p : Pl} {i x : Tm} (h : Wp ((ev gcL C x).e env) (fun d e => ∃ u, (getP p e).bind M.isL = some u ∧ Wp ((ev gcL C i).e e) (fun k e => ∃ m m' env', getP p e = some m ∧ setItemM m k d = some m' ∧ setP p e m' = some env' ∧ Ko .nx env') Kx) Kx) : Wp (evS gcL C (.set p i x) env) Ko Kx := by
  simp only [evS, Wp.bind, Wp.opt]
  exact h.mono (fun d e ⟨u, h1, h⟩ => ⟨u, h1, h.mono (fun k e h => wp_onP h) fun _ _ h => h⟩) fun _ _ h => h
end
end
/-! operations on what is known -/
section
variable {Q : D → Prop}
theorem x_add {i j : Int} (k : Q (.int (i + j))) : ∃ z, binD .add (.int i) (.int j) = some z ∧ Q z := ⟨_, rfl, k⟩
theorem x_sub {i j : Int} (k : Q (.int (i - j))) : ∃ z, binD .sub (.int i) (.int j) = some z ∧ Q z := ⟨_, rfl, k⟩
theorem x_mul {i j : Int} (h : mulOk i j = true) (k : Q (.int (i * j))) : ∃ z, binD .mul (.int i) (.int j) = some z ∧ Q z := ⟨_, if_pos h, k⟩
theorem x_mod {i j : Int} (h : 0 < j) (k : Q (.int (i % j))) : ∃ z, binD .mod (.int i) (.int j) = some z ∧ Q z := ⟨_, if_pos h, k⟩
theorem x_fdv {i j : Int} (h : 0 < j ∧ j.natAbs.log2 < 9000) (k : Q (.int (i / j))) : ∃ z, binD .fdv (.int i) (.int j) = some z ∧ Q z := ⟨_, if_pos h, k⟩
theorem x_pow {i j : Int} (h : powOk i j = true) (k : Q (.int (i ^ j.toNat))) : ∃ z, binD .pow (.int i) (.int j) = some z ∧ Q z := ⟨_, if_pos h, k⟩
theorem x_str {i : Int} (h : i.natAbs.log2 < 1920) (k : Q (.str (toString i))) : ∃ z, biD .str [.int i] = some z ∧ Q z := ⟨_, if_pos h, k⟩
theorem x_adds {i j : Str} (h : i.length + j.length ≤ 1000000) (k : Q (.str (i ++ j))) : ∃ z, binD .add (.str i) (.str j) = some z ∧ Q z := ⟨_, if_pos h, k⟩
theorem x_addt {i j : List D} (h : i.length + j.length ≤ 1000000) (k : Q (.tuple (i ++ j))) : ∃ z, binD .add (.tuple i) (.tuple j) = some z ∧ Q z := ⟨_, if_pos h, k⟩
theorem x_addl {i j : List D} (h : i.length + j.length ≤ 1000000) (k : Q (.list (i ++ j))) : ∃ z, binD .add (.list i) (.list j) = some z ∧ Q z := ⟨_, if_pos h, k⟩
end
/-- a comprehension that takes each item by itself -/
theorem comp_map {α : Type} {C : Nat → List Sl → CR} {own : List Nat} {g : G} {x : Tm} {ls : List α} {toD F : α → D} {env : Env} {Ko : List D → Env → Prop} {Kx : Ex → Env → Prop} (Same : Env → Prop) (h0 : Same env)
    (step : ∀ y, y ∈ ls → ∀ e, Same e → Wp (turnC own g (ev gcL C (.bl true)).t (ev gcL C x).e (toD y) e) (fun o e' => o = some (F y) ∧ Same e') (fun _ _ => False)) (k : ∀ e', Same e' → Ko (ls.map F) e') :
    Wp (noex (compL (turnC own g (ev gcL C (.bl true)).t (ev gcL C x).e) (ls.map toD) env)) Ko Kx := by
  refine wp_comp (fun acc ds e => ∃ l1 l2, ls = l1 ++ l2 ∧ ds = l2.map toD ∧ acc = l1.map F ∧ Same e) ⟨[], ls, rfl, rfl, rfl, h0⟩ ?_ ?_
  · rintro acc e ⟨l1, l2, h1, h2, rfl, se⟩
    have : l2 = [] := by simpa using h2.symm
    subst this
    rw [List.append_nil] at h1; subst h1
    exact k e se
  · rintro acc d ds e ⟨l1, l2, h1, h2, rfl, se⟩
    cases l2 with
    | nil => simp at h2
    | cons y l2 =>
      simp only [List.map_cons, List.cons.injEq] at h2
      obtain ⟨rfl, rfl⟩ := h2
      refine (step y (by rw [h1]; simp) e se).mono (fun o e' ⟨ho, se'⟩ => ?_) fun _ _ h => h
      subst ho
      exact ⟨l1 ++ [y], l2, by rw [h1]; simp, rfl, by simp, se'⟩
/-- .. that takes some of the items -/
theorem comp_filt {α : Type} {C : Nat → List Sl → CR} {own : List Nat} {g : G} {t x : Tm} {ls : List α} {toD F : α → D} {p : α → Bool} {env : Env} {Ko : List D → Env → Prop} {Kx : Ex → Env → Prop} (Same : Env → Prop) (h0 : Same env)
    (step : ∀ y, y ∈ ls → ∀ e, Same e → Wp (turnC own g (ev gcL C t).t (ev gcL C x).e (toD y) e) (fun o e' => o = (if p y then some (F y) else none) ∧ Same e') (fun _ _ => False)) (k : ∀ e', Same e' → Ko ((ls.filter p).map F) e') :
    Wp (noex (compL (turnC own g (ev gcL C t).t (ev gcL C x).e) (ls.map toD) env)) Ko Kx := by
  refine wp_comp (fun acc ds e => ∃ l1 l2, ls = l1 ++ l2 ∧ ds = l2.map toD ∧ acc = (l1.filter p).map F ∧ Same e) ⟨[], ls, rfl, rfl, rfl, h0⟩ ?_ ?_
  · rintro acc e ⟨l1, l2, h1, h2, rfl, se⟩
    have : l2 = [] := by simpa using h2.symm
    subst this
    rw [List.append_nil] at h1; subst h1
    exact k e se
  · rintro acc d ds e ⟨l1, l2, h1, h2, rfl, se⟩
    cases l2 with
    | nil => simp at h2
    | cons y l2 =>
      simp only [List.map_cons, List.cons.injEq] at h2
      obtain ⟨rfl, rfl⟩ := h2
      refine (step y (by rw [h1]; simp) e se).mono (fun o e' ⟨ho, se'⟩ => ?_) fun _ _ h => h
      subst ho
      refine ⟨l1 ++ [y], l2, by rw [h1]; simp, rfl, ?_, se'⟩
      cases hp : p y <;> simp [List.filter_append, hp]
/-- numbered items -/
theorem enum_map {α : Type} (f : α → D) (l : List α) : enumD (l.map f) = l.zipIdx.map fun x => .tuple [.int (x.2 : Nat), f x.1] := by
  unfold enumD
  apply List.ext_getElem
  · simp
  · intro i h1 h2
    simp
theorem idx_mem {α : Type} {l : List α} {x : α × Nat} (h : x ∈ l.zipIdx) : x.1 ∈ l := by
  have := List.mem_map_of_mem (f := Prod.fst) h
  rwa [List.zipIdx_map_fst] at this
theorem idx_filter {α : Type} (p : α → Bool) (l : List α) : (l.zipIdx.filter fun x => p x.1).length = (l.filter p).length := by
  conv => rhs; rw [← List.zipIdx_map_fst 0 l]
  rw [List.filter_map, List.length_map]; rfl
/-- a loop that goes through, by what it folds -/
theorem for_fold {α β : Type} {f : D → Env → R Flow} {ls : List α} {toD : α → D} {env : Env} {Ko : Flow → Env → Prop} {Kx : Ex → Env → Prop} (St : β → Env → Prop) (up : β → α → β) (b0 : β) (h0 : St b0 env)
    (step : ∀ y, y ∈ ls → ∀ b e, St b e → Wp (f (toD y) e) (fun w e' => w = .nx ∧ St (up b y) e') (fun _ _ => False)) (k : ∀ e', St (ls.foldl up b0) e' → Ko .nx e') : Wp (forL f (ls.map toD) env) Ko Kx := by
  refine wp_for (fun ds e => ∃ l1 l2, ls = l1 ++ l2 ∧ ds = l2.map toD ∧ St (l1.foldl up b0) e) ?_ ?_ _ _ ⟨[], ls, rfl, rfl, h0⟩
  · rintro e ⟨l1, l2, h1, h2, se⟩
    have : l2 = [] := by simpa using h2.symm
    subst this
    rw [List.append_nil] at h1; subst h1
    exact k e se
  · rintro d ds e ⟨l1, l2, h1, h2, se⟩
    cases l2 with
    | nil => simp at h2
    | cons y l2 =>
      simp only [List.map_cons, List.cons.injEq] at h2
      obtain ⟨rfl, rfl⟩ := h2
      refine (step y (by rw [h1]; simp) _ e se).mono (fun w e' ⟨hw, se'⟩ => ?_) fun _ _ h => h.elim
      subst hw
      exact ⟨l1 ++ [y], l2, by rw [h1]; simp, rfl, by rw [List.foldl_append]; exact se'⟩
theorem idx_tup {xs : List D} {i : Int} (h0 : 0 ≤ i) (h1 : i < xs.length) : idxD (.tuple xs) (.int i) = xs[i.toNat]? := atI_nn h0 h1
theorem idx_lst {xs : List D} {i : Int} (h0 : 0 ≤ i) (h1 : i < xs.length) : idxD (.list xs) (.int i) = xs[i.toNat]? := atI_nn h0 h1
theorem strs_map (l : List Str) : strsD (l.map PyData.str) = some l := by
  induction l with
  | nil => rfl
  | cons a l ih => simp [strsD, ih]
theorem join_len (a : Str) (ys : List Str) : (Txt.join a ys).length ≤ (ys.map (·.length)).sum + ys.length * a.length := by
  show (Builtin.Str.glued a ys).length ≤ _
  rw [StrLaws.glued_eq_join]
  exact StrLaws.join_length_le a ys
theorem sum_le {B : Nat} : ∀ {ys : List Str}, (∀ y, y ∈ ys → y.length ≤ B) → (ys.map (·.length)).sum ≤ ys.length * B
  | [], _ => by simp
  | y :: ys, h => by
    have h1 := h y (by simp)
    have h2 := sum_le (ys := ys) fun z hz => h z (by simp [hz])
    simp only [List.map_cons, List.sum_cons, List.length_cons, Nat.succ_mul]
    omega
/-- join, of a list or a tuple of strs -/
theorem x_joinl {Q : D → Prop} {a : Str} {ys : List Str} (h : (ys.map (·.length)).sum + ys.length * a.length ≤ 1000000) (k : Q (.str (Txt.join a ys))) : ∃ z, meD .join (.str a) [.list (ys.map PyData.str)] = some z ∧ Q z :=
  ⟨_, by simp only [meD, strs_map, Option.bind_some]; exact if_pos h, k⟩
theorem x_joint {Q : D → Prop} {a : Str} {ys : List Str} (h : (ys.map (·.length)).sum + ys.length * a.length ≤ 1000000) (k : Q (.str (Txt.join a ys))) : ∃ z, meD .join (.str a) [.tuple (ys.map PyData.str)] = some z ∧ Q z :=
  ⟨_, by simp only [meD, strs_map, Option.bind_some]; exact if_pos h, k⟩
theorem join_nil (a : Str) : Txt.join a [] = Str.empty := rfl
theorem join_one (a x : Str) : Txt.join a [x] = x := by show Builtin.Str.glued a [x] = x; rw [StrLaws.glued_eq_join]; rfl
theorem join_cons (a x y : Str) (r : List Str) : Txt.join a (x :: y :: r) = x ++ a ++ Txt.join a (y :: r) := by
  show Builtin.Str.glued a (x :: y :: r) = x ++ a ++ Builtin.Str.glued a (y :: r)
  rw [StrLaws.glued_eq_join, StrLaws.glued_eq_join]; rfl
/-- a loop that goes through, by the items behind it -/
theorem for_pre {α : Type} {f : D → Env → R Flow} {ls : List α} {toD : α → D} {env : Env} {Ko : Flow → Env → Prop} {Kx : Ex → Env → Prop} (St : List α → Env → Prop) (h0 : St [] env)
    (step : ∀ l1 y l2, ls = l1 ++ y :: l2 → ∀ e, St l1 e → Wp (f (toD y) e) (fun w e' => w = .nx ∧ St (l1 ++ [y]) e') (fun _ _ => False)) (k : ∀ e', St ls e' → Ko .nx e') : Wp (forL f (ls.map toD) env) Ko Kx := by
  refine wp_for (fun ds e => ∃ l1 l2, ls = l1 ++ l2 ∧ ds = l2.map toD ∧ St l1 e) ?_ ?_ _ _ ⟨[], ls, rfl, rfl, h0⟩
  · rintro e ⟨l1, l2, h1, h2, se⟩
    have : l2 = [] := by simpa using h2.symm
    subst this
    rw [List.append_nil] at h1; subst h1
    exact k e se
  · rintro d ds e ⟨l1, l2, h1, h2, se⟩
    cases l2 with
    | nil => simp at h2
    | cons y l2 =>
      simp only [List.map_cons, List.cons.injEq] at h2
      obtain ⟨rfl, rfl⟩ := h2
      refine (step l1 y l2 h1 e se).mono (fun w e' ⟨hw, se'⟩ => ?_) fun _ _ h => h.elim
      subst hw
      exact ⟨l1 ++ [y], l2, by rw [h1]; simp, rfl, se'⟩
theorem range_at {n : Nat} {l1 l2 : List Nat} {y : Nat} (h : List.range n = l1 ++ y :: l2) : y = l1.length ∧ y < n := by
  have h1 : (List.range n)[l1.length]? = some y := by rw [h]; simp
  obtain ⟨h2, h3⟩ := List.getElem?_eq_some_iff.mp h1
  rw [List.length_range] at h2
  rw [List.getElem_range] at h3
  omega
theorem small_nat {n : Nat} (h : n ≤ 1000000) : small62 (n : Int) = true := by
  unfold small62
  simp only [Bool.and_eq_true, decide_eq_true_eq]
  omega
theorem join_snoc (a x : Str) (l : List Str) : Txt.join a (l ++ [x]) = if l = [] then x else Txt.join a l ++ a ++ x := by
  show Builtin.Str.glued a (l ++ [x]) = if l = [] then x else Builtin.Str.glued a l ++ a ++ x
  rw [StrLaws.glued_eq_join, StrLaws.glued_eq_join]
  cases l with
  | nil => rfl
  | cons y l =>
    rw [if_neg (by simp)]
    induction l generalizing y with
    | nil => rfl
    | cons z l ih =>
      show y ++ a ++ Str.join a ((z :: l) ++ [x]) = y ++ a ++ Str.join a (z :: l) ++ a ++ x
      rw [ih z]
      simp only [Str.append_assoc]
theorem rangeD_nat (n : Nat) : rangeD 0 (n : Int) = (List.range n).map fun (i : Nat) => PyData.int (i : Int) := by
  unfold rangeD
  simp
theorem lay_ints : ∀ l : List Int, PyData.canLayAll0 (l.map PyData.int) = true
  | [] => rfl
  | x :: l => by
    show (PyData.canLay0 (.int x) && PyData.canLayAll0 (l.map PyData.int)) = true
    rw [lay_ints l]; rfl
theorem depth_ints : ∀ l : List Int, PyData.depthAll (l.map PyData.int) ≤ 1
  | [] => by decide
  | x :: l => by
    have := depth_ints l
    show max (PyData.depth (.int x)) (PyData.depthAll (l.map PyData.int)) ≤ 1
    have h : PyData.depth (.int x) ≤ 1 := by simp [PyData.depth]
    omega
theorem shaped_ints (l : List Int) : SeqAt.shaped (.tuple (l.map PyData.int)) = true := by
  unfold SeqAt.shaped
  have h1 := depth_ints l
  have h2 : PyData.depth (.tuple (l.map PyData.int)) ≤ 2 := by
    show PyData.depthAll (l.map PyData.int) + 1 ≤ 2
    omega
  rw [show PyData.canLay0 (.tuple (l.map PyData.int)) = true from lay_ints l, Bool.true_and]
  exact decide_eq_true (by omega)
theorem eq_nil (l : List Int) : cmpD .eq (.tuple (l.map PyData.int)) (.tuple []) = some l.isEmpty := by
  show (if SeqAt.shaped (.tuple (l.map PyData.int)) && SeqAt.shaped (.tuple []) then some (PyData.eqv (.tuple (l.map PyData.int)) (.tuple [])) else none) = _
  rw [shaped_ints, show SeqAt.shaped (.tuple []) = true from shaped_ints []]
  cases l <;> rfl
theorem shaped_intsL (l : List Int) : SeqAt.shaped (.list (l.map PyData.int)) = true := by
  unfold SeqAt.shaped
  have h1 := depth_ints l
  have h2 : PyData.depth (.list (l.map PyData.int)) ≤ 2 := by
    show PyData.depthAll (l.map PyData.int) + 1 ≤ 2
    omega
  rw [show PyData.canLay0 (.list (l.map PyData.int)) = true from lay_ints l, Bool.true_and]
  exact decide_eq_true (by omega)
theorem eq_nilL (l : List Int) : cmpD .eq (.list (l.map PyData.int)) (.list []) = some l.isEmpty := by
  show (if SeqAt.shaped (.list (l.map PyData.int)) && SeqAt.shaped (.list []) then some (PyData.eqv (.list (l.map PyData.int)) (.list [])) else none) = _
  rw [shaped_intsL, show SeqAt.shaped (.list []) = true from shaped_intsL []]
  cases l <;> rfl
theorem cut_map {α β : Type} (f : α → β) (l : List α) (a b : Option Int) : cutL (l.map f) a b = (cutL l a b).map f := by
  unfold cutL
  rw [List.length_map, List.map_take, List.map_drop]
theorem cut_len {α : Type} (l : List α) (a b : Option Int) : (cutL l a b).length ≤ l.length := by
  unfold cutL
  rw [List.length_take, List.length_drop]; omega
theorem cut_mem {α : Type} {l : List α} {a b : Option Int} {x : α} (h : x ∈ cutL l a b) : x ∈ l := List.mem_of_mem_drop (List.mem_of_mem_take h)
end PY

set_option Elab.async false
set_option linter.all false
set_option maxRecDepth 100000
set_option maxHeartbeats 2000000
/-! SoT: more rules for reasoning about the plain computation. -/
namespace PY
open PySem
section
variable {C : Nat → List Sl → CR} {env : Env} {Kx : Ex → Env → Prop}
theorem w_chain {Ko : D → Env → Prop} {o o' : Cop} {a b c : Tm} (h : Wp ((ev gcL C a).e env) (fun x e => Wp ((ev gcL C b).e e) (fun y e => ∃ k, cmpD o x y = some k ∧ (k = true → Wp ((ev gcL C c).e e) (fun z e => ∃ k', cmpD o' y z = some k' ∧ Ko (.bool k') e) Kx) ∧ (k = false → Ko (.bool false) e)) Kx) Kx) : Wp ((ev gcL C (.chain o o' a b c)).e env) Ko Kx := by
  simp only [ev, Den.ofE, Wp.bind, Wp.opt]
  refine h.mono (fun x e h => h.mono (fun y e ⟨k, h1, h2, h3⟩ => ⟨k, h1, ?_⟩) fun _ _ h => h) fun _ _ h => h
  cases k with
  | true =>
    simp only [if_true, Wp.bind, Wp.opt]
    exact (h2 rfl).mono (fun z e ⟨k', h4, h5⟩ => ⟨_, by rw [h4]; rfl, h5⟩) fun _ _ h => h
  | false => exact h3 rfl
theorem w_catP {Ko : M → PY.Env → Prop} {a b : Tm} (h : Wp ((ev gcL C a).m env) (fun x e => Wp ((ev gcL C b).m e) (fun y e => ∃ xs ys, x = .ls xs ∧ y = .fl ys ∧ xs.length + ys.length ≤ 1000000 ∧ Ko (.ls (xs ++ ys.map .p)) e) Kx) Kx) : Wp ((ev gcL C (.cat a b)).m env) Ko Kx := by
  simp only [ev, Den.ofM, Wp.bind, Wp.opt]
  exact h.mono (fun x e h => h.mono (fun y e ⟨xs, ys, h1, h2, h3, h4⟩ => ⟨_, by subst h1 h2; show (if _ then _ else none) = _; exact if_pos h3, h4⟩) fun _ _ h => h) fun _ _ h => h
theorem s_ext {Ko : Flow → Env → Prop} {p : Pl} {x : Tm} {u : Unit} (h0 : (getP p env).bind M.isL = some u) (h : Wp ((ev gcL C x).m env) (fun d e => ∃ ds es env', getP p e = some (.fl ds) ∧ d = .fl es ∧ ds.length + es.length ≤ 1000000 ∧ setP p e (.fl (ds ++ es)) = some env' ∧ Ko .nx env') Kx) : Wp (evS gcL C (.ext p x) env) Ko Kx := by
  simp only [evS, Wp.bind, Wp.opt]
  exact ⟨u, h0, h.mono (fun d e ⟨ds, es, env', h1, h2, h3, h4, h5⟩ => wp_onP ⟨_, _, env', h1, by subst h2; exact if_pos h3, h4, h5⟩) fun _ _ h => h⟩
theorem s_extP {Ko : Flow → Env → Prop} {p : Pl} {x : Tm} {u : Unit} (h0 : (getP p env).bind M.isL = some u) (h : Wp ((ev gcL C x).m env) (fun d e => ∃ ds es env', getP p e = some (.fl ds) ∧ d = .p (.list es) ∧ ds.length + es.length ≤ 1000000 ∧ setP p e (.fl (ds ++ es)) = some env' ∧ Ko .nx env') Kx) : Wp (evS gcL C (.ext p x) env) Ko Kx := by
  simp only [evS, Wp.bind, Wp.opt]
  exact ⟨u, h0, h.mono (fun d e ⟨ds, es, env', h1, h2, h3, h4, h5⟩ => wp_onP ⟨_, _, env', h1, by subst h2; exact if_pos h3, h4, h5⟩) fun _ _ h => h⟩
end
/-- a comprehension, by the items behind it -/
theorem comp_pre {α : Type} {f : D → Env → R (Option D)} {ls : List α} {toD : α → D} {env : Env} {Ko : List D → Env → Prop} {Kx : Ex → Env → Prop} (St : List α → List D → Env → Prop) (h0 : St [] [] env)
    (step : ∀ l1 y l2, ls = l1 ++ y :: l2 → ∀ acc e, St l1 acc e → Wp (f (toD y) e) (fun o e' => St (l1 ++ [y]) (match o with | some x => acc ++ [x] | none => acc) e') (fun _ _ => False)) (k : ∀ acc e', St ls acc e' → Ko acc e') : Wp (noex (compL f (ls.map toD) env)) Ko Kx := by
  refine wp_comp (fun acc ds e => ∃ l1 l2, ls = l1 ++ l2 ∧ ds = l2.map toD ∧ St l1 acc e) ⟨[], ls, rfl, rfl, h0⟩ ?_ ?_
  · rintro acc e ⟨l1, l2, h1, h2, se⟩
    have : l2 = [] := by simpa using h2.symm
    subst this
    rw [List.append_nil] at h1; subst h1
    exact k acc e se
  · rintro acc d ds e ⟨l1, l2, h1, h2, se⟩
    cases l2 with
    | nil => simp at h2
    | cons y l2 =>
      simp only [List.map_cons, List.cons.injEq] at h2
      obtain ⟨rfl, rfl⟩ := h2
      exact (step l1 y l2 h1 acc e se).mono (fun o e' h => ⟨l1 ++ [y], l2, by rw [h1]; simp, rfl, h⟩) fun _ _ h => h
/-- a loop, by the items yet to come: it may return, break off -/
theorem for_all {α : Type} {f : D → Env → R Flow} {ls : List α} {toD : α → D} {env : Env} {Ko : Flow → Env → Prop} {Kx : Ex → Env → Prop} (St : List α → Env → Prop) (h0 : St ls env)
    (step : ∀ y l e, (∃ l1, ls = l1 ++ y :: l) → St (y :: l) e → Wp (f (toD y) e) (fun w e' => match w with | .nx => St l e' | .ct => St l e' | .bk => Ko .nx e' | .rt r => Ko (.rt r) e') Kx) (k : ∀ e', St [] e' → Ko .nx e') : Wp (forL f (ls.map toD) env) Ko Kx := by
  refine wp_for (fun ds e => ∃ l1 l2, ls = l1 ++ l2 ∧ ds = l2.map toD ∧ St l2 e) ?_ ?_ _ _ ⟨[], ls, rfl, rfl, h0⟩
  · rintro e ⟨l1, l2, h1, h2, se⟩
    have : l2 = [] := by simpa using h2.symm
    subst this
    exact k e se
  · rintro d ds e ⟨l1, l2, h1, h2, se⟩
    cases l2 with
    | nil => simp at h2
    | cons y l2 =>
      simp only [List.map_cons, List.cons.injEq] at h2
      obtain ⟨rfl, rfl⟩ := h2
      refine (step y l2 e ⟨l1, h1⟩ se).mono (fun w e' h => ?_) fun _ _ h => h
      cases w with
      | nx => exact ⟨l1 ++ [y], l2, by rw [h1]; simp, rfl, h⟩
      | ct => exact ⟨l1 ++ [y], l2, by rw [h1]; simp, rfl, h⟩
      | bk => exact h
      | rt r => exact h
/-- a loop over range(n), by its number: it may return, break off -/
theorem for_ix {n : Nat} {f : D → Env → R Flow} {env : Env} {Ko : Flow → Env → Prop} {Kx : Ex → Env → Prop} (St : Nat → Env → Prop) (h0 : St 0 env)
    (step : ∀ k e, k < n → St k e → Wp (f (.int (k : Nat)) e) (fun w e' => match w with | .nx => St (k + 1) e' | .ct => St (k + 1) e' | .bk => Ko .nx e' | .rt r => Ko (.rt r) e') Kx) (k : ∀ e', St n e' → Ko .nx e') : Wp (forL f (rangeD 0 (n : Int)) env) Ko Kx := by
  rw [rangeD_nat]
  refine for_all (fun l e => ∃ j, j + l.length = n ∧ St j e) ⟨0, by simp, h0⟩ ?_ ?_
  · rintro y l e ⟨l1, hl⟩ ⟨j, hj, se⟩
    obtain ⟨rfl, hlt⟩ := range_at hl
    rw [List.length_cons] at hj
    have : j = l1.length := by
      have := congrArg List.length hl
      rw [List.length_range, List.length_append, List.length_cons] at this
      omega
    subst this
    refine (step l1.length e hlt se).mono (fun w e' h => ?_) fun _ _ h => h
    cases w with
    | nx => exact ⟨_, by omega, h⟩
    | ct => exact ⟨_, by omega, h⟩
    | bk => exact h
    | rt r => exact h
  · rintro e ⟨j, hj, se⟩
    simp at hj
    subst hj
    exact k e se
/-- while -/
theorem wp_whl {t : Env → R Bool} {f : Env → R Flow} {Ko : Flow → Env → Prop} {Kx : Ex → Env → Prop} (P : Nat → Env → Prop)
    (step : ∀ k e, P k e → Wp (t e) (fun b e => (b = false → Ko .nx e) ∧ (b = true → Wp (f e) (fun w e' => match w with | .nx => ∃ j, j < k ∧ P j e' | .ct => ∃ j, j < k ∧ P j e' | .bk => Ko .nx e' | .rt r => Ko (.rt r) e') Kx)) Kx) : ∀ n k e, k < n → P k e → Wp (whlL t f n e) Ko Kx := by
  intro n
  induction n with
  | zero => intro k e h; exact absurd h (by omega)
  | succ n ih =>
    intro k e h hp
    simp only [whlL, Wp.bind]
    refine (step k e hp).mono (fun b e q => ?_) fun _ _ q => q
    cases b with
    | false => simp only [Bool.false_eq_true, if_false]; exact q.1 rfl
    | true =>
      simp only [if_true, Wp.bind]
      refine (q.2 rfl).mono (fun w e' r => ?_) fun _ _ q => q
      cases w with
      | nx => obtain ⟨j, hj, hp'⟩ := r; exact ih j e' (by omega) hp'
      | ct => obtain ⟨j, hj, hp'⟩ := r; exact ih j e' (by omega) hp'
      | bk => exact r
      | rt r' => exact r
/-! ints -/
def intsT (l : List Int) : D := .tuple (l.map PyData.int)
def natD (n : Nat) : PyData := .int (n : Int)
def bxD (b : List (List Int)) : PyData := .tuple (b.map intsT)
theorem eqv_ii (a m : Int) : PyData.eqv (.int a) (.int m) = decide (a = m) := by
  rw [Bool.eq_iff_iff]
  simp [PyData.eqv]
theorem flat_ints : ∀ l : List Int, (l.map PyData.int).all flatD = true
  | [] => rfl
  | a :: l => flat_ints l
theorem any_ints (m : Int) : ∀ l : List Int, ((l.map PyData.int).any fun y => PyData.eqv y (.int m)) = decide (m ∈ l)
  | [] => rfl
  | a :: l => by
    rw [List.map_cons, List.any_cons, any_ints m l, eqv_ii, Bool.eq_iff_iff, Bool.or_eq_true, decide_eq_true_eq, decide_eq_true_eq, decide_eq_true_eq, List.mem_cons, eq_comm]
theorem in_ints (m : Int) (l : List Int) : inD (.int m) (l.map PyData.int) = some (decide (m ∈ l)) := by
  unfold inD
  rw [flat_ints, any_ints]; rfl
theorem is_in (m : Int) (l : List Int) : cmpD .isin (.int m) (intsT l) = some (decide (m ∈ l)) := in_ints m l
theorem not_in (m : Int) (l : List Int) : cmpD .notin (.int m) (intsT l) = some (!decide (m ∈ l)) := by
  show (inD (.int m) (l.map PyData.int)).map (!·) = _
  rw [in_ints]; rfl
theorem eqv_ints : ∀ l w : List Int, PyData.eqvAll (l.map PyData.int) (w.map PyData.int) = decide (l = w)
  | [], [] => by simp [PyData.eqvAll]
  | [], a :: w => by simp [PyData.eqvAll]
  | a :: l, [] => by simp [PyData.eqvAll]
  | a :: l, b :: w => by
    rw [List.map_cons, List.map_cons, PyData.eqvAll, eqv_ii, eqv_ints l w, Bool.eq_iff_iff]
    simp
theorem eq_ints (l w : List Int) : cmpD .eq (intsT l) (intsT w) = some (decide (l = w)) := by
  show (if SeqAt.shaped (intsT l) && SeqAt.shaped (intsT w) then some (PyData.eqv (intsT l) (intsT w)) else none) = _
  rw [show SeqAt.shaped (intsT l) = true from shaped_ints l, show SeqAt.shaped (intsT w) = true from shaped_ints w, Bool.and_self, if_pos rfl]
  unfold intsT
  rw [PyData.eqv, eqv_ints]
theorem ne_ints (l w : List Int) : cmpD .ne (intsT l) (intsT w) = some (!decide (l = w)) := by
  show (cmpD .eq (intsT l) (intsT w)).map (!·) = _
  rw [eq_ints]; rfl
theorem ints_some : ∀ l : List Int, intsD (l.map PyData.int) = some l
  | [] => rfl
  | a :: l => by simp [intsD, ints_some l]
theorem ints_inv : ∀ {xs : List D} {l : List Int}, intsD xs = some l → xs = l.map PyData.int
  | [], l, h => by cases h; rfl
  | x :: xs, l, h => by
    cases x <;> simp only [intsD, reduceCtorEq] at h
    cases e : intsD xs with
    | none => rw [e] at h; cases h
    | some k =>
      rw [e] at h
      cases h
      rw [ints_inv e]; rfl
theorem bools_map {α : Type} (f : α → Bool) : ∀ l : List α, boolsD (l.map fun x => PyData.bool (f x)) = some (l.map f)
  | [] => rfl
  | a :: l => by simp [boolsD, bools_map f l]
theorem any_map {α : Type} (f : α → Bool) (l : List α) : biD .anyl [.list (l.map fun x => PyData.bool (f x))] = some (.bool (l.any f)) := by
  show (boolsD _).map _ = _
  rw [bools_map]
  simp
theorem all_map {α : Type} (f : α → Bool) (l : List α) : biD .alll [.list (l.map fun x => PyData.bool (f x))] = some (.bool (l.all f)) := by
  show (boolsD _).map _ = _
  rw [bools_map]
  simp
theorem bx_at {b : List (List Int)} {s : Nat} (h : s < b.length) : idxD (bxD b) (.int (s : Int)) = some (intsT (b.getD s [])) := by
  unfold bxD
  rw [idx_tup (by omega) (by rw [List.length_map]; omega)]
  simp [h, List.getD]
theorem row_at {row : List Int} {p : Nat} (h : p < row.length) : idxD (intsT row) (.int (p : Int)) = some (.int (row.getD p 0)) := by
  unfold intsT
  rw [idx_tup (by omega) (by rw [List.length_map]; omega)]
  simp [h, List.getD]
theorem at_tup {xs : List D} {p : Nat} (h : p < xs.length) : idxD (.tuple xs) (.int (p : Int)) = some xs[p] := by
  rw [idx_tup (by omega) (by omega)]
  simp [h]
theorem at_lst {xs : List D} {p : Nat} (h : p < xs.length) : idxD (.list xs) (.int (p : Int)) = some xs[p] := by
  rw [idx_lst (by omega) (by omega)]
  simp [h]
theorem kid_fl {ds : List D} {k : Nat} (h1 : k < ds.length) : (M.fl ds).kid (k : Int) = some (.p ds[k]) := by
  have hi : ixN ds.length (k : Int) = some k := by
    unfold ixN L2.ixN
    rw [if_pos (by omega), if_pos (by omega)]
    simp
  simp only [M.kid, hi, Option.bind_some]
  simp [h1]
theorem set_fl {ds : List D} {k : Nat} (d : D) (h1 : k < ds.length) : setItemM (.fl ds) (.int (k : Int)) d = some (.fl (ds.set k d)) := by
  have hi : ixN ds.length (k : Int) = some k := by
    unfold ixN L2.ixN
    rw [if_pos (by omega), if_pos (by omega)]
    simp
  simp only [setItemM, hi, Option.map_some]
theorem log_lt {i : Int} (h : i.natAbs < 2 ^ 40) : i.natAbs.log2 < 60 := by
  by_cases hz : i.natAbs = 0
  · rw [hz]; decide
  · exact Nat.lt_of_lt_of_le ((Nat.log2_lt hz).mpr h) (by decide)
theorem shl_ok (i j : Int) (h : powOk i j = true) : binD .shl (.int i) (.int j) = some (.int (i * 2 ^ j.toNat)) := if_pos h
theorem pow_pos (j : Nat) : (0 : Int) < 1 * 2 ^ j := by rw [Int.one_mul]; exact Int.pow_pos (by decide)
theorem shl2000 : ∃ N : Int, 0 < N ∧ binD .shl (.int 1) (.int 2000) = some (.int N) := ⟨_, pow_pos _, shl_ok 1 2000 (by decide)⟩
theorem er_perm {α : Type} : ∀ (l : List α) (i : Nat) (h : i < l.length), (l[i] :: l.eraseIdx i).Perm l
  | a :: l, 0, h => .refl _
  | a :: l, i + 1, h => by
    have := er_perm l i (by simpa using h)
    simp only [List.getElem_cons_succ, List.eraseIdx_cons_succ]
    exact (List.Perm.swap _ _ _).trans (List.Perm.cons a this)
theorem er_map {α β : Type} (f : α → β) : ∀ (l : List α) (i : Nat), (l.map f).eraseIdx i = (l.eraseIdx i).map f
  | [], i => rfl
  | a :: l, 0 => rfl
  | a :: l, i + 1 => by simp [er_map f l i]
/-- pop(i) of a list of things of one kind -/
theorem pop_atG {α : Type} {f : α → D} {l : List α} {d : Int} (h0 : 0 ≤ d) (h1 : d < l.length) (h2 : l.length ≤ 1000) : ∃ a r, popMAt (.fl (l.map f)) d = some (.fl (r.map f), .p (f a)) ∧ (a :: r).Perm l := by
  have hd : d.toNat < l.length := by omega
  refine ⟨l[d.toNat], l.eraseIdx d.toNat, ?_, er_perm l _ hd⟩
  unfold popMAt
  simp only []
  have hs : small62 d = true := by
    have := small_nat (n := d.toNat) (by omega)
    rwa [show ((d.toNat : Nat) : Int) = d by omega] at this
  have hi : ixN (l.map f).length d = some d.toNat := by
    unfold ixN L2.ixN
    rw [if_pos h0, if_pos (by rw [List.length_map]; omega)]
  rw [hs, if_pos rfl, hi]
  simp [hd, er_map]
theorem pop_snoc {ds : List D} {d : D} : popM (.fl (ds ++ [d])) = some (.fl ds, .p d) := by simp [popM]
theorem cut_lo {α : Type} {l : List α} {k : Nat} (h : k ≤ l.length) : cutL l (some (k : Int)) none = l.drop k := by
  unfold cutL
  rw [HT.sIx_nat, HT.sIx_none, Nat.min_eq_left h, List.take_of_length_le (by rw [List.length_drop]; exact Nat.le_refl _)]
theorem cut_hi {α : Type} {l : List α} {k : Nat} (h : k ≤ l.length) : cutL l none (some (k : Int)) = l.take k := by
  unfold cutL
  rw [HT.sIx_nat, HT.sIx_none, Nat.min_eq_left h]
  simp
theorem Gives.of {c : CR} {r : Sl} {ms : List Sl} {Q : Sl → List Sl → Prop} (h : c = .ok r ms) (q : Q r ms) : Gives c Q := by rw [h]; exact q
theorem snoc_ind {α : Type} {motive : List α → Prop} (nil : motive []) (snoc : ∀ l a, motive l → motive (l ++ [a])) (l : List α) : motive l := by
  have : ∀ r : List α, motive r.reverse := by
    intro r
    induction r with
    | nil => exact nil
    | cons a r ih => rw [List.reverse_cons]; exact snoc _ _ ih
  have h := this l.reverse
  rwa [List.reverse_reverse] at h
/-! any data -/
mutual
def szD : PyData → Nat
  | .list xs => 1 + szDs xs
  | .tuple xs => 1 + szDs xs
  | _ => 1
def szDs : List PyData → Nat
  | [] => 0
  | x :: xs => szD x + szDs xs
end
mutual
/-- no dicts within -/
def ndD : PyData → Bool
  | .list xs => ndDs xs
  | .tuple xs => ndDs xs
  | .dict _ => false
  | _ => true
def ndDs : List PyData → Bool
  | [] => true
  | x :: xs => ndD x && ndDs xs
end
end PY

set_option Elab.async false
set_option linter.all false
set_option maxRecDepth 1000000
set_option maxHeartbeats 0
namespace K24
open PySem PySem.Spec PyProof.Rows L2 PY
def top (i : Nat) : Stmt := PySem.Challenge.pw_howeverlaid_k24_alike_places.main.body.getD i (.Pass ⟨0, 0, 0, 0⟩)
def b0 : S :=
(.seq (.ret (.ite (.var 1) (.idx (.var 0) (.int 3)) (.idx (.var 0) (.int 4))))
.skip)
def d0 : DD := ⟨"side", ["program", "yes"], [], ["program", "yes"], ⟨[false, false], 2, b0⟩, top 1⟩
def b1 : S :=
(.seq (.asgM 3 (.lst .nil))
(.seq (.for_ (.t (.cons (.n 4) (.cons (.n 5) .nil))) (.enum (.var 2))
(.seq (.ife (.not (.bi .anyl (.cons (.comp [6] (.n 6) (.idx (.var 0) (.var 5)) (.bl true) (.cmp .isin (.var 6) (.idx (.var 1) (.var 4)))) .nil)))
(.seq (.app (.v 3) (.var 4))
.skip)
.skip)
.skip))
(.seq (.ret (.bi .tuple (.cons (.vw (.v 3)) .nil)))
.skip)))
def d1 : DD := ⟨"barred_places", ["box", "other", "laying"], [], ["box", "other", "laying", "found", "place", "source", "mark"], ⟨[false, false, false], 7, b1⟩, top 3⟩
def b2 : S :=
(.seq (.ret (.cmp .eq (.call 1 (.cons (.var 0) (.cons (.var 1) (.cons (.var 2) .nil)))) (.tup .nil)))
.skip)
def d2 : DD := ⟨"leads", ["box", "other", "laying"], [], ["box", "other", "laying"], ⟨[false, false, false], 3, b2⟩, top 4⟩
def b3 : S :=
(.seq (.ife (.not (.call 2 (.cons (.var 0) (.cons (.var 1) (.cons (.var 2) .nil)))))
(.seq (.ret .non)
.skip)
.skip)
(.seq (.asgM 3 (.rep (.lst (.cons (.int 0) .nil)) (.bi .len (.cons (.var 0) .nil))))
(.seq (.for_ (.t (.cons (.n 4) (.cons (.n 5) .nil))) (.enum (.var 2))
(.seq (.set (.v 3) (.var 5) (.bi .minl (.cons (.comp [6] (.n 6) (.idx (.var 0) (.var 5)) (.cmp .isin (.var 6) (.idx (.var 1) (.var 4))) (.var 6)) .nil)))
.skip))
(.seq (.ret (.bi .tuple (.cons (.vw (.v 3)) .nil)))
.skip))))
def d3 : DD := ⟨"led_row", ["box", "other", "laying"], [], ["box", "other", "laying", "found", "place", "source", "mark"], ⟨[false, false, false], 7, b3⟩, top 5⟩
def b4 : S :=
(.seq (.ret (.bin .mul (.tup (.cons (.rtup (.bi .len (.cons (.idx (.var 0) (.int 0)) .nil))) .nil)) (.bi .len (.cons (.idx (.var 0) (.int 2)) .nil))))
.skip)
def d4 : DD := ⟨"full_box", ["setting"], [], ["setting"], ⟨[false], 1, b4⟩, top 7⟩
def b5 : S :=
(.seq (.asg 4 (.bi .tuple (.cons (.comp [5] (.n 5) (.idx (.var 0) (.var 1)) (.cmp .eq (.cmp .isin (.var 5) (.var 2)) (.bi .bool (.cons (.var 3) .nil))) (.var 5)) .nil)))
(.seq (.ret (.ite (.var 4) (.bin .add (.bin .add (.slc (.var 0) .abs (.var 1)) (.tup (.cons (.var 4) .nil))) (.slc (.var 0) (.bin .add (.var 1) (.int 1)) .abs)) .non))
.skip))
def d5 : DD := ⟨"narrowed", ["box", "place", "marks", "yes"], [], ["box", "place", "marks", "yes", "left", "mark"], ⟨[false, false, false, false], 6, b5⟩, top 8⟩
def b6 : S :=
(.seq (.ife (.cmp .eq (.idx (.var 0) (.int 0)) (.str "tell"))
(.seq (.ret (.lst (.cons (.tup (.cons (.tup .nil) (.cons (.idx (.var 0) (.int 1)) (.cons (.var 1) .nil)))) .nil)))
.skip)
.skip)
(.seq (.asgM 2 (.lst .nil))
(.seq (.for_ (.n 3) (.tup (.cons (.int 1) (.cons (.int 0) .nil)))
(.seq (.asg 4 (.call 5 (.cons (.var 1) (.cons (.idx (.var 0) (.int 1)) (.cons (.idx (.var 0) (.int 2)) (.cons (.var 3) .nil))))))
(.seq (.ife (.notN (.var 4))
(.seq (.asg 5 (.call 6 (.cons (.call 0 (.cons (.var 0) (.cons (.var 3) .nil))) (.cons (.var 4) .nil))))
(.seq (.ext (.v 2) (.comp [6, 7, 8] (.t (.cons (.n 6) (.cons (.n 7) (.cons (.n 8) .nil)))) (.var 5) (.bl true) (.tup (.cons (.bin .add (.tup (.cons (.var 3) .nil)) (.var 6)) (.cons (.var 7) (.cons (.var 8) .nil))))))
.skip))
.skip)
.skip)))
(.seq (.frz 2)
(.seq (.ret (.var 2))
.skip)))))
def d6 : DD := ⟨"ends_from", ["program", "box"], [], ["program", "box", "found", "yes", "further", "ends", "way", "word", "told"], ⟨[false, false], 9, b6⟩, top 10⟩
def b7 : S :=
(.seq (.ret (.call 6 (.cons (.var 1) (.cons (.call 4 (.cons (.var 0) .nil)) .nil))))
.skip)
def d7 : DD := ⟨"ends_of", ["setting", "program"], [], ["setting", "program"], ⟨[false, false], 2, b7⟩, top 11⟩
def b8 : S :=
(.seq (.asg 2 (.call 7 (.cons (.var 0) (.cons (.var 1) .nil))))
(.seq (.asgM 3 (.lst .nil))
(.seq (.for_ (.t (.cons (.n 4) (.cons (.n 5) (.cons (.n 6) .nil)))) (.var 2)
(.seq (.for_ (.t (.cons (.n 7) (.cons (.n 8) (.cons (.n 9) .nil)))) (.var 2)
(.seq (.ife (.cmp .ne (.var 8) (.var 5))
(.seq (.app (.v 3) (.tup (.cons (.var 4) (.cons (.var 6) (.cons (.var 7) (.cons (.var 9) .nil))))))
.skip)
.skip)
.skip))
.skip))
(.seq (.frz 3)
(.seq (.ret (.var 3))
.skip)))))
def d8 : DD := ⟨"unlike_pairs", ["setting", "program"], [], ["setting", "program", "ends", "found", "way", "word", "box", "further", "other", "last"], ⟨[false, false], 10, b8⟩, top 13⟩
def b9 : S :=
(.seq (.asg 3 (.call 8 (.cons (.var 0) (.cons (.var 1) .nil))))
(.seq (.for_ (.n 4) (.var 2)
(.seq (.for_ (.t (.cons (.n 5) (.cons (.n 6) (.cons (.n 5) (.cons (.n 7) .nil))))) (.var 3)
(.seq (.asg 8 (.call 3 (.cons (.var 6) (.cons (.var 7) (.cons (.var 4) .nil)))))
(.seq (.ife (.notN (.var 8))
(.seq (.ret (.tup (.cons (.var 8) (.cons (.var 4) .nil))))
.skip)
.skip)
.skip)))
.skip))
(.seq (.ret .non)
.skip)))
def d9 : DD := ⟨"shaken_by", ["setting", "program", "layings"], [], ["setting", "program", "layings", "pairs", "laying", "_", "box", "other", "row"], ⟨[false, false, false], 9, b9⟩, top 14⟩
def b10 : S :=
(.seq (.asgM 3 (.rlst (.var 0)))
(.seq (.swp 3 (.var 1) (.var 2) (.lf (.ixv (.v 3) 2)) (.lf (.ixv (.v 3) 1)))
(.seq (.ret (.bi .tuple (.cons (.vw (.v 3)) .nil)))
.skip)))
def d10 : DD := ⟨"exchange", ["many", "one", "other"], [], ["many", "one", "other", "found"], ⟨[false, false, false], 4, b10⟩, top 16⟩
def b11 : S :=
(.seq (.ret (.isN (.call 9 (.cons (.var 0) (.cons (.var 1) (.cons (.lst (.cons (.call 10 (.cons (.bi .len (.cons (.idx (.var 0) (.int 2)) .nil)) (.cons (.var 2) (.cons (.var 3) .nil)))) .nil)) .nil))))))
.skip)
def d11 : DD := ⟨"are_alike", ["setting", "program", "one", "other"], [[99, 3, 2, 1, 0]], ["setting", "program", "one", "other"], ⟨[false, false, false, false], 4, b11⟩, top 17⟩
def b12 : S :=
(.seq (.asg 4 (.call 9 (.cons (.var 0) (.cons (.var 1) (.cons (.lst (.cons (.call 10 (.cons (.bi .len (.cons (.idx (.var 0) (.int 2)) .nil)) (.cons (.var 2) (.cons (.var 3) .nil)))) .nil)) .nil)))))
(.seq (.ret (.ite (.isN (.var 4)) .non (.idx (.var 4) (.int 0))))
.skip))
def d12 : DD := ⟨"unlike_row", ["setting", "program", "one", "other"], [[99, 3, 2, 1, 0]], ["setting", "program", "one", "other", "told"], ⟨[false, false, false, false], 5, b12⟩, top 18⟩
def b13 : S :=
(.seq (.asg 1 (.comp [5] (.n 5) (.slc (.var 0) .abs (.int 46)) (.bl true) (.bin .mod (.bi .abs (.cons (.bi .int (.cons (.var 5) .nil)) .nil)) (.bin .shl (.int 1) (.int 2000)))))
(.seq (.asgT (.t (.cons (.n 3) (.cons (.n 4) .nil))) (.tup (.cons (.int 101) (.cons (.int 103) .nil))))
(.seq (.for_ (.n 2) (.rng1 (.bi .len (.cons (.var 1) .nil)))
(.seq (.asg 3 (.bin .mod (.bi .int (.cons (.bin .add (.bin .mul (.var 3) (.int 17)) (.bin .mod (.idx (.var 1) (.var 2)) (.int 1000003))) .nil)) (.int 4294967189)))
(.seq (.asg 4 (.bin .mod (.bi .int (.cons (.bin .add (.bin .mul (.var 4) (.int 19)) (.bin .mod (.bin .fdv (.idx (.var 1) (.bin .sub (.neg (.int 1)) (.var 2))) (.int 3)) (.int 1000033))) .nil)) (.int 4294967161)))
.skip)))
(.seq (.retM (.lst (.cons (.var 3) (.cons (.var 4) .nil))))
.skip))))
def d13 : DD := ⟨"_law_barrel", ["script"], [], ["script", "cells", "k", "front", "back", "cell"], ⟨[false], 6, b13⟩, top 20⟩
def b14 : S :=
(.seq (.set (.v 0) (.int 0) (.bin .mod (.bi .int (.cons (.bin .add (.bin .add (.bin .mul (.lf (.ixn (.v 0) 0)) (.int 22695477)) (.int 1)) (.lf (.ixn (.v 0) 1))) .nil)) (.int 4294967189)))
(.seq (.set (.v 0) (.int 1) (.bin .mod (.bi .int (.cons (.bin .add (.bin .mul (.lf (.ixn (.v 0) 1)) (.int 134775813)) (.int 5)) .nil)) (.int 4294967161)))
(.seq (.ret (.bin .mod (.bin .shr (.lf (.ixn (.v 0) 0)) (.int 7)) (.var 1)))
.skip)))
def d14 : DD := ⟨"_law_tip", ["barrel", "many"], [], ["barrel", "many"], ⟨[true, false], 2, b14⟩, top 21⟩
def b15 : S :=
(.seq (.ife (.or (.isN (.var 1)) (.isN (.var 0)))
(.seq (.ret (.and (.isN (.var 1)) (.isN (.var 0))))
.skip)
.skip)
(.seq (.ret (.and (.isi (.var 0) [.bool]) (.cmp .eq (.var 0) (.var 1))))
.skip))
def d15 : DD := ⟨"_law_exact", ["told", "due"], [], ["told", "due"], ⟨[false, false], 2, b15⟩, top 22⟩
def b16 : S :=
(.seq (.asg 2 (.var 0))
(.seq (.for_ (.n 3) (.rng1 (.int 60))
(.seq (.ife (.cmp .eq (.idx (.var 2) (.int 0)) (.str "tell"))
(.seq (.ret (.idx (.var 2) (.int 1)))
.skip)
.skip)
(.seq (.asg 2 (.ite (.cmp .isin (.idx (.var 1) (.idx (.var 2) (.int 1))) (.idx (.var 2) (.int 2))) (.idx (.var 2) (.int 3)) (.idx (.var 2) (.int 4))))
.skip)))
(.seq (.ret (.str ""))
.skip)))
def d16 : DD := ⟨"_law_ends_at", ["program", "row"], [], ["program", "row", "part", "lap"], ⟨[false, false], 4, b16⟩, top 23⟩
def b17 : S :=
(.seq (.asgM 2 (.lst .nil))
(.seq (.for_ (.n 3) (.rng1 (.idx (.lst (.cons (.int 1) (.cons (.var 0) (.cons (.bin .pow (.var 0) (.int 2)) (.cons (.bin .pow (.var 0) (.int 3)) (.cons (.bin .pow (.var 0) (.int 4)) (.cons (.bin .pow (.var 0) (.int 5)) .nil))))))) (.var 1)))
(.seq (.asgM 4 (.lst .nil))
(.seq (.for_ (.n 5) (.rng1 (.var 1))
(.seq (.app (.v 4) (.bi .int (.cons (.bin .mod (.var 3) (.var 0)) .nil)))
(.seq (.asg 3 (.bin .fdv (.var 3) (.var 0)))
.skip)))
(.seq (.app (.v 2) (.bi .tuple (.cons (.vw (.v 4)) .nil)))
.skip))))
(.seq (.frz 2)
(.seq (.ret (.var 2))
.skip))))
def d17 : DD := ⟨"_law_every", ["marks", "places"], [], ["marks", "places", "told", "number", "row", "k"], ⟨[false, false], 6, b17⟩, top 24⟩
def b18 : S :=
(.seq (.asgM 3 (.lof (.var 0)))
(.seq (.set (.v 3) (.var 1) (.idx (.var 0) (.var 2)))
(.seq (.set (.v 3) (.var 2) (.idx (.var 0) (.var 1)))
(.seq (.ret (.bi .tuple (.cons (.vw (.v 3)) .nil)))
.skip))))
def d18 : DD := ⟨"_law_swapped", ["row", "one", "other"], [], ["row", "one", "other", "told"], ⟨[false, false, false], 4, b18⟩, top 25⟩
def b19 : S :=
(.seq (.asgM 4 (.lst (.cons (.tup (.cons (.str "tell") (.cons (.str "u") .nil))) (.cons (.tup (.cons (.str "tell") (.cons (.str "v") .nil))) (.cons (.tup (.cons (.str "tell") (.cons (.str "w") .nil))) .nil)))))
(.seq (.asgM 5 (.lst (.cons (.int 0) (.cons (.int 0) (.cons (.int 0) .nil)))))
(.seq (.for_ (.n 6) (.rng1 (.var 3))
(.seq (.par2 8 9 (.call 14 (.cons (.am (.v 0)) (.cons (.bi .len (.cons (.vw (.v 4)) .nil)) .nil))) (.call 14 (.cons (.am (.v 0)) (.cons (.bi .len (.cons (.vw (.v 4)) .nil)) .nil))))
(.seq (.asg 7 (.bi .tuple (.cons (.comp [10] (.n 10) (.rng1 (.var 1)) (.cmp .eq (.call 14 (.cons (.am (.v 0)) (.cons (.int 2) .nil))) (.int 0)) (.var 10)) .nil)))
(.seq (.asg 7 (.ite (.chain .lt .lt (.int 0) (.bi .len (.cons (.var 7) .nil)) (.var 1)) (.var 7) (.tup (.cons (.call 14 (.cons (.am (.v 0)) (.cons (.var 1) .nil))) .nil))))
(.seq (.ife (.cmp .lt (.bin .add (.lf (.ixv (.v 5) 8)) (.lf (.ixv (.v 5) 9))) (.int 8))
(.seq (.app (.v 4) (.tup (.cons (.str "look") (.cons (.call 14 (.cons (.am (.v 0)) (.cons (.var 2) .nil))) (.cons (.var 7) (.cons (.lf (.ixv (.v 4) 8)) (.cons (.lf (.ixv (.v 4) 9)) .nil)))))))
(.seq (.app (.v 5) (.bin .add (.bin .add (.lf (.ixv (.v 5) 8)) (.lf (.ixv (.v 5) 9))) (.int 1)))
.skip))
.skip)
.skip)))))
(.seq (.ret (.idx (.vw (.v 4)) (.neg (.int 1))))
.skip))))
def d19 : DD := ⟨"_law_looks", ["barrel", "marks", "places", "laps"], [], ["barrel", "marks", "places", "laps", "parts", "sizes", "lap", "some", "one", "other", "mark"], ⟨[true, false, false, false], 11, b19⟩, top 26⟩
def b20 : S :=
(.seq (.asg 3 (.comp [5] (.n 5) (.rng1 (.bin .add (.var 2) (.int 1))) (.bl true) (.tup (.cons (.str "tell") (.cons (.bin .add (.str "n") (.bi .str (.cons (.var 5) .nil))) .nil)))))
(.seq (.for_ (.n 4) (.rev (.var 0))
(.seq (.asg 3 (.bin .add (.comp [5] (.n 5) (.rng1 (.var 2)) (.bl true) (.tup (.cons (.str "look") (.cons (.var 4) (.cons (.var 1) (.cons (.idx (.var 3) (.bin .add (.var 5) (.int 1))) (.cons (.idx (.var 3) (.var 5)) .nil))))))) (.lst (.cons (.idx (.var 3) (.var 2)) .nil))))
.skip))
(.seq (.ret (.idx (.var 3) (.int 0)))
.skip)))
def d20 : DD := ⟨"_law_counted", ["places", "some", "most"], [], ["places", "some", "most", "row", "place", "k"], ⟨[false, false, false], 6, b20⟩, top 27⟩
def b21 : S :=
(.seq (.asg 3 (.call 14 (.cons (.am (.v 0)) (.cons (.int 4) .nil))))
(.seq (.parA [8, 9] (.cons (.at (.lst .nil)) (.cons (.at (.rlst (.var 2))) .nil)))
(.seq (.whl 100000 (.vw (.v 9))
(.seq (.app (.v 8) (.popAt (.v 9) (.call 14 (.cons (.am (.v 0)) (.cons (.bi .len (.cons (.vw (.v 9)) .nil)) .nil)))))
.skip))
(.seq (.asg 4 (.call 14 (.cons (.am (.v 0)) (.cons (.var 1) .nil))))
(.seq (.ife (.cmp .eq (.var 3) (.int 0))
(.seq (.ret (.call 19 (.cons (.am (.v 0)) (.cons (.var 1) (.cons (.var 2) (.cons (.int 5) .nil))))))
.skip)
.skip)
(.seq (.asg 5 (.slv 8 .abs (.bin .add (.int 1) (.call 14 (.cons (.am (.v 0)) (.cons (.bi .min2 (.cons (.int 3) (.cons (.var 2) .nil))) .nil))))))
(.seq (.ife (.cmp .eq (.var 3) (.int 1))
(.seq (.ret (.call 20 (.cons (.var 5) (.cons (.tup (.cons (.var 4) .nil)) (.cons (.bin .add (.int 1) (.call 14 (.cons (.am (.v 0)) (.cons (.int 2) .nil)))) .nil)))))
.skip)
.skip)
(.seq (.ife (.cmp .eq (.var 3) (.int 2))
(.seq (.asg 10 (.tup (.cons (.str "look") (.cons (.idx (.var 5) (.int 0)) (.cons (.tup (.cons (.var 4) .nil)) (.cons (.tup (.cons (.str "tell") (.cons (.str "in") .nil))) (.cons (.tup (.cons (.str "look") (.cons (.idx (.vw (.v 8)) (.neg (.int 1))) (.cons (.tup (.cons (.var 4) .nil)) (.cons (.tup (.cons (.str "tell") (.cons (.str "dead") .nil))) (.cons (.tup (.cons (.str "tell") (.cons (.str "in") .nil))) .nil)))))) .nil)))))))
(.seq (.ret (.tup (.cons (.str "look") (.cons (.idx (.var 5) (.int 0)) (.cons (.tup (.cons (.var 4) .nil)) (.cons (.var 10) (.cons (.tup (.cons (.str "tell") (.cons (.str "out") .nil))) .nil)))))))
.skip))
.skip)
(.seq (.asg 6 (.tup (.cons (.str "tell") (.cons (.str "yes") .nil))))
(.seq (.for_ (.n 7) (.slc (.vw (.v 8)) .abs (.int 4))
(.seq (.asg 6 (.tup (.cons (.str "look") (.cons (.var 7) (.cons (.tup (.cons (.call 14 (.cons (.am (.v 0)) (.cons (.var 1) .nil))) .nil)) (.cons (.var 6) (.cons (.tup (.cons (.str "tell") (.cons (.str "no") .nil))) .nil)))))))
.skip))
(.seq (.ret (.var 6))
.skip)))))))))))
def d21 : DD := ⟨"_law_program", ["barrel", "marks", "places"], [], ["barrel", "marks", "places", "form", "mark", "some", "program", "place", "mixed", "left", "inner"], ⟨[true, false, false], 11, b21⟩, top 28⟩
def b22 : S :=
(.seq (.ife (.or (.not (.isi (.var 4) [.tuple])) (.cmp .ne (.bi .len (.cons (.var 4) .nil)) (.bi .len (.cons (.idx (.var 0) (.int 2)) .nil))))
(.seq (.ret (.bl false))
.skip)
.skip)
(.seq (.for_ (.n 5) (.var 4)
(.seq (.ife (.or (.not (.isi (.var 5) [.int])) (.or (.isi (.var 5) [.bool]) (.not (.chain .le .lt (.int 0) (.var 5) (.bi .len (.cons (.idx (.var 0) (.int 0)) .nil))))))
(.seq (.ret (.bl false))
.skip)
.skip)
.skip))
(.seq (.ret (.cmp .ne (.call 16 (.cons (.var 1) (.cons (.var 4) .nil))) (.call 16 (.cons (.var 1) (.cons (.call 18 (.cons (.var 4) (.cons (.var 2) (.cons (.var 3) .nil)))) .nil)))))
.skip)))
def d22 : DD := ⟨"_law_good", ["setting", "program", "one", "other", "told"], [], ["setting", "program", "one", "other", "told", "mark"], ⟨[false, false, false, false, false], 6, b22⟩, top 29⟩
def b23 : S :=
(.seq (.parA [5, 6] (.cons (.bi .len (.cons (.idx (.var 0) (.int 2)) .nil)) (.cons (.at (.lst .nil)) .nil)))
(.seq (.asg 2 (.call 17 (.cons (.bi .len (.cons (.idx (.var 0) (.int 0)) .nil)) (.cons (.var 5) .nil))))
(.seq (.asgM 3 (.dpt (.comp [10] (.n 10) (.var 2) (.bl true) (.tup (.cons (.var 10) (.cons (.call 16 (.cons (.var 1) (.cons (.var 10) .nil))) .nil))))))
(.seq (.for_ (.n 4) (.rng1 (.var 5))
(.seq (.for_ (.n 7) (.rng1 (.var 5))
(.seq (.asg 8 (.cmp .eq (.bi .len (.cons (.comp [10] (.n 10) (.var 2) (.cmp .ne (.dgt 3 (.var 10)) (.dgt 3 (.call 18 (.cons (.var 10) (.cons (.var 4) (.cons (.var 7) .nil)))))) (.var 10)) .nil)) (.int 0)))
(.seq (.ife (.not (.call 15 (.cons (.call 11 (.cons (.var 0) (.cons (.var 1) (.cons (.var 4) (.cons (.var 7) .nil))))) (.cons (.var 8) .nil))))
(.seq (.ret .non)
.skip)
.skip)
(.seq (.asg 9 (.call 12 (.cons (.var 0) (.cons (.var 1) (.cons (.var 4) (.cons (.var 7) .nil))))))
(.seq (.ife (.or (.and (.var 8) (.notN (.var 9))) (.and (.not (.var 8)) (.not (.call 22 (.cons (.var 0) (.cons (.var 1) (.cons (.var 4) (.cons (.var 7) (.cons (.var 9) .nil)))))))))
(.seq (.ret .non)
.skip)
.skip)
(.seq (.ife (.var 8)
(.seq (.app (.v 6) (.tup (.cons (.var 4) (.cons (.var 7) .nil))))
.skip)
.skip)
.skip))))))
.skip))
(.seq (.frz 6)
(.seq (.ret (.var 6))
.skip))))))
def d23 : DD := ⟨"_law_asked", ["setting", "program"], [], ["setting", "program", "rows", "words", "one", "places", "found", "other", "due", "told", "row"], ⟨[false, false], 11, b23⟩, top 30⟩
def b24 : S :=
(.seq (.asg 3 (.tup (.cons (.str "any") (.cons (.str "fixed") (.cons (.str "ring") (.cons (.str "turn") .nil))))))
(.seq (.asg 4 (.bi .tuple (.cons (.comp [5] (.n 5) (.rng1 (.bin .add (.int 1) (.call 14 (.cons (.am (.v 0)) (.cons (.int 3) .nil))))) (.bl true) (.tup (.cons (.bin .add (.str "h") (.bi .str (.cons (.var 5) .nil))) (.cons (.idx (.var 3) (.call 14 (.cons (.am (.v 0)) (.cons (.int 4) .nil)))) .nil)))) .nil)))
(.seq (.ret (.tup (.cons (.slc (.tup (.cons (.str "ma") (.cons (.str "mb") (.cons (.str "mc") (.cons (.str "md") (.cons (.str "me") .nil)))))) .abs (.var 1)) (.cons (.var 4) (.cons (.bi .tuple (.cons (.comp [5] (.n 5) (.rng1 (.var 2)) (.bl true) (.tup (.cons (.bin .add (.str "q") (.bi .str (.cons (.var 5) .nil))) (.cons (.call 14 (.cons (.am (.v 0)) (.cons (.bi .len (.cons (.var 4) .nil)) .nil))) .nil)))) .nil)) .nil)))))
.skip)))
def d24 : DD := ⟨"_law_setting", ["barrel", "marks", "places"], [], ["barrel", "marks", "places", "manners", "trays", "k"], ⟨[true, false, false], 6, b24⟩, top 31⟩
def b25 : S :=
(.seq (.asg 0 (.tup (.cons (.tup (.cons (.str "red") (.cons (.str "blue") .nil))) (.cons (.tup (.cons (.tup (.cons (.str "bag") (.cons (.str "any") .nil))) (.cons (.tup (.cons (.str "wreath") (.cons (.str "ring") .nil))) .nil))) (.cons (.tup (.cons (.tup (.cons (.str "b1") (.cons (.int 0) .nil))) (.cons (.tup (.cons (.str "b2") (.cons (.int 0) .nil))) (.cons (.tup (.cons (.str "b3") (.cons (.int 0) .nil))) (.cons (.tup (.cons (.str "w1") (.cons (.int 1) .nil))) (.cons (.tup (.cons (.str "w2") (.cons (.int 1) .nil))) (.cons (.tup (.cons (.str "w3") (.cons (.int 1) .nil))) .nil))))))) .nil)))))
(.seq (.asg 1 (.tup (.cons (.str "look") (.cons (.int 2) (.cons (.tup (.cons (.int 0) .nil)) (.cons (.tup (.cons (.str "tell") (.cons (.str "two") .nil))) (.cons (.tup (.cons (.str "tell") (.cons (.str "few") .nil))) .nil)))))))
(.seq (.asg 2 (.tup (.cons (.str "look") (.cons (.int 0) (.cons (.tup (.cons (.int 0) .nil)) (.cons (.tup (.cons (.str "look") (.cons (.int 1) (.cons (.tup (.cons (.int 0) .nil)) (.cons (.tup (.cons (.str "tell") (.cons (.str "two") .nil))) (.cons (.var 1) .nil)))))) (.cons (.tup (.cons (.str "look") (.cons (.int 1) (.cons (.tup (.cons (.int 0) .nil)) (.cons (.var 1) (.cons (.tup (.cons (.str "tell") (.cons (.str "few") .nil))) .nil)))))) .nil)))))))
(.seq (.asg 3 (.tup (.cons (.str "look") (.cons (.int 3) (.cons (.tup (.cons (.int 0) .nil)) (.cons (.tup (.cons (.str "tell") (.cons (.str "red") .nil))) (.cons (.var 2) .nil)))))))
(.seq (.asg 4 (.tup (.cons (.call 11 (.cons (.var 0) (.cons (.var 2) (.cons (.int 0) (.cons (.int 2) .nil))))) (.cons (.call 11 (.cons (.var 0) (.cons (.var 2) (.cons (.int 4) (.cons (.int 5) .nil))))) (.cons (.call 12 (.cons (.var 0) (.cons (.var 2) (.cons (.int 0) (.cons (.int 1) .nil))))) (.cons (.call 11 (.cons (.var 0) (.cons (.var 3) (.cons (.int 3) (.cons (.int 4) .nil))))) (.cons (.callP 11 .nil (.cons (.int 4) (.cons (.int 5) (.cons (.var 3) (.cons (.var 0) .nil)))) [3, 2, 1, 0]) (.cons (.call 11 (.cons (.var 0) (.cons (.var 3) (.cons (.int 3) (.cons (.int 3) .nil))))) (.cons (.callP 12 .nil (.cons (.int 0) (.cons (.int 0) (.cons (.var 3) (.cons (.var 0) .nil)))) [3, 2, 1, 0]) (.cons (.call 11 (.cons (.var 0) (.cons (.var 2) (.cons (.int 0) (.cons (.int 3) .nil))))) .nil))))))))))
(.seq (.asg 5 (.tup (.cons (.bl true) (.cons (.bl true) (.cons .non (.cons (.bl false) (.cons (.bl true) (.cons (.bl true) (.cons .non (.cons (.bl false) .nil))))))))))
(.seq (.ife (.cmp .gt (.bi .len (.cons (.comp [6] (.n 6) (.rng1 (.bi .len (.cons (.var 5) .nil))) (.not (.call 15 (.cons (.idx (.var 4) (.var 6)) (.cons (.idx (.var 5) (.var 6)) .nil)))) (.var 6)) .nil)) (.int 0))
(.seq (.ret (.bl false))
.skip)
.skip)
(.seq (.ret (.and (.call 22 (.cons (.var 0) (.cons (.var 3) (.cons (.int 3) (.cons (.int 4) (.cons (.call 12 (.cons (.var 0) (.cons (.var 3) (.cons (.int 3) (.cons (.int 4) .nil))))) .nil)))))) (.call 22 (.cons (.var 0) (.cons (.var 2) (.cons (.int 2) (.cons (.int 5) (.cons (.call 12 (.cons (.var 0) (.cons (.var 2) (.cons (.int 2) (.cons (.int 5) .nil))))) .nil))))))))
.skip))))))))
def d25 : DD := ⟨"_law_hand", [], [], ["setting", "third", "two", "first", "told", "due", "k"], ⟨[], 7, b25⟩, top 32⟩
def b26 : S :=
(.seq (.asg 1 (.call 24 (.cons (.am (.v 0)) (.cons (.int 5) (.cons (.int 8) .nil)))))
(.seq (.parA [7, 8] (.cons (.at (.lst .nil)) (.cons (.at (.rlst (.int 8))) .nil)))
(.seq (.whl 100000 (.vw (.v 8))
(.seq (.app (.v 7) (.popAt (.v 8) (.call 14 (.cons (.am (.v 0)) (.cons (.bi .len (.cons (.vw (.v 8)) .nil)) .nil)))))
.skip))
(.seq (.asg 2 (.bin .add (.int 3) (.call 14 (.cons (.am (.v 0)) (.cons (.int 4) .nil)))))
(.seq (.asg 3 (.tup (.cons (.str "tell") (.cons (.str "none") .nil))))
(.seq (.for_ (.n 4) (.rng1 (.var 2))
(.seq (.asg 3 (.tup (.cons (.str "look") (.cons (.lf (.ixv (.v 7) 4)) (.cons (.ite (.cmp .eq (.var 4) (.int 0)) (.tup (.cons (.int 0) (.cons (.int 3) .nil))) (.tup (.cons (.int 1) (.cons (.int 3) .nil)))) (.cons (.tup (.cons (.str "tell") (.cons (.str "some") .nil))) (.cons (.var 3) .nil)))))))
.skip))
(.seq (.asg 5 (.lst (.cons (.slc (.vw (.v 7)) .abs (.int 1)) (.cons (.slc (.vw (.v 7)) (.int 1) (.var 2)) (.cons (.slc (.vw (.v 7)) (.var 2) .abs) .nil)))))
(.seq (.for_ (.n 6) (.rng1 (.int 8))
(.seq (.asgT (.t (.cons (.n 11) (.cons (.n 12) .nil))) (.tup (.cons (.call 14 (.cons (.am (.v 0)) (.cons (.int 8) .nil))) (.cons (.call 14 (.cons (.am (.v 0)) (.cons (.int 8) .nil))) .nil))))
(.seq (.asg 9 (.cmp .gt (.bi .len (.cons (.comp [13] (.n 13) (.var 5) (.and (.cmp .isin (.var 11) (.var 13)) (.cmp .isin (.var 12) (.var 13))) (.var 13)) .nil)) (.int 0)))
(.seq (.asg 10 (.call 12 (.cons (.var 1) (.cons (.var 3) (.cons (.var 11) (.cons (.var 12) .nil))))))
(.seq (.ife (.or (.not (.call 15 (.cons (.call 11 (.cons (.var 1) (.cons (.var 3) (.cons (.var 11) (.cons (.var 12) .nil))))) (.cons (.var 9) .nil)))) (.or (.and (.var 9) (.notN (.var 10))) (.and (.not (.var 9)) (.not (.call 22 (.cons (.var 1) (.cons (.var 3) (.cons (.var 11) (.cons (.var 12) (.cons (.var 10) .nil))))))))))
(.seq (.ret (.bl false))
.skip)
.skip)
.skip)))))
(.seq (.ret (.bl true))
.skip)))))))))
def d26 : DD := ⟨"_law_wide", ["barrel"], [], ["barrel", "setting", "many", "program", "k", "lots", "lap", "mixed", "left", "due", "told", "one", "other", "lot"], ⟨[true], 14, b26⟩, top 33⟩
def b27 : S :=
(.seq (.asgM 1 (.call 13 (.cons (.var 0) .nil)))
(.seq (.ife (.not (.call 25 .nil))
(.seq (.ret (.bl false))
.skip)
.skip)
(.seq (.for_ (.n 2) (.rng1 (.int 3))
(.seq (.asg 8 (.bin .add (.int 1) (.call 14 (.cons (.am (.v 1)) (.cons (.int 4) .nil)))))
(.seq (.asg 3 (.call 24 (.cons (.am (.v 1)) (.cons (.bin .add (.int 2) (.call 14 (.cons (.am (.v 1)) (.cons (.int 2) .nil)))) (.cons (.var 8) .nil)))))
(.seq (.ife (.isN (.call 23 (.cons (.var 3) (.cons (.call 21 (.cons (.am (.v 1)) (.cons (.bi .len (.cons (.idx (.var 3) (.int 0)) .nil)) (.cons (.var 8) .nil)))) .nil))))
(.seq (.ret (.bl false))
.skip)
.skip)
.skip))))
(.seq (.asg 3 (.call 24 (.cons (.am (.v 1)) (.cons (.int 2) (.cons (.int 5) .nil)))))
(.seq (.asgT (.t (.cons (.n 9) (.cons (.n 4) .nil))) (.tup (.cons (.call 14 (.cons (.am (.v 1)) (.cons (.int 5) .nil))) (.cons (.call 14 (.cons (.am (.v 1)) (.cons (.int 4) .nil))) .nil))))
(.seq (.asg 4 (.bin .add (.var 4) (.bi .int (.cons (.cmp .ge (.var 4) (.var 9)) .nil))))
(.seq (.asgM 5 (.cat (.lst (.cons (.tup (.cons (.var 9) (.cons (.var 4) .nil))) (.cons (.tup (.cons (.var 4) (.cons (.var 9) .nil))) .nil))) (.comp [7] (.n 7) (.rng1 (.int 5)) (.bl true) (.tup (.cons (.var 7) (.cons (.var 7) .nil))))))
(.seq (.asg 6 (.comp [7] (.n 7) (.rng1 (.int 5)) (.cmp .notin (.var 7) (.tup (.cons (.var 9) (.cons (.var 4) .nil)))) (.var 7)))
(.seq (.for_ (.n 7) (.var 6)
(.seq (.ext (.v 5) (.comp [10] (.n 10) (.var 6) (.cmp .ne (.var 10) (.var 7)) (.tup (.cons (.var 7) (.cons (.var 10) .nil)))))
.skip))
(.seq (.ife (.cmp .ne (.call 23 (.cons (.var 3) (.cons (.call 20 (.cons (.lst (.cons (.var 9) (.cons (.var 4) .nil))) (.cons (.tup (.cons (.int 1) .nil)) (.cons (.int 2) .nil)))) .nil))) (.bi .sorted (.cons (.vw (.v 5)) .nil)))
(.seq (.ret (.bl false))
.skip)
.skip)
(.seq (.ret (.or (.cmp .ne (.call 14 (.cons (.am (.v 1)) (.cons (.int 7) .nil))) (.int 4)) (.call 26 (.cons (.am (.v 1)) .nil))))
.skip)))))))))))
def d27 : DD := ⟨"law", ["script"], [], ["script", "barrel", "lap", "setting", "other", "both", "rest", "k", "places", "one", "j"], ⟨[false], 11, b27⟩, top 34⟩
def fns : List DD := [d0, d1, d2, d3, d4, d5, d6, d7, d8, d9, d10, d11, d12, d13, d14, d15, d16, d17, d18, d19, d20, d21, d22, d23, d24, d25, d26, d27]
theorem ok0 : DOk fns d0 where
  sc := by decide +kernel
  len := rfl
  ns := rfl
  look := by decide +kernel
  bi := fun _ _ _ _ _ _ us hl => match us, hl with | [_, _], _ => rfl
  kb := by intro k hk; simp [d0] at hk
  kp := by intro q hk; simp [d0] at hk
theorem ok1 : DOk fns d1 where
  sc := by decide +kernel
  len := rfl
  ns := rfl
  look := by decide +kernel
  bi := fun _ _ _ _ _ _ us hl => match us, hl with | [_, _, _], _ => rfl
  kb := by intro k hk; simp [d1] at hk
  kp := by intro q hk; simp [d1] at hk
theorem ok2 : DOk fns d2 where
  sc := by decide +kernel
  len := rfl
  ns := rfl
  look := by decide +kernel
  bi := fun _ _ _ _ _ _ us hl => match us, hl with | [_, _, _], _ => rfl
  kb := by intro k hk; simp [d2] at hk
  kp := by intro q hk; simp [d2] at hk
theorem ok3 : DOk fns d3 where
  sc := by decide +kernel
  len := rfl
  ns := rfl
  look := by decide +kernel
  bi := fun _ _ _ _ _ _ us hl => match us, hl with | [_, _, _], _ => rfl
  kb := by intro k hk; simp [d3] at hk
  kp := by intro q hk; simp [d3] at hk
theorem ok4 : DOk fns d4 where
  sc := by decide +kernel
  len := rfl
  ns := rfl
  look := by decide +kernel
  bi := fun _ _ _ _ _ _ us hl => match us, hl with | [_], _ => rfl
  kb := by intro k hk; simp [d4] at hk
  kp := by intro q hk; simp [d4] at hk
theorem ok5 : DOk fns d5 where
  sc := by decide +kernel
  len := rfl
  ns := rfl
  look := by decide +kernel
  bi := fun _ _ _ _ _ _ us hl => match us, hl with | [_, _, _, _], _ => rfl
  kb := by intro k hk; simp [d5] at hk
  kp := by intro q hk; simp [d5] at hk
theorem ok6 : DOk fns d6 where
  sc := by decide +kernel
  len := rfl
  ns := rfl
  look := by decide +kernel
  bi := fun _ _ _ _ _ _ us hl => match us, hl with | [_, _], _ => rfl
  kb := by intro k hk; simp [d6] at hk
  kp := by intro q hk; simp [d6] at hk
theorem ok7 : DOk fns d7 where
  sc := by decide +kernel
  len := rfl
  ns := rfl
  look := by decide +kernel
  bi := fun _ _ _ _ _ _ us hl => match us, hl with | [_, _], _ => rfl
  kb := by intro k hk; simp [d7] at hk
  kp := by intro q hk; simp [d7] at hk
theorem ok8 : DOk fns d8 where
  sc := by decide +kernel
  len := rfl
  ns := rfl
  look := by decide +kernel
  bi := fun _ _ _ _ _ _ us hl => match us, hl with | [_, _], _ => rfl
  kb := by intro k hk; simp [d8] at hk
  kp := by intro q hk; simp [d8] at hk
theorem ok9 : DOk fns d9 where
  sc := by decide +kernel
  len := rfl
  ns := rfl
  look := by decide +kernel
  bi := fun _ _ _ _ _ _ us hl => match us, hl with | [_, _, _], _ => rfl
  kb := by intro k hk; simp [d9] at hk
  kp := by intro q hk; simp [d9] at hk
theorem ok10 : DOk fns d10 where
  sc := by decide +kernel
  len := rfl
  ns := rfl
  look := by decide +kernel
  bi := fun _ _ _ _ _ _ us hl => match us, hl with | [_, _, _], _ => rfl
  kb := by intro k hk; simp [d10] at hk
  kp := by intro q hk; simp [d10] at hk
theorem ok11 : DOk fns d11 where
  sc := by decide +kernel
  len := rfl
  ns := rfl
  look := by decide +kernel
  bi := fun _ _ _ _ _ _ us hl => match us, hl with | [_, _, _, _], _ => rfl
  kb := by intro k hk; simp [d11] at hk
  kp := by
    intro q hk kV doc pm an cdv ct us ws h1 h2
    simp [d11] at hk
    rcases hk with rfl
    · have g0 : us.length + 4 = 4 := h1
      have g1 : us.length = 0 := by omega
      have g2 : ws.length = 4 := by simpa using h2
      clear h1 h2
      match us, ws, g1, g2 with | [], [_, _, _, _], _, _ => rfl

theorem ok12 : DOk fns d12 where
  sc := by decide +kernel
  len := rfl
  ns := rfl
  look := by decide +kernel
  bi := fun _ _ _ _ _ _ us hl => match us, hl with | [_, _, _, _], _ => rfl
  kb := by intro k hk; simp [d12] at hk
  kp := by
    intro q hk kV doc pm an cdv ct us ws h1 h2
    simp [d12] at hk
    rcases hk with rfl
    · have g0 : us.length + 4 = 4 := h1
      have g1 : us.length = 0 := by omega
      have g2 : ws.length = 4 := by simpa using h2
      clear h1 h2
      match us, ws, g1, g2 with | [], [_, _, _, _], _, _ => rfl

theorem ok13 : DOk fns d13 where
  sc := by decide +kernel
  len := rfl
  ns := rfl
  look := by decide +kernel
  bi := fun _ _ _ _ _ _ us hl => match us, hl with | [_], _ => rfl
  kb := by intro k hk; simp [d13] at hk
  kp := by intro q hk; simp [d13] at hk
theorem ok14 : DOk fns d14 where
  sc := by decide +kernel
  len := rfl
  ns := rfl
  look := by decide +kernel
  bi := fun _ _ _ _ _ _ us hl => match us, hl with | [_, _], _ => rfl
  kb := by intro k hk; simp [d14] at hk
  kp := by intro q hk; simp [d14] at hk
theorem ok15 : DOk fns d15 where
  sc := by decide +kernel
  len := rfl
  ns := rfl
  look := by decide +kernel
  bi := fun _ _ _ _ _ _ us hl => match us, hl with | [_, _], _ => rfl
  kb := by intro k hk; simp [d15] at hk
  kp := by intro q hk; simp [d15] at hk
theorem ok16 : DOk fns d16 where
  sc := by decide +kernel
  len := rfl
  ns := rfl
  look := by decide +kernel
  bi := fun _ _ _ _ _ _ us hl => match us, hl with | [_, _], _ => rfl
  kb := by intro k hk; simp [d16] at hk
  kp := by intro q hk; simp [d16] at hk
theorem ok17 : DOk fns d17 where
  sc := by decide +kernel
  len := rfl
  ns := rfl
  look := by decide +kernel
  bi := fun _ _ _ _ _ _ us hl => match us, hl with | [_, _], _ => rfl
  kb := by intro k hk; simp [d17] at hk
  kp := by intro q hk; simp [d17] at hk
theorem ok18 : DOk fns d18 where
  sc := by decide +kernel
  len := rfl
  ns := rfl
  look := by decide +kernel
  bi := fun _ _ _ _ _ _ us hl => match us, hl with | [_, _, _], _ => rfl
  kb := by intro k hk; simp [d18] at hk
  kp := by intro q hk; simp [d18] at hk
theorem ok19 : DOk fns d19 where
  sc := by decide +kernel
  len := rfl
  ns := rfl
  look := by decide +kernel
  bi := fun _ _ _ _ _ _ us hl => match us, hl with | [_, _, _, _], _ => rfl
  kb := by intro k hk; simp [d19] at hk
  kp := by intro q hk; simp [d19] at hk
theorem ok20 : DOk fns d20 where
  sc := by decide +kernel
  len := rfl
  ns := rfl
  look := by decide +kernel
  bi := fun _ _ _ _ _ _ us hl => match us, hl with | [_, _, _], _ => rfl
  kb := by intro k hk; simp [d20] at hk
  kp := by intro q hk; simp [d20] at hk
theorem ok21 : DOk fns d21 where
  sc := by decide +kernel
  len := rfl
  ns := rfl
  look := by decide +kernel
  bi := fun _ _ _ _ _ _ us hl => match us, hl with | [_, _, _], _ => rfl
  kb := by intro k hk; simp [d21] at hk
  kp := by intro q hk; simp [d21] at hk
theorem ok22 : DOk fns d22 where
  sc := by decide +kernel
  len := rfl
  ns := rfl
  look := by decide +kernel
  bi := fun _ _ _ _ _ _ us hl => match us, hl with | [_, _, _, _, _], _ => rfl
  kb := by intro k hk; simp [d22] at hk
  kp := by intro q hk; simp [d22] at hk
theorem ok23 : DOk fns d23 where
  sc := by decide +kernel
  len := rfl
  ns := rfl
  look := by decide +kernel
  bi := fun _ _ _ _ _ _ us hl => match us, hl with | [_, _], _ => rfl
  kb := by intro k hk; simp [d23] at hk
  kp := by intro q hk; simp [d23] at hk
theorem ok24 : DOk fns d24 where
  sc := by decide +kernel
  len := rfl
  ns := rfl
  look := by decide +kernel
  bi := fun _ _ _ _ _ _ us hl => match us, hl with | [_, _, _], _ => rfl
  kb := by intro k hk; simp [d24] at hk
  kp := by intro q hk; simp [d24] at hk
theorem ok25 : DOk fns d25 where
  sc := by decide +kernel
  len := rfl
  ns := rfl
  look := by decide +kernel
  bi := fun _ _ _ _ _ _ us hl => match us, hl with | [], _ => rfl
  kb := by intro k hk; simp [d25] at hk
  kp := by intro q hk; simp [d25] at hk
theorem ok26 : DOk fns d26 where
  sc := by decide +kernel
  len := rfl
  ns := rfl
  look := by decide +kernel
  bi := fun _ _ _ _ _ _ us hl => match us, hl with | [_], _ => rfl
  kb := by intro k hk; simp [d26] at hk
  kp := by intro q hk; simp [d26] at hk
theorem ok27 : DOk fns d27 where
  sc := by decide +kernel
  len := rfl
  ns := rfl
  look := by decide +kernel
  bi := fun _ _ _ _ _ _ us hl => match us, hl with | [_], _ => rfl
  kb := by intro k hk; simp [d27] at hk
  kp := by intro q hk; simp [d27] at hk
theorem oks : ∀ d, d ∈ fns → DOk fns d := by
  intro d hd
  simp only [fns, List.mem_cons, List.not_mem_nil, or_false] at hd
  rcases hd with rfl | rfl | rfl | rfl | rfl | rfl | rfl | rfl | rfl | rfl | rfl | rfl | rfl | rfl | rfl | rfl | rfl | rfl | rfl | rfl | rfl | rfl | rfl | rfl | rfl | rfl | rfl | rfl
  · exact ok0
  · exact ok1
  · exact ok2
  · exact ok3
  · exact ok4
  · exact ok5
  · exact ok6
  · exact ok7
  · exact ok8
  · exact ok9
  · exact ok10
  · exact ok11
  · exact ok12
  · exact ok13
  · exact ok14
  · exact ok15
  · exact ok16
  · exact ok17
  · exact ok18
  · exact ok19
  · exact ok20
  · exact ok21
  · exact ok22
  · exact ok23
  · exact ok24
  · exact ok25
  · exact ok26
  · exact ok27
end K24

set_option Elab.async false
set_option linter.all false
set_option maxRecDepth 100000
set_option maxHeartbeats 1000000
namespace K24
open PY PySem
local macro_rules | `(tactic| walk_at "py") => `(tactic| (first
  | with_reducible refine x_add ?_
  | with_reducible refine x_sub ?_
  | ((with_reducible refine x_mul ?_ ?_); next => first | exact mulOk_r (by decide) | exact mulOk_l (by decide))
  | ((with_reducible refine x_mod ?_ ?_); next => decide)
  | ((with_reducible refine x_fdv ?_ ?_); next => decide)
  | ((with_reducible refine Exists.intro ?w0 (And.intro ?h0 ?k0)); (case h0 => rfl))
  | ((with_reducible refine And.intro (a := _ ≤ (1000000 : Nat)) ?_ ?_); next => (simp only [List.length_cons, List.length_nil]; decide))
  | with_reducible refine s_seq ?_
  | with_reducible refine s_skip ?_
  | with_reducible refine ks_nx ?_
  | with_reducible refine ks_rt ?_
  | with_reducible refine s_set ?_
  | with_reducible refine s_asg ?_
  | with_reducible refine s_asgM ?_
  | with_reducible refine s_ret ?_
  | with_reducible refine s_retM ?_
  | with_reducible refine s_ife ?_
  | with_reducible refine s_for ?_
  | with_reducible refine k_t ?_
  | with_reducible refine k_f ?_
  | with_reducible refine k_tn ?_
  | with_reducible refine k_fn ?_
  | with_reducible refine w_rng1 ?_
  | with_reducible refine w_int ?_
  | with_reducible refine w_str ?_
  | with_reducible refine w_bl ?_
  | with_reducible refine w_non ?_
  | with_reducible refine w_abs ?_
  | with_reducible refine w_nil ?_
  | with_reducible refine w_at ?_
  | with_reducible refine w_bin ?_
  | with_reducible refine w_bi ?_
  | with_reducible refine w_idx ?_
  | ((with_reducible refine w_cst (d := ?w0) ?hx ?h0 ?k0); (case hx => rfl); (case h0 => rfl))
  | with_reducible refine w_chain ?_
  | with_reducible refine w_srs ?_
  | with_reducible refine w_tup ?_
  | with_reducible refine w_dnw ?_
  | with_reducible refine w_dinT ?_
  | with_reducible refine w_din ?_
  | with_reducible refine w_lst ?_
  | with_reducible refine w_lstM ?_
  | with_reducible refine w_cmp ?_
  | with_reducible refine w_cmpT ?_
  | with_reducible refine w_ite ?_
  | with_reducible refine w_slc ?_
  | with_reducible refine w_slm ?_
  | with_reducible refine w_isi ?_
  | with_reducible refine w_isiT ?_
  | with_reducible refine w_me ?_
  | with_reducible refine w_call ?_
  | with_reducible refine w_callM ?_
  | with_reducible refine w_callK ?_
  | with_reducible refine w_andT ?_
  | with_reducible refine w_and ?_
  | with_reducible refine w_or ?_
  | with_reducible refine w_not ?_
  | with_reducible refine w_orT ?_
  | with_reducible refine w_notT ?_
  | with_reducible refine w_isNT ?_
  | with_reducible refine w_notNT ?_
  | with_reducible refine w_callP ?_
  | with_reducible refine w_enum ?_
  | with_reducible refine w_rng2 ?_
  | with_reducible refine w_nst ?_
  | with_reducible refine s_par2 ?_
  | with_reducible refine s_asgT ?_
  | ((with_reducible refine x_pow ?_ ?_); next => decide)
  | ((with_reducible refine w_mv (m := ?w0) ?h0 ?k0); (case h0 => rfl))
  | ((with_reducible refine s_ins (u := ()) ?h0 ?k0); (case h0 => rfl))
  | with_reducible refine w_rlst ?_
  | with_reducible refine w_lof ?_
  | with_reducible refine w_rtup ?_
  | with_reducible refine w_revm ?_
  | with_reducible refine w_rep ?_
  | with_reducible refine w_dct ?_
  | with_reducible refine w_rev ?_
  | with_reducible refine w_isN ?_
  | with_reducible refine w_notN ?_
  | with_reducible refine s_parA ?_
  | with_reducible refine s_cnt ?_
  | with_reducible refine ks_ct ?_
  | with_reducible refine w_neg ?_
  | with_reducible refine w_blT ?_
  | ((with_reducible refine w_var (d := ?w0) ?h0 ?k0); (case h0 => rfl))
  | ((with_reducible refine w_lf (d := ?w0) ?h0 ?k0); (case h0 => rfl))
  | ((with_reducible refine w_vw (d := ?w0) ?h0 ?k0); (case h0 => rfl))
  | ((with_reducible refine w_cons ?_ ?_); next => rfl)
  | ((with_reducible refine w_am (m := ?w0) ?h0 ?k0); (case h0 => rfl))
  | ((with_reducible refine w_t ?h0 ?k0); (case h0 => rfl))
  | ((with_reducible refine s_app (u := ()) ?h0 ?k0); (case h0 => rfl))
  | ((with_reducible refine s_frz (m := ?m0) (d := ?d0) (env' := ?e0) ?h0 ?h1 ?h2 ?k0); (case h0 => rfl); (case h1 => rfl); (case h2 => rfl))))
/-! programs -/
inductive Pg where
  | tell (w : Str) | look (p : Nat) (ms : List Int) (y n : Pg)
  deriving DecidableEq
def Pg.D : Pg → PyData
  | .tell w => .tuple [.str "tell", .str w]
  | .look p ms y n => .tuple [.str "look", .int (p : Int), .tuple (ms.map PyData.int), y.D, n.D]
def Pg.h : Pg → Nat
  | .tell _ => 0
  | .look _ _ y n => 1 + max y.h n.h
def Pg.lk : Pg → Nat
  | .tell _ => 0
  | .look _ _ y n => 1 + y.lk + n.lk
def Pg.Ok (k : Nat) : Pg → Prop
  | .tell w => PyData.strOk w = true
  | .look p ms y n => p < k ∧ ms.length ≤ 100 ∧ y.Ok k ∧ n.Ok k
theorem look_D (p : Nat) (ms : List Int) (y n : Pg) : (Pg.look p ms y n).D = .tuple [.str "look", .int (p : Int), .tuple (ms.map PyData.int), y.D, n.D] := rfl
theorem tell_D (w : Str) : (Pg.tell w).D = .tuple [.str "tell", .str w] := rfl
theorem ne_look : decide (("look" : Str) = "tell") = false := by decide +kernel
theorem ne_tell : decide (("tell" : Str) = "look") = false := by decide +kernel
theorem is_tell : decide (("tell" : Str) = "tell") = true := decide_eq_true rfl
theorem is_look : decide (("look" : Str) = "look") = true := decide_eq_true rfl
def Pg.nd : Pg → Nat
  | .tell _ => 1
  | .look _ _ y n => 1 + y.nd + n.nd
theorem nd_lk : ∀ p : Pg, p.nd = 2 * p.lk + 1
  | .tell _ => rfl
  | .look p ms y n => by
    have h1 := nd_lk y
    have h2 := nd_lk n
    simp only [Pg.nd, Pg.lk]
    omega
/-! the barrel -/
def Bar (a b : Int) : M := .fl [.int a, .int b]
def IsB (x : M) : Prop := ∃ a b, x = Bar a b
theorem tip (n : Nat) (x : M) (hx : IsB x) (many : Int) (hm : 0 < many) :
    Gives (callF gcL (TL fns) (n + 1) 14 [.m x, .d (.int many)]) fun r ms => (∃ d, r = .d (.int d) ∧ 0 ≤ d ∧ d < many) ∧ ∃ x', ms = [.m x'] ∧ IsB x' := by
  obtain ⟨a, b, rfl⟩ := hx
  refine call_of rfl (run_of rfl ?_)
  show Wp (evS gcL _ b14 [.m (Bar a b), .d (.int many)]) _ _
  unfold b14 Bar
  repeat walk_at "py"
  refine ⟨_, _, _, rfl, rfl, rfl, ?_⟩
  repeat walk_at "py"
  refine ⟨_, _, _, rfl, rfl, rfl, ?_⟩
  repeat walk_at "py"
  refine x_mod hm ?_
  exact ⟨⟨_, rfl, Int.emod_nonneg _ (by omega), Int.emod_lt_of_pos _ hm⟩, _, rfl, _, _, rfl⟩
theorem idx_back {cs : List Int} {k : Nat} (h : k < cs.length) : ∃ z : Int, idxD (.list (cs.map PyData.int)) (.int (-1 - (k : Int))) = some (.int z) := by
  refine ⟨cs[cs.length - 1 - k]'(by omega), ?_⟩
  show atI (cs.map PyData.int) (-1 - (k : Int)) = _
  unfold atI ixN L2.ixN
  rw [if_neg (by omega), if_pos (by rw [List.length_map]; omega)]
  rw [List.length_map, show (-1 - (k : Int) + (cs.length : Int)).toNat = cs.length - 1 - k by omega]
  simp [show cs.length - 1 - k < cs.length by omega]
theorem law_barrel (n : Nat) (ns : List Int) (hl : ns.length ≤ 63) : Gives (callF gcL (TL fns) (n + 1) 13 [.d (.list (ns.map PyData.int))]) fun r ms => (∃ x, r = .m x ∧ IsB x) ∧ ms = [] := by
  refine call_of rfl (run_of rfl ?_)
  show Wp (evS gcL _ b13 [.d (.list (ns.map PyData.int)), .un, .un, .un, .un, .un]) _ _
  unfold b13
  repeat walk_at "py"
  with_reducible refine w_eM rfl (w_comp ?_)
  with_reducible refine w_it rfl ?_
  repeat walk_at "py"
  rw [cut_map]
  have hc := cut_len ns none (some 46)
  generalize cutL ns none (some 46) = cn at hc
  obtain ⟨N, hN, hs⟩ := shl2000
  refine ⟨by rw [List.length_map]; omega, ?_⟩
  refine comp_map (F := fun z => .int ((if z < 0 then -z else z) % N)) (fun e => ∃ d, e = [_, _, _, _, _, d]) ⟨_, rfl⟩ ?_ ?_
  · rintro z hz e ⟨d, rfl⟩
    refine w_turn rfl (w_blT (k_t ?_))
    repeat (first | (refine ⟨_, hs, ?_⟩) | walk_at "py")
    refine x_mod hN ?_
    exact ⟨rfl, _, rfl⟩
  rintro e ⟨d, rfl⟩
  rw [show cn.map (fun z => PyData.int ((if z < 0 then -z else z) % N)) = (cn.map fun z => (if z < 0 then -z else z) % N).map PyData.int by rw [List.map_map]; rfl]
  generalize hcs : (cn.map fun z => (if z < 0 then -z else z) % N) = cs
  have hcl : cs.length ≤ 63 := by rw [← hcs, List.length_map]; omega
  repeat walk_at "py"
  refine ⟨small_nat (by rw [List.length_map]; omega), ?_⟩
  rw [List.length_map]
  with_reducible refine for_ix (n := cs.length) (fun k e => ∃ (c : Sl) (a b : Int), e = [.d (.list (ns.map PyData.int)), .d (.list (cs.map PyData.int)), c, .d (.int a), .d (.int b), .un]) ?_ ?_ ?_
  · exact ⟨_, _, _, rfl⟩
  · rintro k e hk ⟨c, a, b, rfl⟩
    obtain ⟨z, hz⟩ := idx_back hk
    refine s_turn rfl ?_
    repeat walk_at "py"
    refine ⟨_, at_lst (by rw [List.length_map]; exact hk), ?_⟩
    rw [List.getElem_map]
    repeat walk_at "py"
    refine ⟨_, hz, ?_⟩
    repeat walk_at "py"
    exact ⟨_, _, _, rfl⟩
  · rintro e ⟨c, a, b, rfl⟩
    repeat walk_at "py"
    exact ⟨⟨_, rfl, _, _, rfl⟩, rfl⟩

end K24

set_option Elab.async false
set_option linter.all false
set_option maxRecDepth 100000
set_option maxHeartbeats 1000000
namespace K24
open PY PySem
local macro_rules | `(tactic| walk_at "py") => `(tactic| (first
  | with_reducible refine x_add ?_
  | with_reducible refine x_sub ?_
  | ((with_reducible refine x_mul ?_ ?_); next => first | exact mulOk_r (by decide) | exact mulOk_l (by decide))
  | ((with_reducible refine x_mod ?_ ?_); next => decide)
  | ((with_reducible refine x_fdv ?_ ?_); next => decide)
  | ((with_reducible refine Exists.intro ?w0 (And.intro ?h0 ?k0)); (case h0 => rfl))
  | ((with_reducible refine And.intro (a := _ ≤ (1000000 : Nat)) ?_ ?_); next => (simp only [List.length_cons, List.length_nil]; decide))
  | with_reducible refine s_seq ?_
  | with_reducible refine s_skip ?_
  | with_reducible refine ks_nx ?_
  | with_reducible refine ks_rt ?_
  | with_reducible refine s_set ?_
  | with_reducible refine s_asg ?_
  | with_reducible refine s_asgM ?_
  | with_reducible refine s_ret ?_
  | with_reducible refine s_retM ?_
  | with_reducible refine s_ife ?_
  | with_reducible refine s_for ?_
  | with_reducible refine k_t ?_
  | with_reducible refine k_f ?_
  | with_reducible refine k_tn ?_
  | with_reducible refine k_fn ?_
  | with_reducible refine w_rng1 ?_
  | with_reducible refine w_int ?_
  | with_reducible refine w_str ?_
  | with_reducible refine w_bl ?_
  | with_reducible refine w_non ?_
  | with_reducible refine w_abs ?_
  | with_reducible refine w_nil ?_
  | with_reducible refine w_at ?_
  | with_reducible refine w_bin ?_
  | with_reducible refine w_bi ?_
  | with_reducible refine w_idx ?_
  | ((with_reducible refine w_cst (d := ?w0) ?hx ?h0 ?k0); (case hx => rfl); (case h0 => rfl))
  | with_reducible refine w_chain ?_
  | with_reducible refine w_srs ?_
  | with_reducible refine w_tup ?_
  | with_reducible refine w_dnw ?_
  | with_reducible refine w_dinT ?_
  | with_reducible refine w_din ?_
  | with_reducible refine w_lst ?_
  | with_reducible refine w_lstM ?_
  | with_reducible refine w_cmp ?_
  | with_reducible refine w_cmpT ?_
  | with_reducible refine w_ite ?_
  | with_reducible refine w_slc ?_
  | with_reducible refine w_slm ?_
  | with_reducible refine w_isi ?_
  | with_reducible refine w_isiT ?_
  | with_reducible refine w_me ?_
  | with_reducible refine w_call ?_
  | with_reducible refine w_callM ?_
  | with_reducible refine w_callK ?_
  | with_reducible refine w_andT ?_
  | with_reducible refine w_and ?_
  | with_reducible refine w_or ?_
  | with_reducible refine w_not ?_
  | with_reducible refine w_orT ?_
  | with_reducible refine w_notT ?_
  | with_reducible refine w_isNT ?_
  | with_reducible refine w_notNT ?_
  | with_reducible refine w_callP ?_
  | with_reducible refine w_enum ?_
  | with_reducible refine w_rng2 ?_
  | with_reducible refine w_nst ?_
  | with_reducible refine s_par2 ?_
  | with_reducible refine s_asgT ?_
  | ((with_reducible refine x_pow ?_ ?_); next => decide)
  | ((with_reducible refine w_mv (m := ?w0) ?h0 ?k0); (case h0 => rfl))
  | ((with_reducible refine s_ins (u := ()) ?h0 ?k0); (case h0 => rfl))
  | with_reducible refine w_rlst ?_
  | with_reducible refine w_lof ?_
  | with_reducible refine w_rtup ?_
  | with_reducible refine w_revm ?_
  | with_reducible refine w_rep ?_
  | with_reducible refine w_dct ?_
  | with_reducible refine w_rev ?_
  | with_reducible refine w_isN ?_
  | with_reducible refine w_notN ?_
  | with_reducible refine s_parA ?_
  | with_reducible refine s_cnt ?_
  | with_reducible refine ks_ct ?_
  | with_reducible refine w_neg ?_
  | with_reducible refine w_blT ?_
  | ((with_reducible refine w_var (d := ?w0) ?h0 ?k0); (case h0 => rfl))
  | ((with_reducible refine w_lf (d := ?w0) ?h0 ?k0); (case h0 => rfl))
  | ((with_reducible refine w_vw (d := ?w0) ?h0 ?k0); (case h0 => rfl))
  | ((with_reducible refine w_cons ?_ ?_); next => rfl)
  | ((with_reducible refine w_am (m := ?w0) ?h0 ?k0); (case h0 => rfl))
  | ((with_reducible refine w_t ?h0 ?k0); (case h0 => rfl))
  | ((with_reducible refine s_app (u := ()) ?h0 ?k0); (case h0 => rfl))
  | ((with_reducible refine s_frz (m := ?m0) (d := ?d0) (env' := ?e0) ?h0 ?h1 ?h2 ?k0); (case h0 => rfl); (case h1 => rfl); (case h2 => rfl))))
def sgD (ms : List PyData) (t : PyData) (ps : List PyData) : PyData := .tuple [.tuple ms, t, .tuple ps]
theorem side_y (m : Nat) (p : Nat) (ms : List Int) (y n : Pg) (b : Bool) : Gives (callF gcL (TL fns) (m + 1) 0 [.d (Pg.look p ms y n).D, .d (.int (if b then 1 else 0))]) fun r mm => r = .d (if b then y else n).D ∧ mm = [] := by
  refine call_of rfl (run_of rfl ?_)
  show Wp (evS gcL _ b0 [.d (Pg.look p ms y n).D, .d (.int (if b then 1 else 0))]) _ _
  unfold b0
  rw [look_D]
  cases b
  · repeat walk_at "py"
    refine k_f ?_
    repeat walk_at "py"
    exact ⟨rfl, rfl⟩
  · repeat walk_at "py"
    refine k_t ?_
    repeat walk_at "py"
    exact ⟨rfl, rfl⟩
/-! boxes -/
def allM (mk : Nat) : List Int := (List.range mk).map fun (i : Nat) => (i : Int)
def fullB (mk pl : Nat) : List (List Int) := List.replicate pl (allM mk)
theorem rng_allM (mk : Nat) : rangeD 0 (mk : Int) = (allM mk).map PyData.int := by
  rw [rangeD_nat, allM, List.map_map]; rfl
theorem full_box (m : Nat) (ms : List PyData) (t : PyData) (ps : List PyData) (hm : ms.length ≤ 100) (h1 : 1 ≤ ps.length) (h2 : ps.length ≤ 100) : Gives (callF gcL (TL fns) (m + 1) 4 [.d (sgD ms t ps)]) fun r mm => r = .d (bxD (fullB ms.length ps.length)) ∧ mm = [] := by
  refine call_of rfl (run_of rfl ?_)
  show Wp (evS gcL _ b4 [.d (sgD ms t ps)]) _ _
  unfold b4 sgD
  repeat walk_at "py"
  refine ⟨(allM ms.length).map PyData.int, ?_, ?_⟩
  · rw [← rng_allM]
    exact if_pos ⟨by omega, by omega⟩
  repeat walk_at "py"
  refine Exists.intro _ (And.intro (if_pos ⟨rfl, by omega, by omega, by simp⟩) ?_)
  refine ⟨?_, rfl⟩
  congr 2
  show (List.replicate ps.length [intsT (allM ms.length)]).flatten = _
  rw [fullB, List.map_replicate]
  generalize ps.length = k
  induction k with
  | zero => rfl
  | succ k ih => rw [List.replicate_succ, List.replicate_succ, List.flatten_cons, ih]; rfl
def nar (b : List (List Int)) (p : Nat) (ms : List Int) (yes : Bool) : List Int := (b.getD p []).filter fun m => decide (decide (m ∈ ms) = yes)
theorem emptyT (l : List Int) : truD (.tuple (l.map PyData.int)) = some (!l.isEmpty) := by
  cases l <;> rfl
theorem set_cut {b : List (List Int)} {p : Nat} {l : List Int} (h : p < b.length) : (b.take p).map intsT ++ [intsT l] ++ (b.drop (p + 1)).map intsT = (b.set p l).map intsT := by
  rw [List.set_eq_take_append_cons_drop, if_pos h]
  simp
theorem narrowed (m : Nat) (b : List (List Int)) (p : Nat) (hp : p < b.length) (ms : List Int) (yes : Bool) (hb : b.length ≤ 100) (hbm : ∀ x, x ∈ b → x.length ≤ 100) :
    Gives (callF gcL (TL fns) (m + 1) 5 [.d (bxD b), .d (.int (p : Int)), .d (intsT ms), .d (.int (if yes then 1 else 0))]) fun r mm => r = .d (if (nar b p ms yes).isEmpty then .none else bxD (b.set p (nar b p ms yes))) ∧ mm = [] := by
  refine call_of rfl (run_of rfl ?_)
  show Wp (evS gcL _ b5 [.d (bxD b), .d (.int (p : Int)), .d (intsT ms), .d (.int (if yes then 1 else 0)), .un, .un]) _ _
  unfold b5
  repeat walk_at "py"
  with_reducible refine w_eM rfl (w_comp ?_)
  with_reducible refine w_it rfl ?_
  repeat walk_at "py"
  refine ⟨_, bx_at hp, ?_⟩
  unfold intsT
  repeat walk_at "py"
  refine ⟨?_, ?_⟩
  · rw [List.length_map]
    have : b.getD p [] ∈ b := by simp [List.getD, hp]
    have := hbm _ this
    omega
  refine comp_filt (ls := b.getD p []) (p := fun z => decide (decide (z ∈ ms) = yes)) (F := PyData.int) (fun e => ∃ d, e = [_, _, _, _, _, d]) ⟨_, rfl⟩ ?_ ?_
  · rintro z hz e ⟨d, rfl⟩
    refine w_turn rfl ?_
    repeat walk_at "py"
    refine ⟨_, is_in z ms, ?_⟩
    repeat walk_at "py"
    have hyb : ((if yes then (1 : Int) else 0) != 0) = yes := by cases yes <;> rfl
    rw [hyb]
    refine And.intro (fun h => ?_) (fun h => ?_)
    · repeat walk_at "py"
      exact ⟨by rw [if_pos h], _, rfl⟩
    · exact ⟨by rw [h]; rfl, _, rfl⟩
  · rintro e ⟨d, rfl⟩
    repeat walk_at "py"
    refine And.intro (fun h => ?_) (fun h => ?_)
    · have he : (nar b p ms yes).isEmpty = false := by have h' : (!((nar b p ms yes).map PyData.int).isEmpty) = true := h; simpa using h'
      unfold bxD
      repeat walk_at "py"
      rw [cut_map, cut_hi (by omega)]
      refine x_addt (by simp; omega) ?_
      repeat walk_at "py"
      rw [cut_map, show ((p : Int) + 1) = ((p + 1 : Nat) : Int) by omega, cut_lo (by omega)]
      refine x_addt (by simp; omega) ?_
      repeat walk_at "py"
      refine ⟨?_, rfl⟩
      rw [he]
      show Sl.d (.tuple ((b.take p).map intsT ++ [intsT (nar b p ms yes)] ++ (b.drop (p + 1)).map intsT)) = Sl.d (.tuple ((b.set p (nar b p ms yes)).map intsT))
      rw [set_cut hp]
    · have he : (nar b p ms yes).isEmpty = true := by have h' : (!((nar b p ms yes).map PyData.int).isEmpty) = false := h; simpa using h'
      repeat walk_at "py"
      exact ⟨by rw [he]; rfl, rfl⟩
/-! the ends that rows come to -/
abbrev End := List Int × Str × List (List Int)
def pre (i : Int) (x : End) : End := (i :: x.1, x.2)
def yesI (b : Bool) : Int := if b then 1 else 0
def ends : Pg → List (List Int) → List End
  | .tell w, b => [([], w, b)]
  | .look p ms y n, b => (if (nar b p ms true).isEmpty then [] else (ends y (b.set p (nar b p ms true))).map (pre 1)) ++ (if (nar b p ms false).isEmpty then [] else (ends n (b.set p (nar b p ms false))).map (pre 0))
def sideE (p : Nat) (ms : List Int) (y n : Pg) (b : List (List Int)) (yes : Bool) : List End := if (nar b p ms yes).isEmpty then [] else (ends (if yes then y else n) (b.set p (nar b p ms yes))).map (pre (if yes then 1 else 0))
theorem ends_look (p : Nat) (ms : List Int) (y n : Pg) (b : List (List Int)) : ends (.look p ms y n) b = sideE p ms y n b true ++ sideE p ms y n b false := rfl
/-- a box of k places, no mark too many, at each place some -/
structure Bx (k : Nat) (b : List (List Int)) : Prop where
  len : b.length = k
  le : ∀ x, x ∈ b → x.length ≤ 100
  ne : ∀ x, x ∈ b → x ≠ []
theorem Bx.set {k : Nat} {b : List (List Int)} (h : Bx k b) {p : Nat} {ms : List Int} {yes : Bool} (hp : p < k) (he : (nar b p ms yes).isEmpty = false) : Bx k (b.set p (nar b p ms yes)) where
  len := by rw [List.length_set]; exact h.len
  le := by
    intro x hx
    rcases List.mem_or_eq_of_mem_set hx with hx | rfl
    · exact h.le x hx
    · have h1 : b.getD p [] ∈ b := by simp [List.getD, h.len, hp]
      exact Nat.le_trans (List.length_filter_le _ _) (h.le _ h1)
  ne := by
    intro x hx
    rcases List.mem_or_eq_of_mem_set hx with hx | rfl
    · exact h.ne x hx
    · intro e; rw [e] at he; cases he
theorem ends_le : ∀ (p : Pg) (b : List (List Int)), (ends p b).length ≤ p.nd
  | .tell _, _ => Nat.le_refl _
  | .look p ms y n, b => by
    have h1 := ends_le y (b.set p (nar b p ms true))
    have h2 := ends_le n (b.set p (nar b p ms false))
    rw [ends, List.length_append, Pg.nd]
    have h3 : (if (nar b p ms true).isEmpty then [] else (ends y (b.set p (nar b p ms true))).map (pre 1)).length ≤ y.nd := by split <;> simp [h1]
    have h4 : (if (nar b p ms false).isEmpty then [] else (ends n (b.set p (nar b p ms false))).map (pre 0)).length ≤ n.nd := by split <;> simp [h2]
    omega
theorem ends_way : ∀ (p : Pg) (b : List (List Int)) (x : End), x ∈ ends p b → x.1.length ≤ p.h
  | .tell _, _, x, h => by
    simp only [ends, List.mem_singleton] at h
    subst h
    exact Nat.le_refl _
  | .look p ms y n, b, x, h => by
    rw [ends, List.mem_append] at h
    simp only [Pg.h]
    rcases h with h | h
    · split at h
      · cases h
      · obtain ⟨z, hz, rfl⟩ := List.mem_map.mp h
        have := ends_way y _ z hz
        simp only [pre, List.length_cons]
        omega
    · split at h
      · cases h
      · obtain ⟨z, hz, rfl⟩ := List.mem_map.mp h
        have := ends_way n _ z hz
        simp only [pre, List.length_cons]
        omega
theorem ends_bx {k : Nat} : ∀ (p : Pg) (b : List (List Int)) (x : End), p.Ok k → Bx k b → x ∈ ends p b → Bx k x.2.2
  | .tell _, _, x, _, hb, h => by
    simp only [ends, List.mem_singleton] at h
    subst h
    exact hb
  | .look p ms y n, b, x, ok, hb, h => by
    obtain ⟨hp, _, oy, on⟩ := ok
    rw [ends, List.mem_append] at h
    rcases h with h | h
    · split at h
      · cases h
      · rename_i he
        obtain ⟨z, hz, rfl⟩ := List.mem_map.mp h
        exact ends_bx y _ z oy (hb.set hp (by simpa using he)) hz
    · split at h
      · cases h
      · rename_i he
        obtain ⟨z, hz, rfl⟩ := List.mem_map.mp h
        exact ends_bx n _ z on (hb.set hp (by simpa using he)) hz
def endD (x : End) : PyData := .tuple [.tuple (x.1.map PyData.int), .str x.2.1, bxD x.2.2]
theorem none_not (b : List (List Int)) : isNone (bxD b) = false := rfl
theorem ends_from : ∀ (pg : Pg) (m k : Nat) (b : List (List Int)), pg.h + 2 ≤ m → pg.h ≤ 20 → pg.nd ≤ 1000 → pg.Ok k → Bx k b → k ≤ 100 → Gives (callF gcL (TL fns) m 6 [.d pg.D, .d (bxD b)]) fun r mm => r = .d (.list ((ends pg b).map endD)) ∧ mm = []
  | .tell w, m + 1, k, b, hm, hh, hn, ok, hb, hk => by
    refine call_of rfl (run_of rfl ?_)
    show Wp (evS gcL _ b6 [.d (Pg.tell w).D, .d (bxD b), .un, .un, .un, .un, .un, .un, .un]) _ _
    unfold b6
    rw [tell_D]
    repeat walk_at "py"
    rw [is_tell]
    refine k_t ?_
    repeat walk_at "py"
    exact ⟨rfl, rfl⟩
  | .look p ms y n, m + 2, k, b, hm, hh, hn, ok, hb, hk => by
    have ok' := ok
    obtain ⟨hp, hms, oy, on⟩ := ok
    simp only [Pg.h] at hm hh
    simp only [Pg.nd] at hn
    refine call_of rfl (run_of rfl ?_)
    show Wp (evS gcL _ b6 [.d (Pg.look p ms y n).D, .d (bxD b), .un, .un, .un, .un, .un, .un, .un]) _ _
    unfold b6
    rw [look_D]
    repeat walk_at "py"
    rw [ne_look]
    refine k_f ?_
    repeat walk_at "py"
    with_reducible refine w_it rfl ?_
    repeat walk_at "py"
    refine for_pre (ls := [true, false]) (toD := fun yes => .int (if yes then 1 else 0)) (fun l1 e => ∃ v1 v2 v3 v4 v5 v6, e = [.d (Pg.look p ms y n).D, .d (bxD b), .m (.fl ((l1.flatMap (sideE p ms y n b)).map endD)), v1, v2, v3, v4, v5, v6]) ⟨_, _, _, _, _, _, rfl⟩ ?_ ?_
    · rintro l1 yes l2 h e ⟨v1, v2, v3, v4, v5, v6, rfl⟩
      have hlen : (l1.flatMap (sideE p ms y n b)).length ≤ 1000 ∧ (sideE p ms y n b yes).length ≤ 1000 := by
        have h1 := ends_le y (b.set p (nar b p ms true))
        have h2 := ends_le n (b.set p (nar b p ms false))
        have s1 : (sideE p ms y n b true).length ≤ y.nd := by unfold sideE; split <;> simp [h1]
        have s2 : (sideE p ms y n b false).length ≤ n.nd := by unfold sideE; split <;> simp [h2]
        have h5 : l1 = [] ∨ l1 = [true] := by
          cases l1 with
          | nil => exact .inl rfl
          | cons a l1 =>
            cases l1 with
            | nil => simp at h; exact .inr (by rw [h.1])
            | cons c l1 => simp at h
        refine ⟨?_, by cases yes <;> omega⟩
        rcases h5 with rfl | rfl
        · simp
        · simp; omega
      have hfm : (l1 ++ [yes]).flatMap (sideE p ms y n b) = l1.flatMap (sideE p ms y n b) ++ sideE p ms y n b yes := by simp
      refine s_turn rfl ?_
      rw [look_D]
      repeat walk_at "py"
      refine wp_call rfl ((narrowed m b p (by rw [hb.len]; exact hp) ms yes (by rw [hb.len]; exact hk) hb.le).mono ?_)
      rintro r mm ⟨rfl, rfl⟩
      refine ⟨_, rfl, _, rfl, ?_⟩
      cases he : (nar b p ms yes).isEmpty with
      | true =>
        rw [if_pos rfl]
        repeat walk_at "py"
        refine k_f ?_
        repeat walk_at "py"
        have : sideE p ms y n b yes = [] := by unfold sideE; rw [he]; rfl
        exact ⟨rfl, _, _, _, _, _, _, by rw [hfm, this, List.append_nil]; rfl⟩
      | false =>
        rw [if_neg (c := false = true) (by decide)]
        repeat walk_at "py"
        rw [none_not]
        refine k_t ?_
        repeat walk_at "py"
        rw [← look_D]
        refine wp_call rfl ((side_y m p ms y n yes).mono ?_)
        rintro r mm ⟨rfl, rfl⟩
        refine ⟨_, rfl, _, rfl, ?_⟩
        repeat walk_at "py"
        refine wp_call rfl ((ends_from (if yes then y else n) (m + 1) k (b.set p (nar b p ms yes)) ?_ ?_ ?_ ?_ (hb.set hp he) hk).mono ?_)
        · cases yes <;> simp <;> omega
        · cases yes <;> simp <;> omega
        · cases yes <;> simp <;> omega
        · cases yes <;> simp <;> assumption
        rintro r mm ⟨rfl, rfl⟩
        refine ⟨_, rfl, _, rfl, ?_⟩
        repeat walk_at "py"
        have hside : sideE p ms y n b yes = (ends (if yes then y else n) (b.set p (nar b p ms yes))).map (pre (if yes then 1 else 0)) := by unfold sideE; rw [he]; rfl
        have hw : ∀ x, x ∈ ends (if yes then y else n) (b.set p (nar b p ms yes)) → x.1.length ≤ 20 := by
          intro x hx
          have := ends_way _ _ x hx
          cases yes <;> simp at this <;> omega
        rw [hside, List.length_map] at hlen
        generalize ends (if yes then y else n) (b.set p (nar b p ms yes)) = es at hside hw hlen
        with_reducible refine s_ext (u := ()) rfl ?_
        with_reducible refine w_comp ?_
        with_reducible refine w_it rfl ?_
        repeat walk_at "py"
        refine ⟨by rw [List.length_map]; omega, ?_⟩
        refine comp_map (F := fun x => endD (pre (if yes then 1 else 0) x)) (fun e => ∃ a b' c, e = [_, _, _, _, _, _, a, b', c]) ⟨_, _, _, rfl⟩ ?_ ?_
        · rintro x hx e ⟨a, b', c, rfl⟩
          have := hw x hx
          refine w_turn rfl (w_blT (k_t ?_))
          unfold endD
          repeat walk_at "py"
          refine x_addt (by simp; omega) ?_
          repeat walk_at "py"
          exact ⟨rfl, _, _, _, rfl⟩
        · rintro e ⟨a, b', c, rfl⟩
          refine ⟨_, _, _, rfl, rfl, by rw [List.length_map, List.length_map]; omega, rfl, ?_⟩
          repeat walk_at "py"
          exact ⟨rfl, _, _, _, _, _, _, by rw [hfm, hside, List.map_append, List.map_map]; rfl⟩
    · rintro e ⟨v1, v2, v3, v4, v5, v6, rfl⟩
      repeat walk_at "py"
      refine ⟨?_, rfl⟩
      rw [ends_look]
      simp

theorem ends_of (m k : Nat) (pg : Pg) (ms : List PyData) (t : PyData) (ps : List PyData) (hm1 : 1 ≤ ms.length) (hm : ms.length ≤ 100) (h1 : 1 ≤ ps.length) (h2 : ps.length ≤ 100) (hpg : pg.h + 2 ≤ m) (hh : pg.h ≤ 20) (hn : pg.nd ≤ 1000) (ok : pg.Ok ps.length) (hb : Bx ps.length (fullB ms.length ps.length)) :
    Gives (callF gcL (TL fns) (m + 1) 7 [.d (sgD ms t ps), .d pg.D]) fun r mm => r = .d (.list ((ends pg (fullB ms.length ps.length)).map endD)) ∧ mm = [] := by
  obtain ⟨m, rfl⟩ : ∃ j, m = j + 1 := ⟨m - 1, by omega⟩
  refine call_of rfl (run_of rfl ?_)
  show Wp (evS gcL _ b7 [.d (sgD ms t ps), .d pg.D]) _ _
  unfold b7
  repeat walk_at "py"
  refine wp_call rfl ((full_box m ms t ps hm h1 h2).mono ?_)
  rintro r mm ⟨rfl, rfl⟩
  refine ⟨_, rfl, _, rfl, ?_⟩
  repeat walk_at "py"
  refine wp_call rfl ((ends_from pg (m + 1) ps.length _ hpg hh hn ok hb h2).mono ?_)
  rintro r mm ⟨rfl, rfl⟩
  refine ⟨_, rfl, _, rfl, ?_⟩
  repeat walk_at "py"
  exact ⟨rfl, rfl⟩
theorem full_bx {mk pl : Nat} (h1 : 1 ≤ mk) (h2 : mk ≤ 100) : Bx pl (fullB mk pl) where
  len := by simp [fullB]
  le := by
    intro x hx
    obtain ⟨_, rfl⟩ := List.mem_replicate.mp hx
    simp [allM]; omega
  ne := by
    intro x hx
    obtain ⟨_, rfl⟩ := List.mem_replicate.mp hx
    intro e
    have := congrArg List.length e
    simp [allM] at this
    omega


end K24

set_option Elab.async false
set_option linter.all false
set_option maxRecDepth 100000
set_option maxHeartbeats 1000000
namespace K24
open PY PySem
local macro_rules | `(tactic| walk_at "py") => `(tactic| (first
  | with_reducible refine x_add ?_
  | with_reducible refine x_sub ?_
  | ((with_reducible refine x_mul ?_ ?_); next => first | exact mulOk_r (by decide) | exact mulOk_l (by decide))
  | ((with_reducible refine x_mod ?_ ?_); next => decide)
  | ((with_reducible refine x_fdv ?_ ?_); next => decide)
  | ((with_reducible refine Exists.intro ?w0 (And.intro ?h0 ?k0)); (case h0 => rfl))
  | ((with_reducible refine And.intro (a := _ ≤ (1000000 : Nat)) ?_ ?_); next => (simp only [List.length_cons, List.length_nil]; decide))
  | with_reducible refine s_seq ?_
  | with_reducible refine s_skip ?_
  | with_reducible refine ks_nx ?_
  | with_reducible refine ks_rt ?_
  | with_reducible refine s_set ?_
  | with_reducible refine s_asg ?_
  | with_reducible refine s_asgM ?_
  | with_reducible refine s_ret ?_
  | with_reducible refine s_retM ?_
  | with_reducible refine s_ife ?_
  | with_reducible refine s_for ?_
  | with_reducible refine k_t ?_
  | with_reducible refine k_f ?_
  | with_reducible refine k_tn ?_
  | with_reducible refine k_fn ?_
  | with_reducible refine w_rng1 ?_
  | with_reducible refine w_int ?_
  | with_reducible refine w_str ?_
  | with_reducible refine w_bl ?_
  | with_reducible refine w_non ?_
  | with_reducible refine w_abs ?_
  | with_reducible refine w_nil ?_
  | with_reducible refine w_at ?_
  | with_reducible refine w_bin ?_
  | with_reducible refine w_bi ?_
  | with_reducible refine w_idx ?_
  | ((with_reducible refine w_cst (d := ?w0) ?hx ?h0 ?k0); (case hx => rfl); (case h0 => rfl))
  | with_reducible refine w_chain ?_
  | with_reducible refine w_srs ?_
  | with_reducible refine w_tup ?_
  | with_reducible refine w_dnw ?_
  | with_reducible refine w_dinT ?_
  | with_reducible refine w_din ?_
  | with_reducible refine w_lst ?_
  | with_reducible refine w_lstM ?_
  | with_reducible refine w_cmp ?_
  | with_reducible refine w_cmpT ?_
  | with_reducible refine w_ite ?_
  | with_reducible refine w_slc ?_
  | with_reducible refine w_slm ?_
  | with_reducible refine w_isi ?_
  | with_reducible refine w_isiT ?_
  | with_reducible refine w_me ?_
  | with_reducible refine w_call ?_
  | with_reducible refine w_callM ?_
  | with_reducible refine w_callK ?_
  | with_reducible refine w_andT ?_
  | with_reducible refine w_and ?_
  | with_reducible refine w_or ?_
  | with_reducible refine w_not ?_
  | with_reducible refine w_orT ?_
  | with_reducible refine w_notT ?_
  | with_reducible refine w_isNT ?_
  | with_reducible refine w_notNT ?_
  | with_reducible refine w_callP ?_
  | with_reducible refine w_enum ?_
  | with_reducible refine w_rng2 ?_
  | with_reducible refine w_nst ?_
  | with_reducible refine s_par2 ?_
  | with_reducible refine s_asgT ?_
  | ((with_reducible refine x_pow ?_ ?_); next => decide)
  | ((with_reducible refine w_mv (m := ?w0) ?h0 ?k0); (case h0 => rfl))
  | ((with_reducible refine s_ins (u := ()) ?h0 ?k0); (case h0 => rfl))
  | with_reducible refine w_rlst ?_
  | with_reducible refine w_lof ?_
  | with_reducible refine w_rtup ?_
  | with_reducible refine w_revm ?_
  | with_reducible refine w_rep ?_
  | with_reducible refine w_dct ?_
  | with_reducible refine w_rev ?_
  | with_reducible refine w_isN ?_
  | with_reducible refine w_notN ?_
  | with_reducible refine s_parA ?_
  | with_reducible refine s_cnt ?_
  | with_reducible refine ks_ct ?_
  | with_reducible refine w_neg ?_
  | with_reducible refine w_blT ?_
  | ((with_reducible refine w_var (d := ?w0) ?h0 ?k0); (case h0 => rfl))
  | ((with_reducible refine w_lf (d := ?w0) ?h0 ?k0); (case h0 => rfl))
  | ((with_reducible refine w_vw (d := ?w0) ?h0 ?k0); (case h0 => rfl))
  | ((with_reducible refine w_cons ?_ ?_); next => rfl)
  | ((with_reducible refine w_am (m := ?w0) ?h0 ?k0); (case h0 => rfl))
  | ((with_reducible refine w_t ?h0 ?k0); (case h0 => rfl))
  | ((with_reducible refine s_app (u := ()) ?h0 ?k0); (case h0 => rfl))
  | ((with_reducible refine s_frz (m := ?m0) (d := ?d0) (env' := ?e0) ?h0 ?h1 ?h2 ?k0); (case h0 => rfl); (case h1 => rfl); (case h2 => rfl))))
/-! which end a row comes to -/
theorem getD_set (b : List (List Int)) (p i : Nat) (l : List Int) : (b.set p l).getD i [] = if p = i ∧ i < b.length then l else b.getD i [] := by
  simp only [List.getD, List.getElem?_set]
  by_cases h : p = i
  · subst h
    by_cases h2 : p < b.length <;> simp [h2]
  · simp [h]
theorem mem_nar {b : List (List Int)} {p : Nat} {ms : List Int} {yes : Bool} {x : Int} : x ∈ nar b p ms yes ↔ x ∈ b.getD p [] ∧ decide (x ∈ ms) = yes := by
  simp [nar]
def tells : Pg → List Int → Str
  | .tell w, _ => w
  | .look p ms y n, row => if row.getD p 0 ∈ ms then tells y row else tells n row
def InB (row : List Int) (b : List (List Int)) : Prop := ∀ i, i < b.length → row.getD i 0 ∈ b.getD i []
theorem InB.set {row : List Int} {b : List (List Int)} (h : InB row b) {p : Nat} (hp : p < b.length) {ms : List Int} {yes : Bool} (hy : decide (row.getD p 0 ∈ ms) = yes) : InB row (b.set p (nar b p ms yes)) := by
  intro i hi
  rw [List.length_set] at hi
  rw [getD_set]
  split
  · rename_i e
    rw [← e.1]
    exact mem_nar.mpr ⟨h p hp, hy⟩
  · exact h i hi
theorem nil_not {l : List Int} {x : Int} (h : l.isEmpty = true) (hx : x ∈ l) : False := by
  cases l with
  | nil => cases hx
  | cons _ _ => cases h
theorem inB_unset {row : List Int} {b : List (List Int)} {p : Nat} (hp : p < b.length) {ms : List Int} {yes : Bool} (h : InB row (b.set p (nar b p ms yes))) : InB row b ∧ decide (row.getD p 0 ∈ ms) = yes := by
  have hpp := h p (by rw [List.length_set]; exact hp)
  rw [getD_set, if_pos ⟨rfl, hp⟩] at hpp
  obtain ⟨h1, h2⟩ := mem_nar.mp hpp
  refine ⟨fun i hi => ?_, h2⟩
  by_cases e : p = i
  · subst e; exact h1
  · have := h i (by rw [List.length_set]; exact hi)
    rw [getD_set, if_neg (fun z => e z.1)] at this
    exact this
theorem ends_sub : ∀ (p : Pg) (b : List (List Int)) (x : End) (row : List Int), p.Ok b.length → x ∈ ends p b → InB row x.2.2 → InB row b ∧ tells p row = x.2.1
  | .tell w, b, x, row, ok, h, hr => by
    rw [ends, List.mem_singleton] at h
    subst h
    exact ⟨hr, rfl⟩
  | .look p ms y n, b, x, row, ok, h, hr => by
    obtain ⟨hp, _, oy, on⟩ := ok
    rw [ends, List.mem_append] at h
    rcases h with h | h
    · split at h
      · cases h
      · obtain ⟨z, hz, rfl⟩ := List.mem_map.mp h
        obtain ⟨h1, h2⟩ := ends_sub y _ z row (by rw [List.length_set]; exact oy) hz hr
        obtain ⟨h3, h4⟩ := inB_unset hp h1
        exact ⟨h3, by rw [tells, if_pos (of_decide_eq_true h4)]; exact h2⟩
    · split at h
      · cases h
      · obtain ⟨z, hz, rfl⟩ := List.mem_map.mp h
        obtain ⟨h1, h2⟩ := ends_sub n _ z row (by rw [List.length_set]; exact on) hz hr
        obtain ⟨h3, h4⟩ := inB_unset hp h1
        exact ⟨h3, by rw [tells, if_neg (of_decide_eq_false h4)]; exact h2⟩
theorem ends_hit : ∀ (p : Pg) (b : List (List Int)) (row : List Int), p.Ok b.length → InB row b → ∃ x, x ∈ ends p b ∧ InB row x.2.2 ∧ x.2.1 = tells p row
  | .tell w, b, row, ok, hr => ⟨_, List.mem_singleton.mpr rfl, hr, rfl⟩
  | .look p ms y n, b, row, ok, hr => by
    obtain ⟨hp, _, oy, on⟩ := ok
    by_cases hm : row.getD p 0 ∈ ms
    · have hin : row.getD p 0 ∈ nar b p ms true := mem_nar.mpr ⟨hr p hp, decide_eq_true hm⟩
      obtain ⟨z, hz, h1, h2⟩ := ends_hit y (b.set p (nar b p ms true)) row (by rw [List.length_set]; exact oy) (hr.set hp (decide_eq_true hm))
      refine ⟨pre 1 z, ?_, h1, by rw [tells, if_pos hm]; exact h2⟩
      rw [ends, List.mem_append]
      refine .inl ?_
      rw [if_neg (fun e => nil_not e hin)]
      exact List.mem_map_of_mem hz
    · have hin : row.getD p 0 ∈ nar b p ms false := mem_nar.mpr ⟨hr p hp, decide_eq_false hm⟩
      obtain ⟨z, hz, h1, h2⟩ := ends_hit n (b.set p (nar b p ms false)) row (by rw [List.length_set]; exact on) (hr.set hp (decide_eq_false hm))
      refine ⟨pre 0 z, ?_, h1, by rw [tells, if_neg hm]; exact h2⟩
      rw [ends, List.mem_append]
      refine .inr ?_
      rw [if_neg (fun e => nil_not e hin)]
      exact List.mem_map_of_mem hz
/-! exchanges -/
def exL (n a b : Nat) : List Nat := ((List.range n).set a b).set b a
def ex (a b p : Nat) : Nat := if p = b then a else if p = a then b else p
def swapR (row : List Int) (a b : Nat) : List Int := (row.set a (row.getD b 0)).set b (row.getD a 0)
theorem ex_ex (a b p : Nat) : ex a b (ex a b p) = p := by
  unfold ex
  by_cases h1 : p = b
  · subst h1
    rw [if_pos rfl]
    by_cases h2 : a = p
    · rw [if_pos h2, h2]
    · rw [if_neg h2, if_pos rfl]
  · rw [if_neg h1]
    by_cases h2 : p = a
    · subst h2
      rw [if_pos rfl, if_pos rfl]
    · rw [if_neg h2, if_neg h1, if_neg h2]
theorem ex_lt {n a b p : Nat} (ha : a < n) (hb : b < n) (hp : p < n) : ex a b p < n := by
  unfold ex
  split
  · exact ha
  · split
    · exact hb
    · exact hp
theorem exL_len (n a b : Nat) : (exL n a b).length = n := by simp [exL]
theorem exL_at {n a b p : Nat} (ha : a < n) (hb : b < n) (hp : p < n) : (exL n a b)[p]'(by rw [exL_len]; exact hp) = ex a b p := by
  unfold exL ex
  rw [List.getElem_set]
  by_cases h1 : b = p
  · subst h1; simp
  · rw [if_neg h1, if_neg (fun e => h1 e.symm), List.getElem_set]
    by_cases h2 : a = p
    · subst h2; simp
    · rw [if_neg h2, if_neg (fun e => h2 e.symm)]
      simp
theorem exL_map {n a b : Nat} (ha : a < n) (hb : b < n) : exL n a b = (List.range n).map (ex a b) := by
  apply List.ext_getElem
  · rw [exL_len]; simp
  · intro p h1 h2
    rw [exL_len] at h1
    rw [exL_at ha hb h1]
    simp
theorem exL_lt {n a b : Nat} (ha : a < n) (hb : b < n) : ∀ s, s ∈ exL n a b → s < n := by
  intro s hs
  rw [exL_map ha hb] at hs
  obtain ⟨p, hp, rfl⟩ := List.mem_map.mp hs
  exact ex_lt ha hb (List.mem_range.mp hp)
theorem exL_nodup {n a b : Nat} (ha : a < n) (hb : b < n) : (exL n a b).Nodup := by
  rw [exL_map ha hb]
  refine List.Pairwise.map _ (fun x y hxy e => hxy ?_) List.nodup_range
  have := congrArg (ex a b) e
  rwa [ex_ex, ex_ex] at this
theorem exL_idx {n a b : Nat} (ha : a < n) (hb : b < n) (x : Nat × Nat) : x ∈ (exL n a b).zipIdx ↔ x.2 < n ∧ x.1 = ex a b x.2 := by
  rw [List.mem_zipIdx_iff_getElem?, List.getElem?_eq_some_iff]
  constructor
  · rintro ⟨h, e⟩
    rw [exL_len] at h
    rw [exL_at ha hb h] at e
    exact ⟨h, e.symm⟩
  · rintro ⟨h, e⟩
    exact ⟨by rw [exL_len]; exact h, by rw [exL_at ha hb h, e]⟩
theorem swapR_len (row : List Int) (a b : Nat) : (swapR row a b).length = row.length := by simp [swapR]
theorem swapR_at {row : List Int} {a b p : Nat} (ha : a < row.length) (hb : b < row.length) : (swapR row a b).getD p 0 = row.getD (ex a b p) 0 := by
  unfold swapR ex
  simp only [List.getD, List.getElem?_set, List.length_set]
  by_cases h1 : p = b
  · subst h1
    simp [ha, hb]
  · rw [if_neg (fun e => h1 e.symm), if_neg h1]
    by_cases h2 : p = a
    · subst h2
      simp [ha, hb]
    · rw [if_neg (fun e => h2 e.symm), if_neg h2]

end K24

set_option Elab.async false
set_option linter.all false
set_option maxRecDepth 100000
set_option maxHeartbeats 1000000
namespace K24
open PY PySem
local macro_rules | `(tactic| walk_at "py") => `(tactic| (first
  | with_reducible refine x_add ?_
  | with_reducible refine x_sub ?_
  | ((with_reducible refine x_mul ?_ ?_); next => first | exact mulOk_r (by decide) | exact mulOk_l (by decide))
  | ((with_reducible refine x_mod ?_ ?_); next => decide)
  | ((with_reducible refine x_fdv ?_ ?_); next => decide)
  | ((with_reducible refine Exists.intro ?w0 (And.intro ?h0 ?k0)); (case h0 => rfl))
  | ((with_reducible refine And.intro (a := _ ≤ (1000000 : Nat)) ?_ ?_); next => (simp only [List.length_cons, List.length_nil]; decide))
  | with_reducible refine s_seq ?_
  | with_reducible refine s_skip ?_
  | with_reducible refine ks_nx ?_
  | with_reducible refine ks_rt ?_
  | with_reducible refine s_set ?_
  | with_reducible refine s_asg ?_
  | with_reducible refine s_asgM ?_
  | with_reducible refine s_ret ?_
  | with_reducible refine s_retM ?_
  | with_reducible refine s_ife ?_
  | with_reducible refine s_for ?_
  | with_reducible refine k_t ?_
  | with_reducible refine k_f ?_
  | with_reducible refine k_tn ?_
  | with_reducible refine k_fn ?_
  | with_reducible refine w_rng1 ?_
  | with_reducible refine w_int ?_
  | with_reducible refine w_str ?_
  | with_reducible refine w_bl ?_
  | with_reducible refine w_non ?_
  | with_reducible refine w_abs ?_
  | with_reducible refine w_nil ?_
  | with_reducible refine w_at ?_
  | with_reducible refine w_bin ?_
  | with_reducible refine w_bi ?_
  | with_reducible refine w_idx ?_
  | ((with_reducible refine w_cst (d := ?w0) ?hx ?h0 ?k0); (case hx => rfl); (case h0 => rfl))
  | with_reducible refine w_chain ?_
  | with_reducible refine w_srs ?_
  | with_reducible refine w_tup ?_
  | with_reducible refine w_dnw ?_
  | with_reducible refine w_dinT ?_
  | with_reducible refine w_din ?_
  | with_reducible refine w_lst ?_
  | with_reducible refine w_lstM ?_
  | with_reducible refine w_cmp ?_
  | with_reducible refine w_cmpT ?_
  | with_reducible refine w_ite ?_
  | with_reducible refine w_slc ?_
  | with_reducible refine w_slm ?_
  | with_reducible refine w_isi ?_
  | with_reducible refine w_isiT ?_
  | with_reducible refine w_me ?_
  | with_reducible refine w_call ?_
  | with_reducible refine w_callM ?_
  | with_reducible refine w_callK ?_
  | with_reducible refine w_andT ?_
  | with_reducible refine w_and ?_
  | with_reducible refine w_or ?_
  | with_reducible refine w_not ?_
  | with_reducible refine w_orT ?_
  | with_reducible refine w_notT ?_
  | with_reducible refine w_isNT ?_
  | with_reducible refine w_notNT ?_
  | with_reducible refine w_callP ?_
  | with_reducible refine w_enum ?_
  | with_reducible refine w_rng2 ?_
  | with_reducible refine w_nst ?_
  | with_reducible refine s_par2 ?_
  | with_reducible refine s_asgT ?_
  | ((with_reducible refine x_pow ?_ ?_); next => decide)
  | ((with_reducible refine w_mv (m := ?w0) ?h0 ?k0); (case h0 => rfl))
  | ((with_reducible refine s_ins (u := ()) ?h0 ?k0); (case h0 => rfl))
  | with_reducible refine w_rlst ?_
  | with_reducible refine w_lof ?_
  | with_reducible refine w_rtup ?_
  | with_reducible refine w_revm ?_
  | with_reducible refine w_rep ?_
  | with_reducible refine w_dct ?_
  | with_reducible refine w_rev ?_
  | with_reducible refine w_isN ?_
  | with_reducible refine w_notN ?_
  | with_reducible refine s_parA ?_
  | with_reducible refine s_cnt ?_
  | with_reducible refine ks_ct ?_
  | with_reducible refine w_neg ?_
  | with_reducible refine w_blT ?_
  | ((with_reducible refine w_var (d := ?w0) ?h0 ?k0); (case h0 => rfl))
  | ((with_reducible refine w_lf (d := ?w0) ?h0 ?k0); (case h0 => rfl))
  | ((with_reducible refine w_vw (d := ?w0) ?h0 ?k0); (case h0 => rfl))
  | ((with_reducible refine w_cons ?_ ?_); next => rfl)
  | ((with_reducible refine w_am (m := ?w0) ?h0 ?k0); (case h0 => rfl))
  | ((with_reducible refine w_t ?h0 ?k0); (case h0 => rfl))
  | ((with_reducible refine s_app (u := ()) ?h0 ?k0); (case h0 => rfl))
  | ((with_reducible refine s_frz (m := ?m0) (d := ?d0) (env' := ?e0) ?h0 ?h1 ?h2 ?k0); (case h0 => rfl); (case h1 => rfl); (case h2 => rfl))))
def layD (l : List Nat) : PyData := .tuple (l.map natD)
/-- the two boxes have a mark in common: source s, place p -/
def com (box other : List (List Int)) (s p : Nat) : Bool := (box.getD s []).any fun m => decide (m ∈ other.getD p [])
def barL (box other : List (List Int)) (lay : List Nat) : List Nat := (lay.zipIdx.filter fun x => !com box other x.1 x.2).map (·.2)
/-- boxes and a laying of n places -/
structure Ok (n : Nat) (box other : List (List Int)) (lay : List Nat) : Prop where
  n8 : n ≤ 100
  bl : box.length = n
  ol : other.length = n
  ll : lay.length = n
  lt : ∀ s, s ∈ lay → s < n
  bm : ∀ b, b ∈ box → b.length ≤ 100
  om : ∀ b, b ∈ other → b.length ≤ 100
theorem getD_le {b : List (List Int)} (h : ∀ x, x ∈ b → x.length ≤ 100) (s : Nat) : (b.getD s []).length ≤ 100 := by
  unfold List.getD
  cases e : b[s]? with
  | none => simp
  | some x => exact h x (List.mem_of_getElem? e)
theorem idx_lt {α : Type} {l : List α} {x : α × Nat} (h : x ∈ l.zipIdx) : x.2 < l.length := by
  obtain ⟨i, hi, e⟩ := List.mem_iff_getElem.mp h
  rw [List.getElem_zipIdx] at e
  rw [List.length_zipIdx] at hi
  rw [← e]; simpa using hi
theorem barred_places (m : Nat) {n : Nat} {box other : List (List Int)} {lay : List Nat} (ok : Ok n box other lay) : Gives (callF gcL (TL fns) (m + 1) 1 [.d (bxD box), .d (bxD other), .d (layD lay)]) fun r ms => r = .d (layD (barL box other lay)) ∧ ms = [] := by
  refine call_of rfl (run_of rfl ?_)
  show Wp (evS gcL _ b1 [.d (bxD box), .d (bxD other), .d (layD lay), .un, .un, .un, .un]) _ _
  unfold b1
  unfold layD
  repeat walk_at "py"
  rw [enum_map]
  refine for_pre (ls := lay.zipIdx) (toD := fun (x : Nat × Nat) => PyData.tuple [.int (x.2 : Nat), natD x.1]) (fun l1 e => ∃ a b c, e = [.d (bxD box), .d (bxD other), .d (layD lay), .m (.fl (((l1.filter fun x => !com box other x.1 x.2).map (·.2)).map natD)), a, b, c]) ⟨_, _, _, rfl⟩ ?_ ?_
  · rintro l1 x l2 h e ⟨a, b, c, rfl⟩
    have hx : x ∈ lay.zipIdx := by rw [h]; simp
    have h1 := ok.lt _ (idx_mem hx)
    have h2 := idx_lt hx
    rw [ok.ll] at h2
    have hl1 : l1.length ≤ 100 := by
      have := congrArg List.length h
      rw [List.length_zipIdx, ok.ll, List.length_append] at this
      have := ok.n8
      omega
    have hfl := List.length_filter_le (fun x : Nat × Nat => !com box other x.1 x.2) l1
    refine s_turn rfl ?_
    unfold natD
    repeat walk_at "py"
    with_reducible refine w_eM rfl (w_comp ?_)
    with_reducible refine w_it rfl ?_
    repeat walk_at "py"
    refine ⟨_, bx_at (by rw [ok.bl]; exact h1), ?_⟩
    unfold intsT
    repeat walk_at "py"
    refine ⟨by rw [List.length_map]; have := getD_le ok.bm x.1; omega, ?_⟩
    refine comp_map (F := fun z => .bool (decide (z ∈ other.getD x.2 []))) (fun e => ∃ d, e = [_, _, _, _, .d (.int (x.2 : Nat)), .d (.int (x.1 : Nat)), d]) ⟨_, rfl⟩ ?_ ?_
    · rintro z hz e ⟨d, rfl⟩
      refine w_turn rfl (w_blT (k_t ?_))
      repeat walk_at "py"
      refine ⟨_, bx_at (by rw [ok.ol]; exact h2), _, is_in _ _, ?_⟩
      exact ⟨rfl, _, rfl⟩
    · rintro e ⟨d, rfl⟩
      repeat walk_at "py"
      refine ⟨_, any_map _ _, ?_⟩
      refine ⟨_, rfl, ?_⟩
      show ((!com box other x.1 x.2) = true → _) ∧ ((!com box other x.1 x.2) = false → _)
      refine And.intro (fun hc => ?_) (fun hc => ?_)
      · repeat walk_at "py"
        refine ⟨_, _, rfl, by rw [List.length_map, List.length_map]; omega, rfl, ?_⟩
        repeat walk_at "py"
        exact ⟨rfl, _, _, _, by rw [List.filter_append, List.filter_cons, if_pos hc, List.filter_nil, List.map_append, List.map_append]; rfl⟩
      · repeat walk_at "py"
        exact ⟨rfl, _, _, _, by rw [List.filter_append, List.filter_cons, if_neg (by rw [hc]; decide), List.filter_nil, List.append_nil]; rfl⟩
  · rintro e ⟨a, b, c, rfl⟩
    repeat walk_at "py"
    exact ⟨rfl, rfl⟩
theorem nat_ints (l : List Nat) : l.map natD = (l.map fun n => ((n : Nat) : Int)).map PyData.int := by rw [List.map_map]; rfl
/-- leads -/
theorem leads (m : Nat) {n : Nat} {box other : List (List Int)} {lay : List Nat} (ok : Ok n box other lay) : Gives (callF gcL (TL fns) (m + 2) 2 [.d (bxD box), .d (bxD other), .d (layD lay)]) fun r ms => r = .d (.bool (barL box other lay).isEmpty) ∧ ms = [] := by
  refine call_of rfl (run_of rfl ?_)
  show Wp (evS gcL _ b2 [.d (bxD box), .d (bxD other), .d (layD lay)]) _ _
  unfold b2
  repeat walk_at "py"
  refine wp_call rfl ((barred_places m ok).mono ?_)
  rintro r ms ⟨rfl, rfl⟩
  refine ⟨_, rfl, _, rfl, ?_⟩
  repeat walk_at "py"
  refine ⟨(barL box other lay).isEmpty, ?_, ?_⟩
  · unfold layD
    rw [nat_ints, show (PyData.tuple []) = .tuple [] from rfl, eq_nil]
    cases barL box other lay <;> rfl
  · repeat walk_at "py"
    exact ⟨rfl, rfl⟩
theorem minI_mem : ∀ (r : List Int) (a : Int), minI a r ∈ a :: r
  | [], a => by simp [minI]
  | b :: r, a => by
    unfold minI
    have := minI_mem r (if b < a then b else a)
    rcases List.mem_cons.mp this with h | h
    · rw [h]; split <;> simp
    · exact List.mem_cons_of_mem _ (List.mem_cons_of_mem _ h)
/-- the least of some ints -/
theorem min_some {l : List Int} (h : l ≠ []) : ∃ z, z ∈ l ∧ biD .minl [.list (l.map PyData.int)] = some (.int z) := by
  cases l with
  | nil => exact absurd rfl h
  | cons a r =>
    refine ⟨minI a r, minI_mem r a, ?_⟩
    show (intsD ((a :: r).map PyData.int)).bind _ = _
    rw [ints_some]; rfl
/-- the row so far: the looked-at sources show a mark of both boxes -/
def RowAt (box other : List (List Int)) (row : List Int) (l : List (Nat × Nat)) : Prop := ∀ x, x ∈ l → row.getD x.1 0 ∈ box.getD x.1 [] ∧ row.getD x.1 0 ∈ other.getD x.2 []
theorem bar_nil {box other : List (List Int)} {lay : List Nat} (h : barL box other lay = []) : ∀ x, x ∈ lay.zipIdx → com box other x.1 x.2 = true := by
  intro x hx
  unfold barL at h
  rw [List.map_eq_nil_iff, List.filter_eq_nil_iff] at h
  simpa using h x hx
theorem led_row (m : Nat) {n : Nat} {box other : List (List Int)} {lay : List Nat} (ok : Ok n box other lay) (nd : lay.Nodup) : Gives (callF gcL (TL fns) (m + 3) 3 [.d (bxD box), .d (bxD other), .d (layD lay)]) fun r ms => (if barL box other lay = [] then ∃ row : List Int, r = .d (intsT row) ∧ row.length = n ∧ RowAt box other row lay.zipIdx else r = .d .none) ∧ ms = [] := by
  refine call_of rfl (run_of rfl ?_)
  show Wp (evS gcL _ b3 [.d (bxD box), .d (bxD other), .d (layD lay), .un, .un, .un, .un]) _ _
  unfold b3
  repeat walk_at "py"
  refine wp_call rfl ((leads m ok).mono ?_)
  rintro r ms ⟨rfl, rfl⟩
  refine ⟨_, rfl, _, rfl, ?_⟩
  repeat walk_at "py"
  cases hb : barL box other lay with
  | cons p ps =>
    refine k_t ?_
    repeat walk_at "py"
    exact ⟨by rw [if_neg (by simp)], rfl⟩
  | nil =>
    have hcom := bar_nil hb
    refine k_f ?_
    unfold bxD
    repeat walk_at "py"
    rw [List.length_map, ok.bl]
    have hn8 := ok.n8
    refine ⟨.fl ((List.replicate n (0 : Int)).map PyData.int), ?_, ?_⟩
    · unfold repM
      simp only []
      rw [if_pos ⟨by omega, by omega, by simp; omega⟩]
      simp
    unfold layD
    repeat walk_at "py"
    rw [enum_map]
    refine for_pre (ls := lay.zipIdx) (toD := fun (x : Nat × Nat) => PyData.tuple [.int (x.2 : Nat), natD x.1]) (fun l1 e => ∃ (row : List Int) (a b c : Sl), row.length = n ∧ RowAt box other row l1 ∧ e = [.d (bxD box), .d (bxD other), .d (layD lay), .m (.fl (row.map PyData.int)), a, b, c]) ⟨_, _, _, _, by simp, fun x h => (by cases h), rfl⟩ ?_ ?_
    · rintro l1 x l2 h e ⟨row, a, b, c, hr, hra, rfl⟩
      have hx : x ∈ lay.zipIdx := by rw [h]; simp
      have h1 := ok.lt _ (idx_mem hx)
      have h2 := idx_lt hx
      rw [ok.ll] at h2
      have hne : ∀ y, y ∈ l1 → y.1 ≠ x.1 := by
        intro y hy e
        have e1 : lay = (l1 ++ x :: l2).map Prod.fst := by rw [← h, List.zipIdx_map_fst]
        rw [e1, List.map_append, List.map_cons] at nd
        have := (List.nodup_append.mp nd).2.2 y.1 (List.mem_map_of_mem hy) x.1 (by simp)
        exact this e
      refine s_turn rfl ?_
      unfold natD
      repeat walk_at "py"
      with_reducible refine w_eM rfl (w_comp ?_)
      with_reducible refine w_it rfl ?_
      repeat walk_at "py"
      refine ⟨_, bx_at (by rw [ok.bl]; exact h1), ?_⟩
      unfold intsT
      repeat walk_at "py"
      refine ⟨by rw [List.length_map]; have := getD_le ok.bm x.1; omega, ?_⟩
      refine comp_filt (p := fun z => decide (z ∈ other.getD x.2 [])) (F := fun z => .int z) (fun e => ∃ d, e = [_, _, _, _, .d (.int (x.2 : Nat)), .d (.int (x.1 : Nat)), d]) ⟨_, rfl⟩ ?_ ?_
      · rintro z hz e ⟨d, rfl⟩
        refine w_turn rfl ?_
        repeat walk_at "py"
        refine ⟨_, bx_at (by rw [ok.ol]; exact h2), _, is_in _ _, ?_⟩
        refine And.intro (fun hh => ?_) (fun hh => ?_)
        · repeat walk_at "py"
          exact ⟨by rw [if_pos hh], _, rfl⟩
        · exact ⟨by rw [if_neg (by rw [hh]; decide)], _, rfl⟩
      · rintro e ⟨d, rfl⟩
        have hcx := hcom x hx
        obtain ⟨z0, hz1, hz2⟩ : ∃ z0, z0 ∈ box.getD x.1 [] ∧ z0 ∈ other.getD x.2 [] := by
          unfold com at hcx
          obtain ⟨z0, hz1, hz2⟩ := List.any_eq_true.mp hcx
          exact ⟨z0, hz1, of_decide_eq_true hz2⟩
        obtain ⟨z, hz, hmin⟩ := min_some (l := (box.getD x.1 []).filter fun z => decide (z ∈ other.getD x.2 [])) (by
          intro e
          rw [List.filter_eq_nil_iff] at e
          exact e z0 hz1 (decide_eq_true hz2))
        rw [List.mem_filter, decide_eq_true_eq] at hz
        repeat walk_at "py"
        refine ⟨_, hmin, ?_⟩
        repeat walk_at "py"
        have hset : setItemM (.fl (row.map PyData.int)) (.int (x.1 : Nat)) (.int z) = some (.fl ((row.set x.1 z).map PyData.int)) := by
          unfold setItemM
          simp only []
          have : ixN (row.map PyData.int).length (x.1 : Int) = some x.1 := by
            unfold ixN L2.ixN
            rw [if_pos (by omega), if_pos (by rw [List.length_map, hr]; omega)]; rfl
          rw [this]
          simp
        refine ⟨_, _, _, rfl, hset, rfl, ?_⟩
        repeat walk_at "py"
        refine ⟨rfl, row.set x.1 z, _, _, _, by rw [List.length_set]; exact hr, ?_, rfl⟩
        intro y hy
        rcases List.mem_append.mp hy with hy | hy
        · have := hra y hy
          have hyx := hne y hy
          simpa [List.getD, List.getElem?_set_ne (Ne.symm hyx)] using this
        · rw [List.mem_singleton.mp hy]
          simpa [List.getD, List.getElem?_set_self (show x.1 < row.length by rw [hr]; exact h1)] using hz
    · rintro e ⟨row, a, b, c, hr, hra, rfl⟩
      repeat walk_at "py"
      exact ⟨by rw [if_pos rfl]; exact ⟨row, rfl, hr, hra⟩, rfl⟩

/-! unlike pairs -/
def pairO (q : End × End) : PyData := .tuple [intsT q.1.1, bxD q.1.2.2, intsT q.2.1, bxD q.2.2.2]
def prsE (es : List End) : List (End × End) := es.flatMap fun x => (es.filter fun y => decide (y.2.1 ≠ x.2.1)).map fun y => (x, y)
theorem flat_le {α β : Type} {f : α → List β} {k : Nat} : ∀ l : List α, (∀ a, a ∈ l → (f a).length ≤ k) → (l.flatMap f).length ≤ l.length * k
  | [], _ => by simp
  | a :: l, h => by
    have h1 := h a List.mem_cons_self
    have h2 := flat_le l fun b hb => h b (List.mem_cons_of_mem _ hb)
    rw [List.flatMap_cons, List.length_append, List.length_cons, Nat.succ_mul]
    omega
theorem unlike_pairs (m : Nat) (pg : Pg) (ms : List PyData) (t : PyData) (ps : List PyData) (hm1 : 1 ≤ ms.length) (hm : ms.length ≤ 100) (h1 : 1 ≤ ps.length) (h2 : ps.length ≤ 100) (hpg : pg.h + 3 ≤ m) (hh : pg.h ≤ 20) (hn : pg.nd ≤ 100) (ok : pg.Ok ps.length) :
    Gives (callF gcL (TL fns) (m + 1) 8 [.d (sgD ms t ps), .d pg.D]) fun r mm => r = .d (.list ((prsE (ends pg (fullB ms.length ps.length))).map pairO)) ∧ mm = [] := by
  obtain ⟨m, rfl⟩ : ∃ j, m = j + 1 := ⟨m - 1, by omega⟩
  have hle : (ends pg (fullB ms.length ps.length)).length ≤ 100 := Nat.le_trans (ends_le _ _) hn
  refine call_of rfl (run_of rfl ?_)
  show Wp (evS gcL _ b8 [.d (sgD ms t ps), .d pg.D, .un, .un, .un, .un, .un, .un, .un, .un]) _ _
  unfold b8
  repeat walk_at "py"
  refine wp_call rfl ((ends_of m 0 pg ms t ps hm1 hm h1 h2 (by omega) hh (by omega) ok (full_bx hm1 hm)).mono ?_)
  rintro r mm ⟨rfl, rfl⟩
  refine ⟨_, rfl, _, rfl, ?_⟩
  generalize ends pg (fullB ms.length ps.length) = es at hle ⊢
  repeat walk_at "py"
  with_reducible refine w_it rfl ?_
  repeat walk_at "py"
  refine for_pre (ls := es) (toD := endD) (fun l1 e => ∃ c4 c5 c6 c7 c8 c9, e = [.d (sgD ms t ps), .d pg.D, .d (.list (es.map endD)), .m (.fl ((l1.flatMap fun x => (es.filter fun y => decide (y.2.1 ≠ x.2.1)).map fun y => (x, y)).map pairO)), c4, c5, c6, c7, c8, c9]) ⟨_, _, _, _, _, _, rfl⟩ ?_ ?_
  · rintro l1 x l2 h e ⟨c4, c5, c6, c7, c8, c9, rfl⟩
    have hl1 : l1.length ≤ 100 := by
      have := congrArg List.length h
      rw [List.length_append, List.length_cons] at this
      omega
    have hf1 := flat_le (f := fun x : End => (es.filter fun y => decide (y.2.1 ≠ x.2.1)).map fun y => (x, y)) (k := 100) l1 (fun a _ => by rw [List.length_map]; exact Nat.le_trans (List.length_filter_le _ _) hle)
    refine s_turn rfl ?_
    repeat walk_at "py"
    with_reducible refine w_it rfl ?_
    repeat walk_at "py"
    refine for_pre (ls := es) (toD := endD) (fun m1 e => ∃ c7 c8 c9, e = [.d (sgD ms t ps), .d pg.D, .d (.list (es.map endD)), .m (.fl (((l1.flatMap fun x => (es.filter fun y => decide (y.2.1 ≠ x.2.1)).map fun y => (x, y)) ++ (m1.filter fun y => decide (y.2.1 ≠ x.2.1)).map fun y => (x, y)).map pairO)), .d (intsT x.1), .d (.str x.2.1), .d (bxD x.2.2), c7, c8, c9]) ⟨c7, c8, c9, by rw [List.filter_nil, List.map_nil, List.append_nil]; rfl⟩ ?_ ?_
    · rintro m1 y m2 h' e ⟨c7, c8, c9, rfl⟩
      have hm1' : m1.length ≤ 100 := by
        have := congrArg List.length h'
        rw [List.length_append, List.length_cons] at this
        omega
      have hfl := List.length_filter_le (fun y : End => decide (y.2.1 ≠ x.2.1)) m1
      refine s_turn rfl ?_
      repeat walk_at "py"
      refine And.intro (fun hc => ?_) (fun hc => ?_)
      · repeat walk_at "py"
        refine ⟨_, _, rfl, by rw [List.length_map, List.length_append, List.length_map]; omega, rfl, ?_⟩
        repeat walk_at "py"
        have hc' : decide (y.2.1 ≠ x.2.1) = true := by simpa using hc
        refine ⟨rfl, .d (intsT y.1), .d (.str y.2.1), .d (bxD y.2.2), ?_⟩
        rw [List.filter_append, List.filter_cons, if_pos hc', List.filter_nil, List.map_append, List.map_append, List.map_append, List.map_append, List.append_assoc]
        rfl
      · repeat walk_at "py"
        have hc' : ¬ decide (y.2.1 ≠ x.2.1) = true := by simpa using hc
        exact ⟨rfl, .d (intsT y.1), .d (.str y.2.1), .d (bxD y.2.2), by rw [List.filter_append, List.filter_cons, if_neg hc', List.filter_nil, List.append_nil]; rfl⟩
    · rintro e ⟨c7, c8, c9, rfl⟩
      repeat walk_at "py"
      exact ⟨rfl, .d (intsT x.1), .d (.str x.2.1), .d (bxD x.2.2), c7, c8, c9, by rw [List.flatMap_append, List.flatMap_singleton]⟩
  · rintro e ⟨c4, c5, c6, c7, c8, c9, rfl⟩
    repeat walk_at "py"
    exact ⟨rfl, rfl⟩

end K24

set_option Elab.async false
set_option linter.all false
set_option maxRecDepth 100000
set_option maxHeartbeats 1000000
namespace K24
open PY PySem
local macro_rules | `(tactic| walk_at "py") => `(tactic| (first
  | with_reducible refine x_add ?_
  | with_reducible refine x_sub ?_
  | ((with_reducible refine x_mul ?_ ?_); next => first | exact mulOk_r (by decide) | exact mulOk_l (by decide))
  | ((with_reducible refine x_mod ?_ ?_); next => decide)
  | ((with_reducible refine x_fdv ?_ ?_); next => decide)
  | ((with_reducible refine Exists.intro ?w0 (And.intro ?h0 ?k0)); (case h0 => rfl))
  | ((with_reducible refine And.intro (a := _ ≤ (1000000 : Nat)) ?_ ?_); next => (simp only [List.length_cons, List.length_nil]; decide))
  | with_reducible refine s_seq ?_
  | with_reducible refine s_skip ?_
  | with_reducible refine ks_nx ?_
  | with_reducible refine ks_rt ?_
  | with_reducible refine s_set ?_
  | with_reducible refine s_asg ?_
  | with_reducible refine s_asgM ?_
  | with_reducible refine s_ret ?_
  | with_reducible refine s_retM ?_
  | with_reducible refine s_ife ?_
  | with_reducible refine s_for ?_
  | with_reducible refine k_t ?_
  | with_reducible refine k_f ?_
  | with_reducible refine k_tn ?_
  | with_reducible refine k_fn ?_
  | with_reducible refine w_rng1 ?_
  | with_reducible refine w_int ?_
  | with_reducible refine w_str ?_
  | with_reducible refine w_bl ?_
  | with_reducible refine w_non ?_
  | with_reducible refine w_abs ?_
  | with_reducible refine w_nil ?_
  | with_reducible refine w_at ?_
  | with_reducible refine w_bin ?_
  | with_reducible refine w_bi ?_
  | with_reducible refine w_idx ?_
  | ((with_reducible refine w_cst (d := ?w0) ?hx ?h0 ?k0); (case hx => rfl); (case h0 => rfl))
  | with_reducible refine w_chain ?_
  | with_reducible refine w_srs ?_
  | with_reducible refine w_tup ?_
  | with_reducible refine w_dnw ?_
  | with_reducible refine w_dinT ?_
  | with_reducible refine w_din ?_
  | with_reducible refine w_lst ?_
  | with_reducible refine w_lstM ?_
  | with_reducible refine w_cmp ?_
  | with_reducible refine w_cmpT ?_
  | with_reducible refine w_ite ?_
  | with_reducible refine w_slc ?_
  | with_reducible refine w_slm ?_
  | with_reducible refine w_isi ?_
  | with_reducible refine w_isiT ?_
  | with_reducible refine w_me ?_
  | with_reducible refine w_call ?_
  | with_reducible refine w_callM ?_
  | with_reducible refine w_callK ?_
  | with_reducible refine w_andT ?_
  | with_reducible refine w_and ?_
  | with_reducible refine w_or ?_
  | with_reducible refine w_not ?_
  | with_reducible refine w_orT ?_
  | with_reducible refine w_notT ?_
  | with_reducible refine w_isNT ?_
  | with_reducible refine w_notNT ?_
  | with_reducible refine w_callP ?_
  | with_reducible refine w_enum ?_
  | with_reducible refine w_rng2 ?_
  | with_reducible refine w_nst ?_
  | with_reducible refine s_par2 ?_
  | with_reducible refine s_asgT ?_
  | ((with_reducible refine x_pow ?_ ?_); next => decide)
  | ((with_reducible refine w_mv (m := ?w0) ?h0 ?k0); (case h0 => rfl))
  | ((with_reducible refine s_ins (u := ()) ?h0 ?k0); (case h0 => rfl))
  | with_reducible refine w_rlst ?_
  | with_reducible refine w_lof ?_
  | with_reducible refine w_rtup ?_
  | with_reducible refine w_revm ?_
  | with_reducible refine w_rep ?_
  | with_reducible refine w_dct ?_
  | with_reducible refine w_rev ?_
  | with_reducible refine w_isN ?_
  | with_reducible refine w_notN ?_
  | with_reducible refine s_parA ?_
  | with_reducible refine s_cnt ?_
  | with_reducible refine ks_ct ?_
  | with_reducible refine w_neg ?_
  | with_reducible refine w_blT ?_
  | ((with_reducible refine w_var (d := ?w0) ?h0 ?k0); (case h0 => rfl))
  | ((with_reducible refine w_lf (d := ?w0) ?h0 ?k0); (case h0 => rfl))
  | ((with_reducible refine w_vw (d := ?w0) ?h0 ?k0); (case h0 => rfl))
  | ((with_reducible refine w_cons ?_ ?_); next => rfl)
  | ((with_reducible refine w_am (m := ?w0) ?h0 ?k0); (case h0 => rfl))
  | ((with_reducible refine w_t ?h0 ?k0); (case h0 => rfl))
  | ((with_reducible refine s_app (u := ()) ?h0 ?k0); (case h0 => rfl))
  | ((with_reducible refine s_frz (m := ?m0) (d := ?d0) (env' := ?e0) ?h0 ?h1 ?h2 ?k0); (case h0 => rfl); (case h1 => rfl); (case h2 => rfl))))
/-! exchanges, alike places -/
theorem w_setAt {C : Nat → List Sl → CR} {env : PY.Env} {Ko : PY.Flow → PY.Env → Prop} {Kx : Ex → PY.Env → Prop} {i : Nat} {a : Tm} {d : PyData} {u : Unit} (h0 : (getP (.v i) env).bind M.isL = some u) (h : Wp ((ev gcL C a).e env) (fun k e => ∃ m m' env', getP (.v i) e = some m ∧ setItemM m k d = some m' ∧ setP (.v i) e m' = some env' ∧ Ko .nx env') Kx) : Wp (setAt gcL C i a d env) Ko Kx := by
  simp only [setAt, Wp.bind, Wp.opt]
  exact ⟨u, h0, h.mono (fun k e h => wp_onP h) fun _ _ h => h⟩
theorem s_swp {C : Nat → List Sl → CR} {env : PY.Env} {Ko : PY.Flow → PY.Env → Prop} {Kx : Ex → PY.Env → Prop} {i : Nat} {a b x y : Tm} (hx : notAm x = true) (hy : notAm y = true)
    (h : Wp ((ev gcL C x).e env) (fun d1 e => Wp ((ev gcL C y).e e) (fun d2 e => Wp (setAt gcL C i a d1 e) (fun _ e => Wp (setAt gcL C i b d2 e) Ko Kx) Kx) Kx) Kx) : Wp (evS gcL C (.swp i a b x y) env) Ko Kx := by
  simp only [evS, Wp.bind]
  refine w_tup (w_cons hx (h.mono (fun d1 e h => w_cons hy (h.mono (fun d2 e h => ?_) fun _ _ h => h)) fun _ _ h => h))
  refine w_nil ⟨[d1, d2], rfl, by simp, ?_⟩
  simp only [Wp.bind]
  exact h
theorem for_one {f : PyData → PY.Env → R PY.Flow} {d : PyData} {env : PY.Env} {Ko : PY.Flow → PY.Env → Prop} {Kx : Ex → PY.Env → Prop} (h : Wp (f d env) (fun w e => match w with | .nx => Ko .nx e | .ct => Ko .nx e | .bk => Ko .nx e | .rt r => Ko (.rt r) e) Kx) : Wp (forL f [d] env) Ko Kx := by
  simp only [forL, Wp.bind]
  refine h.mono (fun w e q => ?_) fun _ _ h => h
  cases w <;> exact q
theorem exchange (m n a b : Nat) (hn : n ≤ 100) (ha : a < n) (hb : b < n) : Gives (callF gcL (TL fns) (m + 1) 10 [.d (.int (n : Int)), .d (.int (a : Int)), .d (.int (b : Int))]) fun r mm => r = .d (layD (exL n a b)) ∧ mm = [] := by
  refine call_of rfl (run_of rfl ?_)
  show Wp (evS gcL _ b10 [.d (.int (n : Int)), .d (.int (a : Int)), .d (.int (b : Int)), .un]) _ _
  unfold b10
  repeat walk_at "py"
  refine ⟨(List.range n).map natD, ?_, ?_⟩
  · have h : rangeD 0 (n : Int) = (List.range n).map natD := rangeD_nat n
    rw [← h]
    exact if_pos ⟨by omega, by omega⟩
  have hlf : ∀ p, p < n → ((M.fl ((List.range n).map natD)).kid (p : Int)).bind M.leaf = some (.int (p : Int)) := by
    intro p hp
    rw [kid_fl (by rw [List.length_map, List.length_range]; exact hp)]
    simp [M.leaf, natD]
  repeat walk_at "py"
  refine s_swp rfl rfl ?_
  refine w_lf (hlf b hb) ?_
  refine w_lf (hlf a ha) ?_
  refine w_setAt (u := ()) rfl ?_
  repeat walk_at "py"
  refine ⟨_, _, _, rfl, set_fl _ (by rw [List.length_map, List.length_range]; exact ha), rfl, ?_⟩
  refine w_setAt (u := ()) rfl ?_
  repeat walk_at "py"
  refine ⟨_, _, _, rfl, set_fl (k := b) _ (by rw [List.length_set, List.length_map, List.length_range]; exact hb), rfl, ?_⟩
  repeat walk_at "py"
  refine ⟨?_, rfl⟩
  unfold layD exL
  rw [List.map_set, List.map_set]
  rfl
def alikeB (pg : Pg) (mk pl a b : Nat) : Bool := (prsE (ends pg (fullB mk pl))).all fun q => !(barL q.1.2.2 q.2.2.2 (exL pl a b)).isEmpty
/-- a setting, a program -/
structure SP (pg : Pg) (ms ps : List PyData) : Prop where
  m1 : 1 ≤ ms.length
  m2 : ms.length ≤ 10
  p1 : 1 ≤ ps.length
  p2 : ps.length ≤ 10
  hh : pg.h ≤ 8
  nd : pg.nd ≤ 100
  ok : pg.Ok ps.length
def ShR (pg : Pg) (mk pl a b : Nat) (row : List Int) : Prop := ∃ q, q ∈ prsE (ends pg (fullB mk pl)) ∧ row.length = pl ∧ RowAt q.1.2.2 q.2.2.2 row (exL pl a b).zipIdx
theorem mem_prs {es : List End} {q : End × End} (h : q ∈ prsE es) : q.1 ∈ es ∧ q.2 ∈ es ∧ q.2.2.1 ≠ q.1.2.1 := by
  unfold prsE at h
  obtain ⟨x, hx, h⟩ := List.mem_flatMap.mp h
  obtain ⟨y, hy, rfl⟩ := List.mem_map.mp h
  obtain ⟨h1, h2⟩ := List.mem_filter.mp hy
  exact ⟨hx, h1, of_decide_eq_true h2⟩
theorem prs_mem {es : List End} {x y : End} (hx : x ∈ es) (hy : y ∈ es) (h : y.2.1 ≠ x.2.1) : (x, y) ∈ prsE es := by
  unfold prsE
  refine List.mem_flatMap.mpr ⟨x, hx, List.mem_map.mpr ⟨y, List.mem_filter.mpr ⟨hy, decide_eq_true h⟩, rfl⟩⟩
theorem shaken_by {pg : Pg} {ms ps : List PyData} (S : SP pg ms ps) (t : PyData) (a b : Nat) (ha : a < ps.length) (hb : b < ps.length) (m : Nat) (hm : 14 ≤ m) :
    Gives (callF gcL (TL fns) m 9 [.d (sgD ms t ps), .d pg.D, .d (.list [layD (exL ps.length a b)])]) fun r mm => (if alikeB pg ms.length ps.length a b then r = .d .none else ∃ row, r = .d (.tuple [intsT row, layD (exL ps.length a b)]) ∧ ShR pg ms.length ps.length a b row) ∧ mm = [] := by
  obtain ⟨m, rfl⟩ : ∃ j, m = j + 4 := ⟨m - 4, by omega⟩
  have s1 := S.m1
  have s2 := S.m2
  have s3 := S.p1
  have s4 := S.p2
  have s5 := S.hh
  have s6 := S.nd
  have hbx : Bx ps.length (fullB ms.length ps.length) := full_bx s1 (by omega)
  refine call_of rfl (run_of rfl ?_)
  show Wp (evS gcL _ b9 [.d (sgD ms t ps), .d pg.D, .d (.list [layD (exL ps.length a b)]), .un, .un, .un, .un, .un, .un]) _ _
  unfold b9
  repeat walk_at "py"
  refine wp_call rfl ((unlike_pairs (m + 2) pg ms t ps s1 (by omega) s3 (by omega) (by omega) (by omega) s6 S.ok).mono ?_)
  rintro r mm ⟨rfl, rfl⟩
  refine ⟨_, rfl, _, rfl, ?_⟩
  generalize hprs : prsE (ends pg (fullB ms.length ps.length)) = prs
  generalize hlay : exL ps.length a b = lay
  have hok : ∀ q, q ∈ prs → Ok ps.length q.1.2.2 q.2.2.2 lay := by
    intro q hq
    rw [← hprs] at hq
    obtain ⟨h1, h2, _⟩ := mem_prs hq
    have b1 := ends_bx pg _ _ S.ok hbx h1
    have b2 := ends_bx pg _ _ S.ok hbx h2
    exact ⟨by omega, b1.len, b2.len, by rw [← hlay, exL_len], by rw [← hlay]; exact exL_lt ha hb, b1.le, b2.le⟩
  have hnd : lay.Nodup := by rw [← hlay]; exact exL_nodup ha hb
  repeat walk_at "py"
  with_reducible refine w_it rfl ?_
  repeat walk_at "py"
  refine for_one ?_
  refine s_turn rfl ?_
  repeat walk_at "py"
  with_reducible refine w_it rfl ?_
  repeat walk_at "py"
  refine for_all (ls := prs) (toD := pairO) (fun l e => (∀ q, q ∈ prs → q ∈ l ∨ (barL q.1.2.2 q.2.2.2 lay).isEmpty = false) ∧ ∃ c5 c6 c7 c8, e = [.d (sgD ms t ps), .d pg.D, .d (.list [layD lay]), .d (.list (prs.map pairO)), .d (layD lay), c5, c6, c7, c8]) ⟨fun q hq => .inl hq, _, _, _, _, rfl⟩ ?_ ?_
  · rintro q l e ⟨l1, hl1⟩ ⟨hq, c5, c6, c7, c8, rfl⟩
    have hqm : q ∈ prs := by rw [hl1]; simp
    refine s_turn rfl ?_
    repeat walk_at "py"
    refine wp_call rfl ((led_row m (hok q hqm) hnd).mono ?_)
    rintro r mm ⟨hr, rfl⟩
    by_cases hbar : barL q.1.2.2 q.2.2.2 lay = []
    · rw [if_pos hbar] at hr
      obtain ⟨row, rfl, hrl, hra⟩ := hr
      refine ⟨_, rfl, _, rfl, ?_⟩
      repeat walk_at "py"
      refine k_t ?_
      repeat walk_at "py"
      have hal : alikeB pg ms.length ps.length a b = false := by
        unfold alikeB
        rw [hprs, hlay, Bool.eq_false_iff]
        intro h
        rw [List.all_eq_true] at h
        have := h q hqm
        rw [hbar] at this
        cases this
      rw [hal]
      refine ⟨⟨row, rfl, q, ?_, hrl, ?_⟩, rfl⟩
      · rw [hprs]; exact hqm
      · rw [hlay]; exact hra
    · rw [if_neg hbar] at hr
      subst hr
      refine ⟨_, rfl, _, rfl, ?_⟩
      repeat walk_at "py"
      refine k_f ?_
      repeat walk_at "py"
      refine ⟨fun q' hq' => ?_, .d (intsT q.2.1), .d (bxD q.1.2.2), .d (bxD q.2.2.2), .d .none, rfl⟩
      rcases hq q' hq' with h | h
      · rcases List.mem_cons.mp h with rfl | h
        · refine .inr ?_
          cases e : barL q'.1.2.2 q'.2.2.2 lay with
          | nil => exact absurd e hbar
          | cons _ _ => rfl
        · exact .inl h
      · exact .inr h
  · rintro e ⟨hq, c5, c6, c7, c8, rfl⟩
    have hal : alikeB pg ms.length ps.length a b = true := by
      unfold alikeB
      rw [hprs, hlay, List.all_eq_true]
      intro q hq'
      rcases hq q hq' with h | h
      · cases h
      · rw [h]; rfl
    repeat walk_at "py"
    rw [hal]
    exact ⟨rfl, rfl⟩
theorem are_alike {pg : Pg} {ms ps : List PyData} (S : SP pg ms ps) (t : PyData) (a b : Nat) (ha : a < ps.length) (hb : b < ps.length) (m : Nat) (hm : 15 ≤ m) :
    Gives (callF gcL (TL fns) m 11 [.d (sgD ms t ps), .d pg.D, .d (.int (a : Int)), .d (.int (b : Int))]) fun r mm => r = .d (.bool (alikeB pg ms.length ps.length a b)) ∧ mm = [] := by
  obtain ⟨m, rfl⟩ : ∃ j, m = j + 2 := ⟨m - 2, by omega⟩
  have s4 := S.p2
  refine call_of rfl (run_of rfl ?_)
  show Wp (evS gcL _ b11 [.d (sgD ms t ps), .d pg.D, .d (.int (a : Int)), .d (.int (b : Int))]) _ _
  unfold b11 sgD
  repeat walk_at "py"
  refine wp_call rfl ((exchange m ps.length a b (by omega) ha hb).mono ?_)
  rintro r mm ⟨rfl, rfl⟩
  refine ⟨_, rfl, _, rfl, ?_⟩
  repeat walk_at "py"
  refine wp_call rfl ((shaken_by S t a b ha hb (m + 1) (by omega)).mono ?_)
  rintro r mm ⟨hr, rfl⟩
  cases hal : alikeB pg ms.length ps.length a b with
  | true =>
    rw [hal, if_pos rfl] at hr
    subst hr
    refine ⟨_, rfl, _, rfl, ?_⟩
    repeat walk_at "py"
    exact ⟨rfl, rfl⟩
  | false =>
    rw [hal, if_neg (by decide)] at hr
    obtain ⟨row, rfl, _⟩ := hr
    refine ⟨_, rfl, _, rfl, ?_⟩
    repeat walk_at "py"
    exact ⟨rfl, rfl⟩
theorem unlike_row {pg : Pg} {ms ps : List PyData} (S : SP pg ms ps) (t : PyData) (a b : Nat) (ha : a < ps.length) (hb : b < ps.length) (m : Nat) (hm : 15 ≤ m) :
    Gives (callF gcL (TL fns) m 12 [.d (sgD ms t ps), .d pg.D, .d (.int (a : Int)), .d (.int (b : Int))]) fun r mm => (if alikeB pg ms.length ps.length a b then r = .d .none else ∃ row, r = .d (intsT row) ∧ ShR pg ms.length ps.length a b row) ∧ mm = [] := by
  obtain ⟨m, rfl⟩ : ∃ j, m = j + 2 := ⟨m - 2, by omega⟩
  have s4 := S.p2
  refine call_of rfl (run_of rfl ?_)
  show Wp (evS gcL _ b12 [.d (sgD ms t ps), .d pg.D, .d (.int (a : Int)), .d (.int (b : Int)), .un]) _ _
  unfold b12 sgD
  repeat walk_at "py"
  refine wp_call rfl ((exchange m ps.length a b (by omega) ha hb).mono ?_)
  rintro r mm ⟨rfl, rfl⟩
  refine ⟨_, rfl, _, rfl, ?_⟩
  repeat walk_at "py"
  refine wp_call rfl ((shaken_by S t a b ha hb (m + 1) (by omega)).mono ?_)
  rintro r mm ⟨hr, rfl⟩
  cases hal : alikeB pg ms.length ps.length a b with
  | true =>
    rw [hal, if_pos rfl] at hr
    subst hr
    refine ⟨_, rfl, _, rfl, ?_⟩
    repeat walk_at "py"
    refine k_t ?_
    repeat walk_at "py"
    exact ⟨rfl, rfl⟩
  | false =>
    rw [hal, if_neg (by decide)] at hr
    obtain ⟨row, rfl, hrow⟩ := hr
    refine ⟨_, rfl, _, rfl, ?_⟩
    repeat walk_at "py"
    refine k_f ?_
    repeat walk_at "py"
    exact ⟨⟨row, rfl, hrow⟩, rfl⟩
/-! what they say of rows -/
theorem shr_row {pg : Pg} {mk pl a b : Nat} (ha : a < pl) (hb : b < pl) (ok : pg.Ok pl) {row : List Int} (h : ShR pg mk pl a b row) : row.length = pl ∧ InB row (fullB mk pl) ∧ tells pg row ≠ tells pg (swapR row a b) := by
  obtain ⟨q, hq, hrl, hra⟩ := h
  obtain ⟨h1, h2, h3⟩ := mem_prs hq
  have hfl : (fullB mk pl).length = pl := by simp [fullB]
  have okf : pg.Ok (fullB mk pl).length := by rw [hfl]; exact ok
  have i1 : InB row q.1.2.2 := by
    intro i hi
    have hi' : i < pl := by
      have e1 : q.1.2.2.length = pl := by
        have : ∀ (p : Pg) (c : List (List Int)) (x : End), x ∈ ends p c → x.2.2.length = c.length := by
          intro p
          induction p with
          | tell w => intro c x hx; rw [ends, List.mem_singleton] at hx; subst hx; rfl
          | look p ms y n ihy ihn =>
            intro c x hx
            rw [ends, List.mem_append] at hx
            rcases hx with hx | hx
            · split at hx
              · cases hx
              · obtain ⟨z, hz, rfl⟩ := List.mem_map.mp hx
                exact (ihy _ z hz).trans (by rw [List.length_set])
            · split at hx
              · cases hx
              · obtain ⟨z, hz, rfl⟩ := List.mem_map.mp hx
                exact (ihn _ z hz).trans (by rw [List.length_set])
        rw [this pg _ _ h1, hfl]
      omega
    have := hra (i, ex a b i) ((exL_idx ha hb _).mpr ⟨ex_lt ha hb hi', by simp only [ex_ex]⟩)
    exact this.1
  have i2 : InB (swapR row a b) q.2.2.2 := by
    intro i hi
    have hi' : i < pl := by
      have e1 : q.2.2.2.length = pl := by
        have : ∀ (p : Pg) (c : List (List Int)) (x : End), x ∈ ends p c → x.2.2.length = c.length := by
          intro p
          induction p with
          | tell w => intro c x hx; rw [ends, List.mem_singleton] at hx; subst hx; rfl
          | look p ms y n ihy ihn =>
            intro c x hx
            rw [ends, List.mem_append] at hx
            rcases hx with hx | hx
            · split at hx
              · cases hx
              · obtain ⟨z, hz, rfl⟩ := List.mem_map.mp hx
                exact (ihy _ z hz).trans (by rw [List.length_set])
            · split at hx
              · cases hx
              · obtain ⟨z, hz, rfl⟩ := List.mem_map.mp hx
                exact (ihn _ z hz).trans (by rw [List.length_set])
        rw [this pg _ _ h2, hfl]
      omega
    have := hra (ex a b i, i) ((exL_idx ha hb _).mpr ⟨hi', rfl⟩)
    rw [swapR_at (by omega) (by omega)]
    exact this.2
  obtain ⟨j1, k1⟩ := ends_sub pg _ _ row okf h1 i1
  obtain ⟨_, k2⟩ := ends_sub pg _ _ (swapR row a b) okf h2 i2
  refine ⟨hrl, j1, ?_⟩
  rw [k1, k2]
  exact fun e => h3 e.symm
theorem alike_rows {pg : Pg} {mk pl a b : Nat} (ha : a < pl) (hb : b < pl) (ok : pg.Ok pl) (h : alikeB pg mk pl a b = true) {row : List Int} (hl : row.length = pl) (hr : InB row (fullB mk pl)) : tells pg row = tells pg (swapR row a b) := by
  have hfl : (fullB mk pl).length = pl := by simp [fullB]
  have okf : pg.Ok (fullB mk pl).length := by rw [hfl]; exact ok
  have hr2 : InB (swapR row a b) (fullB mk pl) := by
    intro i hi
    rw [hfl] at hi
    rw [swapR_at (by omega) (by omega)]
    have h1 := hr (ex a b i) (by rw [hfl]; exact ex_lt ha hb hi)
    have e : ∀ j, j < pl → (fullB mk pl).getD j [] = allM mk := fun j hj => by simp [fullB, List.getD, hj]
    rw [e _ (ex_lt ha hb hi)] at h1
    rw [e _ hi]
    exact h1
  obtain ⟨x, hx, x1, x2⟩ := ends_hit pg _ row okf hr
  obtain ⟨y, hy, y1, y2⟩ := ends_hit pg _ (swapR row a b) okf hr2
  rw [← x2, ← y2]
  by_cases e : y.2.1 = x.2.1
  · exact e.symm
  · exfalso
    unfold alikeB at h
    rw [List.all_eq_true] at h
    have h1 := h (x, y) (prs_mem hx hy e)
    have h2 : barL x.2.2 y.2.2 (exL pl a b) = [] := by
      unfold barL
      rw [List.map_eq_nil_iff, List.filter_eq_nil_iff]
      intro z hz
      obtain ⟨z1, z2⟩ := (exL_idx ha hb z).mp hz
      have e1 : ∀ (p : Pg) (c : List (List Int)) (x : End), x ∈ ends p c → x.2.2.length = c.length := by
        intro p
        induction p with
        | tell w => intro c x hx; rw [ends, List.mem_singleton] at hx; subst hx; rfl
        | look p ms y n ihy ihn =>
          intro c x hx
          rw [ends, List.mem_append] at hx
          rcases hx with hx | hx
          · split at hx
            · cases hx
            · obtain ⟨z, hz, rfl⟩ := List.mem_map.mp hx
              exact (ihy _ z hz).trans (by rw [List.length_set])
          · split at hx
            · cases hx
            · obtain ⟨z, hz, rfl⟩ := List.mem_map.mp hx
              exact (ihn _ z hz).trans (by rw [List.length_set])
      have c1 := x1 z.1 (by rw [e1 pg _ _ hx, hfl, z2]; exact ex_lt ha hb z1)
      have c2 := y1 z.2 (by rw [e1 pg _ _ hy, hfl]; exact z1)
      rw [swapR_at (by omega) (by omega), ← z2] at c2
      have : com x.2.2 y.2.2 z.1 z.2 = true := by
        unfold com
        rw [List.any_eq_true]
        exact ⟨_, c1, decide_eq_true c2⟩
      rw [this]
      decide
    rw [h2] at h1
    cases h1

end K24

set_option Elab.async false
set_option linter.all false
set_option maxRecDepth 100000
set_option maxHeartbeats 1000000
namespace K24
open PY PySem
local macro_rules | `(tactic| walk_at "py") => `(tactic| (first
  | with_reducible refine x_add ?_
  | with_reducible refine x_sub ?_
  | ((with_reducible refine x_mul ?_ ?_); next => first | exact mulOk_r (by decide) | exact mulOk_l (by decide))
  | ((with_reducible refine x_mod ?_ ?_); next => decide)
  | ((with_reducible refine x_fdv ?_ ?_); next => decide)
  | ((with_reducible refine Exists.intro ?w0 (And.intro ?h0 ?k0)); (case h0 => rfl))
  | ((with_reducible refine And.intro (a := _ ≤ (1000000 : Nat)) ?_ ?_); next => (simp only [List.length_cons, List.length_nil]; decide))
  | with_reducible refine s_seq ?_
  | with_reducible refine s_skip ?_
  | with_reducible refine ks_nx ?_
  | with_reducible refine ks_rt ?_
  | with_reducible refine s_set ?_
  | with_reducible refine s_asg ?_
  | with_reducible refine s_asgM ?_
  | with_reducible refine s_ret ?_
  | with_reducible refine s_retM ?_
  | with_reducible refine s_ife ?_
  | with_reducible refine s_for ?_
  | with_reducible refine k_t ?_
  | with_reducible refine k_f ?_
  | with_reducible refine k_tn ?_
  | with_reducible refine k_fn ?_
  | with_reducible refine w_rng1 ?_
  | with_reducible refine w_int ?_
  | with_reducible refine w_str ?_
  | with_reducible refine w_bl ?_
  | with_reducible refine w_non ?_
  | with_reducible refine w_abs ?_
  | with_reducible refine w_nil ?_
  | with_reducible refine w_at ?_
  | with_reducible refine w_bin ?_
  | with_reducible refine w_bi ?_
  | with_reducible refine w_idx ?_
  | ((with_reducible refine w_cst (d := ?w0) ?hx ?h0 ?k0); (case hx => rfl); (case h0 => rfl))
  | with_reducible refine w_chain ?_
  | with_reducible refine w_srs ?_
  | with_reducible refine w_tup ?_
  | with_reducible refine w_dnw ?_
  | with_reducible refine w_dinT ?_
  | with_reducible refine w_din ?_
  | with_reducible refine w_lst ?_
  | with_reducible refine w_lstM ?_
  | with_reducible refine w_cmp ?_
  | with_reducible refine w_cmpT ?_
  | with_reducible refine w_ite ?_
  | with_reducible refine w_slc ?_
  | with_reducible refine w_slm ?_
  | with_reducible refine w_isi ?_
  | with_reducible refine w_isiT ?_
  | with_reducible refine w_me ?_
  | with_reducible refine w_call ?_
  | with_reducible refine w_callM ?_
  | with_reducible refine w_callK ?_
  | with_reducible refine w_andT ?_
  | with_reducible refine w_and ?_
  | with_reducible refine w_or ?_
  | with_reducible refine w_not ?_
  | with_reducible refine w_orT ?_
  | with_reducible refine w_notT ?_
  | with_reducible refine w_isNT ?_
  | with_reducible refine w_notNT ?_
  | with_reducible refine w_callP ?_
  | with_reducible refine w_enum ?_
  | with_reducible refine w_rng2 ?_
  | with_reducible refine w_nst ?_
  | with_reducible refine s_par2 ?_
  | with_reducible refine s_asgT ?_
  | ((with_reducible refine x_pow ?_ ?_); next => decide)
  | ((with_reducible refine w_mv (m := ?w0) ?h0 ?k0); (case h0 => rfl))
  | ((with_reducible refine s_ins (u := ()) ?h0 ?k0); (case h0 => rfl))
  | with_reducible refine w_rlst ?_
  | with_reducible refine w_lof ?_
  | with_reducible refine w_rtup ?_
  | with_reducible refine w_revm ?_
  | with_reducible refine w_rep ?_
  | with_reducible refine w_dct ?_
  | with_reducible refine w_rev ?_
  | with_reducible refine w_isN ?_
  | with_reducible refine w_notN ?_
  | with_reducible refine s_parA ?_
  | with_reducible refine s_cnt ?_
  | with_reducible refine ks_ct ?_
  | with_reducible refine w_neg ?_
  | with_reducible refine w_blT ?_
  | ((with_reducible refine w_var (d := ?w0) ?h0 ?k0); (case h0 => rfl))
  | ((with_reducible refine w_lf (d := ?w0) ?h0 ?k0); (case h0 => rfl))
  | ((with_reducible refine w_vw (d := ?w0) ?h0 ?k0); (case h0 => rfl))
  | ((with_reducible refine w_cons ?_ ?_); next => rfl)
  | ((with_reducible refine w_am (m := ?w0) ?h0 ?k0); (case h0 => rfl))
  | ((with_reducible refine w_t ?h0 ?k0); (case h0 => rfl))
  | ((with_reducible refine s_app (u := ()) ?h0 ?k0); (case h0 => rfl))
  | ((with_reducible refine s_frz (m := ?m0) (d := ?d0) (env' := ?e0) ?h0 ?h1 ?h2 ?k0); (case h0 => rfl); (case h1 => rfl); (case h2 => rfl))))
local macro_rules | `(tactic| walk_at "pk") => `(tactic| (repeat (first | walk_at "py" | refine k_t ?_ | refine k_f ?_ | refine k_t' ?_ | refine k_f' ?_)))
/-! the law's own answers -/
theorem ends_at (pg : Pg) (m : Nat) (row : List Int) (ok : pg.Ok row.length) (hh : pg.h ≤ 20) : Gives (callF gcL (TL fns) (m + 1) 16 [.d pg.D, .d (intsT row)]) fun r mm => r = .d (.str (tells pg row)) ∧ mm = [] := by
  refine call_of rfl (run_of rfl ?_)
  show Wp (evS gcL _ b16 [.d pg.D, .d (intsT row), .un, .un]) _ _
  unfold b16
  repeat walk_at "py"
  refine ⟨by decide +kernel, ?_⟩
  show Wp (forL _ (rangeD 0 ((60 : Nat) : Int)) _) _ _
  with_reducible refine for_ix (n := 60) (fun k e => ∃ (q : Pg) (c : Sl), q.h + k ≤ 59 ∧ q.Ok row.length ∧ tells pg row = tells q row ∧ e = [.d pg.D, .d (intsT row), .d q.D, c]) ?_ ?_ ?_
  · exact ⟨pg, _, by omega, ok, rfl, rfl⟩
  · rintro k e hk ⟨q, c, hq, okq, hw, rfl⟩
    refine s_turn rfl ?_
    cases q with
    | tell w =>
      rw [tell_D]
      repeat walk_at "py"
      rw [is_tell]
      refine k_t ?_
      repeat walk_at "py"
      exact ⟨by rw [hw]; rfl, rfl⟩
    | look p ms y n =>
      obtain ⟨hp, hm, oy, on⟩ := okq
      simp only [Pg.h] at hq
      rw [look_D]
      repeat walk_at "py"
      rw [ne_look]
      refine k_f ?_
      repeat walk_at "py"
      refine ⟨_, row_at hp, ?_⟩
      repeat walk_at "py"
      refine ⟨_, is_in _ _, ?_⟩
      refine And.intro (fun h => ?_) (fun h => ?_)
      · repeat walk_at "py"
        exact ⟨y, _, by omega, oy, by rw [hw, tells, if_pos (of_decide_eq_true h)], rfl⟩
      · repeat walk_at "py"
        exact ⟨n, _, by omega, on, by rw [hw, tells, if_neg (of_decide_eq_false h)], rfl⟩
  · rintro e ⟨q, c, hq, _⟩
    omega
theorem swapped (m : Nat) (row : List Int) (a b : Nat) (ha : a < row.length) (hb : b < row.length) : Gives (callF gcL (TL fns) (m + 1) 18 [.d (intsT row), .d (.int (a : Int)), .d (.int (b : Int))]) fun r mm => r = .d (intsT (swapR row a b)) ∧ mm = [] := by
  refine call_of rfl (run_of rfl ?_)
  show Wp (evS gcL _ b18 [.d (intsT row), .d (.int (a : Int)), .d (.int (b : Int)), .un]) _ _
  unfold b18
  have r1 := row_at ha
  have r2 := row_at hb
  unfold intsT at r1 r2 ⊢
  repeat walk_at "py"
  refine ⟨_, r2, ?_⟩
  repeat walk_at "py"
  refine ⟨_, _, _, rfl, set_fl _ (by rw [List.length_map]; exact ha), rfl, ?_⟩
  repeat walk_at "py"
  refine ⟨_, r1, ?_⟩
  repeat walk_at "py"
  refine ⟨_, _, _, rfl, set_fl (k := b) _ (by rw [List.length_set, List.length_map]; exact hb), rfl, ?_⟩
  repeat walk_at "py"
  refine ⟨?_, rfl⟩
  unfold swapR
  rw [List.map_set, List.map_set]
/-! all rows -/
def digs (mk pl n : Nat) : List Int := (List.range pl).map fun i => ((n / mk ^ i % mk : Nat) : Int)
def rowsL (mk pl : Nat) : List (List Int) := (List.range (mk ^ pl)).map (digs mk pl)
theorem digs_len (mk pl n : Nat) : (digs mk pl n).length = pl := by simp [digs]
theorem digs_all (mk : Nat) (hmk : 1 ≤ mk) : ∀ row : List Int, (∀ z, z ∈ row → 0 ≤ z ∧ z < (mk : Int)) → ∃ n, n < mk ^ row.length ∧ digs mk row.length n = row
  | [], _ => ⟨0, by simp, rfl⟩
  | z :: row, h => by
    obtain ⟨n, hn, he⟩ := digs_all mk hmk row fun y hy => h y (List.mem_cons_of_mem _ hy)
    obtain ⟨z0, z1⟩ := h z List.mem_cons_self
    obtain ⟨k, rfl⟩ := Int.eq_ofNat_of_zero_le z0
    have hk : k < mk := by omega
    refine ⟨k + mk * n, ?_, ?_⟩
    · rw [List.length_cons, Nat.pow_succ]
      have : mk * n + mk ≤ mk ^ row.length * mk := by
        rw [Nat.mul_comm (mk ^ row.length) mk, ← Nat.mul_succ]
        exact Nat.mul_le_mul_left mk hn
      omega
    · unfold digs at he ⊢
      rw [List.length_cons, List.range_succ_eq_map, List.map_cons, List.map_map]
      congr 1
      · rw [Nat.pow_zero, Nat.div_one, Nat.add_mul_mod_self_left, Nat.mod_eq_of_lt hk]
      · rw [← he]
        simp only [List.length_map, List.length_range]
        apply List.map_congr_left
        intro i _
        show (((k + mk * n) / mk ^ (i + 1) % mk : Nat) : Int) = _
        rw [Nat.pow_succ, Nat.mul_comm (mk ^ i) mk, ← Nat.div_div_eq_div_mul, Nat.add_mul_div_left _ _ (by omega), Nat.div_eq_of_lt hk, Nat.zero_add]
theorem digs_in {mk pl n : Nat} (hmk : 1 ≤ mk) : ∀ z, z ∈ digs mk pl n → 0 ≤ z ∧ z < (mk : Int) := by
  intro z hz
  obtain ⟨i, _, rfl⟩ := List.mem_map.mp hz
  have := Nat.mod_lt (n / mk ^ i) (show 0 < mk by omega)
  omega
theorem rowsL_mem {mk pl : Nat} (hmk : 1 ≤ mk) {row : List Int} : row ∈ rowsL mk pl ↔ row.length = pl ∧ ∀ z, z ∈ row → 0 ≤ z ∧ z < (mk : Int) := by
  constructor
  · intro h
    obtain ⟨n, _, rfl⟩ := List.mem_map.mp h
    exact ⟨digs_len _ _ _, digs_in hmk⟩
  · rintro ⟨rfl, h⟩
    obtain ⟨n, hn, he⟩ := digs_all mk hmk row h
    exact List.mem_map.mpr ⟨n, List.mem_range.mpr hn, he⟩
theorem inB_iff {mk pl : Nat} {row : List Int} (hl : row.length = pl) : InB row (fullB mk pl) ↔ ∀ z, z ∈ row → 0 ≤ z ∧ z < (mk : Int) := by
  have hfl : (fullB mk pl).length = pl := by simp [fullB]
  have e : ∀ j, j < pl → (fullB mk pl).getD j [] = allM mk := fun j hj => by simp [fullB, List.getD, hj]
  constructor
  · intro h z hz
    obtain ⟨i, hi, rfl⟩ := List.mem_iff_getElem.mp hz
    have h1 := h i (by omega)
    rw [e i (by omega)] at h1
    have h2 : row.getD i 0 = row[i] := by simp [List.getD, hi]
    rw [h2] at h1
    unfold allM at h1
    obtain ⟨k, hk, hk2⟩ := List.mem_map.mp h1
    rw [← hk2]
    have := List.mem_range.mp hk
    omega
  · intro h i hi
    rw [hfl] at hi
    have h2 : row.getD i 0 ∈ row := by simp [List.getD, hl, hi]
    obtain ⟨z0, z1⟩ := h _ h2
    rw [e i hi]
    unfold allM
    exact List.mem_map.mpr ⟨(row.getD i 0).toNat, List.mem_range.mpr (by omega), by omega⟩
theorem pows_at (mk pl : Nat) (hp : pl ≤ 5) : idxD (.list [.int 1, .int (mk : Int), .int ((mk : Int) ^ (2 : Int).toNat), .int ((mk : Int) ^ (3 : Int).toNat), .int ((mk : Int) ^ (4 : Int).toNat), .int ((mk : Int) ^ (5 : Int).toNat)]) (.int (pl : Int)) = some (.int ((mk ^ pl : Nat) : Int)) := by
  have : pl = 0 ∨ pl = 1 ∨ pl = 2 ∨ pl = 3 ∨ pl = 4 ∨ pl = 5 := by omega
  rcases this with rfl | rfl | rfl | rfl | rfl | rfl
  · rfl
  · rw [Nat.pow_one]; rfl
  · rw [Int.natCast_pow]; rfl
  · rw [Int.natCast_pow]; rfl
  · rw [Int.natCast_pow]; rfl
  · rw [Int.natCast_pow]; rfl
theorem pow_ok (mk : Nat) (h : mk ≤ 10) (j : Int) (h0 : 0 ≤ j) (h1 : j ≤ 1000) : powOk (mk : Int) j = true := by
  unfold powOk
  simp only [Bool.and_eq_true, decide_eq_true_eq]
  refine ⟨⟨h0, by omega⟩, ?_⟩
  rw [Int.natAbs_natCast]
  exact Nat.lt_of_le_of_lt h (by decide)
theorem every (m mk pl : Nat) (h1 : 1 ≤ mk) (h5 : mk ≤ 10) (hp : pl ≤ 5) (hr : mk ^ pl ≤ 5000) : Gives (callF gcL (TL fns) (m + 1) 17 [.d (.int (mk : Int)), .d (.int (pl : Int))]) fun r mm => r = .d (.list ((rowsL mk pl).map intsT)) ∧ mm = [] := by
  refine call_of rfl (run_of rfl ?_)
  show Wp (evS gcL _ b17 [.d (.int (mk : Int)), .d (.int (pl : Int)), .un, .un, .un, .un]) _ _
  unfold b17
  repeat (first | (refine x_pow (pow_ok mk h5 _ (by decide) (by decide)) ?_) | walk_at "py")
  refine ⟨_, pows_at mk pl hp, ?_⟩
  repeat walk_at "py"
  refine ⟨small_nat (by omega), ?_⟩
  with_reducible refine for_ix (n := mk ^ pl) (fun N e => ∃ a b c, e = [.d (.int (mk : Int)), .d (.int (pl : Int)), .m (.fl (((List.range N).map (digs mk pl)).map intsT)), a, b, c]) ?_ ?_ ?_
  · exact ⟨_, _, _, rfl⟩
  · rintro N e hN ⟨a, b, c, rfl⟩
    refine s_turn rfl ?_
    repeat walk_at "py"
    refine ⟨small_nat (by omega), ?_⟩
    with_reducible refine for_ix (n := pl) (fun j e => ∃ c, e = [.d (.int (mk : Int)), .d (.int (pl : Int)), .m (.fl (((List.range N).map (digs mk pl)).map intsT)), .d (.int ((N / mk ^ j : Nat) : Int)), .m (.fl ((digs mk j N).map PyData.int)), c]) ?_ ?_ ?_
    · exact ⟨_, by rw [Nat.pow_zero, Nat.div_one]; rfl⟩
    · rintro j e hj ⟨c, rfl⟩
      refine s_turn rfl ?_
      repeat walk_at "py"
      refine x_mod (by omega) ?_
      repeat walk_at "py"
      refine ⟨_, _, rfl, by rw [List.length_map, digs_len]; omega, rfl, ?_⟩
      repeat walk_at "py"
      refine x_fdv ⟨by omega, by rw [Int.natAbs_natCast]; exact Nat.lt_of_lt_of_le (log_lt (i := (mk : Int)) (by omega)) (by decide)⟩ ?_
      repeat walk_at "py"
      refine ⟨.d (.int (j : Int)), ?_⟩
      have e1 : (digs mk j N).map PyData.int ++ [PyData.int (((N / mk ^ j : Nat) : Int) % (mk : Int))] = (digs mk (j + 1) N).map PyData.int := by
        unfold digs
        rw [List.range_succ, List.map_append, List.map_append]
        rfl
      rw [e1]
      have e2 : ((N / mk ^ j : Nat) : Int) / (mk : Int) = ((N / mk ^ (j + 1) : Nat) : Int) := by
        rw [Nat.pow_succ, ← Nat.div_div_eq_div_mul]; rfl
      rw [e2]
      rfl
    · rintro e ⟨c, rfl⟩
      repeat walk_at "py"
      refine ⟨_, _, rfl, by rw [List.length_map, List.length_map, List.length_range]; omega, rfl, ?_⟩
      repeat walk_at "py"
      exact ⟨_, _, _, by rw [List.range_succ, List.map_append, List.map_append]; rfl⟩
  · rintro e ⟨a, b, c, rfl⟩
    repeat walk_at "py"
    exact ⟨rfl, rfl⟩
/-! the law's judges -/
theorem exact_b (m : Nat) (b : Bool) : Gives (callF gcL (TL fns) (m + 1) 15 [.d (.bool b), .d (.bool b)]) fun r mm => r = .d (.bool true) ∧ mm = [] := by
  refine call_of rfl (run_of rfl ?_)
  show Wp (evS gcL _ b15 [.d (.bool b), .d (.bool b)]) _ _
  unfold b15
  walk_at "pk"
  exact ⟨by simp, rfl⟩
theorem exact_n (m : Nat) : Gives (callF gcL (TL fns) (m + 1) 15 [.d .none, .d .none]) fun r mm => r = .d (.bool true) ∧ mm = [] := by
  refine call_of rfl (run_of rfl ?_)
  show Wp (evS gcL _ b15 [.d .none, .d .none]) _ _
  unfold b15
  walk_at "pk"
  exact ⟨rfl, rfl⟩
theorem good (m : Nat) (pg : Pg) (ms ps : List PyData) (t : PyData) (row : List Int) (a b : Nat) (ha : a < ps.length) (hb : b < ps.length) (hp : ps.length ≤ 10) (ok : pg.Ok ps.length) (hh : pg.h ≤ 20) (hl : row.length = ps.length) (hr : ∀ z, z ∈ row → 0 ≤ z ∧ z < (ms.length : Int)) (hne : tells pg row ≠ tells pg (swapR row a b)) :
    Gives (callF gcL (TL fns) (m + 2) 22 [.d (sgD ms t ps), .d pg.D, .d (.int (a : Int)), .d (.int (b : Int)), .d (intsT row)]) fun r mm => r = .d (.bool true) ∧ mm = [] := by
  refine call_of rfl (run_of rfl ?_)
  show Wp (evS gcL _ b22 [.d (sgD ms t ps), .d pg.D, .d (.int (a : Int)), .d (.int (b : Int)), .d (intsT row), .un]) _ _
  unfold b22 sgD
  have S1 := swapped m row a b (by omega) (by omega)
  have A0 := ends_at pg m row (by rw [hl]; exact ok) hh
  have A1 := ends_at pg m (swapR row a b) (by rw [swapR_len, hl]; exact ok) hh
  unfold intsT at S1 A0 A1 ⊢
  repeat walk_at "py"
  refine k_f ?_
  repeat walk_at "py"
  refine And.intro (fun h => ?_) (fun _ => ?_)
  · exfalso
    have : (!decide (((row.map PyData.int).length : Int) = (ps.length : Int))) = true := h
    simp [hl] at this
  repeat walk_at "py"
  with_reducible refine w_it rfl ?_
  repeat walk_at "py"
  refine for_pre (ls := row) (toD := PyData.int) (fun l1 e => ∃ c, e = [.d (.tuple [.tuple ms, t, .tuple ps]), .d pg.D, .d (.int (a : Int)), .d (.int (b : Int)), .d (.tuple (row.map PyData.int)), c]) ⟨_, rfl⟩ ?_ ?_
  · rintro l1 z l2 h e ⟨c, rfl⟩
    obtain ⟨z0, z1⟩ := hr z (by rw [h]; simp)
    refine s_turn rfl ?_
    walk_at "pk"
    refine And.intro (fun _ => ?_) (fun h => absurd z0 (of_decide_eq_false h))
    walk_at "pk"
    refine And.intro (fun h => ?_) (fun h => ?_)
    · exfalso
      have h1 : (!decide (z < (ms.length : Int))) = true := h
      simp at h1
      omega
    · walk_at "pk"
      exact ⟨rfl, _, rfl⟩
  · rintro e ⟨c, rfl⟩
    repeat walk_at "py"
    refine wp_call rfl (A0.mono ?_)
    rintro r mm ⟨rfl, rfl⟩
    refine ⟨_, rfl, _, rfl, ?_⟩
    repeat walk_at "py"
    refine wp_call rfl (S1.mono ?_)
    rintro r mm ⟨rfl, rfl⟩
    refine ⟨_, rfl, _, rfl, ?_⟩
    repeat walk_at "py"
    refine wp_call rfl (A1.mono ?_)
    rintro r mm ⟨rfl, rfl⟩
    refine ⟨_, rfl, _, rfl, ?_⟩
    repeat walk_at "py"
    exact ⟨by rw [decide_eq_false hne]; rfl, rfl⟩

end K24

set_option Elab.async false
set_option linter.all false
set_option maxRecDepth 100000
set_option maxHeartbeats 1000000
namespace K24
open PY PySem
local macro_rules | `(tactic| walk_at "py") => `(tactic| (first
  | with_reducible refine x_add ?_
  | with_reducible refine x_sub ?_
  | ((with_reducible refine x_mul ?_ ?_); next => first | exact mulOk_r (by decide) | exact mulOk_l (by decide))
  | ((with_reducible refine x_mod ?_ ?_); next => decide)
  | ((with_reducible refine x_fdv ?_ ?_); next => decide)
  | ((with_reducible refine Exists.intro ?w0 (And.intro ?h0 ?k0)); (case h0 => rfl))
  | ((with_reducible refine And.intro (a := _ ≤ (1000000 : Nat)) ?_ ?_); next => (simp only [List.length_cons, List.length_nil]; decide))
  | with_reducible refine s_seq ?_
  | with_reducible refine s_skip ?_
  | with_reducible refine ks_nx ?_
  | with_reducible refine ks_rt ?_
  | with_reducible refine s_set ?_
  | with_reducible refine s_asg ?_
  | with_reducible refine s_asgM ?_
  | with_reducible refine s_ret ?_
  | with_reducible refine s_retM ?_
  | with_reducible refine s_ife ?_
  | with_reducible refine s_for ?_
  | with_reducible refine k_t ?_
  | with_reducible refine k_f ?_
  | with_reducible refine k_tn ?_
  | with_reducible refine k_fn ?_
  | with_reducible refine w_rng1 ?_
  | with_reducible refine w_int ?_
  | with_reducible refine w_str ?_
  | with_reducible refine w_bl ?_
  | with_reducible refine w_non ?_
  | with_reducible refine w_abs ?_
  | with_reducible refine w_nil ?_
  | with_reducible refine w_at ?_
  | with_reducible refine w_bin ?_
  | with_reducible refine w_bi ?_
  | with_reducible refine w_idx ?_
  | ((with_reducible refine w_cst (d := ?w0) ?hx ?h0 ?k0); (case hx => rfl); (case h0 => rfl))
  | with_reducible refine w_chain ?_
  | with_reducible refine w_srs ?_
  | with_reducible refine w_tup ?_
  | with_reducible refine w_dnw ?_
  | with_reducible refine w_dinT ?_
  | with_reducible refine w_din ?_
  | with_reducible refine w_lst ?_
  | with_reducible refine w_lstM ?_
  | with_reducible refine w_cmp ?_
  | with_reducible refine w_cmpT ?_
  | with_reducible refine w_ite ?_
  | with_reducible refine w_slc ?_
  | with_reducible refine w_slm ?_
  | with_reducible refine w_isi ?_
  | with_reducible refine w_isiT ?_
  | with_reducible refine w_me ?_
  | with_reducible refine w_call ?_
  | with_reducible refine w_callM ?_
  | with_reducible refine w_callK ?_
  | with_reducible refine w_andT ?_
  | with_reducible refine w_and ?_
  | with_reducible refine w_or ?_
  | with_reducible refine w_not ?_
  | with_reducible refine w_orT ?_
  | with_reducible refine w_notT ?_
  | with_reducible refine w_isNT ?_
  | with_reducible refine w_notNT ?_
  | with_reducible refine w_callP ?_
  | with_reducible refine w_enum ?_
  | with_reducible refine w_rng2 ?_
  | with_reducible refine w_nst ?_
  | with_reducible refine s_par2 ?_
  | with_reducible refine s_asgT ?_
  | ((with_reducible refine x_pow ?_ ?_); next => decide)
  | ((with_reducible refine w_mv (m := ?w0) ?h0 ?k0); (case h0 => rfl))
  | ((with_reducible refine s_ins (u := ()) ?h0 ?k0); (case h0 => rfl))
  | with_reducible refine w_rlst ?_
  | with_reducible refine w_lof ?_
  | with_reducible refine w_rtup ?_
  | with_reducible refine w_revm ?_
  | with_reducible refine w_rep ?_
  | with_reducible refine w_dct ?_
  | with_reducible refine w_rev ?_
  | with_reducible refine w_isN ?_
  | with_reducible refine w_notN ?_
  | with_reducible refine s_parA ?_
  | with_reducible refine s_cnt ?_
  | with_reducible refine ks_ct ?_
  | with_reducible refine w_neg ?_
  | with_reducible refine w_blT ?_
  | ((with_reducible refine w_var (d := ?w0) ?h0 ?k0); (case h0 => rfl))
  | ((with_reducible refine w_lf (d := ?w0) ?h0 ?k0); (case h0 => rfl))
  | ((with_reducible refine w_vw (d := ?w0) ?h0 ?k0); (case h0 => rfl))
  | ((with_reducible refine w_cons ?_ ?_); next => rfl)
  | ((with_reducible refine w_am (m := ?w0) ?h0 ?k0); (case h0 => rfl))
  | ((with_reducible refine w_t ?h0 ?k0); (case h0 => rfl))
  | ((with_reducible refine s_app (u := ()) ?h0 ?k0); (case h0 => rfl))
  | ((with_reducible refine s_frz (m := ?m0) (d := ?d0) (env' := ?e0) ?h0 ?h1 ?h2 ?k0); (case h0 => rfl); (case h1 => rfl); (case h2 => rfl))))
local macro_rules | `(tactic| walk_at "pk") => `(tactic| (repeat (first | walk_at "py" | refine k_t ?_ | refine k_f ?_ | refine k_t' ?_ | refine k_f' ?_)))
/-! the table of all rows -/
theorem tdGet_app (k k' : List Int) (d : PyData) : ∀ ws : List (List Int × PyData), tdGet (ws ++ [(k, d)]) k' = match tdGet ws k' with | some x => some x | none => if k = k' then some d else none
  | [] => by simp only [List.nil_append, tdGet]
  | x :: ws => by
    rw [List.cons_append, tdGet, tdGet]
    split
    · rfl
    · exact tdGet_app k k' d ws
theorem tdGet_none (k : List Int) : ∀ ws : List (List Int × PyData), ¬ (ws.any fun kv => decide (kv.1 = k)) = true → tdGet ws k = none
  | [], _ => rfl
  | x :: ws, h => by
    rw [List.any_cons, Bool.or_eq_true, not_or] at h
    rw [tdGet, if_neg (fun e => h.1 (decide_eq_true e))]
    exact tdGet_none k ws h.2
theorem tdGet_map (k k' : List Int) (d : PyData) : ∀ ws : List (List Int × PyData), tdGet (ws.map fun kv => if kv.1 = k then (kv.1, d) else kv) k' = if k = k' then (if (ws.any fun kv => decide (kv.1 = k)) = true then some d else none) else tdGet ws k'
  | [] => by by_cases e : k = k' <;> simp [tdGet, e]
  | x :: ws => by
    have ih := tdGet_map k k' d ws
    rw [List.map_cons]
    by_cases hx : x.1 = k
    · rw [if_pos hx, tdGet, tdGet]
      by_cases e : k = k'
      · simp only []
        rw [if_pos (hx.trans e), if_pos e, List.any_cons, decide_eq_true hx]; rfl
      · simp only []
        rw [if_neg (fun z => e (hx.symm.trans z)), if_neg e, if_neg (fun z => e (hx.symm.trans z)), ih, if_neg e]
    · rw [if_neg hx, tdGet, tdGet, ih]
      by_cases e : k = k'
      · subst e
        rw [if_neg hx, if_pos rfl, if_pos rfl, List.any_cons, decide_eq_false hx, Bool.false_or]
      · rw [if_neg e, if_neg e]
theorem tdGet_put (ws : List (List Int × PyData)) (k k' : List Int) (d : PyData) : tdGet (tdPut ws k d) k' = if k = k' then some d else tdGet ws k' := by
  unfold tdPut
  split
  · rename_i h
    rw [tdGet_map, if_pos h]
  · rename_i h
    rw [tdGet_app]
    by_cases e : k = k'
    · subst e
      rw [tdGet_none k ws h]
    · rw [if_neg e, if_neg e]
      cases tdGet ws k' <;> rfl
theorem tdGet_fold (f : List Int → PyData) (k : List Int) : ∀ (rows : List (List Int)) (ws : List (List Int × PyData)), tdGet ((rows.map fun r => (r, f r)).foldl (fun acc p => tdPut acc p.1 p.2) ws) k = if k ∈ rows then some (f k) else tdGet ws k
  | [], ws => by simp
  | r :: rows, ws => by
    rw [List.map_cons, List.foldl_cons, tdGet_fold f k rows, tdGet_put]
    by_cases h : k ∈ rows
    · rw [if_pos h, if_pos (List.mem_cons_of_mem _ h)]
    · rw [if_neg h]
      by_cases e : r = k
      · subst e
        rw [if_pos rfl, if_pos List.mem_cons_self]
      · rw [if_neg e, if_neg (fun z => (List.mem_cons.mp z).elim (fun q => e q.symm) h)]
theorem prsD_map (f : List Int → PyData) : ∀ rows : List (List Int), prsD (rows.map fun r => .tuple [intsT r, f r]) = some (rows.map fun r => (r, f r))
  | [] => rfl
  | r :: rows => by
    rw [List.map_cons, prsD, prsD_map f rows]
    show (intsD (r.map PyData.int)).bind _ = _
    rw [ints_some]
    rfl
def wordsT (pg : Pg) (rows : List (List Int)) : List (List Int × PyData) := mrgT (rows.map fun r => (r, .str (tells pg r)))
theorem words_at (pg : Pg) {rows : List (List Int)} {k : List Int} (h : k ∈ rows) : tdGet (wordsT pg rows) k = some (.str (tells pg k)) := by
  unfold wordsT mrgT
  rw [tdGet_fold (fun r => .str (tells pg r)) k rows [], if_pos h]
/-! alike or not, by all rows -/
theorem alike_iff {pg : Pg} {ms ps : List PyData} (S : SP pg ms ps) {a b : Nat} (ha : a < ps.length) (hb : b < ps.length) : alikeB pg ms.length ps.length a b = true ↔ ∀ row, row ∈ rowsL ms.length ps.length → tells pg row = tells pg (swapR row a b) := by
  constructor
  · intro h row hr
    obtain ⟨h1, h2⟩ := (rowsL_mem S.m1).mp hr
    exact alike_rows ha hb S.ok h h1 ((inB_iff h1).mpr h2)
  · intro h
    cases e : alikeB pg ms.length ps.length a b with
    | true => rfl
    | false =>
      exfalso
      obtain ⟨r, mm, _, hr, _⟩ := (unlike_row S .none a b ha hb 15 (by decide)).get
      rw [e, if_neg (by decide)] at hr
      obtain ⟨row, _, hrow⟩ := hr
      obtain ⟨q1, q2, q3⟩ := shr_row ha hb S.ok hrow
      exact q3 (h row ((rowsL_mem S.m1).mpr ⟨q1, (inB_iff q1).mp q2⟩))
def foundL (pg : Pg) (mk pl : Nat) : List (Nat × Nat) := (List.range pl).flatMap fun a => ((List.range pl).filter fun b => alikeB pg mk pl a b).map fun b => (a, b)
def pairN (p : Nat × Nat) : PyData := .tuple [.int (p.1 : Int), .int (p.2 : Int)]
theorem asked {pg : Pg} {ms ps : List PyData} (S : SP pg ms ps) (t : PyData) (hp : ps.length ≤ 5) (hr : ms.length ^ ps.length ≤ 5000) (m : Nat) (hm : 16 ≤ m) :
    Gives (callF gcL (TL fns) m 23 [.d (sgD ms t ps), .d pg.D]) fun r mm => r = .d (.list ((foundL pg ms.length ps.length).map pairN)) ∧ mm = [] := by
  obtain ⟨m, rfl⟩ : ∃ j, m = j + 3 := ⟨m - 3, by omega⟩
  have s1 := S.m1
  have s2 := S.m2
  have s3 := S.p1
  have s5 := S.hh
  have hrl : (rowsL ms.length ps.length).length ≤ 5000 := by unfold rowsL; rw [List.length_map, List.length_range]; exact hr
  have hrm : ∀ row, row ∈ rowsL ms.length ps.length → row.length = ps.length ∧ ∀ z, z ∈ row → 0 ≤ z ∧ z < (ms.length : Int) := fun row h => (rowsL_mem s1).mp h
  have hsw : ∀ row a b, row ∈ rowsL ms.length ps.length → a < ps.length → b < ps.length → swapR row a b ∈ rowsL ms.length ps.length := by
    intro row a b h ha hb
    obtain ⟨h1, h2⟩ := hrm row h
    refine (rowsL_mem s1).mpr ⟨by rw [swapR_len]; exact h1, fun z hz => ?_⟩
    obtain ⟨i, hi, rfl⟩ := List.mem_iff_getElem.mp hz
    rw [swapR_len] at hi
    have e : (swapR row a b)[i]'(by rw [swapR_len]; exact hi) = row.getD (ex a b i) 0 := by
      rw [← swapR_at (by omega) (by omega)]
      simp [List.getD, swapR_len, hi]
    rw [e]
    have hlt : ex a b i < row.length := by rw [h1]; exact ex_lt ha hb (by omega)
    exact h2 _ (by simp [List.getD, hlt])
  refine call_of rfl (run_of rfl ?_)
  show Wp (evS gcL _ b23 [.d (sgD ms t ps), .d pg.D, .un, .un, .un, .un, .un, .un, .un, .un, .un]) _ _
  unfold b23 sgD
  repeat walk_at "py"
  refine wp_call rfl ((every (m + 1) ms.length ps.length s1 (by omega) hp hr).mono ?_)
  rintro r mm ⟨rfl, rfl⟩
  refine ⟨_, rfl, _, rfl, ?_⟩
  repeat walk_at "py"
  with_reducible refine w_dpt (w_comp ?_)
  with_reducible refine w_it rfl ?_
  repeat walk_at "py"
  refine ⟨by rw [List.length_map]; omega, ?_⟩
  refine comp_map (ls := rowsL ms.length ps.length) (toD := intsT) (F := fun r => .tuple [intsT r, .str (tells pg r)]) (fun e => ∃ d, e = [_, _, _, _, _, _, _, _, _, _, d]) ⟨_, rfl⟩ ?_ ?_
  · rintro row hrow e ⟨d, rfl⟩
    refine w_turn rfl (w_blT (k_t ?_))
    repeat walk_at "py"
    refine wp_call rfl ((ends_at pg (m + 1) row (by rw [(hrm row hrow).1]; exact S.ok) (by omega)).mono ?_)
    rintro r mm ⟨rfl, rfl⟩
    refine ⟨_, rfl, _, rfl, ?_⟩
    repeat walk_at "py"
    exact ⟨rfl, _, rfl⟩
  rintro e ⟨d, rfl⟩
  refine ⟨.td (wordsT pg (rowsL ms.length ps.length)), ?_, ?_⟩
  · show (prsD ((rowsL ms.length ps.length).map fun r => .tuple [intsT r, .str (tells pg r)])).map _ = _
    rw [prsD_map (fun r => .str (tells pg r))]
    rfl
  have hwd : ∀ k, k ∈ rowsL ms.length ps.length → tdGet (wordsT pg (rowsL ms.length ps.length)) k = some (.str (tells pg k)) := fun k h => words_at pg h
  generalize wordsT pg (rowsL ms.length ps.length) = W at hwd ⊢
  repeat walk_at "py"
  refine ⟨small_nat (by omega), ?_⟩
  with_reducible refine for_ix (n := ps.length) (fun a e => ∃ c4 c7 c8 c9, e = [.d (.tuple [.tuple ms, t, .tuple ps]), .d pg.D, .d (.list ((rowsL ms.length ps.length).map intsT)), .m (.td W), c4, .d (.int (ps.length : Int)), .m (.fl (((List.range a).flatMap fun a => ((List.range ps.length).filter fun b => alikeB pg ms.length ps.length a b).map fun b => (a, b)).map pairN)), c7, c8, c9, .un]) ?_ ?_ ?_
  · exact ⟨_, _, _, _, rfl⟩
  · rintro a e ha ⟨c4, c7, c8, c9, rfl⟩
    have hl1 : ((List.range a).flatMap fun a => ((List.range ps.length).filter fun b => alikeB pg ms.length ps.length a b).map fun b => (a, b)).length ≤ 100 := by
      refine Nat.le_trans (flat_le (k := 10) _ fun x _ => ?_) (by rw [List.length_range]; omega)
      rw [List.length_map]
      refine Nat.le_trans (List.length_filter_le _ _) ?_
      rw [List.length_range]; omega
    generalize hL : ((List.range a).flatMap fun a => ((List.range ps.length).filter fun b => alikeB pg ms.length ps.length a b).map fun b => (a, b)) = L at hl1 ⊢
    refine s_turn rfl ?_
    repeat walk_at "py"
    refine ⟨small_nat (by omega), ?_⟩
    with_reducible refine for_ix (n := ps.length) (fun b e => ∃ c7 c8 c9, e = [.d (.tuple [.tuple ms, t, .tuple ps]), .d pg.D, .d (.list ((rowsL ms.length ps.length).map intsT)), .m (.td W), .d (.int (a : Int)), .d (.int (ps.length : Int)), .m (.fl ((L ++ ((List.range b).filter fun b => alikeB pg ms.length ps.length a b).map fun b => (a, b)).map pairN)), c7, c8, c9, .un]) ?_ ?_ ?_
    · exact ⟨c7, c8, c9, by rw [List.range_zero, List.filter_nil, List.map_nil, List.append_nil]; rfl⟩
    · rintro b e hb ⟨c7, c8, c9, rfl⟩
      have hl2 : (L ++ ((List.range b).filter fun b => alikeB pg ms.length ps.length a b).map fun b => (a, b)).length ≤ 200 := by
        rw [List.length_append, List.length_map]
        have := List.length_filter_le (fun b => alikeB pg ms.length ps.length a b) (List.range b)
        rw [List.length_range] at this
        omega
      have happ : ∀ z : Bool, z = alikeB pg ms.length ps.length a b → ((List.range (b + 1)).filter fun b => alikeB pg ms.length ps.length a b) = ((List.range b).filter fun b => alikeB pg ms.length ps.length a b) ++ (if z then [b] else []) := by
        intro z hz
        rw [List.range_succ, List.filter_append, hz]
        congr 1
        simp only [List.filter_cons, List.filter_nil]
      generalize hM : (L ++ ((List.range b).filter fun b => alikeB pg ms.length ps.length a b).map fun b => (a, b)) = M0 at hl2 ⊢
      refine s_turn rfl ?_
      repeat walk_at "py"
      with_reducible refine w_eM rfl (w_comp ?_)
      with_reducible refine w_it rfl ?_
      repeat walk_at "py"
      refine ⟨by rw [List.length_map]; omega, ?_⟩
      refine comp_filt (ls := rowsL ms.length ps.length) (toD := intsT) (F := intsT) (p := fun r => !decide (tells pg r = tells pg (swapR r a b))) (fun e => ∃ d, e = [_, _, _, _, _, _, _, _, _, _, d]) ⟨_, rfl⟩ ?_ ?_
      · rintro row hrow e ⟨d, rfl⟩
        obtain ⟨r1, r2⟩ := hrm row hrow
        refine w_turn rfl ?_
        repeat walk_at "py"
        refine w_dgt (ws := W) rfl ?_
        repeat walk_at "py"
        refine ⟨_, ints_some row, _, hwd row hrow, ?_⟩
        refine w_dgt (ws := W) rfl ?_
        repeat walk_at "py"
        refine wp_call rfl ((swapped (m + 1) row a b (by omega) (by omega)).mono ?_)
        rintro r mm ⟨rfl, rfl⟩
        refine ⟨_, rfl, _, rfl, ?_⟩
        refine ⟨_, rfl, _, ints_some _, _, hwd _ (hsw row a b hrow ha hb), ?_⟩
        repeat walk_at "py"
        refine And.intro (fun h => ?_) (fun h => ?_)
        · repeat walk_at "py"
          exact ⟨by rw [if_pos h], _, rfl⟩
        · have h' : (!decide (tells pg row = tells pg (swapR row a b))) = false := h
          exact ⟨by rw [if_neg (by rw [h']; decide)], _, rfl⟩
      rintro e ⟨d, rfl⟩
      have hdue : decide (((((rowsL ms.length ps.length).filter fun r => !decide (tells pg r = tells pg (swapR r a b))).map intsT).length : Int) = 0) = alikeB pg ms.length ps.length a b := by
        rw [Bool.eq_iff_iff, decide_eq_true_eq, alike_iff S ha hb, List.length_map]
        constructor
        · intro h row hrow
          have h0 : ((rowsL ms.length ps.length).filter fun r => !decide (tells pg r = tells pg (swapR r a b))) = [] := List.eq_nil_of_length_eq_zero (by omega)
          rw [List.filter_eq_nil_iff] at h0
          have := h0 row hrow
          simpa using this
        · intro h
          have h0 : ((rowsL ms.length ps.length).filter fun r => !decide (tells pg r = tells pg (swapR r a b))) = [] := by
            rw [List.filter_eq_nil_iff]
            intro row hrow
            simpa using h row hrow
          rw [h0]; rfl
      have AA := are_alike S t a b ha hb (m + 2) (by omega)
      have UR := unlike_row S t a b ha hb (m + 2) (by omega)
      unfold sgD at AA UR
      repeat walk_at "py"
      rw [hdue]
      repeat walk_at "py"
      refine wp_call rfl (AA.mono ?_)
      rintro r mm ⟨rfl, rfl⟩
      refine ⟨_, rfl, _, rfl, ?_⟩
      repeat walk_at "py"
      refine wp_call rfl ((exact_b (m + 1) _).mono ?_)
      rintro r mm ⟨rfl, rfl⟩
      refine ⟨_, rfl, _, rfl, ?_⟩
      walk_at "pk"
      refine wp_call rfl (UR.mono ?_)
      rintro r mm ⟨hrr, rfl⟩
      cases hal : alikeB pg ms.length ps.length a b with
      | true =>
        rw [hal, if_pos rfl] at hrr
        subst hrr
        refine ⟨_, rfl, _, rfl, ?_⟩
        walk_at "pk"
        refine ⟨_, _, rfl, by rw [List.length_map]; omega, rfl, ?_⟩
        walk_at "pk"
        refine ⟨.d (.int (b : Int)), .d (.bool true), .d .none, ?_⟩
        rw [happ true hal.symm, if_pos rfl, ← hM]
        simp only [List.map_append, List.append_assoc]
        rfl
      | false =>
        rw [hal, if_neg (by decide)] at hrr
        obtain ⟨row, rfl, hrow⟩ := hrr
        obtain ⟨q1, q2, q3⟩ := shr_row ha hb S.ok hrow
        have GD := good m pg ms ps t row a b ha hb S.p2 S.ok (by omega) q1 ((inB_iff q1).mp q2) q3
        unfold sgD at GD
        refine ⟨_, rfl, _, rfl, ?_⟩
        walk_at "pk"
        refine wp_call rfl (GD.mono ?_)
        rintro r mm ⟨rfl, rfl⟩
        refine ⟨_, rfl, _, rfl, ?_⟩
        walk_at "pk"
        refine ⟨.d (.int (b : Int)), .d (.bool false), .d (intsT row), ?_⟩
        rw [happ false hal.symm, if_neg (by decide), List.append_nil, hM]
        rfl
    · rintro e ⟨c7, c8, c9, rfl⟩
      repeat walk_at "py"
      refine ⟨.d (.int (a : Int)), c7, c8, c9, ?_⟩
      rw [List.range_succ, List.flatMap_append, hL, List.flatMap_singleton]
  · rintro e ⟨c4, c7, c8, c9, rfl⟩
    repeat walk_at "py"
    exact ⟨rfl, rfl⟩

end K24

set_option Elab.async false
set_option linter.all false
set_option maxRecDepth 100000
set_option maxHeartbeats 1000000
namespace K24
open PY PySem
local macro_rules | `(tactic| walk_at "py") => `(tactic| (first
  | with_reducible refine x_add ?_
  | with_reducible refine x_sub ?_
  | ((with_reducible refine x_mul ?_ ?_); next => first | exact mulOk_r (by decide) | exact mulOk_l (by decide))
  | ((with_reducible refine x_mod ?_ ?_); next => decide)
  | ((with_reducible refine x_fdv ?_ ?_); next => decide)
  | ((with_reducible refine Exists.intro ?w0 (And.intro ?h0 ?k0)); (case h0 => rfl))
  | ((with_reducible refine And.intro (a := _ ≤ (1000000 : Nat)) ?_ ?_); next => (simp only [List.length_cons, List.length_nil]; decide))
  | with_reducible refine s_seq ?_
  | with_reducible refine s_skip ?_
  | with_reducible refine ks_nx ?_
  | with_reducible refine ks_rt ?_
  | with_reducible refine s_set ?_
  | with_reducible refine s_asg ?_
  | with_reducible refine s_asgM ?_
  | with_reducible refine s_ret ?_
  | with_reducible refine s_retM ?_
  | with_reducible refine s_ife ?_
  | with_reducible refine s_for ?_
  | with_reducible refine k_t ?_
  | with_reducible refine k_f ?_
  | with_reducible refine k_tn ?_
  | with_reducible refine k_fn ?_
  | with_reducible refine w_rng1 ?_
  | with_reducible refine w_int ?_
  | with_reducible refine w_str ?_
  | with_reducible refine w_bl ?_
  | with_reducible refine w_non ?_
  | with_reducible refine w_abs ?_
  | with_reducible refine w_nil ?_
  | with_reducible refine w_at ?_
  | with_reducible refine w_bin ?_
  | with_reducible refine w_bi ?_
  | with_reducible refine w_idx ?_
  | ((with_reducible refine w_cst (d := ?w0) ?hx ?h0 ?k0); (case hx => rfl); (case h0 => rfl))
  | with_reducible refine w_chain ?_
  | with_reducible refine w_srs ?_
  | with_reducible refine w_tup ?_
  | with_reducible refine w_dnw ?_
  | with_reducible refine w_dinT ?_
  | with_reducible refine w_din ?_
  | with_reducible refine w_lst ?_
  | with_reducible refine w_lstM ?_
  | with_reducible refine w_cmp ?_
  | with_reducible refine w_cmpT ?_
  | with_reducible refine w_ite ?_
  | with_reducible refine w_slc ?_
  | with_reducible refine w_slm ?_
  | with_reducible refine w_isi ?_
  | with_reducible refine w_isiT ?_
  | with_reducible refine w_me ?_
  | with_reducible refine w_call ?_
  | with_reducible refine w_callM ?_
  | with_reducible refine w_callK ?_
  | with_reducible refine w_andT ?_
  | with_reducible refine w_and ?_
  | with_reducible refine w_or ?_
  | with_reducible refine w_not ?_
  | with_reducible refine w_orT ?_
  | with_reducible refine w_notT ?_
  | with_reducible refine w_isNT ?_
  | with_reducible refine w_notNT ?_
  | with_reducible refine w_callP ?_
  | with_reducible refine w_enum ?_
  | with_reducible refine w_rng2 ?_
  | with_reducible refine w_nst ?_
  | with_reducible refine s_par2 ?_
  | with_reducible refine s_asgT ?_
  | ((with_reducible refine x_pow ?_ ?_); next => decide)
  | ((with_reducible refine w_mv (m := ?w0) ?h0 ?k0); (case h0 => rfl))
  | ((with_reducible refine s_ins (u := ()) ?h0 ?k0); (case h0 => rfl))
  | with_reducible refine w_rlst ?_
  | with_reducible refine w_lof ?_
  | with_reducible refine w_rtup ?_
  | with_reducible refine w_revm ?_
  | with_reducible refine w_rep ?_
  | with_reducible refine w_dct ?_
  | with_reducible refine w_rev ?_
  | with_reducible refine w_isN ?_
  | with_reducible refine w_notN ?_
  | with_reducible refine s_parA ?_
  | with_reducible refine s_cnt ?_
  | with_reducible refine ks_ct ?_
  | with_reducible refine w_neg ?_
  | with_reducible refine w_blT ?_
  | ((with_reducible refine w_var (d := ?w0) ?h0 ?k0); (case h0 => rfl))
  | ((with_reducible refine w_lf (d := ?w0) ?h0 ?k0); (case h0 => rfl))
  | ((with_reducible refine w_vw (d := ?w0) ?h0 ?k0); (case h0 => rfl))
  | ((with_reducible refine w_cons ?_ ?_); next => rfl)
  | ((with_reducible refine w_am (m := ?w0) ?h0 ?k0); (case h0 => rfl))
  | ((with_reducible refine w_t ?h0 ?k0); (case h0 => rfl))
  | ((with_reducible refine s_app (u := ()) ?h0 ?k0); (case h0 => rfl))
  | ((with_reducible refine s_frz (m := ?m0) (d := ?d0) (env' := ?e0) ?h0 ?h1 ?h2 ?k0); (case h0 => rfl); (case h1 => rfl); (case h2 => rfl))))
local macro_rules | `(tactic| walk_at "pk") => `(tactic| (repeat (first | walk_at "py" | refine k_t ?_ | refine k_f ?_ | refine k_t' ?_ | refine k_f' ?_)))
/-! drawn programs -/
theorem h_lk : ∀ p : Pg, p.h ≤ p.lk
  | .tell _ => Nat.le_refl _
  | .look p ms y n => by
    have h1 := h_lk y
    have h2 := h_lk n
    simp only [Pg.h, Pg.lk]
    omega
theorem ok_u : PyData.strOk "u" = true := by decide +kernel
theorem ok_v : PyData.strOk "v" = true := by decide +kernel
theorem ok_w : PyData.strOk "w" = true := by decide +kernel
theorem last_at {α : Type} {f : α → PyData} {l : List α} (h : l ≠ []) : idxD (.list (l.map f)) (.int (-1)) = some (f (l.getLast h)) := by
  show atI (l.map f) (-1) = _
  have hl : 0 < l.length := List.length_pos_iff.mpr h
  unfold atI ixN L2.ixN
  rw [if_neg (by omega), if_pos (by rw [List.length_map]; omega)]
  rw [List.length_map, show (-1 + (l.length : Int)).toNat = l.length - 1 by omega]
  simp [List.getLast_eq_getElem, show l.length - 1 < l.length by omega]
theorem lf_at {α : Type} {f : α → PyData} {l : List α} {p : Nat} (h : p < l.length) : ((M.fl (l.map f)).kid (p : Int)).bind M.leaf = some (f l[p]) := by
  rw [kid_fl (by rw [List.length_map]; exact h)]
  simp [M.leaf]
def r19 : S := (.seq (.ife (.cmp .lt (.bin .add (.lf (.ixv (.v 5) 8)) (.lf (.ixv (.v 5) 9))) (.int 8))
(.seq (.app (.v 4) (.tup (.cons (.str "look") (.cons (.call 14 (.cons (.am (.v 0)) (.cons (.var 2) .nil))) (.cons (.var 7) (.cons (.lf (.ixv (.v 4) 8)) (.cons (.lf (.ixv (.v 4) 9)) .nil)))))))
(.seq (.app (.v 5) (.bin .add (.bin .add (.lf (.ixv (.v 5) 8)) (.lf (.ixv (.v 5) 9))) (.int 1)))
.skip))
.skip)
.skip)
theorem b19_eq : b19 = (.seq (.asgM 4 (.lst (.cons (.tup (.cons (.str "tell") (.cons (.str "u") .nil))) (.cons (.tup (.cons (.str "tell") (.cons (.str "v") .nil))) (.cons (.tup (.cons (.str "tell") (.cons (.str "w") .nil))) .nil)))))
(.seq (.asgM 5 (.lst (.cons (.int 0) (.cons (.int 0) (.cons (.int 0) .nil)))))
(.seq (.for_ (.n 6) (.rng1 (.var 3))
(.seq (.par2 8 9 (.call 14 (.cons (.am (.v 0)) (.cons (.bi .len (.cons (.vw (.v 4)) .nil)) .nil))) (.call 14 (.cons (.am (.v 0)) (.cons (.bi .len (.cons (.vw (.v 4)) .nil)) .nil))))
(.seq (.asg 7 (.bi .tuple (.cons (.comp [10] (.n 10) (.rng1 (.var 1)) (.cmp .eq (.call 14 (.cons (.am (.v 0)) (.cons (.int 2) .nil))) (.int 0)) (.var 10)) .nil)))
(.seq (.asg 7 (.ite (.chain .lt .lt (.int 0) (.bi .len (.cons (.var 7) .nil)) (.var 1)) (.var 7) (.tup (.cons (.call 14 (.cons (.am (.v 0)) (.cons (.var 1) .nil))) .nil))))
r19))))
(.seq (.ret (.idx (.vw (.v 4)) (.neg (.int 1))))
.skip)))) := rfl
theorem looks (m : Nat) (x : M) (hx : IsB x) (mk pl : Nat) (h1 : 1 ≤ mk) (h5 : mk ≤ 10) (hp : 1 ≤ pl) :
    Gives (callF gcL (TL fns) (m + 2) 19 [.m x, .d (.int (mk : Int)), .d (.int (pl : Int)), .d (.int 5)]) fun r mm => (∃ pg : Pg, r = .d pg.D ∧ pg.Ok pl ∧ pg.lk ≤ 8) ∧ ∃ x', mm = [.m x'] ∧ IsB x' := by
  refine call_of rfl (run_of rfl ?_)
  show Wp (evS gcL _ b19 [.m x, .d (.int (mk : Int)), .d (.int (pl : Int)), .d (.int 5), .un, .un, .un, .un, .un, .un, .un]) _ _
  rw [b19_eq]
  repeat walk_at "py"
  refine ⟨by decide +kernel, ?_⟩
  show Wp (forL _ (rangeD 0 ((5 : Nat) : Int)) _) _ _
  with_reducible refine for_ix (n := 5) (fun k e => ∃ (x : M) (L : List Pg) (c6 c7 c8 c9 : Sl), IsB x ∧ 3 ≤ L.length ∧ L.length ≤ 3 + k ∧ (∀ p, p ∈ L → p.Ok pl ∧ p.lk ≤ 8) ∧ e = [.m x, .d (.int (mk : Int)), .d (.int (pl : Int)), .d (.int 5), .m (.fl (L.map Pg.D)), .m (.fl ((L.map fun p => (p.lk : Int)).map PyData.int)), c6, c7, c8, c9, .un]) ?_ ?_ ?_
  · refine ⟨x, [.tell "u", .tell "v", .tell "w"], _, _, _, _, hx, by decide, by decide, ?_, rfl⟩
    intro p hp
    simp only [List.mem_cons, List.not_mem_nil, or_false] at hp
    rcases hp with rfl | rfl | rfl
    · exact ⟨ok_u, by decide⟩
    · exact ⟨ok_v, by decide⟩
    · exact ⟨ok_w, by decide⟩
  · clear hx x
    rintro k e hk ⟨x, L, c6, c7, c8, c9, hx, l3, lk, hL, rfl⟩
    refine s_turn rfl ?_
    repeat walk_at "py"
    refine wp_call rfl ((tip m x hx (((L.map Pg.D).length : Nat) : Int) (by rw [List.length_map]; omega)).mono ?_)
    rintro r mm ⟨⟨a, rfl, a0, a1⟩, x1, rfl, hx1⟩
    refine ⟨_, rfl, _, rfl, ?_⟩
    repeat walk_at "py"
    refine wp_call rfl ((tip m x1 hx1 (((L.map Pg.D).length : Nat) : Int) (by rw [List.length_map]; omega)).mono ?_)
    rintro r mm ⟨⟨b, rfl, b0, b1⟩, x2, rfl, hx2⟩
    refine ⟨_, rfl, _, rfl, ?_⟩
    obtain ⟨a, rfl⟩ := Int.eq_ofNat_of_zero_le a0
    obtain ⟨b, rfl⟩ := Int.eq_ofNat_of_zero_le b0
    rw [List.length_map] at a1 b1
    have a2 : a < L.length := by omega
    have b2 : b < L.length := by omega
    repeat walk_at "py"
    with_reducible refine w_eM rfl (w_comp ?_)
    repeat walk_at "py"
    refine ⟨small_nat (by omega), ?_⟩
    rw [rangeD_nat]
    refine ⟨by rw [List.length_map, List.length_range]; omega, ?_⟩
    refine comp_pre (ls := List.range mk) (toD := fun (i : Nat) => PyData.int (i : Int)) (fun l1 acc e => ∃ (row : List Int) (x : M) (v : Sl), IsB x ∧ acc = row.map PyData.int ∧ row.length ≤ l1.length ∧ e = [.m x, _, _, _, _, _, _, _, _, _, v]) ⟨[], x2, _, hx2, rfl, by simp, rfl⟩ ?_ ?_
    · clear hx2 x2
      rintro l1 i l2 hl acc e ⟨row, x2, v, hx2, rfl, hrl, rfl⟩
      refine w_turn rfl ?_
      repeat walk_at "py"
      refine wp_call rfl ((tip m x2 hx2 2 (by decide)).mono ?_)
      rintro r mm ⟨⟨d, rfl, d0, d1⟩, x3, rfl, hx3⟩
      refine ⟨_, rfl, _, rfl, ?_⟩
      repeat walk_at "py"
      refine And.intro (fun h => ?_) (fun h => ?_)
      · repeat walk_at "py"
        exact ⟨row ++ [(i : Int)], x3, _, hx3, by rw [List.map_append]; rfl, by rw [List.length_append, List.length_append]; simp only [List.length_cons, List.length_nil]; omega, rfl⟩
      · exact ⟨row, x3, _, hx3, rfl, by rw [List.length_append]; omega, rfl⟩
    rintro acc e ⟨some, x3, v, hx3, rfl, hrl, rfl⟩
    rw [List.length_range] at hrl
    have fin : ∀ (some : List Int) (x3 : M) (c6 c7 : Sl), some.length ≤ 100 → IsB x3 → Wp (evS gcL (callF gcL (TL fns) (m + 1)) r19 [.m x3, .d (.int (mk : Int)), .d (.int (pl : Int)), .d (.int 5), .m (.fl (L.map Pg.D)), .m (.fl ((L.map fun p => (p.lk : Int)).map PyData.int)), c6, .d (intsT some), .d (.int (a : Int)), .d (.int (b : Int)), .un]) (fun w e => w = .nx ∧ ∃ (x : M) (L : List Pg) (c6 c7 c8 c9 : Sl), IsB x ∧ 3 ≤ L.length ∧ L.length ≤ 3 + (k + 1) ∧ (∀ p, p ∈ L → p.Ok pl ∧ p.lk ≤ 8) ∧ e = [.m x, .d (.int (mk : Int)), .d (.int (pl : Int)), .d (.int 5), .m (.fl (L.map Pg.D)), .m (.fl ((L.map fun p => (p.lk : Int)).map PyData.int)), c6, c7, c8, c9, .un]) (fun _ _ => False) := by
      clear hrl hx hx1 hx3 x x1 x3 some
      intro some x3 c6 c7 hs hx3
      unfold r19
      have la : ((M.fl ((L.map fun p => (p.lk : Int)).map PyData.int)).kid (a : Int)).bind M.leaf = .some (.int (L[a].lk : Int)) := by
        rw [lf_at (by rw [List.length_map]; exact a2)]
        simp
      have lb : ((M.fl ((L.map fun p => (p.lk : Int)).map PyData.int)).kid (b : Int)).bind M.leaf = .some (.int (L[b].lk : Int)) := by
        rw [lf_at (by rw [List.length_map]; exact b2)]
        simp
      repeat walk_at "py"
      refine w_lf la ?_
      refine w_lf lb ?_
      repeat walk_at "py"
      refine And.intro (fun h => ?_) (fun h => ?_)
      · have h8 : (L[a].lk : Int) + (L[b].lk : Int) < 8 := of_decide_eq_true h
        repeat walk_at "py"
        refine wp_call rfl ((tip m x3 hx3 (pl : Int) (by omega)).mono ?_)
        rintro r mm ⟨⟨q, rfl, q0, q1⟩, x4, rfl, hx4⟩
        obtain ⟨q, rfl⟩ := Int.eq_ofNat_of_zero_le q0
        refine ⟨_, rfl, _, rfl, ?_⟩
        repeat walk_at "py"
        refine w_lf (lf_at a2) ?_
        repeat walk_at "py"
        refine w_lf (lf_at b2) ?_
        repeat walk_at "py"
        refine ⟨_, _, rfl, by rw [List.length_map]; omega, rfl, ?_⟩
        repeat walk_at "py"
        refine w_lf la ?_
        refine w_lf lb ?_
        repeat walk_at "py"
        refine ⟨_, _, rfl, by rw [List.length_map, List.length_map]; omega, rfl, ?_⟩
        repeat walk_at "py"
        have oa := hL L[a] (List.getElem_mem a2)
        have ob := hL L[b] (List.getElem_mem b2)
        refine ⟨rfl, x4, L ++ [.look q some L[a] L[b]], c6, .d (intsT some), .d (.int (a : Int)), .d (.int (b : Int)), hx4, by simp; omega, by simp; omega, ?_, ?_⟩
        · intro p hp
          rcases List.mem_append.mp hp with hp | hp
          · exact hL p hp
          · rw [List.mem_singleton.mp hp]
            exact ⟨⟨by omega, hs, oa.1, ob.1⟩, by simp only [Pg.lk]; omega⟩
        · have e1 : ((L ++ [Pg.look q some L[a] L[b]]).map fun p => (p.lk : Int)) = (L.map fun p => (p.lk : Int)) ++ [(L[a].lk : Int) + (L[b].lk : Int) + 1] := by
            rw [List.map_append]
            congr 1
            simp only [List.map_cons, List.map_nil, Pg.lk, Int.natCast_add]
            congr 1
            omega
          rw [e1, List.map_append, List.map_append]
          rfl
      · repeat walk_at "py"
        exact ⟨rfl, x3, L, _, _, _, _, hx3, l3, by omega, hL, rfl⟩
    repeat walk_at "py"
    refine And.intro (fun h => ?_) (fun h => ?_)
    · repeat walk_at "py"
      refine And.intro (fun h2 => ?_) (fun h2 => ?_)
      · repeat walk_at "py"
        refine (fin some x3 _ c7 (by omega) hx3).mono ?_ fun _ _ h => h
        rintro w e ⟨rfl, h⟩
        exact h
      · repeat walk_at "py"
        refine wp_call rfl ((tip m x3 hx3 (mk : Int) (by omega)).mono ?_)
        rintro r mm ⟨⟨z, rfl, _, _⟩, x4, rfl, hx4⟩
        refine ⟨_, rfl, _, rfl, ?_⟩
        repeat walk_at "py"
        refine (fin [z] x4 _ c7 (by simp) hx4).mono ?_ fun _ _ h => h
        rintro w e ⟨rfl, h⟩
        exact h
    · walk_at "pk"
      refine wp_call rfl ((tip m x3 hx3 (mk : Int) (by omega)).mono ?_)
      rintro r mm ⟨⟨z, rfl, _, _⟩, x4, rfl, hx4⟩
      refine ⟨_, rfl, _, rfl, ?_⟩
      repeat walk_at "py"
      refine (fin [z] x4 _ c7 (by simp) hx4).mono ?_ fun _ _ h => h
      rintro w e ⟨rfl, h⟩
      exact h
  · clear hx x
    rintro e ⟨x, L, c6, c7, c8, c9, hx, l3, lk, hL, rfl⟩
    have hne : L ≠ [] := by intro e; rw [e] at l3; simp at l3
    repeat walk_at "py"
    refine ⟨_, last_at hne, ?_⟩
    repeat walk_at "py"
    obtain ⟨o1, o2⟩ := hL _ (List.getLast_mem hne)
    exact ⟨⟨_, rfl, o1, o2⟩, x, rfl, hx⟩

end K24

set_option Elab.async false
set_option linter.all false
set_option maxRecDepth 100000
set_option maxHeartbeats 1000000
namespace K24
open PY PySem
local macro_rules | `(tactic| walk_at "py") => `(tactic| (first
  | with_reducible refine x_add ?_
  | with_reducible refine x_sub ?_
  | ((with_reducible refine x_mul ?_ ?_); next => first | exact mulOk_r (by decide) | exact mulOk_l (by decide))
  | ((with_reducible refine x_mod ?_ ?_); next => decide)
  | ((with_reducible refine x_fdv ?_ ?_); next => decide)
  | ((with_reducible refine Exists.intro ?w0 (And.intro ?h0 ?k0)); (case h0 => rfl))
  | ((with_reducible refine And.intro (a := _ ≤ (1000000 : Nat)) ?_ ?_); next => (simp only [List.length_cons, List.length_nil]; decide))
  | with_reducible refine s_seq ?_
  | with_reducible refine s_skip ?_
  | with_reducible refine ks_nx ?_
  | with_reducible refine ks_rt ?_
  | with_reducible refine s_set ?_
  | with_reducible refine s_asg ?_
  | with_reducible refine s_asgM ?_
  | with_reducible refine s_ret ?_
  | with_reducible refine s_retM ?_
  | with_reducible refine s_ife ?_
  | with_reducible refine s_for ?_
  | with_reducible refine k_t ?_
  | with_reducible refine k_f ?_
  | with_reducible refine k_tn ?_
  | with_reducible refine k_fn ?_
  | with_reducible refine w_rng1 ?_
  | with_reducible refine w_int ?_
  | with_reducible refine w_str ?_
  | with_reducible refine w_bl ?_
  | with_reducible refine w_non ?_
  | with_reducible refine w_abs ?_
  | with_reducible refine w_nil ?_
  | with_reducible refine w_at ?_
  | with_reducible refine w_bin ?_
  | with_reducible refine w_bi ?_
  | with_reducible refine w_idx ?_
  | ((with_reducible refine w_cst (d := ?w0) ?hx ?h0 ?k0); (case hx => rfl); (case h0 => rfl))
  | with_reducible refine w_chain ?_
  | with_reducible refine w_srs ?_
  | with_reducible refine w_tup ?_
  | with_reducible refine w_dnw ?_
  | with_reducible refine w_dinT ?_
  | with_reducible refine w_din ?_
  | with_reducible refine w_lst ?_
  | with_reducible refine w_lstM ?_
  | with_reducible refine w_cmp ?_
  | with_reducible refine w_cmpT ?_
  | with_reducible refine w_ite ?_
  | with_reducible refine w_slc ?_
  | with_reducible refine w_slm ?_
  | with_reducible refine w_isi ?_
  | with_reducible refine w_isiT ?_
  | with_reducible refine w_me ?_
  | with_reducible refine w_call ?_
  | with_reducible refine w_callM ?_
  | with_reducible refine w_callK ?_
  | with_reducible refine w_andT ?_
  | with_reducible refine w_and ?_
  | with_reducible refine w_or ?_
  | with_reducible refine w_not ?_
  | with_reducible refine w_orT ?_
  | with_reducible refine w_notT ?_
  | with_reducible refine w_isNT ?_
  | with_reducible refine w_notNT ?_
  | with_reducible refine w_callP ?_
  | with_reducible refine w_enum ?_
  | with_reducible refine w_rng2 ?_
  | with_reducible refine w_nst ?_
  | with_reducible refine s_par2 ?_
  | with_reducible refine s_asgT ?_
  | ((with_reducible refine x_pow ?_ ?_); next => decide)
  | ((with_reducible refine w_mv (m := ?w0) ?h0 ?k0); (case h0 => rfl))
  | ((with_reducible refine s_ins (u := ()) ?h0 ?k0); (case h0 => rfl))
  | with_reducible refine w_rlst ?_
  | with_reducible refine w_lof ?_
  | with_reducible refine w_rtup ?_
  | with_reducible refine w_revm ?_
  | with_reducible refine w_rep ?_
  | with_reducible refine w_dct ?_
  | with_reducible refine w_rev ?_
  | with_reducible refine w_isN ?_
  | with_reducible refine w_notN ?_
  | with_reducible refine s_parA ?_
  | with_reducible refine s_cnt ?_
  | with_reducible refine ks_ct ?_
  | with_reducible refine w_neg ?_
  | with_reducible refine w_blT ?_
  | ((with_reducible refine w_var (d := ?w0) ?h0 ?k0); (case h0 => rfl))
  | ((with_reducible refine w_lf (d := ?w0) ?h0 ?k0); (case h0 => rfl))
  | ((with_reducible refine w_vw (d := ?w0) ?h0 ?k0); (case h0 => rfl))
  | ((with_reducible refine w_cons ?_ ?_); next => rfl)
  | ((with_reducible refine w_am (m := ?w0) ?h0 ?k0); (case h0 => rfl))
  | ((with_reducible refine w_t ?h0 ?k0); (case h0 => rfl))
  | ((with_reducible refine s_app (u := ()) ?h0 ?k0); (case h0 => rfl))
  | ((with_reducible refine s_frz (m := ?m0) (d := ?d0) (env' := ?e0) ?h0 ?h1 ?h2 ?k0); (case h0 => rfl); (case h1 => rfl); (case h2 => rfl))))
local macro_rules | `(tactic| walk_at "pk") => `(tactic| (repeat (first | walk_at "py" | refine k_t ?_ | refine k_f ?_ | refine k_t' ?_ | refine k_f' ?_)))
/-! programs that count -/
def tell0 : Pg := .tell "n0"
def row0 (most : Nat) : List Pg := (List.range (most + 1)).map fun (k : Nat) => .tell ("n" ++ Str.ofString (toString (k : Int)))
def stepC (ms : List Int) (most : Nat) (row : List Pg) (p : Nat) : List Pg := ((List.range most).map fun k => Pg.look p ms (row.getD (k + 1) tell0) (row.getD k tell0)) ++ [row.getD most tell0]
def cntP (pls : List Nat) (ms : List Int) (most : Nat) : Pg := (pls.reverse.foldl (stepC ms most) (row0 most)).getD 0 tell0
theorem str_len : ∀ i : Nat, i < 10 → (Str.ofString (toString (i : Int))).length ≤ 20 := by decide +kernel
theorem nlen : ("n" : Str).length = 1 := by decide +kernel
theorem hlen : ("h" : Str).length = 1 := by decide +kernel
theorem qlen : ("q" : Str).length = 1 := by decide +kernel
theorem ok_n : ∀ i : Nat, i < 10 → PyData.strOk ("n" ++ Str.ofString (toString (i : Int))) = true := by decide +kernel
theorem pg_at {L : List Pg} {p : Nat} (h : p < L.length) : idxD (.list (L.map Pg.D)) (.int (p : Int)) = some (L.getD p tell0).D := by
  rw [at_lst (by rw [List.length_map]; exact h)]
  simp [List.getD, h]
theorem counted (m : Nat) (pls : List Nat) (ms : List Int) (most : Nat) (h1 : 1 ≤ most) (h2 : most ≤ 5) : Gives (callF gcL (TL fns) (m + 1) 20 [.d (.list (pls.map natD)), .d (intsT ms), .d (.int (most : Int))]) fun r mm => r = .d (cntP pls ms most).D ∧ mm = [] := by
  refine call_of rfl (run_of rfl ?_)
  show Wp (evS gcL _ b20 [.d (.list (pls.map natD)), .d (intsT ms), .d (.int (most : Int)), .un, .un, .un]) _ _
  unfold b20
  repeat walk_at "py"
  with_reducible refine w_eM rfl (w_comp ?_)
  repeat walk_at "py"
  rw [show ((most : Int) + 1) = ((most + 1 : Nat) : Int) by omega]
  refine ⟨small_nat (by omega), ?_⟩
  rw [rangeD_nat]
  refine ⟨by rw [List.length_map, List.length_range]; omega, ?_⟩
  refine comp_map (ls := List.range (most + 1)) (toD := fun (i : Nat) => PyData.int (i : Int)) (F := fun (k : Nat) => (Pg.tell ("n" ++ Str.ofString (toString (k : Int)))).D) (fun e => ∃ v, e = [_, _, _, _, _, v]) ⟨_, rfl⟩ ?_ ?_
  · rintro i hi e ⟨v, rfl⟩
    have hi := List.mem_range.mp hi
    have hsl := str_len i (by omega)
    refine w_turn rfl (w_blT (k_t ?_))
    repeat walk_at "py"
    refine x_str (Nat.lt_of_lt_of_le (log_lt (by omega)) (by decide)) ?_
    refine x_adds (by rw [nlen]; omega) ?_
    repeat walk_at "py"
    exact ⟨rfl, _, rfl⟩
  rintro e ⟨v, rfl⟩
  rw [show (List.range (most + 1)).map (fun (k : Nat) => (Pg.tell ("n" ++ Str.ofString (toString (k : Int)))).D) = (row0 most).map Pg.D by unfold row0; rw [List.map_map]; rfl]
  repeat walk_at "py"
  with_reducible refine w_it rfl ?_
  repeat walk_at "py"
  rw [← List.map_reverse]
  refine for_fold (ls := pls.reverse) (toD := natD) (fun (row : List Pg) e => row.length = most + 1 ∧ ∃ c4, e = [.d (.list (pls.map natD)), .d (intsT ms), .d (.int (most : Int)), .d (.list (row.map Pg.D)), c4, .un]) (stepC ms most) (row0 most) ⟨by simp [row0], _, rfl⟩ ?_ ?_
  · rintro p hp row e ⟨hr, c4, rfl⟩
    refine s_turn rfl ?_
    repeat walk_at "py"
    with_reducible refine w_eM rfl (w_comp ?_)
    repeat walk_at "py"
    refine ⟨small_nat (by omega), ?_⟩
    rw [rangeD_nat]
    refine ⟨by rw [List.length_map, List.length_range]; omega, ?_⟩
    refine comp_map (ls := List.range most) (toD := fun (i : Nat) => PyData.int (i : Int)) (F := fun (k : Nat) => (Pg.look p ms (row.getD (k + 1) tell0) (row.getD k tell0)).D) (fun e => ∃ v, e = [_, _, _, _, _, v]) ⟨_, rfl⟩ ?_ ?_
    · rintro i hi e ⟨v, rfl⟩
      have hi := List.mem_range.mp hi
      refine w_turn rfl (w_blT (k_t ?_))
      repeat walk_at "py"
      rw [show ((i : Int) + 1) = ((i + 1 : Nat) : Int) by omega]
      refine ⟨_, pg_at (by omega), ?_⟩
      repeat walk_at "py"
      refine ⟨_, pg_at (by omega), ?_⟩
      repeat walk_at "py"
      exact ⟨rfl, _, rfl⟩
    rintro e ⟨v, rfl⟩
    repeat walk_at "py"
    refine ⟨_, pg_at (by omega), ?_⟩
    repeat walk_at "py"
    refine x_addl (by simp; omega) ?_
    repeat walk_at "py"
    refine ⟨rfl, by simp [stepC], natD p |> Sl.d, ?_⟩
    unfold stepC
    rw [List.map_append, List.map_map]
    rfl
  · rintro e ⟨hr, c4, rfl⟩
    repeat walk_at "py"
    refine ⟨_, pg_at (p := 0) (by omega), ?_⟩
    repeat walk_at "py"
    exact ⟨rfl, rfl⟩
structure Cnt (pl j : Nat) (p : Pg) : Prop where
  ok : p.Ok pl
  h : p.h ≤ j
  nd : p.nd + 1 ≤ 2 ^ (j + 1)
theorem cnt0 (pl j : Nat) : Cnt pl j tell0 := ⟨ok_n 0 (by decide), Nat.zero_le _, by
  show 2 ≤ 2 ^ (j + 1)
  have := Nat.one_le_two_pow (n := j)
  rw [Nat.pow_succ]; omega⟩
theorem cnt_get {pl j : Nat} {row : List Pg} (h : ∀ p, p ∈ row → Cnt pl j p) (k : Nat) : Cnt pl j (row.getD k tell0) := by
  simp only [List.getD]
  cases e : row[k]? with
  | none => exact cnt0 pl j
  | some p => exact h p (List.mem_of_getElem? e)
theorem cnt_le {pl j : Nat} {p : Pg} (h : Cnt pl j p) : Cnt pl (j + 1) p := ⟨h.ok, by have := h.h; omega, by
  have := h.nd
  rw [Nat.pow_succ]; omega⟩
theorem cnt_fold {pl : Nat} {ms : List Int} {most : Nat} (hm : ms.length ≤ 100) : ∀ (l : List Nat) (j : Nat) (row : List Pg), (∀ p, p ∈ l → p < pl) → (∀ p, p ∈ row → Cnt pl j p) → ∀ p, p ∈ l.foldl (stepC ms most) row → Cnt pl (j + l.length) p
  | [], j, row, _, hr, p, hp => hr p hp
  | a :: l, j, row, hl, hr, p, hp => by
    rw [List.foldl_cons] at hp
    have ih := cnt_fold hm l (j + 1) (stepC ms most row a) (fun p hp => hl p (List.mem_cons_of_mem _ hp)) ?_ p hp
    · rw [List.length_cons, show j + (l.length + 1) = j + 1 + l.length by omega]
      exact ih
    · intro q hq
      unfold stepC at hq
      rcases List.mem_append.mp hq with hq | hq
      · obtain ⟨k, _, rfl⟩ := List.mem_map.mp hq
        have c1 := cnt_get hr (k + 1)
        have c2 := cnt_get hr k
        refine ⟨⟨hl a List.mem_cons_self, hm, c1.ok, c2.ok⟩, ?_, ?_⟩
        · have := c1.h
          have := c2.h
          simp only [Pg.h]; omega
        · have := c1.nd
          have := c2.nd
          simp only [Pg.nd]
          rw [Nat.pow_succ]; omega
      · rw [List.mem_singleton.mp hq]
        exact cnt_le (cnt_get hr _)
theorem cnt_all {pl : Nat} (pls : List Nat) {ms : List Int} {most : Nat} (hm : ms.length ≤ 100) (h2 : most ≤ 5) (hp : ∀ p, p ∈ pls → p < pl) : Cnt pl pls.length (cntP pls ms most) := by
  unfold cntP
  have := cnt_fold (most := most) hm pls.reverse 0 (row0 most) (fun p h => hp p (List.mem_reverse.mp h)) (fun p h => by
    obtain ⟨k, hk, rfl⟩ := List.mem_map.mp h
    have := List.mem_range.mp hk
    exact ⟨ok_n k (by omega), Nat.le_refl _, Nat.le_refl 2⟩)
  rw [List.length_reverse, Nat.zero_add] at this
  exact cnt_get this 0
/-! drawn settings -/
theorem setting (m : Nat) (x : M) (hx : IsB x) (mk pl : Nat) (h5 : mk ≤ 5) (hp : pl ≤ 9) :
    Gives (callF gcL (TL fns) (m + 2) 24 [.m x, .d (.int (mk : Int)), .d (.int (pl : Int))]) fun r mm => (∃ (ms ps : List PyData) (t : PyData), r = .d (sgD ms t ps) ∧ ms.length = mk ∧ ps.length = pl) ∧ ∃ x', mm = [.m x'] ∧ IsB x' := by
  refine call_of rfl (run_of rfl ?_)
  show Wp (evS gcL _ b24 [.m x, .d (.int (mk : Int)), .d (.int (pl : Int)), .un, .un, .un]) _ _
  unfold b24
  repeat walk_at "py"
  with_reducible refine w_eM rfl (w_comp ?_)
  repeat walk_at "py"
  refine wp_call rfl ((tip m x hx 3 (by decide)).mono ?_)
  rintro r mm ⟨⟨d, rfl, d0, d1⟩, x1, rfl, hx1⟩
  refine ⟨_, rfl, _, rfl, ?_⟩
  obtain ⟨tr, htr⟩ := Int.eq_ofNat_of_zero_le (show 0 ≤ 1 + d by omega)
  repeat walk_at "py"
  rw [htr]
  refine ⟨small_nat (by omega), ?_⟩
  rw [rangeD_nat]
  refine ⟨by rw [List.length_map, List.length_range]; omega, ?_⟩
  refine comp_pre (ls := List.range tr) (toD := fun (i : Nat) => PyData.int (i : Int)) (fun l1 acc e => ∃ (x : M) (v : Sl), IsB x ∧ acc.length = l1.length ∧ e = [.m x, _, _, _, _, v]) ⟨x1, _, hx1, rfl, rfl⟩ ?_ ?_
  · clear hx1 x1
    rintro l1 i l2 hl acc e ⟨x1, v, hx1, hrl, rfl⟩
    obtain ⟨_, hi⟩ := range_at hl
    have hsl := str_len i (by omega)
    refine w_turn rfl (w_blT (k_t ?_))
    repeat walk_at "py"
    refine x_str (Nat.lt_of_lt_of_le (log_lt (by omega)) (by decide)) ?_
    refine x_adds (by rw [hlen]; omega) ?_
    repeat walk_at "py"
    refine wp_call rfl ((tip m x1 hx1 4 (by decide)).mono ?_)
    rintro r mm ⟨⟨z, rfl, z0, z1⟩, x2, rfl, hx2⟩
    refine ⟨_, rfl, _, rfl, ?_⟩
    have : z = 0 ∨ z = 1 ∨ z = 2 ∨ z = 3 := by omega
    rcases this with rfl | rfl | rfl | rfl
    all_goals
      refine ⟨_, rfl, ?_⟩
      repeat walk_at "py"
      exact ⟨x2, _, hx2, by rw [List.length_append, List.length_append, hrl]; rfl, rfl⟩
  rintro acc e ⟨x1, v, hx1, hrl, rfl⟩
  rw [List.length_range] at hrl
  repeat walk_at "py"
  generalize hn : cutL [PyData.str "ma", PyData.str "mb", PyData.str "mc", PyData.str "md", PyData.str "me"] none (some (mk : Int)) = names
  have hnl : names.length = mk := by
    rw [← hn, cut_hi (by simp; omega), List.length_take]
    simp
    omega
  clear hn
  with_reducible refine w_eM rfl (w_comp ?_)
  repeat walk_at "py"
  refine ⟨small_nat (by omega), ?_⟩
  rw [rangeD_nat]
  refine ⟨by rw [List.length_map, List.length_range]; omega, ?_⟩
  refine comp_pre (ls := List.range pl) (toD := fun (i : Nat) => PyData.int (i : Int)) (fun l1 acc2 e => ∃ (x : M) (v : Sl), IsB x ∧ acc2.length = l1.length ∧ e = [.m x, _, _, _, .d (.tuple acc), v]) ⟨x1, _, hx1, rfl, rfl⟩ ?_ ?_
  · clear hx1 x1
    rintro l1 i l2 hl acc2 e ⟨x1, v, hx1, hrl2, rfl⟩
    obtain ⟨_, hi⟩ := range_at hl
    have hsl := str_len i (by omega)
    refine w_turn rfl (w_blT (k_t ?_))
    repeat walk_at "py"
    refine x_str (Nat.lt_of_lt_of_le (log_lt (by omega)) (by decide)) ?_
    refine x_adds (by rw [qlen]; omega) ?_
    repeat walk_at "py"
    refine wp_call rfl ((tip m x1 hx1 ((acc.length : Nat) : Int) (by omega)).mono ?_)
    rintro r mm ⟨⟨z, rfl, z0, z1⟩, x2, rfl, hx2⟩
    refine ⟨_, rfl, _, rfl, ?_⟩
    repeat walk_at "py"
    exact ⟨x2, _, hx2, by rw [List.length_append, List.length_append, hrl2]; rfl, rfl⟩
  rintro acc2 e ⟨x1, v, hx1, hrl2, rfl⟩
  rw [List.length_range] at hrl2
  repeat walk_at "py"
  exact ⟨⟨names, acc2, .tuple acc, rfl, hnl, hrl2⟩, x1, rfl, hx1⟩

end K24

set_option Elab.async false
set_option linter.all false
set_option maxRecDepth 100000
set_option maxHeartbeats 1000000
namespace K24
open PY PySem
local macro_rules | `(tactic| walk_at "py") => `(tactic| (first
  | with_reducible refine x_add ?_
  | with_reducible refine x_sub ?_
  | ((with_reducible refine x_mul ?_ ?_); next => first | exact mulOk_r (by decide) | exact mulOk_l (by decide))
  | ((with_reducible refine x_mod ?_ ?_); next => decide)
  | ((with_reducible refine x_fdv ?_ ?_); next => decide)
  | ((with_reducible refine Exists.intro ?w0 (And.intro ?h0 ?k0)); (case h0 => rfl))
  | ((with_reducible refine And.intro (a := _ ≤ (1000000 : Nat)) ?_ ?_); next => (simp only [List.length_cons, List.length_nil]; decide))
  | with_reducible refine s_seq ?_
  | with_reducible refine s_skip ?_
  | with_reducible refine ks_nx ?_
  | with_reducible refine ks_rt ?_
  | with_reducible refine s_set ?_
  | with_reducible refine s_asg ?_
  | with_reducible refine s_asgM ?_
  | with_reducible refine s_ret ?_
  | with_reducible refine s_retM ?_
  | with_reducible refine s_ife ?_
  | with_reducible refine s_for ?_
  | with_reducible refine k_t ?_
  | with_reducible refine k_f ?_
  | with_reducible refine k_tn ?_
  | with_reducible refine k_fn ?_
  | with_reducible refine w_rng1 ?_
  | with_reducible refine w_int ?_
  | with_reducible refine w_str ?_
  | with_reducible refine w_bl ?_
  | with_reducible refine w_non ?_
  | with_reducible refine w_abs ?_
  | with_reducible refine w_nil ?_
  | with_reducible refine w_at ?_
  | with_reducible refine w_bin ?_
  | with_reducible refine w_bi ?_
  | with_reducible refine w_idx ?_
  | ((with_reducible refine w_cst (d := ?w0) ?hx ?h0 ?k0); (case hx => rfl); (case h0 => rfl))
  | with_reducible refine w_chain ?_
  | with_reducible refine w_srs ?_
  | with_reducible refine w_tup ?_
  | with_reducible refine w_dnw ?_
  | with_reducible refine w_dinT ?_
  | with_reducible refine w_din ?_
  | with_reducible refine w_lst ?_
  | with_reducible refine w_lstM ?_
  | with_reducible refine w_cmp ?_
  | with_reducible refine w_cmpT ?_
  | with_reducible refine w_ite ?_
  | with_reducible refine w_slc ?_
  | with_reducible refine w_slm ?_
  | with_reducible refine w_isi ?_
  | with_reducible refine w_isiT ?_
  | with_reducible refine w_me ?_
  | with_reducible refine w_call ?_
  | with_reducible refine w_callM ?_
  | with_reducible refine w_callK ?_
  | with_reducible refine w_andT ?_
  | with_reducible refine w_and ?_
  | with_reducible refine w_or ?_
  | with_reducible refine w_not ?_
  | with_reducible refine w_orT ?_
  | with_reducible refine w_notT ?_
  | with_reducible refine w_isNT ?_
  | with_reducible refine w_notNT ?_
  | with_reducible refine w_callP ?_
  | with_reducible refine w_enum ?_
  | with_reducible refine w_rng2 ?_
  | with_reducible refine w_nst ?_
  | with_reducible refine s_par2 ?_
  | with_reducible refine s_asgT ?_
  | ((with_reducible refine x_pow ?_ ?_); next => decide)
  | ((with_reducible refine w_mv (m := ?w0) ?h0 ?k0); (case h0 => rfl))
  | ((with_reducible refine s_ins (u := ()) ?h0 ?k0); (case h0 => rfl))
  | with_reducible refine w_rlst ?_
  | with_reducible refine w_lof ?_
  | with_reducible refine w_rtup ?_
  | with_reducible refine w_revm ?_
  | with_reducible refine w_rep ?_
  | with_reducible refine w_dct ?_
  | with_reducible refine w_rev ?_
  | with_reducible refine w_isN ?_
  | with_reducible refine w_notN ?_
  | with_reducible refine s_parA ?_
  | with_reducible refine s_cnt ?_
  | with_reducible refine ks_ct ?_
  | with_reducible refine w_neg ?_
  | with_reducible refine w_blT ?_
  | ((with_reducible refine w_var (d := ?w0) ?h0 ?k0); (case h0 => rfl))
  | ((with_reducible refine w_lf (d := ?w0) ?h0 ?k0); (case h0 => rfl))
  | ((with_reducible refine w_vw (d := ?w0) ?h0 ?k0); (case h0 => rfl))
  | ((with_reducible refine w_cons ?_ ?_); next => rfl)
  | ((with_reducible refine w_am (m := ?w0) ?h0 ?k0); (case h0 => rfl))
  | ((with_reducible refine w_t ?h0 ?k0); (case h0 => rfl))
  | ((with_reducible refine s_app (u := ()) ?h0 ?k0); (case h0 => rfl))
  | ((with_reducible refine s_frz (m := ?m0) (d := ?d0) (env' := ?e0) ?h0 ?h1 ?h2 ?k0); (case h0 => rfl); (case h1 => rfl); (case h2 => rfl))))
local macro_rules | `(tactic| walk_at "pk") => `(tactic| (repeat (first | walk_at "py" | refine k_t ?_ | refine k_f ?_ | refine k_t' ?_ | refine k_f' ?_)))
def r21 : S := (.seq (.asg 4 (.call 14 (.cons (.am (.v 0)) (.cons (.var 1) .nil))))
(.seq (.ife (.cmp .eq (.var 3) (.int 0))
(.seq (.ret (.call 19 (.cons (.am (.v 0)) (.cons (.var 1) (.cons (.var 2) (.cons (.int 5) .nil))))))
.skip)
.skip)
(.seq (.asg 5 (.slv 8 .abs (.bin .add (.int 1) (.call 14 (.cons (.am (.v 0)) (.cons (.bi .min2 (.cons (.int 3) (.cons (.var 2) .nil))) .nil))))))
(.seq (.ife (.cmp .eq (.var 3) (.int 1))
(.seq (.ret (.call 20 (.cons (.var 5) (.cons (.tup (.cons (.var 4) .nil)) (.cons (.bin .add (.int 1) (.call 14 (.cons (.am (.v 0)) (.cons (.int 2) .nil)))) .nil)))))
.skip)
.skip)
(.seq (.ife (.cmp .eq (.var 3) (.int 2))
(.seq (.asg 10 (.tup (.cons (.str "look") (.cons (.idx (.var 5) (.int 0)) (.cons (.tup (.cons (.var 4) .nil)) (.cons (.tup (.cons (.str "tell") (.cons (.str "in") .nil))) (.cons (.tup (.cons (.str "look") (.cons (.idx (.vw (.v 8)) (.neg (.int 1))) (.cons (.tup (.cons (.var 4) .nil)) (.cons (.tup (.cons (.str "tell") (.cons (.str "dead") .nil))) (.cons (.tup (.cons (.str "tell") (.cons (.str "in") .nil))) .nil)))))) .nil)))))))
(.seq (.ret (.tup (.cons (.str "look") (.cons (.idx (.var 5) (.int 0)) (.cons (.tup (.cons (.var 4) .nil)) (.cons (.var 10) (.cons (.tup (.cons (.str "tell") (.cons (.str "out") .nil))) .nil)))))))
.skip))
.skip)
(.seq (.asg 6 (.tup (.cons (.str "tell") (.cons (.str "yes") .nil))))
(.seq (.for_ (.n 7) (.slc (.vw (.v 8)) .abs (.int 4))
(.seq (.asg 6 (.tup (.cons (.str "look") (.cons (.var 7) (.cons (.tup (.cons (.call 14 (.cons (.am (.v 0)) (.cons (.var 1) .nil))) .nil)) (.cons (.var 6) (.cons (.tup (.cons (.str "tell") (.cons (.str "no") .nil))) .nil)))))))
.skip))
(.seq (.ret (.var 6))
.skip))))))))
theorem b21_eq : b21 = (.seq (.asg 3 (.call 14 (.cons (.am (.v 0)) (.cons (.int 4) .nil))))
(.seq (.parA [8, 9] (.cons (.at (.lst .nil)) (.cons (.at (.rlst (.var 2))) .nil)))
(.seq (.whl 100000 (.vw (.v 9))
(.seq (.app (.v 8) (.popAt (.v 9) (.call 14 (.cons (.am (.v 0)) (.cons (.bi .len (.cons (.vw (.v 9)) .nil)) .nil)))))
.skip))
r21))) := rfl
theorem ok_in : PyData.strOk "in" = true := by decide +kernel
theorem ok_out : PyData.strOk "out" = true := by decide +kernel
theorem ok_dead : PyData.strOk "dead" = true := by decide +kernel
theorem ok_yes : PyData.strOk "yes" = true := by decide +kernel
theorem ok_no : PyData.strOk "no" = true := by decide +kernel
structure PgQ (pl : Nat) (p : Pg) : Prop where
  ok : p.Ok pl
  h : p.h ≤ 8
  nd : p.nd ≤ 100
theorem nat_atL {L : List Nat} {p : Nat} (h : p < L.length) : idxD (.list (L.map natD)) (.int (p : Int)) = some (.int ((L.getD p 0 : Nat) : Int)) := by
  rw [at_lst (by rw [List.length_map]; exact h)]
  simp [List.getD, h, natD]
theorem r21_ok (m mk pl : Nat) (h1 : 1 ≤ mk) (h5 : mk ≤ 5) (hp : 1 ≤ pl) (hp2 : pl ≤ 9) (x : M) (hx : IsB x) (form : Int) (L : List Nat) (hL : L.length = pl) (hlt : ∀ p, p ∈ L → p < pl) (c4 c5 c6 c7 c9 c10 : Sl) (Ko : PY.Flow → PY.Env → Prop) (hK : ∀ (pg : Pg) (x' : M) (e : PY.Env), PgQ pl pg → IsB x' → mutsE d21.fd.ps e = [.m x'] → Ko (.rt (.d pg.D)) e) :
    Wp (evS gcL (callF gcL (TL fns) (m + 2)) r21 [.m x, .d (.int (mk : Int)), .d (.int (pl : Int)), .d (.int form), c4, c5, c6, c7, .m (.fl (L.map natD)), c9, c10]) Ko (fun _ _ => False) := by
  have hne : L ≠ [] := by intro e; rw [e] at hL; simp at hL; omega
  unfold r21
  repeat walk_at "py"
  refine wp_call rfl ((tip (m + 1) x hx (mk : Int) (by omega)).mono ?_)
  rintro r mm ⟨⟨mark, rfl, _, _⟩, x1, rfl, hx1⟩
  refine ⟨_, rfl, _, rfl, ?_⟩
  repeat walk_at "py"
  refine And.intro (fun _ => ?_) (fun _ => ?_)
  · repeat walk_at "py"
    refine wp_call rfl ((looks m x1 hx1 mk pl h1 (by omega) hp).mono ?_)
    rintro r mm ⟨⟨pg, rfl, o1, o2⟩, x2, rfl, hx2⟩
    refine ⟨_, rfl, _, rfl, ?_⟩
    repeat walk_at "py"
    exact hK pg x2 _ ⟨o1, Nat.le_trans (h_lk pg) o2, by have := nd_lk pg; omega⟩ hx2 rfl
  repeat walk_at "py"
  refine w_slv (m0 := .fl (L.map natD)) rfl ?_
  repeat walk_at "py"
  refine wp_call rfl ((tip (m + 1) x1 hx1 (if (pl : Int) < 3 then (pl : Int) else 3) (by split <;> omega)).mono ?_)
  rintro r mm ⟨⟨d, rfl, d0, d1⟩, x2, rfl, hx2⟩
  refine ⟨_, rfl, _, rfl, ?_⟩
  obtain ⟨n, hn⟩ := Int.eq_ofNat_of_zero_le (show 0 ≤ 1 + d by omega)
  have hn3 : n ≤ 3 := by split at d1 <;> omega
  have hnp : n ≤ pl := by split at d1 <;> omega
  repeat walk_at "py"
  rw [hn, cut_map, cut_hi (by omega)]
  generalize hS : L.take n = some
  have hsl : some.length = n := by rw [← hS, List.length_take]; omega
  have hslt : ∀ p, p ∈ some → p < pl := fun p h => hlt p (by rw [← hS] at h; exact List.mem_of_mem_take h)
  clear hS
  repeat walk_at "py"
  refine And.intro (fun _ => ?_) (fun _ => ?_)
  · repeat walk_at "py"
    refine wp_call rfl ((tip (m + 1) x2 hx2 2 (by decide)).mono ?_)
    rintro r mm ⟨⟨z, rfl, z0, z1⟩, x3, rfl, hx3⟩
    refine ⟨_, rfl, _, rfl, ?_⟩
    obtain ⟨most, hmost⟩ := Int.eq_ofNat_of_zero_le (show 0 ≤ 1 + z by omega)
    repeat walk_at "py"
    rw [hmost]
    refine wp_call rfl ((counted (m + 1) some [mark] most (by omega) (by omega)).mono ?_)
    rintro r mm ⟨rfl, rfl⟩
    refine ⟨_, rfl, _, rfl, ?_⟩
    repeat walk_at "py"
    have C := cnt_all some (ms := [mark]) (most := most) (by simp) (by omega) hslt
    refine hK _ x3 _ ⟨C.ok, by have := C.h; omega, ?_⟩ hx3 rfl
    have h3 : 2 ^ (some.length + 1) ≤ 2 ^ 4 := Nat.pow_le_pow_right (by decide) (by omega)
    have := C.nd
    omega
  have s0 : some.getD 0 0 < pl := by
    have h0 : 0 < some.length := by omega
    exact hslt _ (by simp [List.getD, h0])
  repeat walk_at "py"
  refine And.intro (fun _ => ?_) (fun _ => ?_)
  · repeat walk_at "py"
    refine ⟨_, nat_atL (p := 0) (by omega), ?_⟩
    repeat walk_at "py"
    refine ⟨_, last_at hne, ?_⟩
    repeat walk_at "py"
    refine ⟨_, nat_atL (p := 0) (by omega), ?_⟩
    repeat walk_at "py"
    have hlast := hlt _ (List.getLast_mem hne)
    exact hK (.look (some.getD 0 0) [mark] (.look (some.getD 0 0) [mark] (.tell "in") (.look (L.getLast hne) [mark] (.tell "dead") (.tell "in"))) (.tell "out")) x2 _ ⟨⟨s0, by simp, ⟨s0, by simp, ok_in, ⟨hlast, by simp, ok_dead, ok_in⟩⟩, ok_out⟩, by simp only [Pg.h]; decide, by simp only [Pg.nd]; decide⟩ hx2 rfl
  repeat walk_at "py"
  with_reducible refine w_it rfl ?_
  repeat walk_at "py"
  rw [cut_map, show cutL L none (Option.some 4) = L.take (min 4 L.length) by
    unfold cutL
    rw [show (Option.some (4 : Int)) = Option.some ((4 : Nat) : Int) from rfl, HT.sIx_nat, HT.sIx_none, Nat.sub_zero, List.drop_zero]]
  generalize hT : L.take (min 4 L.length) = T
  have htl : T.length ≤ 4 := by rw [← hT, List.length_take]; omega
  have htlt : ∀ p, p ∈ T → p < pl := fun p h => hlt p (by rw [← hT] at h; exact List.mem_of_mem_take h)
  clear hT
  refine for_pre (ls := T) (toD := natD) (fun l1 e => ∃ (x : M) (pg : Pg) (c7 : Sl), IsB x ∧ pg.Ok pl ∧ pg.lk ≤ l1.length ∧ e = [.m x, .d (.int (mk : Int)), .d (.int (pl : Int)), .d (.int form), .d (.int mark), .d (.list (some.map natD)), .d pg.D, c7, .m (.fl (L.map natD)), c9, c10]) ⟨x2, .tell "yes", c7, hx2, ok_yes, Nat.le_refl _, rfl⟩ ?_ ?_
  · clear hx hx1 hx2 x x1 x2
    rintro l1 p l2 hl e ⟨x, pg, c7, hx, ok, hlk, rfl⟩
    have hpp := htlt p (by rw [hl]; simp)
    refine s_turn rfl ?_
    unfold natD
    repeat walk_at "py"
    refine wp_call rfl ((tip (m + 1) x hx (mk : Int) (by omega)).mono ?_)
    rintro r mm ⟨⟨z, rfl, _, _⟩, x1, rfl, hx1⟩
    refine ⟨_, rfl, _, rfl, ?_⟩
    repeat walk_at "py"
    exact ⟨rfl, x1, .look p [z] pg (.tell "no"), .d (.int (p : Int)), hx1, ⟨hpp, by simp, ok, ok_no⟩, by rw [List.length_append]; simp only [Pg.lk, List.length_cons, List.length_nil]; omega, rfl⟩
  · rintro e ⟨x, pg, c7, hx, ok, hlk, rfl⟩
    repeat walk_at "py"
    exact hK pg x _ ⟨ok, by have := h_lk pg; omega, by have := nd_lk pg; omega⟩ hx rfl
theorem program (m mk pl : Nat) (h1 : 1 ≤ mk) (h5 : mk ≤ 5) (hp : 1 ≤ pl) (hp2 : pl ≤ 9) (x : M) (hx : IsB x) :
    Gives (callF gcL (TL fns) (m + 3) 21 [.m x, .d (.int (mk : Int)), .d (.int (pl : Int))]) fun r mm => (∃ pg : Pg, r = .d pg.D ∧ PgQ pl pg) ∧ ∃ x', mm = [.m x'] ∧ IsB x' := by
  refine call_of rfl (run_of rfl ?_)
  show Wp (evS gcL _ b21 [.m x, .d (.int (mk : Int)), .d (.int (pl : Int)), .un, .un, .un, .un, .un, .un, .un, .un]) _ _
  rw [b21_eq]
  repeat walk_at "py"
  refine wp_call rfl ((tip (m + 1) x hx 4 (by decide)).mono ?_)
  rintro r mm ⟨⟨form, rfl, _, _⟩, x1, rfl, hx1⟩
  refine ⟨_, rfl, _, rfl, ?_⟩
  repeat walk_at "py"
  refine ⟨(List.range pl).map natD, ?_, ?_⟩
  · have h : rangeD 0 (pl : Int) = (List.range pl).map natD := rangeD_nat pl
    rw [← h]
    exact if_pos ⟨by omega, by omega⟩
  repeat walk_at "py"
  refine wp_whl (fun k e => ∃ (x : M) (L1 L2 : List Nat), L2.length = k ∧ IsB x ∧ (L1 ++ L2).Perm (List.range pl) ∧ e = [.m x, .d (.int (mk : Int)), .d (.int (pl : Int)), .d (.int form), .un, .un, .un, .un, .m (.fl (L1.map natD)), .m (.fl (L2.map natD)), .un]) ?_ _ pl _ (by omega) ⟨x1, [], List.range pl, by simp, hx1, .refl _, rfl⟩
  clear hx hx1 x x1
  rintro k e ⟨x, L1, L2, hk, hx, hperm, rfl⟩
  have hpl := hperm.length_eq
  rw [List.length_append, List.length_range] at hpl
  repeat walk_at "py"
  refine And.intro (fun h => ?_) (fun h => ?_)
  · have h0 : L2 = [] := by
      cases L2 with
      | nil => rfl
      | cons a l => exact absurd h (by simp)
    subst h0
    rw [List.append_nil] at hperm
    simp only [List.length_nil, Nat.add_zero] at hpl
    repeat walk_at "py"
    refine r21_ok m mk pl h1 h5 hp hp2 x hx form L1 hpl (fun p h => List.mem_range.mp (hperm.mem_iff.mp h)) _ _ _ _ _ _ _ ?_
    intro pg x' e h1 h2 h3
    exact ⟨⟨pg, rfl, h1⟩, x', h3, h2⟩
  · have h0 : 0 < L2.length := by
      cases L2 with
      | nil => exact absurd h (by simp)
      | cons a l => simp
    repeat walk_at "py"
    with_reducible refine w_eM rfl (w_popAt (m0 := .fl []) (u := ()) rfl ?_)
    repeat walk_at "py"
    refine wp_call rfl ((tip (m + 1) x hx (((L2.map natD).length : Nat) : Int) (by rw [List.length_map]; omega)).mono ?_)
    rintro r mm ⟨⟨d, rfl, d0, d1⟩, x1, rfl, hx1⟩
    rw [List.length_map] at d1
    obtain ⟨a, L3, hpop, hp3⟩ := pop_atG (f := natD) (l := L2) d0 d1 (by omega)
    refine ⟨_, rfl, _, rfl, ?_⟩
    refine ⟨_, _, _, _, _, rfl, rfl, hpop, rfl, ?_⟩
    repeat walk_at "py"
    refine ⟨_, _, rfl, by rw [List.length_map]; omega, rfl, ?_⟩
    repeat walk_at "py"
    have hp3l := hp3.length_eq
    rw [List.length_cons] at hp3l
    refine ⟨L3.length, by omega, x1, L1 ++ [a], L3, rfl, hx1, ?_, by rw [List.map_append]; rfl⟩
    rw [List.append_assoc]
    exact (List.Perm.append_left L1 hp3).trans hperm

end K24

set_option Elab.async false
set_option linter.all false
set_option maxRecDepth 100000
set_option maxHeartbeats 1000000
namespace K24
open PY PySem
local macro_rules | `(tactic| walk_at "py") => `(tactic| (first
  | with_reducible refine x_add ?_
  | with_reducible refine x_sub ?_
  | ((with_reducible refine x_mul ?_ ?_); next => first | exact mulOk_r (by decide) | exact mulOk_l (by decide))
  | ((with_reducible refine x_mod ?_ ?_); next => decide)
  | ((with_reducible refine x_fdv ?_ ?_); next => decide)
  | ((with_reducible refine Exists.intro ?w0 (And.intro ?h0 ?k0)); (case h0 => rfl))
  | ((with_reducible refine And.intro (a := _ ≤ (1000000 : Nat)) ?_ ?_); next => (simp only [List.length_cons, List.length_nil]; decide))
  | with_reducible refine s_seq ?_
  | with_reducible refine s_skip ?_
  | with_reducible refine ks_nx ?_
  | with_reducible refine ks_rt ?_
  | with_reducible refine s_set ?_
  | with_reducible refine s_asg ?_
  | with_reducible refine s_asgM ?_
  | with_reducible refine s_ret ?_
  | with_reducible refine s_retM ?_
  | with_reducible refine s_ife ?_
  | with_reducible refine s_for ?_
  | with_reducible refine k_t ?_
  | with_reducible refine k_f ?_
  | with_reducible refine k_tn ?_
  | with_reducible refine k_fn ?_
  | with_reducible refine w_rng1 ?_
  | with_reducible refine w_int ?_
  | with_reducible refine w_str ?_
  | with_reducible refine w_bl ?_
  | with_reducible refine w_non ?_
  | with_reducible refine w_abs ?_
  | with_reducible refine w_nil ?_
  | with_reducible refine w_at ?_
  | with_reducible refine w_bin ?_
  | with_reducible refine w_bi ?_
  | with_reducible refine w_idx ?_
  | ((with_reducible refine w_cst (d := ?w0) ?hx ?h0 ?k0); (case hx => rfl); (case h0 => rfl))
  | with_reducible refine w_chain ?_
  | with_reducible refine w_srs ?_
  | with_reducible refine w_tup ?_
  | with_reducible refine w_dnw ?_
  | with_reducible refine w_dinT ?_
  | with_reducible refine w_din ?_
  | with_reducible refine w_lst ?_
  | with_reducible refine w_lstM ?_
  | with_reducible refine w_cmp ?_
  | with_reducible refine w_cmpT ?_
  | with_reducible refine w_ite ?_
  | with_reducible refine w_slc ?_
  | with_reducible refine w_slm ?_
  | with_reducible refine w_isi ?_
  | with_reducible refine w_isiT ?_
  | with_reducible refine w_me ?_
  | with_reducible refine w_call ?_
  | with_reducible refine w_callM ?_
  | with_reducible refine w_callK ?_
  | with_reducible refine w_andT ?_
  | with_reducible refine w_and ?_
  | with_reducible refine w_or ?_
  | with_reducible refine w_not ?_
  | with_reducible refine w_orT ?_
  | with_reducible refine w_notT ?_
  | with_reducible refine w_isNT ?_
  | with_reducible refine w_notNT ?_
  | with_reducible refine w_callP ?_
  | with_reducible refine w_enum ?_
  | with_reducible refine w_rng2 ?_
  | with_reducible refine w_nst ?_
  | with_reducible refine s_par2 ?_
  | with_reducible refine s_asgT ?_
  | ((with_reducible refine x_pow ?_ ?_); next => decide)
  | ((with_reducible refine w_mv (m := ?w0) ?h0 ?k0); (case h0 => rfl))
  | ((with_reducible refine s_ins (u := ()) ?h0 ?k0); (case h0 => rfl))
  | with_reducible refine w_rlst ?_
  | with_reducible refine w_lof ?_
  | with_reducible refine w_rtup ?_
  | with_reducible refine w_revm ?_
  | with_reducible refine w_rep ?_
  | with_reducible refine w_dct ?_
  | with_reducible refine w_rev ?_
  | with_reducible refine w_isN ?_
  | with_reducible refine w_notN ?_
  | with_reducible refine s_parA ?_
  | with_reducible refine s_cnt ?_
  | with_reducible refine ks_ct ?_
  | with_reducible refine w_neg ?_
  | with_reducible refine w_blT ?_
  | ((with_reducible refine w_var (d := ?w0) ?h0 ?k0); (case h0 => rfl))
  | ((with_reducible refine w_lf (d := ?w0) ?h0 ?k0); (case h0 => rfl))
  | ((with_reducible refine w_vw (d := ?w0) ?h0 ?k0); (case h0 => rfl))
  | ((with_reducible refine w_cons ?_ ?_); next => rfl)
  | ((with_reducible refine w_am (m := ?w0) ?h0 ?k0); (case h0 => rfl))
  | ((with_reducible refine w_t ?h0 ?k0); (case h0 => rfl))
  | ((with_reducible refine s_app (u := ()) ?h0 ?k0); (case h0 => rfl))
  | ((with_reducible refine s_frz (m := ?m0) (d := ?d0) (env' := ?e0) ?h0 ?h1 ?h2 ?k0); (case h0 => rfl); (case h1 => rfl); (case h2 => rfl))))
local macro_rules | `(tactic| walk_at "pk") => `(tactic| (repeat (first | walk_at "py" | refine k_t ?_ | refine k_f ?_ | refine k_t' ?_ | refine k_f' ?_)))
/-! the settled programs -/
theorem ok_two : PyData.strOk "two" = true := by decide +kernel
theorem ok_few : PyData.strOk "few" = true := by decide +kernel
theorem ok_red : PyData.strOk "red" = true := by decide +kernel
def thirdP : Pg := .look 2 [0] (.tell "two") (.tell "few")
def twoP : Pg := .look 0 [0] (.look 1 [0] (.tell "two") thirdP) (.look 1 [0] thirdP (.tell "few"))
def firstP : Pg := .look 3 [0] (.tell "red") twoP
theorem third_ok : thirdP.Ok 6 := ⟨by decide, by decide, ok_two, ok_few⟩
theorem two_ok : twoP.Ok 6 := ⟨by decide, by decide, ⟨by decide, by decide, ok_two, third_ok⟩, ⟨by decide, by decide, third_ok, ok_few⟩⟩
theorem first_ok : firstP.Ok 6 := ⟨by decide, by decide, ok_red, two_ok⟩
structure Fx (ms ps : List PyData) (two first : Pg) : Prop where
  S2 : SP two ms ps
  S1 : SP first ms ps
  pl : ps.length = 6
  a1 : alikeB two ms.length ps.length 0 2 = true
  a2 : alikeB two ms.length ps.length 4 5 = true
  a3 : alikeB two ms.length ps.length 0 1 = true
  a4 : alikeB first ms.length ps.length 3 4 = false
  a5 : alikeB first ms.length ps.length 5 4 = true
  a6 : alikeB first ms.length ps.length 3 3 = true
  a7 : alikeB first ms.length ps.length 0 0 = true
  a8 : alikeB two ms.length ps.length 0 3 = false
  a9 : alikeB two ms.length ps.length 2 5 = false
theorem fixed : ∃ (ms ps : List PyData) (t : PyData) (third two first : Pg), Fx ms ps two first ∧
    PyData.tuple [.tuple [.str "red", .str "blue"], .tuple [.tuple [.str "bag", .str "any"], .tuple [.str "wreath", .str "ring"]], .tuple [.tuple [.str "b1", .int 0], .tuple [.str "b2", .int 0], .tuple [.str "b3", .int 0], .tuple [.str "w1", .int 1], .tuple [.str "w2", .int 1], .tuple [.str "w3", .int 1]]] = sgD ms t ps ∧
    PyData.tuple [.str "look", .int 2, .tuple [.int 0], .tuple [.str "tell", .str "two"], .tuple [.str "tell", .str "few"]] = third.D ∧
    PyData.tuple [.str "look", .int 0, .tuple [.int 0], .tuple [.str "look", .int 1, .tuple [.int 0], .tuple [.str "tell", .str "two"], third.D], .tuple [.str "look", .int 1, .tuple [.int 0], third.D, .tuple [.str "tell", .str "few"]]] = two.D ∧
    PyData.tuple [.str "look", .int 3, .tuple [.int 0], .tuple [.str "tell", .str "red"], two.D] = first.D := by
  refine ⟨[.str "red", .str "blue"], [.tuple [.str "b1", .int 0], .tuple [.str "b2", .int 0], .tuple [.str "b3", .int 0], .tuple [.str "w1", .int 1], .tuple [.str "w2", .int 1], .tuple [.str "w3", .int 1]], .tuple [.tuple [.str "bag", .str "any"], .tuple [.str "wreath", .str "ring"]], thirdP, twoP, firstP, ?_, rfl, rfl, rfl, rfl⟩
  exact {
    S2 := ⟨by decide, by decide, by decide, by decide, by decide, by decide, two_ok⟩
    S1 := ⟨by decide, by decide, by decide, by decide, by decide, by decide, first_ok⟩
    pl := rfl
    a1 := by decide +kernel
    a2 := by decide +kernel
    a3 := by decide +kernel
    a4 := by decide +kernel
    a5 := by decide +kernel
    a6 := by decide +kernel
    a7 := by decide +kernel
    a8 := by decide +kernel
    a9 := by decide +kernel }
theorem hand (m : Nat) (hm : 16 ≤ m) : Gives (callF gcL (TL fns) (m + 1) 25 []) fun r mm => r = .d (.bool true) ∧ mm = [] := by
  obtain ⟨m, rfl⟩ : ∃ j, m = j + 2 := ⟨m - 2, by omega⟩
  obtain ⟨ms, ps, t, third, two, first, fx, hs, e3, e2, e1⟩ := fixed
  have hpl := fx.pl
  have p2 := fx.S2.p2
  refine call_of rfl (run_of rfl ?_)
  show Wp (evS gcL _ b25 [.un, .un, .un, .un, .un, .un, .un]) _ _
  unfold b25
  repeat walk_at "py"
  rw [e3, e2, e1, hs]
  refine wp_call rfl ((are_alike fx.S2 t 0 2 (by omega) (by omega) (m + 2) (by omega)).mono ?_)
  rintro r mm ⟨rfl, rfl⟩
  rw [fx.a1]
  refine ⟨_, rfl, _, rfl, ?_⟩
  repeat walk_at "py"
  refine wp_call rfl ((are_alike fx.S2 t 4 5 (by omega) (by omega) (m + 2) (by omega)).mono ?_)
  rintro r mm ⟨rfl, rfl⟩
  rw [fx.a2]
  refine ⟨_, rfl, _, rfl, ?_⟩
  repeat walk_at "py"
  refine wp_call rfl ((unlike_row fx.S2 t 0 1 (by omega) (by omega) (m + 2) (by omega)).mono ?_)
  rintro r mm ⟨hr, rfl⟩
  rw [fx.a3, if_pos rfl] at hr
  subst hr
  refine ⟨_, rfl, _, rfl, ?_⟩
  repeat walk_at "py"
  refine wp_call rfl ((are_alike fx.S1 t 3 4 (by omega) (by omega) (m + 2) (by omega)).mono ?_)
  rintro r mm ⟨rfl, rfl⟩
  rw [fx.a4]
  refine ⟨_, rfl, _, rfl, ?_⟩
  repeat walk_at "py"
  refine wp_call rfl ((are_alike fx.S1 t 5 4 (by omega) (by omega) (m + 2) (by omega)).mono ?_)
  rintro r mm ⟨rfl, rfl⟩
  rw [fx.a5]
  refine ⟨_, rfl, _, rfl, ?_⟩
  repeat walk_at "py"
  refine wp_call rfl ((are_alike fx.S1 t 3 3 (by omega) (by omega) (m + 2) (by omega)).mono ?_)
  rintro r mm ⟨rfl, rfl⟩
  rw [fx.a6]
  refine ⟨_, rfl, _, rfl, ?_⟩
  repeat walk_at "py"
  refine wp_call rfl ((unlike_row fx.S1 t 0 0 (by omega) (by omega) (m + 2) (by omega)).mono ?_)
  rintro r mm ⟨hr, rfl⟩
  rw [fx.a7, if_pos rfl] at hr
  subst hr
  refine ⟨_, rfl, _, rfl, ?_⟩
  repeat walk_at "py"
  refine wp_call rfl ((are_alike fx.S2 t 0 3 (by omega) (by omega) (m + 2) (by omega)).mono ?_)
  rintro r mm ⟨rfl, rfl⟩
  rw [fx.a8]
  refine ⟨_, rfl, _, rfl, ?_⟩
  repeat walk_at "py"
  have htl : ∀ d, d ∈ [PyData.bool true, .bool true, .none, .bool false, .bool true, .bool true, .none, .bool false] → d = .none ∨ ∃ b, d = .bool b := by
    intro d hd
    simp only [List.mem_cons, List.not_mem_nil, or_false] at hd
    rcases hd with rfl | rfl | rfl | rfl | rfl | rfl | rfl | rfl <;> first | exact .inl rfl | exact .inr ⟨_, rfl⟩
  have hll : [PyData.bool true, .bool true, .none, .bool false, .bool true, .bool true, .none, .bool false].length ≤ 8 := by decide
  dsimp only
  generalize [PyData.bool true, .bool true, .none, .bool false, .bool true, .bool true, .none, .bool false] = tl at htl hll ⊢
  with_reducible refine w_eM rfl (w_comp ?_)
  repeat walk_at "py"
  refine ⟨small_nat (by omega), ?_⟩
  rw [rangeD_nat]
  refine ⟨by rw [List.length_map, List.length_range]; omega, ?_⟩
  refine comp_filt (ls := List.range tl.length) (toD := fun (i : Nat) => PyData.int (i : Int)) (F := fun (i : Nat) => PyData.int (i : Int)) (p := fun _ => false) (fun e => ∃ d, e = [_, _, _, _, _, _, d]) ⟨_, rfl⟩ ?_ ?_
  · rintro i hi e ⟨d, rfl⟩
    have hi := List.mem_range.mp hi
    refine w_turn rfl ?_
    repeat walk_at "py"
    refine ⟨_, at_tup hi, ?_⟩
    repeat walk_at "py"
    refine ⟨_, at_tup hi, ?_⟩
    repeat walk_at "py"
    rcases htl _ (List.getElem_mem hi) with h | ⟨b, h⟩
    · rw [h]
      refine wp_call rfl ((exact_n (m + 1)).mono ?_)
      rintro r mm ⟨rfl, rfl⟩
      refine ⟨_, rfl, _, rfl, ?_⟩
      walk_at "pk"
      exact ⟨rfl, _, rfl⟩
    · rw [h]
      refine wp_call rfl ((exact_b (m + 1) b).mono ?_)
      rintro r mm ⟨rfl, rfl⟩
      refine ⟨_, rfl, _, rfl, ?_⟩
      walk_at "pk"
      exact ⟨rfl, _, rfl⟩
  rintro e ⟨d, rfl⟩
  rw [show ((List.range tl.length).filter fun _ => false) = [] by simp]
  walk_at "pk"
  refine wp_call rfl ((unlike_row fx.S1 t 3 4 (by omega) (by omega) (m + 2) (by omega)).mono ?_)
  rintro r mm ⟨hr, rfl⟩
  rw [fx.a4, if_neg (by decide)] at hr
  obtain ⟨row, rfl, hrow⟩ := hr
  obtain ⟨q1, q2, q3⟩ := shr_row (by omega) (by omega) fx.S1.ok hrow
  refine ⟨_, rfl, _, rfl, ?_⟩
  repeat walk_at "py"
  refine wp_call rfl ((good m first ms ps t row 3 4 (by omega) (by omega) (by omega) fx.S1.ok (by have := fx.S1.hh; omega) q1 ((inB_iff q1).mp q2) q3).mono ?_)
  rintro r mm ⟨rfl, rfl⟩
  refine ⟨_, rfl, _, rfl, ?_⟩
  walk_at "pk"
  refine wp_call rfl ((unlike_row fx.S2 t 2 5 (by omega) (by omega) (m + 2) (by omega)).mono ?_)
  rintro r mm ⟨hr, rfl⟩
  rw [fx.a9, if_neg (by decide)] at hr
  obtain ⟨row, rfl, hrow⟩ := hr
  obtain ⟨q1, q2, q3⟩ := shr_row (by omega) (by omega) fx.S2.ok hrow
  refine ⟨_, rfl, _, rfl, ?_⟩
  repeat walk_at "py"
  refine wp_call rfl ((good m two ms ps t row 2 5 (by omega) (by omega) (by omega) fx.S2.ok (by have := fx.S2.hh; omega) q1 ((inB_iff q1).mp q2) q3).mono ?_)
  rintro r mm ⟨rfl, rfl⟩
  refine ⟨_, rfl, _, rfl, ?_⟩
  walk_at "pk"
  exact ⟨rfl, rfl⟩

end K24

set_option Elab.async false
set_option linter.all false
set_option maxRecDepth 100000
set_option maxHeartbeats 1000000
namespace K24
open PY PySem
local macro_rules | `(tactic| walk_at "py") => `(tactic| (first
  | with_reducible refine x_add ?_
  | with_reducible refine x_sub ?_
  | ((with_reducible refine x_mul ?_ ?_); next => first | exact mulOk_r (by decide) | exact mulOk_l (by decide))
  | ((with_reducible refine x_mod ?_ ?_); next => decide)
  | ((with_reducible refine x_fdv ?_ ?_); next => decide)
  | ((with_reducible refine Exists.intro ?w0 (And.intro ?h0 ?k0)); (case h0 => rfl))
  | ((with_reducible refine And.intro (a := _ ≤ (1000000 : Nat)) ?_ ?_); next => (simp only [List.length_cons, List.length_nil]; decide))
  | with_reducible refine s_seq ?_
  | with_reducible refine s_skip ?_
  | with_reducible refine ks_nx ?_
  | with_reducible refine ks_rt ?_
  | with_reducible refine s_set ?_
  | with_reducible refine s_asg ?_
  | with_reducible refine s_asgM ?_
  | with_reducible refine s_ret ?_
  | with_reducible refine s_retM ?_
  | with_reducible refine s_ife ?_
  | with_reducible refine s_for ?_
  | with_reducible refine k_t ?_
  | with_reducible refine k_f ?_
  | with_reducible refine k_tn ?_
  | with_reducible refine k_fn ?_
  | with_reducible refine w_rng1 ?_
  | with_reducible refine w_int ?_
  | with_reducible refine w_str ?_
  | with_reducible refine w_bl ?_
  | with_reducible refine w_non ?_
  | with_reducible refine w_abs ?_
  | with_reducible refine w_nil ?_
  | with_reducible refine w_at ?_
  | with_reducible refine w_bin ?_
  | with_reducible refine w_bi ?_
  | with_reducible refine w_idx ?_
  | ((with_reducible refine w_cst (d := ?w0) ?hx ?h0 ?k0); (case hx => rfl); (case h0 => rfl))
  | with_reducible refine w_chain ?_
  | with_reducible refine w_srs ?_
  | with_reducible refine w_tup ?_
  | with_reducible refine w_dnw ?_
  | with_reducible refine w_dinT ?_
  | with_reducible refine w_din ?_
  | with_reducible refine w_lst ?_
  | with_reducible refine w_lstM ?_
  | with_reducible refine w_cmp ?_
  | with_reducible refine w_cmpT ?_
  | with_reducible refine w_ite ?_
  | with_reducible refine w_slc ?_
  | with_reducible refine w_slm ?_
  | with_reducible refine w_isi ?_
  | with_reducible refine w_isiT ?_
  | with_reducible refine w_me ?_
  | with_reducible refine w_call ?_
  | with_reducible refine w_callM ?_
  | with_reducible refine w_callK ?_
  | with_reducible refine w_andT ?_
  | with_reducible refine w_and ?_
  | with_reducible refine w_or ?_
  | with_reducible refine w_not ?_
  | with_reducible refine w_orT ?_
  | with_reducible refine w_notT ?_
  | with_reducible refine w_isNT ?_
  | with_reducible refine w_notNT ?_
  | with_reducible refine w_callP ?_
  | with_reducible refine w_enum ?_
  | with_reducible refine w_rng2 ?_
  | with_reducible refine w_nst ?_
  | with_reducible refine s_par2 ?_
  | with_reducible refine s_asgT ?_
  | ((with_reducible refine x_pow ?_ ?_); next => decide)
  | ((with_reducible refine w_mv (m := ?w0) ?h0 ?k0); (case h0 => rfl))
  | ((with_reducible refine s_ins (u := ()) ?h0 ?k0); (case h0 => rfl))
  | with_reducible refine w_rlst ?_
  | with_reducible refine w_lof ?_
  | with_reducible refine w_rtup ?_
  | with_reducible refine w_revm ?_
  | with_reducible refine w_rep ?_
  | with_reducible refine w_dct ?_
  | with_reducible refine w_rev ?_
  | with_reducible refine w_isN ?_
  | with_reducible refine w_notN ?_
  | with_reducible refine s_parA ?_
  | with_reducible refine s_cnt ?_
  | with_reducible refine ks_ct ?_
  | with_reducible refine w_neg ?_
  | with_reducible refine w_blT ?_
  | ((with_reducible refine w_var (d := ?w0) ?h0 ?k0); (case h0 => rfl))
  | ((with_reducible refine w_lf (d := ?w0) ?h0 ?k0); (case h0 => rfl))
  | ((with_reducible refine w_vw (d := ?w0) ?h0 ?k0); (case h0 => rfl))
  | ((with_reducible refine w_cons ?_ ?_); next => rfl)
  | ((with_reducible refine w_am (m := ?w0) ?h0 ?k0); (case h0 => rfl))
  | ((with_reducible refine w_t ?h0 ?k0); (case h0 => rfl))
  | ((with_reducible refine s_app (u := ()) ?h0 ?k0); (case h0 => rfl))
  | ((with_reducible refine s_frz (m := ?m0) (d := ?d0) (env' := ?e0) ?h0 ?h1 ?h2 ?k0); (case h0 => rfl); (case h1 => rfl); (case h2 => rfl))))
local macro_rules | `(tactic| walk_at "pk") => `(tactic| (repeat (first | walk_at "py" | refine k_t ?_ | refine k_f ?_ | refine k_t' ?_ | refine k_f' ?_)))
/-! a chain of looks over three lots -/
def setW (j : Nat) : List Int := if j = 0 then [0, 3] else [1, 3]
def chW (L : List Nat) : Nat → Pg
  | 0 => .tell "none"
  | k + 1 => .look (L.getD k 0) (setW k) (.tell "some") (chW L k)
theorem ok_none : PyData.strOk "none" = true := by decide +kernel
theorem ok_some : PyData.strOk "some" = true := by decide +kernel
theorem ne_words : ("some" : Str) ≠ "none" := by decide +kernel
theorem chW_ok {L : List Nat} {pl : Nat} (h : ∀ k, L.getD k 0 < pl) : ∀ k, (chW L k).Ok pl
  | 0 => ok_none
  | k + 1 => ⟨h k, by unfold setW; split <;> decide, ok_some, chW_ok h k⟩
theorem chW_h (L : List Nat) : ∀ k, (chW L k).h = k
  | 0 => rfl
  | k + 1 => by have := chW_h L k; simp only [chW, Pg.h]; omega
theorem chW_nd (L : List Nat) : ∀ k, (chW L k).nd = 2 * k + 1
  | 0 => rfl
  | k + 1 => by have := chW_nd L k; simp only [chW, Pg.nd]; omega
def Hit (L : List Nat) (k : Nat) (row : List Int) : Prop := ∃ j, j < k ∧ row.getD (L.getD j 0) 0 ∈ setW j
theorem chW_tells (L : List Nat) (row : List Int) : ∀ k, (Hit L k row → tells (chW L k) row = "some") ∧ (¬ Hit L k row → tells (chW L k) row = "none")
  | 0 => ⟨fun ⟨j, hj, _⟩ => absurd hj (Nat.not_lt_zero j), fun _ => rfl⟩
  | k + 1 => by
    obtain ⟨h1, h2⟩ := chW_tells L row k
    by_cases hk : row.getD (L.getD k 0) 0 ∈ setW k
    · refine ⟨fun _ => by rw [chW, tells, if_pos hk]; rfl, fun h => absurd ⟨k, Nat.lt_succ_self k, hk⟩ h⟩
    · have e : Hit L (k + 1) row ↔ Hit L k row := by
        constructor
        · rintro ⟨j, hj, hm⟩
          by_cases ej : j = k
          · subst ej; exact absurd hm hk
          · exact ⟨j, by omega, hm⟩
        · rintro ⟨j, hj, hm⟩
          exact ⟨j, by omega, hm⟩
      rw [chW, tells, if_neg hk, e]
      exact ⟨h1, h2⟩
theorem tells_iff (L : List Nat) (k : Nat) (r1 r2 : List Int) : tells (chW L k) r1 = tells (chW L k) r2 ↔ (Hit L k r1 ↔ Hit L k r2) := by
  obtain ⟨a1, a2⟩ := chW_tells L r1 k
  obtain ⟨b1, b2⟩ := chW_tells L r2 k
  by_cases h1 : Hit L k r1
  · by_cases h2 : Hit L k r2
    · rw [a1 h1, b1 h2]; exact ⟨fun _ => ⟨fun _ => h2, fun _ => h1⟩, fun _ => rfl⟩
    · rw [a1 h1, b2 h2]; exact ⟨fun e => absurd e ne_words, fun e => absurd (e.mp h1) h2⟩
  · by_cases h2 : Hit L k r2
    · rw [a2 h1, b1 h2]; exact ⟨fun e => absurd e.symm ne_words, fun e => absurd (e.mpr h2) h1⟩
    · rw [a2 h1, b2 h2]; exact ⟨fun _ => ⟨fun h => absurd h h1, fun h => absurd h h2⟩, fun _ => rfl⟩
def lot (many j : Nat) : Nat := if j = 0 then 0 else if j < many then 1 else 2
theorem get_inj {L : List Nat} {n : Nat} (hL : L.Perm (List.range n)) {i j : Nat} (hi : i < n) (hj : j < n) (h : L.getD i 0 = L.getD j 0) : i = j := by
  have hl : L.length = n := by rw [hL.length_eq, List.length_range]
  have nd : L.Nodup := hL.nodup_iff.mpr List.nodup_range
  have e1 : L.getD i 0 = L[i]'(by omega) := by simp [List.getD, show i < L.length by omega]
  have e2 : L.getD j 0 = L[j]'(by omega) := by simp [List.getD, show j < L.length by omega]
  rw [e1, e2] at h
  rcases Nat.lt_trichotomy i j with hij | hij | hij
  · exact absurd h (List.pairwise_iff_getElem.mp nd i j (by omega) (by omega) hij)
  · exact hij
  · exact absurd h.symm (List.pairwise_iff_getElem.mp nd j i (by omega) (by omega) hij)
theorem get_lt {L : List Nat} {n : Nat} (hL : L.Perm (List.range n)) (hn : 0 < n) (i : Nat) : L.getD i 0 < n := by
  simp only [List.getD]
  cases e : L[i]? with
  | none => exact hn
  | some p => exact List.mem_range.mp (hL.mem_iff.mp (List.mem_of_getElem? e))
theorem get_ex {L : List Nat} {n : Nat} (hL : L.Perm (List.range n)) {i j p : Nat} (hi : i < n) (hj : j < n) (hp : p < n) : ex (L.getD i 0) (L.getD j 0) (L.getD p 0) = L.getD (ex i j p) 0 := by
  unfold ex
  by_cases h1 : p = j
  · subst h1; rw [if_pos rfl, if_pos rfl]
  · rw [if_neg (fun e => h1 (get_inj hL hp hj e)), if_neg h1]
    by_cases h2 : p = i
    · subst h2; rw [if_pos rfl, if_pos rfl]
    · rw [if_neg (fun e => h2 (get_inj hL hp hi e)), if_neg h2]
theorem same_lot {L : List Nat} {n many i j : Nat} (hL : L.Perm (List.range n)) (hi : i < n) (hj : j < n) (hm : 1 ≤ many) (hmn : many ≤ n) (h : lot many i = lot many j) {row : List Int} (hr : row.length = n) :
    Hit L many (swapR row (L.getD i 0) (L.getD j 0)) → Hit L many row := by
  rintro ⟨p, hp, hm2⟩
  have hn : 0 < n := by omega
  rw [swapR_at (by rw [hr]; exact get_lt hL hn i) (by rw [hr]; exact get_lt hL hn j), get_ex hL hi hj (by omega)] at hm2
  have e1 : lot many (ex i j p) = lot many p := by
    unfold ex
    split
    · rename_i e; subst e; exact h
    · split
      · rename_i e; subst e; exact h.symm
      · rfl
  have lp : lot many p ≠ 2 := by unfold lot; split <;> simp [hp]
  refine ⟨ex i j p, ?_, ?_⟩
  · rw [← e1] at lp
    unfold lot at lp
    by_cases h0 : ex i j p = 0
    · omega
    · rw [if_neg h0] at lp
      by_cases h3 : ex i j p < many
      · exact h3
      · rw [if_neg h3] at lp; exact absurd rfl lp
  · have : setW (ex i j p) = setW p := by
      unfold setW
      unfold lot at e1
      by_cases h0 : p = 0
      · rw [if_pos h0] at e1 ⊢
        by_cases h3 : ex i j p = 0
        · rw [if_pos h3]
        · rw [if_neg h3] at e1; split at e1 <;> cases e1
      · rw [if_neg h0, if_pos hp] at e1
        rw [if_neg h0]
        by_cases h3 : ex i j p = 0
        · rw [if_pos h3] at e1; cases e1
        · rw [if_neg h3]
    rw [this]; exact hm2
theorem ex_comm (a b p : Nat) : ex a b p = ex b a p := by
  unfold ex
  by_cases h1 : p = b
  · subst h1
    by_cases h2 : p = a
    · subst h2; rfl
    · rw [if_pos rfl, if_neg h2, if_pos rfl]
  · rw [if_neg h1]
    by_cases h2 : p = a
    · rw [if_pos h2, if_pos h2]
    · rw [if_neg h2, if_neg h2, if_neg h1]
/-- places of unlike lots: a row tells -/
theorem other_lot {L : List Nat} {many i j : Nat} (hL : L.Perm (List.range 8)) (hi : i < 8) (hj : j < 8) (hm : 1 ≤ many) (hmn : many ≤ 8) (h : lot many i < lot many j) :
    ∃ row : List Int, row.length = 8 ∧ (∀ z, z ∈ row → 0 ≤ z ∧ z < 5) ∧ Hit L many row ∧ ¬ Hit L many (swapR row (L.getD i 0) (L.getD j 0)) ∧ ¬ Hit L many (swapR row (L.getD j 0) (L.getD i 0)) := by
  have hll : L.length = 8 := by rw [hL.length_eq, List.length_range]
  have im : i < many := by
    unfold lot at h
    by_cases h0 : i = 0
    · omega
    · rw [if_neg h0] at h
      by_cases h3 : i < many
      · exact h3
      · rw [if_neg h3] at h
        split at h
        · omega
        · split at h <;> omega
  have key : ∃ z : Int, 0 ≤ z ∧ z < 5 ∧ z ∈ setW i ∧ ∀ p, p < many → p = j → ¬ z ∈ setW p := by
    by_cases h0 : i = 0
    · refine ⟨0, by decide, by decide, by rw [h0]; decide, ?_⟩
      rintro p hp rfl
      have hp0 : p ≠ 0 := by intro e; rw [h0, e] at h; omega
      unfold setW
      rw [if_neg hp0]; decide
    · refine ⟨1, by decide, by decide, by unfold setW; rw [if_neg h0]; decide, ?_⟩
      rintro p hp rfl
      exfalso
      unfold lot at h
      rw [if_neg h0, if_pos im, if_pos hp] at h
      split at h <;> omega
  obtain ⟨z, z0, z1, z2, z3⟩ := key
  refine ⟨(List.replicate 8 4).set (L.getD i 0) z, by simp, ?_, ?_, ?_⟩
  · intro y hy
    rcases List.mem_or_eq_of_mem_set hy with hy | rfl
    · obtain ⟨_, rfl⟩ := List.mem_replicate.mp hy
      decide
    · exact ⟨z0, z1⟩
  all_goals
    have hat : ∀ p, p < 8 → ((List.replicate 8 (4 : Int)).set (L.getD i 0) z).getD (L.getD p 0) 0 = if p = i then z else 4 := by
      intro p hp
      have hlt := get_lt hL (by decide) p
      simp only [List.getD] at hlt ⊢
      rw [List.getElem?_set]
      by_cases e : p = i
      · subst e
        rw [if_pos rfl, if_pos rfl]
        simp [hlt]
      · rw [if_neg (fun q => e (get_inj hL hp hi (by simp only [List.getD]; exact q.symm))), if_neg e, List.getElem?_replicate, if_pos hlt]
        rfl
  · exact ⟨i, im, by rw [hat i hi, if_pos rfl]; exact z2⟩
  · have none4 : ∀ p, ¬ (4 : Int) ∈ setW p := fun p => by unfold setW; split <;> decide
    have main : ∀ p, p < many → ¬ ((List.replicate 8 (4 : Int)).set (L.getD i 0) z).getD (L.getD (ex i j p) 0) 0 ∈ setW p := by
      intro p hp hmem
      have he : ex i j p < 8 := ex_lt hi hj (by omega)
      rw [hat _ he] at hmem
      by_cases e : ex i j p = i
      · rw [if_pos e] at hmem
        have : p = j := by
          have := congrArg (ex i j) e
          rw [ex_ex] at this
          rw [this]
          unfold ex
          by_cases e2 : i = j
          · rw [if_pos e2, e2]
          · rw [if_neg e2, if_pos rfl]
        exact z3 p hp this hmem
      · rw [if_neg e] at hmem
        exact none4 p hmem
    constructor
    · rintro ⟨p, hp, hmem⟩
      rw [swapR_at (by simpa using get_lt hL (by decide) i) (by simpa using get_lt hL (by decide) j), get_ex hL hi hj (by omega)] at hmem
      exact main p hp hmem
    · rintro ⟨p, hp, hmem⟩
      rw [swapR_at (by simpa using get_lt hL (by decide) j) (by simpa using get_lt hL (by decide) i), ex_comm, get_ex hL hi hj (by omega)] at hmem
      exact main p hp hmem
theorem getD_is (l : List Int) (p : Nat) (h : p < l.length) : l[p] = l.getD p 0 := by simp [List.getD, h]
/-- alike: of one lot -/
theorem wide_alike {L : List Nat} {many i j : Nat} {ms ps : List PyData} (S : SP (chW L many) ms ps) (h5 : ms.length = 5) (h8 : ps.length = 8) (hL : L.Perm (List.range 8)) (hi : i < 8) (hj : j < 8) (hm : 1 ≤ many) (hmn : many ≤ 8) :
    alikeB (chW L many) ms.length ps.length (L.getD i 0) (L.getD j 0) = decide (lot many i = lot many j) := by
  have ii := get_lt hL (by decide) i
  have jj := get_lt hL (by decide) j
  rw [Bool.eq_iff_iff, decide_eq_true_eq, alike_iff S (by omega) (by omega)]
  constructor
  · intro h
    by_cases e : lot many i = lot many j
    · exact e
    · exfalso
      rcases Nat.lt_or_gt_of_ne e with e | e
      · obtain ⟨row, r1, r2, r3, r4, _⟩ := other_lot hL hi hj hm hmn e
        have := (tells_iff L many row _).mp (h row ((rowsL_mem S.m1).mpr ⟨by omega, fun z hz => by have := r2 z hz; omega⟩))
        exact r4 (this.mp r3)
      · obtain ⟨row, r1, r2, r3, _, r4⟩ := other_lot hL hj hi hm hmn e
        have := (tells_iff L many row _).mp (h row ((rowsL_mem S.m1).mpr ⟨by omega, fun z hz => by have := r2 z hz; omega⟩))
        exact r4 (this.mp r3)
  · intro h row hrow
    obtain ⟨r1, r2⟩ := (rowsL_mem S.m1).mp hrow
    rw [tells_iff]
    constructor
    · intro hh
      refine same_lot hL hi hj hm hmn h (row := swapR row (L.getD i 0) (L.getD j 0)) (by rw [swapR_len]; omega) ?_
      have : swapR (swapR row (L.getD i 0) (L.getD j 0)) (L.getD i 0) (L.getD j 0) = row := by
        apply List.ext_getElem
        · rw [swapR_len, swapR_len]
        · intro p h1 h2
          rw [getD_is _ _ h1, getD_is _ _ h2, swapR_at (by rw [swapR_len]; omega) (by rw [swapR_len]; omega), swapR_at (by omega) (by omega), ex_ex]
      rw [this]; exact hh
    · intro hh
      exact same_lot hL hi hj hm hmn h (by omega) hh
def r26b : S := (.seq (.asg 5 (.lst (.cons (.slc (.vw (.v 7)) .abs (.int 1)) (.cons (.slc (.vw (.v 7)) (.int 1) (.var 2)) (.cons (.slc (.vw (.v 7)) (.var 2) .abs) .nil)))))
(.seq (.for_ (.n 6) (.rng1 (.int 8))
(.seq (.asgT (.t (.cons (.n 11) (.cons (.n 12) .nil))) (.tup (.cons (.call 14 (.cons (.am (.v 0)) (.cons (.int 8) .nil))) (.cons (.call 14 (.cons (.am (.v 0)) (.cons (.int 8) .nil))) .nil))))
(.seq (.asg 9 (.cmp .gt (.bi .len (.cons (.comp [13] (.n 13) (.var 5) (.and (.cmp .isin (.var 11) (.var 13)) (.cmp .isin (.var 12) (.var 13))) (.var 13)) .nil)) (.int 0)))
(.seq (.asg 10 (.call 12 (.cons (.var 1) (.cons (.var 3) (.cons (.var 11) (.cons (.var 12) .nil))))))
(.seq (.ife (.or (.not (.call 15 (.cons (.call 11 (.cons (.var 1) (.cons (.var 3) (.cons (.var 11) (.cons (.var 12) .nil))))) (.cons (.var 9) .nil)))) (.or (.and (.var 9) (.notN (.var 10))) (.and (.not (.var 9)) (.not (.call 22 (.cons (.var 1) (.cons (.var 3) (.cons (.var 11) (.cons (.var 12) (.cons (.var 10) .nil))))))))))
(.seq (.ret (.bl false))
.skip)
.skip)
.skip)))))
(.seq (.ret (.bl true))
.skip)))
def r26a : S := (.seq (.asg 2 (.bin .add (.int 3) (.call 14 (.cons (.am (.v 0)) (.cons (.int 4) .nil)))))
(.seq (.asg 3 (.tup (.cons (.str "tell") (.cons (.str "none") .nil))))
(.seq (.for_ (.n 4) (.rng1 (.var 2))
(.seq (.asg 3 (.tup (.cons (.str "look") (.cons (.lf (.ixv (.v 7) 4)) (.cons (.ite (.cmp .eq (.var 4) (.int 0)) (.tup (.cons (.int 0) (.cons (.int 3) .nil))) (.tup (.cons (.int 1) (.cons (.int 3) .nil)))) (.cons (.tup (.cons (.str "tell") (.cons (.str "some") .nil))) (.cons (.var 3) .nil)))))))
.skip))
r26b)))
theorem b26_eq : b26 = (.seq (.asg 1 (.call 24 (.cons (.am (.v 0)) (.cons (.int 5) (.cons (.int 8) .nil)))))
(.seq (.parA [7, 8] (.cons (.at (.lst .nil)) (.cons (.at (.rlst (.int 8))) .nil)))
(.seq (.whl 100000 (.vw (.v 8))
(.seq (.app (.v 7) (.popAt (.v 8) (.call 14 (.cons (.am (.v 0)) (.cons (.bi .len (.cons (.vw (.v 8)) .nil)) .nil)))))
.skip))
r26a))) := rfl

end K24

set_option Elab.async false
set_option linter.all false
set_option maxRecDepth 100000
set_option maxHeartbeats 1000000
namespace K24
open PY PySem
local macro_rules | `(tactic| walk_at "py") => `(tactic| (first
  | with_reducible refine x_add ?_
  | with_reducible refine x_sub ?_
  | ((with_reducible refine x_mul ?_ ?_); next => first | exact mulOk_r (by decide) | exact mulOk_l (by decide))
  | ((with_reducible refine x_mod ?_ ?_); next => decide)
  | ((with_reducible refine x_fdv ?_ ?_); next => decide)
  | ((with_reducible refine Exists.intro ?w0 (And.intro ?h0 ?k0)); (case h0 => rfl))
  | ((with_reducible refine And.intro (a := _ ≤ (1000000 : Nat)) ?_ ?_); next => (simp only [List.length_cons, List.length_nil]; decide))
  | with_reducible refine s_seq ?_
  | with_reducible refine s_skip ?_
  | with_reducible refine ks_nx ?_
  | with_reducible refine ks_rt ?_
  | with_reducible refine s_set ?_
  | with_reducible refine s_asg ?_
  | with_reducible refine s_asgM ?_
  | with_reducible refine s_ret ?_
  | with_reducible refine s_retM ?_
  | with_reducible refine s_ife ?_
  | with_reducible refine s_for ?_
  | with_reducible refine k_t ?_
  | with_reducible refine k_f ?_
  | with_reducible refine k_tn ?_
  | with_reducible refine k_fn ?_
  | with_reducible refine w_rng1 ?_
  | with_reducible refine w_int ?_
  | with_reducible refine w_str ?_
  | with_reducible refine w_bl ?_
  | with_reducible refine w_non ?_
  | with_reducible refine w_abs ?_
  | with_reducible refine w_nil ?_
  | with_reducible refine w_at ?_
  | with_reducible refine w_bin ?_
  | with_reducible refine w_bi ?_
  | with_reducible refine w_idx ?_
  | ((with_reducible refine w_cst (d := ?w0) ?hx ?h0 ?k0); (case hx => rfl); (case h0 => rfl))
  | with_reducible refine w_chain ?_
  | with_reducible refine w_srs ?_
  | with_reducible refine w_tup ?_
  | with_reducible refine w_dnw ?_
  | with_reducible refine w_dinT ?_
  | with_reducible refine w_din ?_
  | with_reducible refine w_lst ?_
  | with_reducible refine w_lstM ?_
  | with_reducible refine w_cmp ?_
  | with_reducible refine w_cmpT ?_
  | with_reducible refine w_ite ?_
  | with_reducible refine w_slc ?_
  | with_reducible refine w_slm ?_
  | with_reducible refine w_isi ?_
  | with_reducible refine w_isiT ?_
  | with_reducible refine w_me ?_
  | with_reducible refine w_call ?_
  | with_reducible refine w_callM ?_
  | with_reducible refine w_callK ?_
  | with_reducible refine w_andT ?_
  | with_reducible refine w_and ?_
  | with_reducible refine w_or ?_
  | with_reducible refine w_not ?_
  | with_reducible refine w_orT ?_
  | with_reducible refine w_notT ?_
  | with_reducible refine w_isNT ?_
  | with_reducible refine w_notNT ?_
  | with_reducible refine w_callP ?_
  | with_reducible refine w_enum ?_
  | with_reducible refine w_rng2 ?_
  | with_reducible refine w_nst ?_
  | with_reducible refine s_par2 ?_
  | with_reducible refine s_asgT ?_
  | ((with_reducible refine x_pow ?_ ?_); next => decide)
  | ((with_reducible refine w_mv (m := ?w0) ?h0 ?k0); (case h0 => rfl))
  | ((with_reducible refine s_ins (u := ()) ?h0 ?k0); (case h0 => rfl))
  | with_reducible refine w_rlst ?_
  | with_reducible refine w_lof ?_
  | with_reducible refine w_rtup ?_
  | with_reducible refine w_revm ?_
  | with_reducible refine w_rep ?_
  | with_reducible refine w_dct ?_
  | with_reducible refine w_rev ?_
  | with_reducible refine w_isN ?_
  | with_reducible refine w_notN ?_
  | with_reducible refine s_parA ?_
  | with_reducible refine s_cnt ?_
  | with_reducible refine ks_ct ?_
  | with_reducible refine w_neg ?_
  | with_reducible refine w_blT ?_
  | ((with_reducible refine w_var (d := ?w0) ?h0 ?k0); (case h0 => rfl))
  | ((with_reducible refine w_lf (d := ?w0) ?h0 ?k0); (case h0 => rfl))
  | ((with_reducible refine w_vw (d := ?w0) ?h0 ?k0); (case h0 => rfl))
  | ((with_reducible refine w_cons ?_ ?_); next => rfl)
  | ((with_reducible refine w_am (m := ?w0) ?h0 ?k0); (case h0 => rfl))
  | ((with_reducible refine w_t ?h0 ?k0); (case h0 => rfl))
  | ((with_reducible refine s_app (u := ()) ?h0 ?k0); (case h0 => rfl))
  | ((with_reducible refine s_frz (m := ?m0) (d := ?d0) (env' := ?e0) ?h0 ?h1 ?h2 ?k0); (case h0 => rfl); (case h1 => rfl); (case h2 => rfl))))
local macro_rules | `(tactic| walk_at "pk") => `(tactic| (repeat (first | walk_at "py" | refine k_t ?_ | refine k_f ?_ | refine k_t' ?_ | refine k_f' ?_)))
def seg (L : List Nat) (a b : Nat) : List Nat := (L.drop a).take b
theorem seg_mem {L : List Nat} (hL : L.Perm (List.range 8)) {i a b : Nat} (hi : i < 8) (hab : a + b ≤ 8) : L.getD i 0 ∈ seg L a b ↔ a ≤ i ∧ i < a + b := by
  have hll : L.length = 8 := by rw [hL.length_eq, List.length_range]
  unfold seg
  constructor
  · intro h
    obtain ⟨k, hk, e⟩ := List.mem_iff_getElem.mp h
    rw [List.length_take, List.length_drop] at hk
    rw [List.getElem_take, List.getElem_drop] at e
    have e1 : L[a + k]'(by omega) = L.getD (a + k) 0 := by simp [List.getD, show a + k < L.length by omega]
    rw [e1] at e
    have := get_inj hL (by omega) hi e
    omega
  · rintro ⟨h1, h2⟩
    refine List.mem_iff_getElem.mpr ⟨i - a, by rw [List.length_take, List.length_drop]; omega, ?_⟩
    rw [List.getElem_take, List.getElem_drop]
    simp [List.getD, show i < L.length by omega, show a + (i - a) = i by omega]
theorem seg_cut (L : List Nat) (a b : Nat) (h : a + b ≤ L.length) : cutL L (some (a : Int)) (some ((a + b : Nat) : Int)) = seg L a b := by
  unfold cutL seg
  rw [HT.sIx_nat, HT.sIx_nat, show min a L.length = a by omega, show min (a + b) L.length = a + b by omega, show a + b - a = b by omega]
theorem seg_lo (L : List Nat) (b : Nat) (h : b ≤ L.length) : cutL L none (some (b : Int)) = seg L 0 b := by
  unfold cutL seg
  rw [HT.sIx_nat, HT.sIx_none, Nat.min_eq_left h, Nat.sub_zero]
theorem seg_hi (L : List Nat) (a : Nat) (h : a ≤ L.length) : cutL L (some (a : Int)) none = seg L a (L.length - a) := by
  unfold cutL seg
  rw [HT.sIx_nat, HT.sIx_none, Nat.min_eq_left h]
def lotD (l : List Nat) : PyData := .list (l.map natD)
theorem in_lot (p : Nat) (l : List Nat) : cmpD .isin (.int (p : Int)) (lotD l) = some (decide (p ∈ l)) := by
  show inD (.int (p : Int)) (l.map natD) = _
  rw [nat_ints, in_ints]
  congr 1
  rw [Bool.eq_iff_iff, decide_eq_true_eq, decide_eq_true_eq, List.mem_map]
  constructor
  · rintro ⟨q, hq, e⟩
    have : q = p := by omega
    subst this; exact hq
  · intro h; exact ⟨p, h, rfl⟩
theorem due_lot {L : List Nat} {many i j : Nat} (hL : L.Perm (List.range 8)) (hi : i < 8) (hj : j < 8) (hm : 1 ≤ many) (hmn : many ≤ 8) :
    decide ((0 : Int) < ((([seg L 0 1, seg L 1 (many - 1), seg L many (8 - many)].filter fun l => decide (L.getD i 0 ∈ l) && decide (L.getD j 0 ∈ l)).map lotD).length : Int)) = decide (lot many i = lot many j) := by
  have m1 : ∀ p, p < 8 → decide (L.getD p 0 ∈ seg L 0 1) = decide (p = 0) := fun p hp => by
    rw [Bool.eq_iff_iff, decide_eq_true_eq, decide_eq_true_eq, seg_mem hL hp (by omega)]; omega
  have m2 : ∀ p, p < 8 → decide (L.getD p 0 ∈ seg L 1 (many - 1)) = decide (1 ≤ p ∧ p < many) := fun p hp => by
    rw [Bool.eq_iff_iff, decide_eq_true_eq, decide_eq_true_eq, seg_mem hL hp (by omega)]; omega
  have m3 : ∀ p, p < 8 → decide (L.getD p 0 ∈ seg L many (8 - many)) = decide (many ≤ p) := fun p hp => by
    rw [Bool.eq_iff_iff, decide_eq_true_eq, decide_eq_true_eq, seg_mem hL hp (by omega)]; omega
  rw [List.length_map]
  simp only [List.filter_cons, List.filter_nil, m1 i hi, m1 j hj, m2 i hi, m2 j hj, m3 i hi, m3 j hj]
  unfold lot
  by_cases i0 : i = 0
  · have a1 : ¬ (1 ≤ i ∧ i < many) := by omega
    have a2 : ¬ many ≤ i := by omega
    rw [decide_eq_true i0, decide_eq_false a1, decide_eq_false a2, if_pos i0]
    by_cases j0 : j = 0
    · rw [decide_eq_true j0, if_pos j0]; simp
    · rw [decide_eq_false j0, if_neg j0]
      by_cases j1 : j < many
      · rw [if_pos j1]; simp
      · rw [if_neg j1]; simp
  · rw [decide_eq_false i0, if_neg i0]
    by_cases i1 : i < many
    · have a1 : 1 ≤ i ∧ i < many := by omega
      have a2 : ¬ many ≤ i := by omega
      rw [decide_eq_true a1, decide_eq_false a2, if_pos i1]
      by_cases j0 : j = 0
      · have b1 : ¬ (1 ≤ j ∧ j < many) := by omega
        rw [decide_eq_false b1, if_pos j0]; simp
      · rw [if_neg j0]
        by_cases j1 : j < many
        · have b1 : 1 ≤ j ∧ j < many := by omega
          rw [decide_eq_true b1, if_pos j1]; simp
        · have b1 : ¬ (1 ≤ j ∧ j < many) := by omega
          rw [decide_eq_false b1, if_neg j1]; simp
    · have a1 : ¬ (1 ≤ i ∧ i < many) := by omega
      have a2 : many ≤ i := by omega
      rw [decide_eq_false a1, decide_eq_true a2, if_neg i1]
      by_cases j0 : j = 0
      · have b1 : ¬ many ≤ j := by omega
        rw [decide_eq_false b1, if_pos j0]; simp
      · rw [if_neg j0]
        by_cases j1 : j < many
        · have b1 : ¬ many ≤ j := by omega
          rw [decide_eq_false b1, if_pos j1]; simp
        · have b1 : many ≤ j := by omega
          rw [decide_eq_true b1, if_neg j1]; simp
theorem idx_of {L : List Nat} (hL : L.Perm (List.range 8)) {p : Nat} (hp : p < 8) : ∃ i, i < 8 ∧ L.getD i 0 = p := by
  have hll : L.length = 8 := by rw [hL.length_eq, List.length_range]
  obtain ⟨i, hi, e⟩ := List.mem_iff_getElem.mp (hL.mem_iff.mpr (List.mem_range.mpr hp))
  exact ⟨i, by omega, by simp [List.getD, hi, e]⟩
theorem r26b_ok (m : Nat) (hm : 16 ≤ m) (x : M) (hx : IsB x) (ms ps : List PyData) (t : PyData) (h5 : ms.length = 5) (h8 : ps.length = 8) (many : Nat) (hm3 : 3 ≤ many) (hm6 : many ≤ 6) (L : List Nat) (hL : L.Perm (List.range 8)) (c4 c5 c6 c8 c9 c10 c11 c12 c13 : Sl) (Ko : PY.Flow → PY.Env → Prop) (hK : ∀ (x' : M) (e : PY.Env), IsB x' → mutsE d26.fd.ps e = [.m x'] → Ko (.rt (.d (.bool true))) e) :
    Wp (evS gcL (callF gcL (TL fns) m) r26b [.m x, .d (sgD ms t ps), .d (.int (many : Int)), .d (chW L many).D, c4, c5, c6, .m (.fl (L.map natD)), c8, c9, c10, c11, c12, c13]) Ko (fun _ _ => False) := by
  obtain ⟨m, rfl⟩ : ∃ j, m = j + 2 := ⟨m - 2, by omega⟩
  have hll : L.length = 8 := by rw [hL.length_eq, List.length_range]
  have hgl := get_lt hL (by decide)
  have S : SP (chW L many) ms ps := ⟨by omega, by omega, by omega, by omega, by rw [chW_h]; omega, by rw [chW_nd]; omega, by rw [h8]; exact chW_ok hgl many⟩
  unfold r26b
  repeat walk_at "py"
  rw [cut_map, cut_map, cut_map, show (some (1 : Int)) = some ((1 : Nat) : Int) from rfl, seg_lo L 1 (by omega), show (some (many : Int)) = some ((1 + (many - 1) : Nat) : Int) by rw [show 1 + (many - 1) = many by omega], seg_cut L 1 (many - 1) (by omega), show 1 + (many - 1) = many by omega, seg_hi L many (by omega), hll]
  refine ⟨by decide +kernel, ?_⟩
  show Wp (forL _ (rangeD 0 ((8 : Nat) : Int)) _) _ _
  generalize hlots : [seg L 0 1, seg L 1 (many - 1), seg L many (8 - many)] = lots
  have hlots2 : PyData.list [PyData.list ((seg L 0 1).map natD), PyData.list ((seg L 1 (many - 1)).map natD), PyData.list ((seg L many (8 - many)).map natD)] = .list (lots.map lotD) := by rw [← hlots]; rfl
  rw [hlots2]
  have hlotl : lots.length ≤ 3 := by rw [← hlots]; simp
  with_reducible refine for_ix (n := 8) (fun k e => ∃ (x : M) (c6 c9 c10 c11 c12 c13 : Sl), IsB x ∧ e = [.m x, .d (sgD ms t ps), .d (.int (many : Int)), .d (chW L many).D, c4, .d (.list (lots.map lotD)), c6, .m (.fl (L.map natD)), c8, c9, c10, c11, c12, c13]) ?_ ?_ ?_
  · exact ⟨x, _, _, _, _, _, _, hx, rfl⟩
  · clear hx x
    rintro k e hk ⟨x, c6, c9, c10, c11, c12, c13, hx, rfl⟩
    refine s_turn rfl ?_
    repeat walk_at "py"
    refine wp_call rfl ((tip (m + 1) x hx 8 (by decide)).mono ?_)
    rintro r mm ⟨⟨a, rfl, a0, a1⟩, x1, rfl, hx1⟩
    refine ⟨_, rfl, _, rfl, ?_⟩
    repeat walk_at "py"
    refine wp_call rfl ((tip (m + 1) x1 hx1 8 (by decide)).mono ?_)
    rintro r mm ⟨⟨b, rfl, b0, b1⟩, x2, rfl, hx2⟩
    refine ⟨_, rfl, _, rfl, ?_⟩
    obtain ⟨a, rfl⟩ := Int.eq_ofNat_of_zero_le a0
    obtain ⟨b, rfl⟩ := Int.eq_ofNat_of_zero_le b0
    obtain ⟨i, hi, ei⟩ := idx_of hL (show a < 8 by omega)
    obtain ⟨j, hj, ej⟩ := idx_of hL (show b < 8 by omega)
    have ha : a < ps.length := by omega
    have hb : b < ps.length := by omega
    repeat walk_at "py"
    with_reducible refine w_eM rfl (w_comp ?_)
    with_reducible refine w_it rfl ?_
    repeat walk_at "py"
    refine ⟨by rw [List.length_map]; omega, ?_⟩
    refine comp_filt (ls := lots) (toD := lotD) (F := lotD) (p := fun l => decide (L.getD i 0 ∈ l) && decide (L.getD j 0 ∈ l)) (fun e => ∃ d, e = [_, _, _, _, _, _, _, _, _, _, _, _, _, d]) ⟨_, rfl⟩ ?_ ?_
    · rintro l hl e ⟨d, rfl⟩
      refine w_turn rfl ?_
      repeat walk_at "py"
      refine ⟨_, in_lot a l, ?_⟩
      refine And.intro (fun h => ?_) (fun h => ?_)
      · repeat walk_at "py"
        refine ⟨_, in_lot b l, ?_⟩
        refine And.intro (fun h2 => ?_) (fun h2 => ?_)
        · repeat walk_at "py"
          exact ⟨by rw [ei, ej, h, h2]; rfl, _, rfl⟩
        · exact ⟨by rw [ei, ej, h, h2]; rfl, _, rfl⟩
      · walk_at "pk"
        exact ⟨by rw [ei, ej, h]; rfl, _, rfl⟩
    rintro e ⟨d, rfl⟩
    have hdue := due_lot (many := many) hL hi hj (by omega) (by omega)
    have hal := wide_alike S h5 h8 hL hi hj (by omega) (by omega)
    rw [hlots] at hdue
    rw [← hal, ei, ej] at hdue
    rw [ei, ej]
    repeat walk_at "py"
    rw [hdue]
    have AA := are_alike S t a b ha hb (m + 2) (by omega)
    have UR := unlike_row S t a b ha hb (m + 2) (by omega)
    refine wp_call rfl (UR.mono ?_)
    rintro r mm ⟨hrr, rfl⟩
    cases hz : alikeB (chW L many) ms.length ps.length a b with
    | true =>
      rw [hz] at AA
      rw [hz, if_pos rfl] at hrr
      subst hrr
      refine ⟨_, rfl, _, rfl, ?_⟩
      walk_at "pk"
      refine wp_call rfl (AA.mono ?_)
      rintro r mm ⟨rfl, rfl⟩
      refine ⟨_, rfl, _, rfl, ?_⟩
      walk_at "pk"
      refine wp_call rfl ((exact_b (m + 1) true).mono ?_)
      rintro r mm ⟨rfl, rfl⟩
      refine ⟨_, rfl, _, rfl, ?_⟩
      walk_at "pk"
      exact ⟨x2, _, _, _, _, _, _, hx2, rfl⟩
    | false =>
      rw [hz] at AA
      rw [hz, if_neg (by decide)] at hrr
      obtain ⟨row, rfl, hrow⟩ := hrr
      obtain ⟨q1, q2, q3⟩ := shr_row ha hb S.ok hrow
      refine ⟨_, rfl, _, rfl, ?_⟩
      walk_at "pk"
      refine wp_call rfl (AA.mono ?_)
      rintro r mm ⟨rfl, rfl⟩
      refine ⟨_, rfl, _, rfl, ?_⟩
      walk_at "pk"
      refine wp_call rfl ((exact_b (m + 1) false).mono ?_)
      rintro r mm ⟨rfl, rfl⟩
      refine ⟨_, rfl, _, rfl, ?_⟩
      walk_at "pk"
      refine wp_call rfl ((good m (chW L many) ms ps t row a b ha hb (by omega) S.ok (by have := S.hh; omega) q1 ((inB_iff q1).mp q2) q3).mono ?_)
      rintro r mm ⟨rfl, rfl⟩
      refine ⟨_, rfl, _, rfl, ?_⟩
      walk_at "pk"
      exact ⟨x2, _, _, _, _, _, _, hx2, rfl⟩
  · clear hx x
    rintro e ⟨x, c6, c9, c10, c11, c12, c13, hx, rfl⟩
    repeat walk_at "py"
    exact hK x _ hx rfl

end K24

set_option Elab.async false
set_option linter.all false
set_option maxRecDepth 100000
set_option maxHeartbeats 1000000
namespace K24
open PY PySem
local macro_rules | `(tactic| walk_at "py") => `(tactic| (first
  | with_reducible refine x_add ?_
  | with_reducible refine x_sub ?_
  | ((with_reducible refine x_mul ?_ ?_); next => first | exact mulOk_r (by decide) | exact mulOk_l (by decide))
  | ((with_reducible refine x_mod ?_ ?_); next => decide)
  | ((with_reducible refine x_fdv ?_ ?_); next => decide)
  | ((with_reducible refine Exists.intro ?w0 (And.intro ?h0 ?k0)); (case h0 => rfl))
  | ((with_reducible refine And.intro (a := _ ≤ (1000000 : Nat)) ?_ ?_); next => (simp only [List.length_cons, List.length_nil]; decide))
  | with_reducible refine s_seq ?_
  | with_reducible refine s_skip ?_
  | with_reducible refine ks_nx ?_
  | with_reducible refine ks_rt ?_
  | with_reducible refine s_set ?_
  | with_reducible refine s_asg ?_
  | with_reducible refine s_asgM ?_
  | with_reducible refine s_ret ?_
  | with_reducible refine s_retM ?_
  | with_reducible refine s_ife ?_
  | with_reducible refine s_for ?_
  | with_reducible refine k_t ?_
  | with_reducible refine k_f ?_
  | with_reducible refine k_tn ?_
  | with_reducible refine k_fn ?_
  | with_reducible refine w_rng1 ?_
  | with_reducible refine w_int ?_
  | with_reducible refine w_str ?_
  | with_reducible refine w_bl ?_
  | with_reducible refine w_non ?_
  | with_reducible refine w_abs ?_
  | with_reducible refine w_nil ?_
  | with_reducible refine w_at ?_
  | with_reducible refine w_bin ?_
  | with_reducible refine w_bi ?_
  | with_reducible refine w_idx ?_
  | ((with_reducible refine w_cst (d := ?w0) ?hx ?h0 ?k0); (case hx => rfl); (case h0 => rfl))
  | with_reducible refine w_chain ?_
  | with_reducible refine w_srs ?_
  | with_reducible refine w_tup ?_
  | with_reducible refine w_dnw ?_
  | with_reducible refine w_dinT ?_
  | with_reducible refine w_din ?_
  | with_reducible refine w_lst ?_
  | with_reducible refine w_lstM ?_
  | with_reducible refine w_cmp ?_
  | with_reducible refine w_cmpT ?_
  | with_reducible refine w_ite ?_
  | with_reducible refine w_slc ?_
  | with_reducible refine w_slm ?_
  | with_reducible refine w_isi ?_
  | with_reducible refine w_isiT ?_
  | with_reducible refine w_me ?_
  | with_reducible refine w_call ?_
  | with_reducible refine w_callM ?_
  | with_reducible refine w_callK ?_
  | with_reducible refine w_andT ?_
  | with_reducible refine w_and ?_
  | with_reducible refine w_or ?_
  | with_reducible refine w_not ?_
  | with_reducible refine w_orT ?_
  | with_reducible refine w_notT ?_
  | with_reducible refine w_isNT ?_
  | with_reducible refine w_notNT ?_
  | with_reducible refine w_callP ?_
  | with_reducible refine w_enum ?_
  | with_reducible refine w_rng2 ?_
  | with_reducible refine w_nst ?_
  | with_reducible refine s_par2 ?_
  | with_reducible refine s_asgT ?_
  | ((with_reducible refine x_pow ?_ ?_); next => decide)
  | ((with_reducible refine w_mv (m := ?w0) ?h0 ?k0); (case h0 => rfl))
  | ((with_reducible refine s_ins (u := ()) ?h0 ?k0); (case h0 => rfl))
  | with_reducible refine w_rlst ?_
  | with_reducible refine w_lof ?_
  | with_reducible refine w_rtup ?_
  | with_reducible refine w_revm ?_
  | with_reducible refine w_rep ?_
  | with_reducible refine w_dct ?_
  | with_reducible refine w_rev ?_
  | with_reducible refine w_isN ?_
  | with_reducible refine w_notN ?_
  | with_reducible refine s_parA ?_
  | with_reducible refine s_cnt ?_
  | with_reducible refine ks_ct ?_
  | with_reducible refine w_neg ?_
  | with_reducible refine w_blT ?_
  | ((with_reducible refine w_var (d := ?w0) ?h0 ?k0); (case h0 => rfl))
  | ((with_reducible refine w_lf (d := ?w0) ?h0 ?k0); (case h0 => rfl))
  | ((with_reducible refine w_vw (d := ?w0) ?h0 ?k0); (case h0 => rfl))
  | ((with_reducible refine w_cons ?_ ?_); next => rfl)
  | ((with_reducible refine w_am (m := ?w0) ?h0 ?k0); (case h0 => rfl))
  | ((with_reducible refine w_t ?h0 ?k0); (case h0 => rfl))
  | ((with_reducible refine s_app (u := ()) ?h0 ?k0); (case h0 => rfl))
  | ((with_reducible refine s_frz (m := ?m0) (d := ?d0) (env' := ?e0) ?h0 ?h1 ?h2 ?k0); (case h0 => rfl); (case h1 => rfl); (case h2 => rfl))))
local macro_rules | `(tactic| walk_at "pk") => `(tactic| (repeat (first | walk_at "py" | refine k_t ?_ | refine k_f ?_ | refine k_t' ?_ | refine k_f' ?_)))
theorem r26a_ok (m : Nat) (hm : 16 ≤ m) (x : M) (hx : IsB x) (ms ps : List PyData) (t : PyData) (h5 : ms.length = 5) (h8 : ps.length = 8) (L : List Nat) (hL : L.Perm (List.range 8)) (c2 c3 c4 c5 c6 c8 c9 c10 c11 c12 c13 : Sl) (Ko : PY.Flow → PY.Env → Prop) (hK : ∀ (x' : M) (e : PY.Env), IsB x' → mutsE d26.fd.ps e = [.m x'] → Ko (.rt (.d (.bool true))) e) :
    Wp (evS gcL (callF gcL (TL fns) m) r26a [.m x, .d (sgD ms t ps), c2, c3, c4, c5, c6, .m (.fl (L.map natD)), c8, c9, c10, c11, c12, c13]) Ko (fun _ _ => False) := by
  obtain ⟨m, rfl⟩ : ∃ j, m = j + 1 := ⟨m - 1, by omega⟩
  have hll : L.length = 8 := by rw [hL.length_eq, List.length_range]
  unfold r26a
  repeat walk_at "py"
  refine wp_call rfl ((tip m x hx 4 (by decide)).mono ?_)
  rintro r mm ⟨⟨d, rfl, d0, d1⟩, x1, rfl, hx1⟩
  refine ⟨_, rfl, _, rfl, ?_⟩
  obtain ⟨many, hmany⟩ := Int.eq_ofNat_of_zero_le (show 0 ≤ 3 + d by omega)
  refine x_add ?_
  rw [hmany]
  repeat walk_at "py"
  refine ⟨small_nat (by omega), ?_⟩
  with_reducible refine for_ix (n := many) (fun k e => ∃ (c4 : Sl), e = [.m x1, .d (sgD ms t ps), .d (.int (many : Int)), .d (chW L k).D, c4, c5, c6, .m (.fl (L.map natD)), c8, c9, c10, c11, c12, c13]) ?_ ?_ ?_
  · exact ⟨_, rfl⟩
  · rintro k e hk ⟨c4, rfl⟩
    refine s_turn rfl ?_
    repeat walk_at "py"
    refine w_lf (lf_at (show k < L.length by omega)) ?_
    repeat walk_at "py"
    have e1 : natD L[k] = .int ((L.getD k 0 : Nat) : Int) := by simp [natD, List.getD, show k < L.length by omega]
    rw [e1]
    refine And.intro (fun h => ?_) (fun h => ?_)
    · have k0 : k = 0 := by have := of_decide_eq_true h; omega
      repeat walk_at "py"
      exact ⟨_, by rw [chW, setW, if_pos k0]; rfl⟩
    · have k0 : ¬ k = 0 := by have := of_decide_eq_false h; omega
      repeat walk_at "py"
      exact ⟨_, by rw [chW, setW, if_neg k0]; rfl⟩
  · rintro e ⟨c4, rfl⟩
    repeat walk_at "py"
    exact r26b_ok (m + 1) hm x1 hx1 ms ps t h5 h8 many (by omega) (by omega) L hL _ _ _ _ _ _ _ _ _ Ko hK
theorem wide (m : Nat) (hm : 16 ≤ m) (x : M) (hx : IsB x) : Gives (callF gcL (TL fns) (m + 1) 26 [.m x]) fun r mm => r = .d (.bool true) ∧ ∃ x', mm = [.m x'] ∧ IsB x' := by
  obtain ⟨m, rfl⟩ : ∃ j, m = j + 2 := ⟨m - 2, by omega⟩
  refine call_of rfl (run_of rfl ?_)
  show Wp (evS gcL _ b26 [.m x, .un, .un, .un, .un, .un, .un, .un, .un, .un, .un, .un, .un, .un]) _ _
  rw [b26_eq]
  repeat walk_at "py"
  refine wp_call rfl ((setting m x hx 5 8 (by decide) (by decide)).mono ?_)
  rintro r mm ⟨⟨ms, ps, t, rfl, h5, h8⟩, x1, rfl, hx1⟩
  refine ⟨_, rfl, _, rfl, ?_⟩
  repeat walk_at "py"
  refine wp_whl (fun k e => ∃ (x : M) (L1 L2 : List Nat), L2.length = k ∧ IsB x ∧ (L1 ++ L2).Perm (List.range 8) ∧ e = [.m x, .d (sgD ms t ps), .un, .un, .un, .un, .un, .m (.fl (L1.map natD)), .m (.fl (L2.map natD)), .un, .un, .un, .un, .un]) ?_ _ 8 _ (by omega) ⟨x1, [], List.range 8, by simp, hx1, .refl _, rfl⟩
  clear hx hx1 x x1
  rintro k e ⟨x, L1, L2, hk, hx, hperm, rfl⟩
  have hpl := hperm.length_eq
  rw [List.length_append, List.length_range] at hpl
  repeat walk_at "py"
  refine And.intro (fun h => ?_) (fun h => ?_)
  · have h0 : L2 = [] := by
      cases L2 with
      | nil => rfl
      | cons a l => exact absurd h (by simp)
    subst h0
    rw [List.append_nil] at hperm
    repeat walk_at "py"
    refine r26a_ok (m + 2) hm x hx ms ps t h5 h8 L1 hperm _ _ _ _ _ _ _ _ _ _ _ _ ?_
    intro x' e h1 h2
    exact ⟨rfl, x', h2, h1⟩
  · have h0 : 0 < L2.length := by
      cases L2 with
      | nil => exact absurd h (by simp)
      | cons a l => simp
    repeat walk_at "py"
    with_reducible refine w_eM rfl (w_popAt (m0 := .fl []) (u := ()) rfl ?_)
    repeat walk_at "py"
    refine wp_call rfl ((tip (m + 1) x hx (((L2.map natD).length : Nat) : Int) (by rw [List.length_map]; omega)).mono ?_)
    rintro r mm ⟨⟨d, rfl, d0, d1⟩, x1, rfl, hx1⟩
    rw [List.length_map] at d1
    obtain ⟨a, L3, hpop, hp3⟩ := pop_atG (f := natD) (l := L2) d0 d1 (by omega)
    refine ⟨_, rfl, _, rfl, ?_⟩
    refine ⟨_, _, _, _, _, rfl, rfl, hpop, rfl, ?_⟩
    repeat walk_at "py"
    refine ⟨_, _, rfl, by rw [List.length_map]; omega, rfl, ?_⟩
    repeat walk_at "py"
    have hp3l := hp3.length_eq
    rw [List.length_cons] at hp3l
    refine ⟨L3.length, by omega, x1, L1 ++ [a], L3, rfl, hx1, ?_, by rw [List.map_append]; rfl⟩
    rw [List.append_assoc]
    exact (List.Perm.append_left L1 hp3).trans hperm
/-! pairs, in sequence -/
def restL (a b : Nat) : List Nat := (List.range 5).filter fun (k : Nat) => !decide ((k : Int) ∈ [(a : Int), (b : Int)])
def bothL (a b : Nat) : List (List Int) := [[(a : Int), (b : Int)], [(b : Int), (a : Int)]] ++ ((List.range 5).map fun (k : Nat) => [(k : Int), (k : Int)]) ++ (restL a b).flatMap fun (k : Nat) => ((restL a b).filter fun (j : Nat) => !decide ((j : Int) = (k : Int))).map fun (j : Nat) => [(k : Int), (j : Int)]
def pairI (p : Nat × Nat) : List Int := [(p.1 : Int), (p.2 : Int)]
def combos : List (Nat × Nat) := [(0, 1), (0, 2), (0, 3), (0, 4), (1, 0), (1, 2), (1, 3), (1, 4), (2, 0), (2, 1), (2, 3), (2, 4), (3, 0), (3, 1), (3, 2), (3, 4), (4, 0), (4, 1), (4, 2), (4, 3)]
theorem both_found : ∀ p, p ∈ combos → okT (bothL p.1 p.2) = true ∧ ordT (bndT (bothL p.1 p.2)) (bothL p.1 p.2) = (foundL (cntP [p.1, p.2] [1] 2) 2 5).map pairI := by decide +kernel

end K24

set_option Elab.async false
set_option linter.all false
set_option maxRecDepth 100000
set_option maxHeartbeats 1000000
namespace K24
open PY PySem
local macro_rules | `(tactic| walk_at "py") => `(tactic| (first
  | with_reducible refine x_add ?_
  | with_reducible refine x_sub ?_
  | ((with_reducible refine x_mul ?_ ?_); next => first | exact mulOk_r (by decide) | exact mulOk_l (by decide))
  | ((with_reducible refine x_mod ?_ ?_); next => decide)
  | ((with_reducible refine x_fdv ?_ ?_); next => decide)
  | ((with_reducible refine Exists.intro ?w0 (And.intro ?h0 ?k0)); (case h0 => rfl))
  | ((with_reducible refine And.intro (a := _ ≤ (1000000 : Nat)) ?_ ?_); next => (simp only [List.length_cons, List.length_nil]; decide))
  | with_reducible refine s_seq ?_
  | with_reducible refine s_skip ?_
  | with_reducible refine ks_nx ?_
  | with_reducible refine ks_rt ?_
  | with_reducible refine s_set ?_
  | with_reducible refine s_asg ?_
  | with_reducible refine s_asgM ?_
  | with_reducible refine s_ret ?_
  | with_reducible refine s_retM ?_
  | with_reducible refine s_ife ?_
  | with_reducible refine s_for ?_
  | with_reducible refine k_t ?_
  | with_reducible refine k_f ?_
  | with_reducible refine k_tn ?_
  | with_reducible refine k_fn ?_
  | with_reducible refine w_rng1 ?_
  | with_reducible refine w_int ?_
  | with_reducible refine w_str ?_
  | with_reducible refine w_bl ?_
  | with_reducible refine w_non ?_
  | with_reducible refine w_abs ?_
  | with_reducible refine w_nil ?_
  | with_reducible refine w_at ?_
  | with_reducible refine w_bin ?_
  | with_reducible refine w_bi ?_
  | with_reducible refine w_idx ?_
  | ((with_reducible refine w_cst (d := ?w0) ?hx ?h0 ?k0); (case hx => rfl); (case h0 => rfl))
  | with_reducible refine w_chain ?_
  | with_reducible refine w_srs ?_
  | with_reducible refine w_tup ?_
  | with_reducible refine w_dnw ?_
  | with_reducible refine w_dinT ?_
  | with_reducible refine w_din ?_
  | with_reducible refine w_lst ?_
  | with_reducible refine w_lstM ?_
  | with_reducible refine w_cmp ?_
  | with_reducible refine w_cmpT ?_
  | with_reducible refine w_ite ?_
  | with_reducible refine w_slc ?_
  | with_reducible refine w_slm ?_
  | with_reducible refine w_isi ?_
  | with_reducible refine w_isiT ?_
  | with_reducible refine w_me ?_
  | with_reducible refine w_call ?_
  | with_reducible refine w_callM ?_
  | with_reducible refine w_callK ?_
  | with_reducible refine w_andT ?_
  | with_reducible refine w_and ?_
  | with_reducible refine w_or ?_
  | with_reducible refine w_not ?_
  | with_reducible refine w_orT ?_
  | with_reducible refine w_notT ?_
  | with_reducible refine w_isNT ?_
  | with_reducible refine w_notNT ?_
  | with_reducible refine w_callP ?_
  | with_reducible refine w_enum ?_
  | with_reducible refine w_rng2 ?_
  | with_reducible refine w_nst ?_
  | with_reducible refine s_par2 ?_
  | with_reducible refine s_asgT ?_
  | ((with_reducible refine x_pow ?_ ?_); next => decide)
  | ((with_reducible refine w_mv (m := ?w0) ?h0 ?k0); (case h0 => rfl))
  | ((with_reducible refine s_ins (u := ()) ?h0 ?k0); (case h0 => rfl))
  | with_reducible refine w_rlst ?_
  | with_reducible refine w_lof ?_
  | with_reducible refine w_rtup ?_
  | with_reducible refine w_revm ?_
  | with_reducible refine w_rep ?_
  | with_reducible refine w_dct ?_
  | with_reducible refine w_rev ?_
  | with_reducible refine w_isN ?_
  | with_reducible refine w_notN ?_
  | with_reducible refine s_parA ?_
  | with_reducible refine s_cnt ?_
  | with_reducible refine ks_ct ?_
  | with_reducible refine w_neg ?_
  | with_reducible refine w_blT ?_
  | ((with_reducible refine w_var (d := ?w0) ?h0 ?k0); (case h0 => rfl))
  | ((with_reducible refine w_lf (d := ?w0) ?h0 ?k0); (case h0 => rfl))
  | ((with_reducible refine w_vw (d := ?w0) ?h0 ?k0); (case h0 => rfl))
  | ((with_reducible refine w_cons ?_ ?_); next => rfl)
  | ((with_reducible refine w_am (m := ?w0) ?h0 ?k0); (case h0 => rfl))
  | ((with_reducible refine w_t ?h0 ?k0); (case h0 => rfl))
  | ((with_reducible refine s_app (u := ()) ?h0 ?k0); (case h0 => rfl))
  | ((with_reducible refine s_frz (m := ?m0) (d := ?d0) (env' := ?e0) ?h0 ?h1 ?h2 ?k0); (case h0 => rfl); (case h1 => rfl); (case h2 => rfl))))
local macro_rules | `(tactic| walk_at "pk") => `(tactic| (repeat (first | walk_at "py" | refine k_t ?_ | refine k_f ?_ | refine k_t' ?_ | refine k_f' ?_)))
/-! the law -/
theorem tups_some : ∀ L : List (List Int), tupsD (L.map tupI) = some L
  | [] => rfl
  | a :: L => by
    show (intsD (a.map PyData.int)).bind _ = _
    rw [ints_some, Option.bind_some, tups_some L]
    rfl
theorem sort_tups {L : List (List Int)} (hne : L ≠ []) (h : okT L = true) : biD .sorted [.list (L.map tupI)] = some (.list ((ordT (bndT L) L).map tupI)) := by
  cases L with
  | nil => exact absurd rfl hne
  | cons a l =>
    show (match intsD ((a :: l).map tupI) with
      | some ns => some (PyData.list ((ordI ns).map .int))
      | none => (tupsD ((a :: l).map tupI)).bind fun L => if okT L then some (.list ((ordT (bndT L) L).map tupI)) else none) = _
    rw [show intsD ((a :: l).map tupI) = none from rfl]
    simp only []
    rw [tups_some, Option.bind_some, if_pos h]
theorem lay_tups : ∀ L : List (List Int), PyData.canLayAll0 (L.map tupI) = true
  | [] => rfl
  | a :: L => by
    show (PyData.canLay0 (tupI a) && PyData.canLayAll0 (L.map tupI)) = true
    rw [lay_tups L, show PyData.canLay0 (tupI a) = true from lay_ints a]; rfl
theorem depth_tups : ∀ L : List (List Int), PyData.depthAll (L.map tupI) ≤ 3
  | [] => by decide
  | a :: L => by
    have h1 := depth_tups L
    have h2 := depth_ints a
    show max (PyData.depth (tupI a)) (PyData.depthAll (L.map tupI)) ≤ 3
    have h3 : PyData.depth (tupI a) ≤ 2 := by
      show PyData.depthAll (a.map PyData.int) + 1 ≤ 2
      omega
    omega
theorem eqv_tups : ∀ L : List (List Int), PyData.eqvAll (L.map tupI) (L.map tupI) = true
  | [] => by simp [PyData.eqvAll]
  | a :: L => by
    rw [List.map_cons, PyData.eqvAll, eqv_tups L, Bool.and_true]
    unfold tupI
    rw [PyData.eqv, eqv_ints]
    exact decide_eq_true rfl
theorem ne_tups (L : List (List Int)) : cmpD .ne (.list (L.map tupI)) (.list (L.map tupI)) = some false := by
  have hs : SeqAt.shaped (.list (L.map tupI)) = true := by
    unfold SeqAt.shaped
    rw [show PyData.canLay0 (.list (L.map tupI)) = true from lay_tups L, Bool.true_and]
    have := depth_tups L
    exact decide_eq_true (by show PyData.depthAll (L.map tupI) + 1 ≤ _; omega)
  show ((if SeqAt.shaped (.list (L.map tupI)) && SeqAt.shaped (.list (L.map tupI)) then some (PyData.eqv (.list (L.map tupI)) (.list (L.map tupI))) else none)).map (!·) = _
  rw [hs, Bool.and_self, if_pos rfl, PyData.eqv, eqv_tups]
  rfl
theorem in_combos {a b : Nat} (ha : a < 5) (hb : b < 5) (h : a ≠ b) : (a, b) ∈ combos := by
  have h1 : a = 0 ∨ a = 1 ∨ a = 2 ∨ a = 3 ∨ a = 4 := by omega
  have h2 : b = 0 ∨ b = 1 ∨ b = 2 ∨ b = 3 ∨ b = 4 := by omega
  rcases h1 with rfl | rfl | rfl | rfl | rfl <;> rcases h2 with rfl | rfl | rfl | rfl | rfl <;> first | exact absurd rfl h | decide
theorem found_tups (L : List (Nat × Nat)) : L.map pairN = (L.map pairI).map tupI := by
  rw [List.map_map]; rfl
theorem rest_le (a b : Nat) : (restL a b).length ≤ 5 := by
  unfold restL
  exact Nat.le_trans (List.length_filter_le _ _) (by simp)
def r27a : S := (.seq (.asg 3 (.call 24 (.cons (.am (.v 1)) (.cons (.int 2) (.cons (.int 5) .nil)))))
(.seq (.asgT (.t (.cons (.n 9) (.cons (.n 4) .nil))) (.tup (.cons (.call 14 (.cons (.am (.v 1)) (.cons (.int 5) .nil))) (.cons (.call 14 (.cons (.am (.v 1)) (.cons (.int 4) .nil))) .nil))))
(.seq (.asg 4 (.bin .add (.var 4) (.bi .int (.cons (.cmp .ge (.var 4) (.var 9)) .nil))))
(.seq (.asgM 5 (.cat (.lst (.cons (.tup (.cons (.var 9) (.cons (.var 4) .nil))) (.cons (.tup (.cons (.var 4) (.cons (.var 9) .nil))) .nil))) (.comp [7] (.n 7) (.rng1 (.int 5)) (.bl true) (.tup (.cons (.var 7) (.cons (.var 7) .nil))))))
(.seq (.asg 6 (.comp [7] (.n 7) (.rng1 (.int 5)) (.cmp .notin (.var 7) (.tup (.cons (.var 9) (.cons (.var 4) .nil)))) (.var 7)))
(.seq (.for_ (.n 7) (.var 6)
(.seq (.ext (.v 5) (.comp [10] (.n 10) (.var 6) (.cmp .ne (.var 10) (.var 7)) (.tup (.cons (.var 7) (.cons (.var 10) .nil)))))
.skip))
(.seq (.ife (.cmp .ne (.call 23 (.cons (.var 3) (.cons (.call 20 (.cons (.lst (.cons (.var 9) (.cons (.var 4) .nil))) (.cons (.tup (.cons (.int 1) .nil)) (.cons (.int 2) .nil)))) .nil))) (.bi .sorted (.cons (.vw (.v 5)) .nil)))
(.seq (.ret (.bl false))
.skip)
.skip)
(.seq (.ret (.or (.cmp .ne (.call 14 (.cons (.am (.v 1)) (.cons (.int 7) .nil))) (.int 4)) (.call 26 (.cons (.am (.v 1)) .nil))))
.skip))))))))
theorem b27_eq : b27 = (.seq (.asgM 1 (.call 13 (.cons (.var 0) .nil)))
(.seq (.ife (.not (.call 25 .nil))
(.seq (.ret (.bl false))
.skip)
.skip)
(.seq (.for_ (.n 2) (.rng1 (.int 3))
(.seq (.asg 8 (.bin .add (.int 1) (.call 14 (.cons (.am (.v 1)) (.cons (.int 4) .nil)))))
(.seq (.asg 3 (.call 24 (.cons (.am (.v 1)) (.cons (.bin .add (.int 2) (.call 14 (.cons (.am (.v 1)) (.cons (.int 2) .nil)))) (.cons (.var 8) .nil)))))
(.seq (.ife (.isN (.call 23 (.cons (.var 3) (.cons (.call 21 (.cons (.am (.v 1)) (.cons (.bi .len (.cons (.idx (.var 3) (.int 0)) .nil)) (.cons (.var 8) .nil)))) .nil))))
(.seq (.ret (.bl false))
.skip)
.skip)
.skip))))
r27a))) := rfl
theorem r27a_ok (x : M) (hx : IsB x) (c0 c2 c3 c4 c5 c6 c7 c8 c9 c10 : Sl) :
    Wp (evS gcL (callF gcL (TL fns) 19) r27a [c0, .m x, c2, c3, c4, c5, c6, c7, c8, c9, c10]) (fun w e => match w with | .rt r => r = .d (.bool true) | _ => False) (fun _ _ => False) := by
  obtain ⟨R5, hR5⟩ : ∃ R5, List.range 5 = R5 := ⟨_, rfl⟩
  have hR5l : R5.length = 5 := by rw [← hR5]; rfl
  unfold r27a
  repeat walk_at "py"
  refine wp_call rfl ((setting 17 x hx 2 5 (by decide) (by decide)).mono ?_)
  rintro r mm ⟨⟨ms, ps, t, rfl, h5, h8⟩, x1, rfl, hx1⟩
  refine ⟨_, rfl, _, rfl, ?_⟩
  repeat walk_at "py"
  refine wp_call rfl ((tip 18 x1 hx1 5 (by decide)).mono ?_)
  rintro r mm ⟨⟨a, rfl, a0, a1⟩, x2, rfl, hx2⟩
  refine ⟨_, rfl, _, rfl, ?_⟩
  repeat walk_at "py"
  refine wp_call rfl ((tip 18 x2 hx2 4 (by decide)).mono ?_)
  rintro r mm ⟨⟨c, rfl, c0', c1⟩, x3, rfl, hx3⟩
  refine ⟨_, rfl, _, rfl, ?_⟩
  obtain ⟨a, rfl⟩ := Int.eq_ofNat_of_zero_le a0
  repeat walk_at "py"
  obtain ⟨b, hb⟩ : ∃ b : Nat, c + (if decide ((a : Int) ≤ c) = true then (1 : Int) else 0) = (b : Int) := ⟨(c + (if decide ((a : Int) ≤ c) = true then (1 : Int) else 0)).toNat, by split <;> omega⟩
  have hb5 : b < 5 := by split at hb <;> omega
  have hab : a ≠ b := by
    by_cases h : (a : Int) ≤ c
    · rw [decide_eq_true h, if_pos rfl] at hb; omega
    · rw [decide_eq_false h, if_neg (by decide)] at hb; omega
  rw [hb]
  have C := cnt_all (pl := 5) [a, b] (ms := [1]) (most := 2) (by simp) (by decide) (by
    intro p hp
    simp only [List.mem_cons, List.not_mem_nil, or_false] at hp
    rcases hp with rfl | rfl <;> omega)
  have S : SP (cntP [a, b] [1] 2) ms ps := ⟨by omega, by omega, by omega, by omega, Nat.le_trans C.h (by simp), by
    have h3 : 2 ^ ([a, b].length + 1) = 8 := rfl
    have := C.nd
    omega, by rw [h8]; exact C.ok⟩
  have hrl := rest_le a b
  with_reducible refine w_cat ?_
  repeat walk_at "py"
  with_reducible refine w_comp ?_
  repeat walk_at "py"
  refine ⟨by decide +kernel, ?_⟩
  rw [show rangeD 0 5 = R5.map (fun (i : Nat) => PyData.int (i : Int)) by rw [← hR5]; exact rangeD_nat 5]
  refine ⟨by rw [List.length_map, hR5l]; decide, ?_⟩
  refine comp_map (ls := R5) (toD := fun (i : Nat) => PyData.int (i : Int)) (F := fun (k : Nat) => tupI [(k : Int), (k : Int)]) (fun e => ∃ d, e = [_, _, _, _, _, _, _, d, _, _, _]) ⟨_, rfl⟩ ?_ ?_
  · rintro i hi e ⟨d, rfl⟩
    refine w_turn rfl (w_blT (k_t ?_))
    repeat walk_at "py"
    exact ⟨rfl, _, rfl⟩
  rintro e ⟨d, rfl⟩
  refine ⟨_, _, rfl, rfl, by simp [hR5l], ?_⟩
  repeat walk_at "py"
  with_reducible refine w_eM rfl (w_comp ?_)
  repeat walk_at "py"
  refine ⟨by decide +kernel, ?_⟩
  rw [show rangeD 0 5 = R5.map (fun (i : Nat) => PyData.int (i : Int)) by rw [← hR5]; exact rangeD_nat 5]
  refine ⟨by rw [List.length_map, hR5l]; decide, ?_⟩
  refine comp_filt (ls := R5) (toD := fun (i : Nat) => PyData.int (i : Int)) (F := natD) (p := fun (k : Nat) => !decide ((k : Int) ∈ [(a : Int), (b : Int)])) (fun e => ∃ d, e = [_, _, _, _, _, _, _, d, _, _, _]) ⟨_, rfl⟩ ?_ ?_
  · rintro i hi e ⟨d, rfl⟩
    refine w_turn rfl ?_
    repeat walk_at "py"
    have hni : (fun x => !x) ([PyData.int (a : Int), .int (b : Int)].any fun y => PyData.eqv y (.int (i : Int))) = !decide ((i : Int) ∈ [(a : Int), (b : Int)]) := by
      show (!(([(a : Int), (b : Int)].map PyData.int).any fun y => PyData.eqv y (.int (i : Int)))) = _
      rw [PY.any_ints]
    rw [hni]
    refine And.intro (fun h => ?_) (fun h => ?_)
    · repeat walk_at "py"
      exact ⟨by rw [h]; rfl, _, rfl⟩
    · exact ⟨by rw [h]; rfl, _, rfl⟩
  rintro e ⟨d, rfl⟩
  rw [show R5.filter (fun (k : Nat) => !decide ((k : Int) ∈ [(a : Int), (b : Int)])) = restL a b by rw [← hR5]; rfl]
  have hboth := both_found (a, b) (in_combos (by omega) hb5 hab)
  generalize hB : bothL a b = B at hboth
  unfold bothL at hB
  rw [hR5] at hB
  have hbase : ([[(a : Int), (b : Int)], [(b : Int), (a : Int)]] ++ R5.map fun (k : Nat) => [(k : Int), (k : Int)]).length ≤ 7 := by simp [hR5l]
  generalize hbase2 : ([[(a : Int), (b : Int)], [(b : Int), (a : Int)]] ++ R5.map fun (k : Nat) => [(k : Int), (k : Int)]) = base at hB hbase
  have hfl : M.fl ([PyData.tuple [.int (a : Int), .int (b : Int)], .tuple [.int (b : Int), .int (a : Int)]] ++ R5.map fun (k : Nat) => tupI [(k : Int), (k : Int)]) = .fl (base.map tupI) := by
    rw [← hbase2, List.map_append, List.map_map]
    rfl
  generalize restL a b = R at hrl hB ⊢
  repeat walk_at "py"
  with_reducible refine w_it rfl ?_
  repeat walk_at "py"
  refine for_pre (ls := R) (toD := natD) (fun l1 e => ∃ c7 c10, e = [c0, .m x3, c2, .d (sgD ms t ps), .d (.int (b : Int)), .m (.fl ((base ++ l1.flatMap fun (k : Nat) => (R.filter fun (j : Nat) => !decide ((j : Int) = (k : Int))).map fun (j : Nat) => [(k : Int), (j : Int)]).map tupI)), .d (.list (R.map natD)), c7, c8, .d (.int (a : Int)), c10]) ⟨_, _, by rw [List.flatMap_nil, List.append_nil, ← hfl]; rfl⟩ ?_ ?_
  · rintro l1 k l2 hl e ⟨c7, c10, rfl⟩
    have hl1 : l1.length ≤ 5 := by
      have := congrArg List.length hl
      rw [List.length_append, List.length_cons] at this
      omega
    have hf := flat_le (f := fun (k : Nat) => (R.filter fun (j : Nat) => !decide ((j : Int) = (k : Int))).map fun (j : Nat) => [(k : Int), (j : Int)]) (k := 5) l1 (fun q _ => by rw [List.length_map]; exact Nat.le_trans (List.length_filter_le _ _) hrl)
    refine s_turn rfl ?_
    repeat walk_at "py"
    with_reducible refine s_ext (u := ()) rfl ?_
    with_reducible refine w_comp ?_
    with_reducible refine w_it rfl ?_
    repeat walk_at "py"
    refine ⟨by rw [List.length_map]; omega, ?_⟩
    refine comp_filt (ls := R) (toD := natD) (F := fun (j : Nat) => tupI [(k : Int), (j : Int)]) (p := fun (j : Nat) => !decide ((j : Int) = (k : Int))) (fun e => ∃ d, e = [_, _, _, _, _, _, _, _, _, _, d]) ⟨_, rfl⟩ ?_ ?_
    · rintro j hj e ⟨d, rfl⟩
      refine w_turn rfl ?_
      unfold natD
      repeat walk_at "py"
      refine And.intro (fun h => ?_) (fun h => ?_)
      · repeat walk_at "py"
        have h' : (!decide ((j : Int) = (k : Int))) = true := h
        exact ⟨by rw [if_pos h']; rfl, _, rfl⟩
      · have h' : ¬ (!decide ((j : Int) = (k : Int))) = true := by rw [show (!decide ((j : Int) = (k : Int))) = false from h]; decide
        exact ⟨by rw [if_neg h'], _, rfl⟩
    rintro e ⟨d, rfl⟩
    have hfl2 := List.length_filter_le (fun (j : Nat) => !decide ((j : Int) = (k : Int))) R
    refine ⟨_, _, _, rfl, rfl, by rw [List.length_map, List.length_append, List.length_map]; omega, rfl, ?_⟩
    repeat walk_at "py"
    refine ⟨rfl, .d (.int (k : Int)), c10, ?_⟩
    rw [List.flatMap_append, List.flatMap_singleton]
    simp only [List.map_append, List.append_assoc, List.map_map]
    rfl
  rintro e ⟨c7, c10, rfl⟩
  rw [hB]
  obtain ⟨okB, ordB⟩ := hboth
  have hBne : B ≠ [] := by
    rw [← hB, ← hbase2]
    simp
  repeat walk_at "py"
  refine wp_call rfl ((counted 18 [a, b] [1] 2 (by decide) (by decide)).mono ?_)
  rintro r mm ⟨rfl, rfl⟩
  refine ⟨_, rfl, _, rfl, ?_⟩
  repeat walk_at "py"
  refine wp_call rfl ((asked S t (by omega) (by rw [h5, h8]; decide) 19 (by decide)).mono ?_)
  rintro r mm ⟨rfl, rfl⟩
  refine ⟨_, rfl, _, rfl, ?_⟩
  rw [h5, h8, found_tups, ← ordB]
  repeat walk_at "py"
  refine ⟨_, sort_tups hBne okB, ?_⟩
  refine ⟨_, ne_tups _, ?_⟩
  walk_at "pk"
  refine wp_call rfl ((tip 18 x3 hx3 7 (by decide)).mono ?_)
  rintro r mm ⟨⟨z, rfl, _, _⟩, x4, rfl, hx4⟩
  refine ⟨_, rfl, _, rfl, ?_⟩
  repeat walk_at "py"
  refine And.intro (fun h => ?_) (fun h => ?_)
  · repeat walk_at "py"
    refine wp_call rfl ((wide 18 (by decide) x4 hx4).mono ?_)
    rintro r mm ⟨rfl, x5, rfl, hx5⟩
    refine ⟨_, rfl, _, rfl, ?_⟩
    repeat walk_at "py"
    rfl
  · repeat walk_at "py"
    rfl

end K24

set_option Elab.async false
set_option linter.all false
set_option maxRecDepth 100000
set_option maxHeartbeats 1000000
namespace K24
open PY PySem
local macro_rules | `(tactic| walk_at "py") => `(tactic| (first
  | with_reducible refine x_add ?_
  | with_reducible refine x_sub ?_
  | ((with_reducible refine x_mul ?_ ?_); next => first | exact mulOk_r (by decide) | exact mulOk_l (by decide))
  | ((with_reducible refine x_mod ?_ ?_); next => decide)
  | ((with_reducible refine x_fdv ?_ ?_); next => decide)
  | ((with_reducible refine Exists.intro ?w0 (And.intro ?h0 ?k0)); (case h0 => rfl))
  | ((with_reducible refine And.intro (a := _ ≤ (1000000 : Nat)) ?_ ?_); next => (simp only [List.length_cons, List.length_nil]; decide))
  | with_reducible refine s_seq ?_
  | with_reducible refine s_skip ?_
  | with_reducible refine ks_nx ?_
  | with_reducible refine ks_rt ?_
  | with_reducible refine s_set ?_
  | with_reducible refine s_asg ?_
  | with_reducible refine s_asgM ?_
  | with_reducible refine s_ret ?_
  | with_reducible refine s_retM ?_
  | with_reducible refine s_ife ?_
  | with_reducible refine s_for ?_
  | with_reducible refine k_t ?_
  | with_reducible refine k_f ?_
  | with_reducible refine k_tn ?_
  | with_reducible refine k_fn ?_
  | with_reducible refine w_rng1 ?_
  | with_reducible refine w_int ?_
  | with_reducible refine w_str ?_
  | with_reducible refine w_bl ?_
  | with_reducible refine w_non ?_
  | with_reducible refine w_abs ?_
  | with_reducible refine w_nil ?_
  | with_reducible refine w_at ?_
  | with_reducible refine w_bin ?_
  | with_reducible refine w_bi ?_
  | with_reducible refine w_idx ?_
  | ((with_reducible refine w_cst (d := ?w0) ?hx ?h0 ?k0); (case hx => rfl); (case h0 => rfl))
  | with_reducible refine w_chain ?_
  | with_reducible refine w_srs ?_
  | with_reducible refine w_tup ?_
  | with_reducible refine w_dnw ?_
  | with_reducible refine w_dinT ?_
  | with_reducible refine w_din ?_
  | with_reducible refine w_lst ?_
  | with_reducible refine w_lstM ?_
  | with_reducible refine w_cmp ?_
  | with_reducible refine w_cmpT ?_
  | with_reducible refine w_ite ?_
  | with_reducible refine w_slc ?_
  | with_reducible refine w_slm ?_
  | with_reducible refine w_isi ?_
  | with_reducible refine w_isiT ?_
  | with_reducible refine w_me ?_
  | with_reducible refine w_call ?_
  | with_reducible refine w_callM ?_
  | with_reducible refine w_callK ?_
  | with_reducible refine w_andT ?_
  | with_reducible refine w_and ?_
  | with_reducible refine w_or ?_
  | with_reducible refine w_not ?_
  | with_reducible refine w_orT ?_
  | with_reducible refine w_notT ?_
  | with_reducible refine w_isNT ?_
  | with_reducible refine w_notNT ?_
  | with_reducible refine w_callP ?_
  | with_reducible refine w_enum ?_
  | with_reducible refine w_rng2 ?_
  | with_reducible refine w_nst ?_
  | with_reducible refine s_par2 ?_
  | with_reducible refine s_asgT ?_
  | ((with_reducible refine x_pow ?_ ?_); next => decide)
  | ((with_reducible refine w_mv (m := ?w0) ?h0 ?k0); (case h0 => rfl))
  | ((with_reducible refine s_ins (u := ()) ?h0 ?k0); (case h0 => rfl))
  | with_reducible refine w_rlst ?_
  | with_reducible refine w_lof ?_
  | with_reducible refine w_rtup ?_
  | with_reducible refine w_revm ?_
  | with_reducible refine w_rep ?_
  | with_reducible refine w_dct ?_
  | with_reducible refine w_rev ?_
  | with_reducible refine w_isN ?_
  | with_reducible refine w_notN ?_
  | with_reducible refine s_parA ?_
  | with_reducible refine s_cnt ?_
  | with_reducible refine ks_ct ?_
  | with_reducible refine w_neg ?_
  | with_reducible refine w_blT ?_
  | ((with_reducible refine w_var (d := ?w0) ?h0 ?k0); (case h0 => rfl))
  | ((with_reducible refine w_lf (d := ?w0) ?h0 ?k0); (case h0 => rfl))
  | ((with_reducible refine w_vw (d := ?w0) ?h0 ?k0); (case h0 => rfl))
  | ((with_reducible refine w_cons ?_ ?_); next => rfl)
  | ((with_reducible refine w_am (m := ?w0) ?h0 ?k0); (case h0 => rfl))
  | ((with_reducible refine w_t ?h0 ?k0); (case h0 => rfl))
  | ((with_reducible refine s_app (u := ()) ?h0 ?k0); (case h0 => rfl))
  | ((with_reducible refine s_frz (m := ?m0) (d := ?d0) (env' := ?e0) ?h0 ?h1 ?h2 ?k0); (case h0 => rfl); (case h1 => rfl); (case h2 => rfl))))
local macro_rules | `(tactic| walk_at "pk") => `(tactic| (repeat (first | walk_at "py" | refine k_t ?_ | refine k_f ?_ | refine k_t' ?_ | refine k_f' ?_)))
theorem hand_wp (n : Nat) (hn : 16 ≤ n) {C : Nat → List Sl → CR} (hC : callF gcL (TL fns) (n + 1) = C) {env : PY.Env} {Ko : Sl → PY.Env → Prop} {Kx : Ex → PY.Env → Prop} (k : Ko (.d (.bool true)) env) : Wp (callE C 25 .nil [] env) Ko Kx := by
  subst hC
  refine wp_call rfl ((hand n hn).mono ?_)
  rintro r mm ⟨rfl, rfl⟩
  exact ⟨_, rfl, k⟩
theorem run (ns : List Int) (hl : ns.length ≤ 63) : ∃ ms, callF gcL (TL fns) 20 27 [.d (.list (ns.map PyData.int))] = .ok (.d (.bool true)) ms := by
  have G : Gives (callF gcL (TL fns) 20 27 [.d (.list (ns.map PyData.int))]) fun r _ => r = .d (.bool true) := by
    refine call_of rfl (run_of rfl ?_)
    show Wp (evS gcL _ b27 [.d (.list (ns.map PyData.int)), .un, .un, .un, .un, .un, .un, .un, .un, .un, .un]) _ _
    rw [b27_eq]
    repeat walk_at "py"
    refine wp_call rfl ((law_barrel 18 ns hl).mono ?_)
    rintro r mm ⟨⟨x, rfl, hx⟩, rfl⟩
    refine ⟨_, rfl, _, rfl, ?_⟩
    generalize PyData.list (ns.map PyData.int) = script
    generalize hC : callF gcL (TL fns) 19 = C
    repeat walk_at "py"
    with_reducible refine hand_wp 18 (by decide) hC ?_
    refine ⟨_, rfl, ?_⟩
    walk_at "pk"
    subst hC
    refine ⟨by decide +kernel, ?_⟩
    show Wp (forL _ (rangeD 0 ((3 : Nat) : Int)) _) _ _
    with_reducible refine for_ix (n := 3) (fun k e => ∃ (x : M) (c2 c3 c8 : Sl), IsB x ∧ e = [.d script, .m x, c2, c3, .un, .un, .un, .un, c8, .un, .un]) ?_ ?_ ?_
    · exact ⟨x, _, _, _, hx, rfl⟩
    · clear hx x
      rintro k e hk ⟨x, c2, c3, c8, hx, rfl⟩
      refine s_turn rfl ?_
      repeat walk_at "py"
      refine wp_call rfl ((tip 18 x hx 4 (by decide)).mono ?_)
      rintro r mm ⟨⟨d, rfl, d0, d1⟩, x1, rfl, hx1⟩
      refine ⟨_, rfl, _, rfl, ?_⟩
      obtain ⟨pl, hpl⟩ := Int.eq_ofNat_of_zero_le (show 0 ≤ 1 + d by omega)
      refine x_add ?_
      rw [hpl]
      repeat walk_at "py"
      refine wp_call rfl ((tip 18 x1 hx1 2 (by decide)).mono ?_)
      rintro r mm ⟨⟨c, rfl, c0, c1⟩, x2, rfl, hx2⟩
      refine ⟨_, rfl, _, rfl, ?_⟩
      obtain ⟨mk, hmk⟩ := Int.eq_ofNat_of_zero_le (show 0 ≤ 2 + c by omega)
      refine x_add ?_
      rw [hmk]
      repeat walk_at "py"
      refine wp_call rfl ((setting 17 x2 hx2 mk pl (by omega) (by omega)).mono ?_)
      rintro r mm ⟨⟨ms, ps, t, rfl, h5, h8⟩, x3, rfl, hx3⟩
      refine ⟨_, rfl, _, rfl, ?_⟩
      have hsg : sgD ms t ps = .tuple [.tuple ms, t, .tuple ps] := rfl
      rw [hsg]
      repeat walk_at "py"
      rw [h5]
      refine wp_call rfl ((program 16 mk pl (by omega) (by omega) (by omega) (by omega) x3 hx3).mono ?_)
      rintro r mm ⟨⟨pg, rfl, Q⟩, x4, rfl, hx4⟩
      refine ⟨_, rfl, _, rfl, ?_⟩
      repeat walk_at "py"
      have S : SP pg ms ps := ⟨by omega, by omega, by omega, by omega, Q.h, Q.nd, by rw [h8]; exact Q.ok⟩
      have hpw : ms.length ^ ps.length ≤ 5000 := by
        have h1 : ms.length ^ ps.length ≤ 3 ^ ps.length := Nat.pow_le_pow_left (by omega) _
        have h2 : 3 ^ ps.length ≤ 3 ^ 4 := Nat.pow_le_pow_right (by decide) (by omega)
        exact Nat.le_trans h1 (Nat.le_trans h2 (by decide))
      have AS := asked S t (by omega) hpw 19 (by decide)
      rw [hsg] at AS
      refine wp_call rfl (AS.mono ?_)
      rintro r mm ⟨rfl, rfl⟩
      refine ⟨_, rfl, _, rfl, ?_⟩
      walk_at "pk"
      exact ⟨x4, _, _, _, hx4, rfl⟩
    · clear hx x
      rintro e ⟨x, c2, c3, c8, hx, rfl⟩
      repeat walk_at "py"
      refine (r27a_ok x hx _ _ _ _ _ _ _ _ _ _).mono ?_ (fun _ _ h => h)
      rintro w e h
      cases w with
      | rt r => exact h
      | nx => exact h.elim
      | bk => exact h.elim
      | ct => exact h.elim
  obtain ⟨r, ms, h1, rfl⟩ := G.get
  exact ⟨ms, h1⟩

end K24

open PySem PySem.W PyProof.Rows PY
set_option maxRecDepth 100000 in
set_option maxHeartbeats 0 in
theorem PySem.Challenge.cw_howeverlaid_k24_alike_places_holds : PySem.Challenge.rw_howeverlaid_k24_alike_places.Holds := by
  w_on; o_law; k_head; (case hw => w_witness2)
  k_fill
  refine PY.law_endN (gn := PY.gnL) (l := PySem.Challenge.rw_howeverlaid_k24_alike_places) (L := K24.fns) (j := 27) (n := 20) (dl := K24.d27) rfl rfl ⟨rfl, by decide, by decide⟩ (fun w h Y => PySem.W.kIn_of Y) K24.oks rfl (by decide +kernel) rfl K24.run ?F
  case F =>
    intro w mg fa h KX G hmg
    refine ⟨?A, ?B, ?G⟩
    case A =>
      refine' And.intro (PY.one_fn (d := K24.d0) ?a0 ?l0 ?c0 ?k0) ?r0; (case a0 => k_is); (case l0 => k_is); (case c0 => k_is); (case k0 => k_is)
      refine' And.intro (PY.one_fn (d := K24.d1) ?a1 ?l1 ?c1 ?k1) ?r1; (case a1 => k_is); (case l1 => k_is); (case c1 => k_is); (case k1 => k_is)
      refine' And.intro (PY.one_fn (d := K24.d2) ?a2 ?l2 ?c2 ?k2) ?r2; (case a2 => k_is); (case l2 => k_is); (case c2 => k_is); (case k2 => k_is)
      refine' And.intro (PY.one_fn (d := K24.d3) ?a3 ?l3 ?c3 ?k3) ?r3; (case a3 => k_is); (case l3 => k_is); (case c3 => k_is); (case k3 => k_is)
      refine' And.intro (PY.one_fn (d := K24.d4) ?a4 ?l4 ?c4 ?k4) ?r4; (case a4 => k_is); (case l4 => k_is); (case c4 => k_is); (case k4 => k_is)
      refine' And.intro (PY.one_fn (d := K24.d5) ?a5 ?l5 ?c5 ?k5) ?r5; (case a5 => k_is); (case l5 => k_is); (case c5 => k_is); (case k5 => k_is)
      refine' And.intro (PY.one_fn (d := K24.d6) ?a6 ?l6 ?c6 ?k6) ?r6; (case a6 => k_is); (case l6 => k_is); (case c6 => k_is); (case k6 => k_is)
      refine' And.intro (PY.one_fn (d := K24.d7) ?a7 ?l7 ?c7 ?k7) ?r7; (case a7 => k_is); (case l7 => k_is); (case c7 => k_is); (case k7 => k_is)
      refine' And.intro (PY.one_fn (d := K24.d8) ?a8 ?l8 ?c8 ?k8) ?r8; (case a8 => k_is); (case l8 => k_is); (case c8 => k_is); (case k8 => k_is)
      refine' And.intro (PY.one_fn (d := K24.d9) ?a9 ?l9 ?c9 ?k9) ?r9; (case a9 => k_is); (case l9 => k_is); (case c9 => k_is); (case k9 => k_is)
      refine' And.intro (PY.one_fn (d := K24.d10) ?a10 ?l10 ?c10 ?k10) ?r10; (case a10 => k_is); (case l10 => k_is); (case c10 => k_is); (case k10 => k_is)
      refine' And.intro (PY.one_fn (d := K24.d11) ?a11 ?l11 ?c11 ?k11) ?r11; (case a11 => k_is); (case l11 => k_is); (case c11 => k_is); (case k11 => k_is)
      refine' And.intro (PY.one_fn (d := K24.d12) ?a12 ?l12 ?c12 ?k12) ?r12; (case a12 => k_is); (case l12 => k_is); (case c12 => k_is); (case k12 => k_is)
      refine' And.intro (PY.one_fn (d := K24.d13) ?a13 ?l13 ?c13 ?k13) ?r13; (case a13 => k_is); (case l13 => k_is); (case c13 => k_is); (case k13 => k_is)
      refine' And.intro (PY.one_fn (d := K24.d14) ?a14 ?l14 ?c14 ?k14) ?r14; (case a14 => k_is); (case l14 => k_is); (case c14 => k_is); (case k14 => k_is)
      refine' And.intro (PY.one_fn (d := K24.d15) ?a15 ?l15 ?c15 ?k15) ?r15; (case a15 => k_is); (case l15 => k_is); (case c15 => k_is); (case k15 => k_is)
      refine' And.intro (PY.one_fn (d := K24.d16) ?a16 ?l16 ?c16 ?k16) ?r16; (case a16 => k_is); (case l16 => k_is); (case c16 => k_is); (case k16 => k_is)
      refine' And.intro (PY.one_fn (d := K24.d17) ?a17 ?l17 ?c17 ?k17) ?r17; (case a17 => k_is); (case l17 => k_is); (case c17 => k_is); (case k17 => k_is)
      refine' And.intro (PY.one_fn (d := K24.d18) ?a18 ?l18 ?c18 ?k18) ?r18; (case a18 => k_is); (case l18 => k_is); (case c18 => k_is); (case k18 => k_is)
      refine' And.intro (PY.one_fn (d := K24.d19) ?a19 ?l19 ?c19 ?k19) ?r19; (case a19 => k_is); (case l19 => k_is); (case c19 => k_is); (case k19 => k_is)
      refine' And.intro (PY.one_fn (d := K24.d20) ?a20 ?l20 ?c20 ?k20) ?r20; (case a20 => k_is); (case l20 => k_is); (case c20 => k_is); (case k20 => k_is)
      refine' And.intro (PY.one_fn (d := K24.d21) ?a21 ?l21 ?c21 ?k21) ?r21; (case a21 => k_is); (case l21 => k_is); (case c21 => k_is); (case k21 => k_is)
      refine' And.intro (PY.one_fn (d := K24.d22) ?a22 ?l22 ?c22 ?k22) ?r22; (case a22 => k_is); (case l22 => k_is); (case c22 => k_is); (case k22 => k_is)
      refine' And.intro (PY.one_fn (d := K24.d23) ?a23 ?l23 ?c23 ?k23) ?r23; (case a23 => k_is); (case l23 => k_is); (case c23 => k_is); (case k23 => k_is)
      refine' And.intro (PY.one_fn (d := K24.d24) ?a24 ?l24 ?c24 ?k24) ?r24; (case a24 => k_is); (case l24 => k_is); (case c24 => k_is); (case k24 => k_is)
      refine' And.intro (PY.one_fn (d := K24.d25) ?a25 ?l25 ?c25 ?k25) ?r25; (case a25 => k_is); (case l25 => k_is); (case c25 => k_is); (case k25 => k_is)
      refine' And.intro (PY.one_fn (d := K24.d26) ?a26 ?l26 ?c26 ?k26) ?r26; (case a26 => k_is); (case l26 => k_is); (case c26 => k_is); (case k26 => k_is)
      refine' And.intro (PY.one_fn (d := K24.d27) ?a27 ?l27 ?c27 ?k27) ?r27; (case a27 => k_is); (case l27 => k_is); (case c27 => k_is); (case k27 => k_is)
      exact True.intro
    case B =>
      refine' And.intro ?z0 ?y0; (case z0 => k_is)
      refine' And.intro ?z1 ?y1; (case z1 => k_is)
      refine' And.intro ?z2 ?y2; (case z2 => k_is)
      refine' And.intro ?z3 ?y3; (case z3 => k_is)
      refine' And.intro ?z4 ?y4; (case z4 => k_is)
      refine' And.intro ?z5 ?y5; (case z5 => k_is)
      refine' And.intro ?z6 ?y6; (case z6 => k_is)
      refine' And.intro ?z7 ?y7; (case z7 => k_is)
      refine' And.intro ?z8 ?y8; (case z8 => k_is)
      refine' And.intro ?z9 ?y9; (case z9 => k_is)
      refine' And.intro ?z10 ?y10; (case z10 => k_is)
      refine' And.intro ?z11 ?y11; (case z11 => k_is)
      refine' And.intro ?z12 ?y12; (case z12 => k_is)
      refine' And.intro ?z13 ?y13; (case z13 => k_is)
      refine' And.intro ?z14 ?y14; (case z14 => k_is)
      refine' And.intro ?z15 ?y15; (case z15 => k_is)
      refine' And.intro ?z16 ?y16; (case z16 => k_is)
      refine' And.intro ?z17 ?y17; (case z17 => k_is)
      refine' And.intro ?z18 ?y18; (case z18 => k_is)
      exact True.intro
    case G =>
      exact fun e => absurd e (by decide +kernel)
#print axioms PySem.Challenge.cw_howeverlaid_k24_alike_places_holds

