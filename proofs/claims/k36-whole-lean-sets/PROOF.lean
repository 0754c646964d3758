import PyProof.Rows.All
import Wide.All
import OpenK.AllK
import Wide.FinOn
import HandS.ForMost
import HandS.Walk
import HandS.More
import HandS.Sort
import HandS.TupAny
import HandS.TupLen
import HandS.Conv
import HandS.Deep
import HandS.IsInst
import HandS.Style
import HandS.Rev
import HandS.RevTup
import HandS.Wide
import HandS.Text
import KE.KDictSum
import HandS.Evl
import PySem.Challenge.RW_manyleaves_k36_whole_lean_sets
set_option Elab.async false
set_option linter.all false
set_option maxRecDepth 100000
set_option maxHeartbeats 4000000
/-! rules that the layer lacks -/
namespace ML
open PySem PySem.Spec PyProof.Rows L2
section
variable {X : Cx}
/-- sorted(d), d a dict whose keys are pairs of ints: a new list of the keys' own tuples, in some order -/
theorem call_sortedDT (hc : X.calm = true) : CallR X (.builtin "sorted") (fun xs H Q => ∃ (d : Addr) (kvs : List (List Key × V)), xs = [V.ref d] ∧ Rd H d (.dT kvs) ∧
    (∀ p ∈ kvs, ∃ i j : Int, p.1 = [Sum.inl i, Sum.inl j]) ∧ ∀ (p : Addr) (bs cs : List Addr), H p = none → IsKeys H kvs bs → cs.Perm bs → Q (.ref p) (upd H p (.lst (cs.map V.ref)))) := by
  intro pins s σ H xs us Q I r h
  obtain ⟨d, kvs, rfl, hd, hpair, q⟩ := h
  obtain ⟨u, rfl, rx⟩ := r.one
  cases rx
  obtain ⟨z, hs, ks, pr, o, es, ep, ho, hx, hdt, he, hn⟩ := (show ObjOk X.prog X.w H s.heap d (.dT kvs) from hd.ok I.hok)
  have l1 : es.size = ks.length := size_of_entries he
  have l2 : kvs.length = ks.length := Paired.length pr
  refine Calls.call_function_entry PyProof.Rows.kind_sorted PyProof.Rows.plain_sorted PyProof.Rows.entry_sorted (PyProof.Rows.args_sorted1 _) ?_
  unfold Builtin.«sorted»
  refine wpAny_bind (m := checkCount "sorted" 1 1 _) (wpAny_pure ?_)
  refine wpAny_bind (PySem.W.kdu_collect (A := X.A.in1) (kdl_raw hs hx hdt) (I.ok.hd hc) ho (by omega) fun h' tk acc' kp it => ?_)
  have ea : acc'.toList = ks.map fun x => Value.ref x.2.1 := by
    have hl : acc'.toList.length = ks.length := by rw [Array.length_toList, it.1]; exact l1
    apply List.ext_getElem?
    intro j
    rw [List.getElem?_map]
    cases hj : acc'.toList[j]? with
    | none =>
      have h1 := List.getElem?_eq_none_iff.mp hj
      rw [List.getElem?_eq_none (by omega)]
      all_goals rfl
    | some v =>
      obtain ⟨en, hen, hv⟩ := it.2 j v (by rw [← Array.getElem?_toList]; exact hj)
      have qe := entry_at he j
      rw [hen] at qe
      cases hb : ks[j]? with
      | none =>
        rw [hb] at qe
        exact nomatch (show some en = none from qe)
      | some b =>
        rw [hb] at qe
        have e2 : en = entryOfKey (tupleKind (mixKind X.prog X.w)) b := Option.some.inj qe
        rw [hv, e2]
        all_goals rfl
  have eb : acc'.toList = (ks.map fun x => x.2.1).map Value.ref := by rw [ea, List.map_map]; all_goals rfl
  have I1 : Inv X pins σ H { s with heap := h', toks := tk } := I.kept kp
  have hlen : acc'.toList.length ≤ sizeLine := by
    rw [eb, List.length_map, List.length_map]; omega
  refine wpAny_bind (wpAny_newList ?_ hlen)
  have hoL : (h'.push (seqObj "list" acc'.toList.toArray 0)).get? h'.objs.size = some (seqObj "list" acc'.toList.toArray 0) := Heap.get?_push_size _ rfl
  show wpAny _ _ _ _ _ { s with heap := h'.push (seqObj "list" acc'.toList.toArray 0), toks := tk }
  have hprs : ∀ v ∈ acc'.toList, ∃ x y, Srt.IsPair (h'.push (seqObj "list" acc'.toList.toArray 0)) v x y := by
    intro v hv
    rw [eb] at hv
    obtain ⟨b, hb, rfl⟩ := List.mem_map.mp hv
    obtain ⟨w, hw, rfl⟩ := List.mem_map.mp hb
    obtain ⟨j, hj⟩ := List.getElem?_of_mem hw
    have hjl : j < kvs.length := by
      have := (List.getElem?_eq_some_iff.mp hj).1
      omega
    have hpr : ∀ {l₁ : List (List Key × V)} {l₂ : List (List Key × Addr × Value)}, Paired (fun (p : List Key × V) (q : List Key × Addr × Value) => p.1 = q.1 ∧ H q.2.1 = some (.tup (p.1.map kV)) ∧ RelV p.2 q.2.2) l₁ l₂ → ∀ w ∈ l₂, ∃ p ∈ l₁, H w.2.1 = some (.tup (p.1.map kV)) := by
      intro l₁ l₂ hp
      induction hp with
      | nil => intro w hw; exact absurd hw (by simp)
      | cons a b ih =>
        intro w hw
        rcases List.mem_cons.mp hw with e | hw
        · subst e
          exact ⟨_, List.mem_cons_self, a.2.1⟩
        · obtain ⟨p, hp, e⟩ := ih w hw
          exact ⟨p, List.mem_cons_of_mem _ hp, e⟩
    obtain ⟨p, hp, e⟩ := hpr pr w hw
    obtain ⟨i, j, ek⟩ := hpair p hp
    rw [ek] at e
    have e' : H w.2.1 = some (.tup [.int i, .int j]) := e
    obtain ⟨_, its2, r2, o2, ho2, hc2, n2, hd2⟩ := (show ObjOk X.prog X.w H h' w.2.1 (.tup [.int i, .int j]) from I1.hok _ _ e')
    obtain ⟨u1, u2, rfl, ri, rj⟩ := vals2 r2
    obtain ⟨t1, rfl⟩ := ri
    obtain ⟨t2, rfl⟩ := rj
    exact ⟨i, j, w.2.1, o2, t1, t2, n2, rfl, Heap.get?_push_of_some _ ho2, hc2, hd2⟩
  refine wpAny_bind (wpAny_holding (wpAny_call_entry PyProof.Rows.slot_list_sort ⟨_, hoL, rfl⟩ PyProof.Rows.entry_list_sort
    (Srt.list_sort_any (s := { s with heap := h'.push (seqObj "list" acc'.toList.toArray 0), toks := tk }) hoL hlen (fun h2 => Srt.pairs_sortable (by omega) hprs fun o e => ?_) fun out hperm => ⟨_, rfl, ?_⟩) (PyProof.Rows.args_list_sort _)))
  · have e' : some o = some (seqObj "list" acc'.toList.toArray 0) := e.symm.trans hoL
    cases e'
    intro c
    exact absurd (Value.type.inj c) (by decide)
  · obtain ⟨e', he'⟩ := PyProof.Rows.sortedHeap_at (vs := acc'.toList) (out := out.toArray) hoL
    have hout : ∀ u ∈ out, ∃ a, u = Value.ref a := fun u hu => by
      have := hperm.mem_iff.mp hu
      rw [eb] at this
      obtain ⟨b, _, rfl⟩ := List.mem_map.mp this
      exact ⟨b, rfl⟩
    have hex : ∀ {out : List Value}, (∀ u ∈ out, ∃ a, u = Value.ref a) → ∃ cs : List Addr, out = cs.map Value.ref := by
      intro out
      induction out with
      | nil => intro _; exact ⟨[], rfl⟩
      | cons u out ih =>
        intro hm
        obtain ⟨a, rfl⟩ := hm u List.mem_cons_self
        obtain ⟨cs, rfl⟩ := ih fun u hu => hm u (List.mem_cons_of_mem _ hu)
        exact ⟨a :: cs, rfl⟩
    obtain ⟨cs, rfl⟩ := hex hout
    have hcs : cs.Perm (ks.map fun x => x.2.1) := by
      have h3 : ((cs.map Value.ref).map backV).Perm (((ks.map fun x => x.2.1).map Value.ref).map backV) := by rw [← eb]; exact hperm.map _
      have e1 : ∀ l : List Addr, (l.map Value.ref).map backV = l.map V.ref := fun l => by rw [List.map_map]; rfl
      rw [e1, e1] at h3
      have h4 := h3.map (fun v => match v with | V.ref a => a | _ => 0)
      rw [List.map_map, List.map_map] at h4
      have e2 : ∀ l : List Addr, l.map ((fun v => match v with | V.ref a => a | _ => 0) ∘ V.ref) = l := fun l => by
        rw [show ((fun v => match v with | V.ref a => a | _ => 0) ∘ V.ref) = (id : Addr → Addr) from rfl, List.map_id]
      rw [e2, e2] at h4
      exact h4
    have hz2 : (cs.map V.ref).length ≤ sizeLine := by
      rw [List.length_map, hcs.length_eq, List.length_map]; omega
    refine wpAny_pure ⟨_, rfl, .ref h'.objs.size, upd H h'.objs.size (.lst (cs.map V.ref)), I1.laid (t' := tk) (fun b u e => ?_) (Nat.le_refl _) ?_, rfl, q _ _ _ (I1.hok.fresh (Nat.le_refl _)) (isKeys_of pr) hcs⟩
    · have hb : b < h'.objs.size := Heap.lt_size e
      rw [PyProof.Rows.sortedHeap_old (Nat.ne_of_lt hb) (by rw [size_push']; exact Nat.lt_succ_of_lt hb)]
      exact Heap.get?_push_of_some _ e
    · exact ⟨hz2, cs.map Value.ref, e', vals_refs _, he'⟩
end
end ML
namespace PySem
open RT
section
variable {prog : Program} {w : World} {A : Around} {E : Value → Shared → Prop} {s : Shared}
theorem ml_rev_init {it l : Addr} {items : Array Value} {R : Result → Shared → Prop} (hh : A.handled = none) (hit : s.heap.IsRevIter it l ((items.size : Int) - 1)) (hl : s.heap.IsList l items) (hne : l ≠ it) (hn : items.size ≤ sizeLine)
    (S : Addr) (hSi : S ≠ it) (hSl : S ≠ l) (hS : s.heap.get? S = some { cls := .type "list", data := .seq #[] })
    (hR : ∀ h' tk acc' c', (∀ b o, b ≠ S → b ≠ it → s.heap.get? b = some o → h'.get? b = some o) → h'.get? S = some { cls := .type "list", dict := none, data := .seq acc' c', slots := #[] } → ItemsOf (fun i v => items[items.size - 1 - i]? = some v) acc' items.size → R (.ok (.ret .none)) { s with heap := h', toks := tk }) :
    wpAny (model prog w) A.in1 (Builtin.«list.__init__» ⟨[.ref S, .ref it], []⟩)
      (fun fin s' => match fin with | .done f => R (.ok f) s' | .again c' => c'.quiet = true ∧ codeAny (model prog w) A c' R s') (fun e s' => R (.error e) s') s := by
  show wpAny _ _ (do let old ← Builtin.List.listItems (.ref S); Builtin.List.listUpdate (.ref S) (fun _ => #[]); letGo old.toList.reverse; Builtin.List.listExtendWith (.ref S) (.ref it) .none) _ _ s
  refine wpAny_bind ?_
  unfold Builtin.List.listItems
  refine wpAny_bind (wpAny_seqItems hS rfl (wpAny_pure ?_))
  show wpAny _ _ (updateSeq S (fun _ => #[]) >>= fun _ => letGo (#[] : Array Value).toList.reverse >>= fun _ => Builtin.List.listExtendWith (.ref S) (.ref it) .none) _ _ s
  refine wpAny_bind (wpAny_updateSeq hS rfl ?_)
  have hS₂ := Heap.get?_update_self (Obj.mapSeq (fun _ => (#[] : Array Value))) hS rfl
  have oth : ∀ b o, b ≠ S → s.heap.get? b = some o → (s.heap.update S (Obj.mapSeq (fun _ => (#[] : Array Value)))).get? b = some o :=
    fun b o hb e => (Heap.get?_update_other _ _ (Ne.symm hb)).trans e
  refine wpAny_bind (wpAny_letGo ?_)
  have W := (Walks.listRev (prog := prog) (w := w) (A := A.in1) hh it l hne items).toS
  have hSf : S ∉ [it, l] := by simp only [List.mem_cons, List.not_mem_nil, or_false, not_or]; exact ⟨hSi, hSl⟩
  have hit1 : (s.heap.update S (Obj.mapSeq (fun _ => (#[] : Array Value)))).IsRevIter it l ((items.size : Int) - 1) := hit.at fun o e => oth _ _ hSi.symm e
  obtain ⟨ol, hol, hcl, hdl⟩ := id hl
  have hl1 : (s.heap.update S (Obj.mapSeq (fun _ => (#[] : Array Value)))).IsList l items := ⟨ol, oth _ _ hSl.symm hol, hcl, hdl⟩
  have hT : ({ s with heap := s.heap.update S (Obj.mapSeq (fun _ => (#[] : Array Value))) } : Shared).TypeIs (.ref it) "list_reverseiterator" := Heap.IsRevIter.typeIs (s := { s with heap := s.heap.update S (Obj.mapSeq (fun _ => (#[] : Array Value))) }) hit1
  have h1 : Builtin.List.listSameRef (.ref S) (.ref it) = false := by simp [Builtin.List.listSameRef, hSi]
  unfold Builtin.List.listExtendWith
  refine wpAny_bind (wpAny_typeOf hT ?_)
  rw [if_neg (by rw [h1]; decide)]
  refine wpAny_bind (wpAny_pyIter_revIter (s := { s with heap := s.heap.update S (Obj.mapSeq (fun _ => (#[] : Array Value))) }) hit1 ?_)
  refine wpAny_bind (wpAny_holding ?_)
  unfold Builtin.List.listLengthHint
  refine wpAny_bind (wpAny_specialOf hT nolen_lri ?_)
  show wpAny _ A.in1 (specialOf (Value.ref it) (Str.ofString "__length_hint__") >>= _) _ _ _
  refine wpAny_bind (wpAny_specialOf hT hint_lri ?_)
  generalize hid : ("list_reverseiterator.__length_hint__" : String) = id0
  wp_delta
  rw [show splitId id0 = some ("list_reverseiterator", "__length_hint__") from by subst hid; decide +kernel]
  subst hid
  refine wpAny_bind (wpAny_isInstance (b := true) hT (by rw [isSubtype_type]; kernel_rfl) ?_)
  refine wpAny_pure ?_
  rw [if_neg (by decide)]
  have e0 : ((items.size : Nat) : Int) - 1 - ((0 : Nat) : Int) = (items.size : Int) - 1 := by omega
  refine wpAny_pure ⟨plainId_quiet F.plain_extend_loop _, codeAny_extend_loopS W hn _ hSf _ items.size 0 _ _ _ rfl (Nat.zero_le _) ⟨Nat.zero_le _, by rw [e0]; exact hit1, hl1⟩ hS₂ (ItemsOf.nil _) fun s' acc' c' hm hS' hacc => ?_⟩
  rw [Moved.eq_with hm]
  refine hR s'.heap s'.toks acc' c' (fun b o hb hbi e => hm.heap b o (fun hmem => ?_) (oth b o hb e)) hS' hacc
  rcases List.mem_cons.mp hmem with e' | hmem
  · exact hb e'
  · exact hbi (List.mem_singleton.mp hmem)
theorem ml_list_rev {it l : Addr} {items : Array Value} {Q : Value → Shared → Prop} (hh : A.handled = none) (hit : s.heap.IsRevIter it l ((items.size : Int) - 1)) (hl : s.heap.IsList l items) (hne : l ≠ it) (hn : items.size ≤ sizeLine)
    (hQ : ∀ h' tk acc' c', (∀ b o, b ≠ it → s.heap.get? b = some o → h'.get? b = some o) → h'.get? s.heap.objs.size = some { cls := .type "list", dict := none, data := .seq acc' c', slots := #[] } → ItemsOf (fun i v => items[items.size - 1 - i]? = some v) acc' items.size → Q (.ref s.heap.objs.size) { s with heap := h', toks := tk }) :
    wpAny (model prog w) A (call (.type "list") [.ref it]) Q E s := by
  refine callType_codes (Q₁ := fun obj s₁ => obj = .ref s.heap.objs.size ∧ s₁ = { s with heap := s.heap.push { cls := .type "list", data := .seq #[] } }) PySem.F.called_list (PySem.F.typeCall_list_1 _) PySem.F.entry_list_init
    (code_list_new _ ⟨rfl, rfl⟩) fun obj s₁ h₁ => ?_
  obtain ⟨rfl, rfl⟩ := h₁
  have hS : (s.heap.push { cls := .type "list", data := .seq #[] }).get? s.heap.objs.size = some { cls := .type "list", data := .seq #[] } := Heap.get?_push_size _ rfl
  obtain ⟨oi, hoi, _⟩ := id hit
  obtain ⟨ol, hol, _⟩ := id hl
  refine ⟨⟨_, hS, rfl⟩, PySem.F.args_list_init_2 _ _, ml_rev_init (A := A.in1) hh (hit.at fun o e => Heap.get?_push_of_some _ e) (hl.push _) hne hn _ (Nat.ne_of_gt (Heap.lt_size hoi)) (Nat.ne_of_gt (Heap.lt_size hol)) hS (fun h' tk acc' c' hk hS' hacc => ?_)⟩
  exact ⟨rfl, hQ h' tk acc' c' (fun b o hbi e => hk b o (Nat.ne_of_lt (Heap.lt_size e)) hbi (Heap.get?_push_of_some _ e)) hS' hacc⟩
end
end PySem
namespace ML
open PySem PySem.Spec PyProof.Rows L2 RT
section
variable {X : Cx}
/-- list(reversed(xs)), xs a list: a new list -/
def tLstRev (K : PySem.W.Frag) (te : TE) : TE := fun σ H Q => te σ H fun v H1 => ∃ (a : Addr) (xs : List V), v = .ref a ∧ SqL K H1 a xs ∧ ∀ q, H1 q = none → Q (.ref q) (upd H1 q (.lst xs.reverse))
theorem pe_lstRev {e : Expr} {te : TE} {p p2 pos pos2 : Pos} (hc : X.calm = true) (hg : Gl X "list") (hm : X.mg "list" = none) (hg2 : Gl X "reversed") (hm2 : X.mg "reversed" = none) (he : PE X e te)
    (hs : starEach [e] X.env = (false, eval e X.env) :: starEach [] X.env := by rfl)
    (hs2 : starEach [.Call (.Name "reversed" p2) [e] [] pos2] X.env = (false, eval (.Call (.Name "reversed" p2) [e] [] pos2) X.env) :: starEach [] X.env := by rfl) :
    PE X (.Call (.Name "list" p) [.Call (.Name "reversed" p2) [e] [] pos2] [] pos) (tLstRev X.K te) := by
  refine ⟨fun pins s σ H Q I h => ?_⟩
  refine Call_ (ld_blt I hg hm boot_list (PyProof.Rows.callWith_type1 (args_cons (Call_ (ld_blt I hg2 hm2 PyProof.Rows.boot_reversed (PyProof.Rows.callWith_type1 (args_cons (thn (he.run pins s σ H _ I h) fun u s1 ⟨v, H1, I1, r1, q1⟩ => args_nil ?_) hs) hs rfl))) hs2) hs2 rfl))
  obtain ⟨a, xs, ev, hq, q⟩ := q1
  subst ev
  obtain rfl : u = Value.ref a := r1
  obtain ⟨its, rv, p', hz⟩ := I1.list hq
  refine call_reversed_list p'.isList (args_nil ?_)
  have k0 : ∀ b o, s1.heap.get? b = some o → (s1.heap.push (revObj a ((its.toArray.size : Int) - 1))).get? b = some o := fun b o e => Heap.get?_push_of_some _ e
  have I2 : Inv X pins σ H1 { s1 with heap := s1.heap.push (revObj a ((its.toArray.size : Int) - 1)) } := I1.kept (t' := s1.toks) k0
  obtain ⟨f0, f1, f2, f3, f4, f5⟩ := I1.fpOk (H' := H1) (b := s1.heap.objs.size) (Nat.le_refl _) (I1.hok.fresh (Nat.le_refl _))
  have hl := p'.isList
  obtain ⟨ol, hol, _⟩ := id hl
  have hne : a ≠ s1.heap.objs.size := Nat.ne_of_lt (Heap.lt_size hol)
  have hn : its.toArray.size ≤ sizeLine := by rw [List.size_toArray, ← rv.length]; exact hz
  refine ml_list_rev (s := { s1 with heap := s1.heap.push (revObj a ((its.toArray.size : Int) - 1)) }) (I1.ok.hd hc) ⟨_, Heap.get?_push_size _ rfl, rfl, rfl⟩ (hl.push _) hne hn fun h' tk acc c' hk hS hi => ?_
  have k1 : ∀ b o, s1.heap.get? b = some o → h'.get? b = some o := fun b o e => hk b o (Nat.ne_of_lt (Heap.lt_size e)) (k0 b o e)
  have hp : s1.heap.objs.size ≤ (s1.heap.push (revObj a ((its.toArray.size : Int) - 1))).objs.size := by rw [size_push']; exact Nat.le_succ _
  refine ⟨.ref (s1.heap.push (revObj a ((its.toArray.size : Int) - 1))).objs.size, upd H1 (s1.heap.push (revObj a ((its.toArray.size : Int) - 1))).objs.size (.lst xs.reverse), I1.laid (t' := tk) k1 hp
    (show ObjOk X.prog X.w _ _ _ (.lst xs.reverse) from ⟨by rw [List.length_reverse]; exact hz, acc.toList, c', vals_rev rv hi, by rw [Array.toArray_toList]; exact hS⟩), rfl, q _ (I1.hok.fresh hp)⟩
end
end ML
namespace HT
open PySem PySem.Spec PyProof.Rows L2
section
variable {prog : Program} {w : World} {A : Around} {E : Value → Shared → Prop} {s : Shared}
theorem ml_sliceApplied_rev {sl : Addr} {vl vu vs : Value} {n : Nat} {Q : Int × Int × Nat → Shared → Prop} (hs : s.heap.IsSliceOf sl vl vu vs) (pl : IsPart vl none) (pu : IsPart vu none) (ps : IsPart vs (some (-1)))
    (h : Q ((n : Int) - 1, -1, n) s) : wpAny (model prog w) A (Builtin.Slice.sliceApplied (.ref sl) (pure (n : Int))) Q E s := by
  obtain ⟨os, hos, hcs, hds⟩ := id hs
  unfold Builtin.Slice.sliceApplied Builtin.Slice.sliceFields
  refine wpAny_bind (wpAny_bind (wpAny_field hos hds (x := vl) rfl (wpAny_bind (wpAny_field hos hds (x := vu) rfl (wpAny_bind (wpAny_field hos hds (x := vs) rfl (wpAny_pure ?_)))))))
  refine wpAny_bind (slicePart_ ps ?_)
  show wpAny _ _ (if ((-1 : Int) == 0) = true then _ else _) _ _ s
  rw [if_neg (by decide)]
  refine wpAny_bind (slicePart_ pl (wpAny_bind (slicePart_ pu (wpAny_bind (wpAny_pure ?_)))))
  show wpAny _ _ (match Builtin.Slice.sliceAdjust none none (-1) (n : Int) with | (lo, hi) => pure (lo, (-1 : Int), Builtin.Slice.slicePlaces lo hi (-1))) _ _ s
  have e1 : Builtin.Slice.sliceAdjust none none (-1) (n : Int) = ((n : Int) - 1, -1) := by
    unfold Builtin.Slice.sliceAdjust
    simp
  rw [e1]
  show wpAny _ _ (pure ((n : Int) - 1, (-1 : Int), Builtin.Slice.slicePlaces ((n : Int) - 1) (-1) (-1))) _ _ s
  have e2 : Builtin.Slice.slicePlaces ((n : Int) - 1) (-1) (-1) = n := by
    unfold Builtin.Slice.slicePlaces
    have h1 : ¬ ((-1 : Int) > 0) := by omega
    simp only [h1, if_false, Int.neg_neg, Int.ediv_one]
    split <;> omega
  rw [e2]
  exact wpAny_pure h
theorem ml_pick_rev (xs : Array Value) : ((List.range xs.size).filterMap fun (m : Nat) => xs[(((xs.size : Nat) : Int) - 1 + (m : Int) * (-1)).toNat]?).toArray = xs.toList.reverse.toArray := by
  have h : ((List.range xs.size).filterMap fun (m : Nat) => xs[(((xs.size : Nat) : Int) - 1 + (m : Int) * (-1)).toNat]?) = xs.toList.reverse := by
    have e : ∀ l : List Nat, (∀ m ∈ l, m < xs.size) → (l.filterMap fun (m : Nat) => xs[(((xs.size : Nat) : Int) - 1 + (m : Int) * (-1)).toNat]?) = l.filterMap fun m => xs.toList.reverse[m]? := by
      intro l
      induction l with
      | nil => intro _; rfl
      | cons m l ih =>
        intro hm
        have hml := hm m List.mem_cons_self
        have e1 : xs[(((xs.size : Nat) : Int) - 1 + (m : Int) * (-1)).toNat]? = xs.toList.reverse[m]? := by
          rw [List.getElem?_reverse (by rw [Array.length_toList]; exact hml), Array.getElem?_toList, Array.length_toList]
          congr 1
          omega
        rw [List.filterMap_cons, List.filterMap_cons, e1, ih fun k hk => hm k (List.mem_cons_of_mem _ hk)]
    rw [e _ fun m hm => List.mem_range.mp hm]
    have e2 : ∀ (l : List Value), (List.range l.length).filterMap (fun m => l[m]?) = l := by
      intro l
      induction l with
      | nil => rfl
      | cons a l ih =>
        rw [List.length_cons, List.range_succ_eq_map, List.filterMap_cons]
        show a :: ((List.range l.length).map Nat.succ).filterMap (fun m => (a :: l)[m]?) = a :: l
        rw [List.filterMap_map]
        have : ((fun m => (a :: l)[m]?) ∘ Nat.succ) = fun m => l[m]? := by funext m; rfl
        rw [this, ih]
    have h3 := e2 xs.toList.reverse
    rw [List.length_reverse, Array.length_toList] at h3
    exact h3
  rw [h]
theorem ml_getItem_tuple_rev {t sl : Addr} {items : Array Value} {vl vu vs : Value} {Q : Value → Shared → Prop} (ht : IsTup s.heap t items) (hs : s.heap.IsSliceOf sl vl vu vs) (pl : IsPart vl none) (pu : IsPart vu none) (ps : IsPart vs (some (-1)))
    (h : Q (.ref s.heap.objs.size) { s with heap := s.heap.push { cls := .type "tuple", data := .seq items.toList.reverse.toArray } })
    (hsz : items.size ≤ sizeLine) : wpAny (model prog w) A (getItem (.ref t) (.ref sl)) Q E s := by
  have htake : sizeOk (.seq items.toList.reverse.toArray) := by
    show items.toList.reverse.toArray.size ≤ sizeLine
    rw [List.size_toArray, List.length_reverse, Array.length_toList]
    exact hsz
  obtain ⟨os, hos, hcs, hds⟩ := id hs
  have hTs : s.TypeIs (.ref sl) "slice" := ⟨os, hos, hcs⟩
  unfold getItem
  try with_reducible refine wpAny_holding ?_
  first | refine wpAny_bind (wpAny_pure ?_) | skip
  refine wpAny_bind (wpAny_sequenceKey ht.typeIs (by decide) ?_)
  refine wpAny_bind (wpAny_callSpecial?_slot (name := Str.ofString "__getitem__") ht.typeIs PyProof.Rows.slot_tuple_getitem
    (wpAny_call_entry PyProof.Rows.slot_tuple_getitem ht.typeIs entry_tuple_getitem ?_ (args_tuple_getitem _ _)))
  show wpAny _ _ (Builtin.Tuple.tupleItemsOf (.ref t) >>= _) _ _ s
  refine wpAny_bind (tupleItemsOf_ ht ?_)
  refine wpAny_bind (wpAny_typeOf hTs ?_)
  rw [if_pos (by decide)]
  refine wpAny_bind (ml_sliceApplied_rev hs pl pu ps ?_)
  have hno : ¬ ((((items.size : Nat) : Int) - 1 == 0 && (-1 : Int) == 1 && items.size == items.size) = true) := by
    intro q
    rw [Bool.and_eq_true, Bool.and_eq_true] at q
    exact absurd q.1.2 (by decide)
  show wpAny _ _ (if (((items.size : Nat) : Int) - 1 == 0 && (-1 : Int) == 1 && items.size == items.size) = true then _ else _) _ _ s
  rw [if_neg hno, ml_pick_rev]
  first
    | exact wpAny_bind (m := Builtin.Tuple.tupleExact _) (wpAny_newObj_type (wpAny_pure ⟨_, rfl, wpAny_pure h⟩) htake)
    | exact wpAny_bind (m := Builtin.Tuple.tupleExact _) (wpAny_newObj_type (wpAny_bind (wpAny_pure (wpAny_pure ⟨_, rfl, wpAny_pure h⟩))) htake)
    | exact wpAny_bind (wpAny_bind (m := Builtin.Tuple.tupleExact _) (wpAny_newObj_type (wpAny_pure (wpAny_pure ⟨_, rfl, wpAny_pure h⟩)) htake))
    | exact wpAny_bind (wpAny_bind (m := Builtin.Tuple.tupleExact _) (wpAny_newObj_type (wpAny_pure ⟨_, rfl, wpAny_pure h⟩) htake))
end
end HT
namespace ML
open PySem PySem.Spec PyProof.Rows L2 RT
section
variable {X : Cx}
/-- t[::-1], t a tuple -/
def tRevT (K : PySem.W.Frag) (te : TE) : TE := fun σ H Q => te σ H fun x H1 => ∃ a xs, x = .ref a ∧ SqT K H1 a xs ∧ ∀ p, H1 p = none → Q (.ref p) (upd H1 p (.tup xs.reverse))
theorem pe_revT {e : Expr} {te : TE} {k : Nat} {p1 p2 p3 pos : Pos} (he : PE X e te) : PE X (.Subscript e (.Slice none none (some (.UnaryOp .USub (.Constant (.int 1) k p1) p2)) p3) pos) (tRevT X.K te) := by
  refine ⟨fun pins s σ H Q I h => ?_⟩
  refine Subscript_ (thn (he.run pins s σ H _ I h) fun v s1 ⟨x, H1, I1, r1, q1⟩ => ?_)
  obtain ⟨a, xs, ex, hx, q⟩ := q1
  subst ex
  cases r1
  have hst : PO X (some (.UnaryOp .USub (.Constant (.int 1) k p1) p2)) (tPart (tUn (rU fun i => .int (-i)) (tC (.int 1)))) := po_some (pe_un un_neg pe_int)
  refine wpAny_Slice (thn (po_none.run pins s1 σ H1 (fun o H2 => o = none ∧ H2 = H1) I1 ⟨rfl, rfl⟩) fun vl s2 ⟨l, H2, I2, pl, el, e2⟩ => ?_)
  subst el e2
  refine thn (po_none.run pins s2 σ H2 (fun o H3 => o = none ∧ H3 = H2) I2 ⟨rfl, rfl⟩) fun vu s3 ⟨u, H3, I3, pu, eu, e3⟩ => ?_
  subst eu e3
  refine thn (hst.run pins s3 σ H3 (fun o H4 => o = some (-1) ∧ H4 = H3) I3 ⟨1, rfl, -1, rfl, rfl, rfl⟩) fun vs s4 ⟨o, H4, I4, ps, eo, e4⟩ => ?_
  subst eo e4
  have I5 : Inv X pins σ H4 { s4 with heap := s4.heap.push { cls := .type "slice", data := .fields #[vl, vu, vs] } } := I4.kept (t' := s4.toks) fun b ob q => Heap.get?_push_of_some _ q
  obtain ⟨its, r, ht, hz⟩ := I5.tuple hx
  have hlen := r.length
  show wpAny (model X.prog X.w) X.A (subscriptTail e (.Slice none none (some (.UnaryOp .USub (.Constant (.int 1) k p1) p2)) p3) (.ref a) (.ref s4.heap.objs.size)) (EP X pins σ Q) X.xe { s4 with heap := s4.heap.push { cls := .type "slice", data := .fields #[vl, vu, vs] } }
  refine tail_any (ops := [.ref a, .ref s4.heap.objs.size]) ht.typeIs (PyProof.Rows.slot_tuple_getitem.lookup) ?_ (by with_unfolding_all rfl)
  refine HT.ml_getItem_tuple_rev ht (Heap.IsSliceOf.new _ vl vu vs) pl pu ps ?_ (by rw [List.size_toArray]; omega)
  refine ⟨.ref _, _, I5.laid (t' := s4.toks) (o := .tup xs.reverse) (fun b ob q => Heap.get?_push_of_some _ q) (Nat.le_refl _) ?_, rfl, q _ (I5.hok.fresh (Nat.le_refl _))⟩
  exact ⟨by rw [List.length_reverse]; exact hz, _, r.reverse, IsTup.new _ _⟩
end
end ML
set_option Elab.async false
set_option linter.all false
set_option maxRecDepth 100000
set_option maxHeartbeats 4000000
/-! the mathematics: webs, busy sets, lean ones, needs, trees; no program in sight -/
namespace ML
/-! ### lists -/
theorem strict_ext : ∀ {l m : List Nat}, l.Pairwise (· < ·) → m.Pairwise (· < ·) → (∀ x, x ∈ l ↔ x ∈ m) → l = m
  | [], [], _, _, _ => rfl
  | [], b :: m, _, _, h => absurd ((h b).mpr List.mem_cons_self) (by simp)
  | a :: l, [], _, _, h => absurd ((h a).mp List.mem_cons_self) (by simp)
  | a :: l, b :: m, hl, hm, h => by
    obtain ⟨h1, h2⟩ := List.pairwise_cons.mp hl
    obtain ⟨h3, h4⟩ := List.pairwise_cons.mp hm
    have e : a = b := by
      rcases List.mem_cons.mp ((h a).mp List.mem_cons_self) with e | e
      · exact e
      · rcases List.mem_cons.mp ((h b).mpr List.mem_cons_self) with e2 | e2
        · exact e2.symm
        · have := h1 b e2
          have := h3 a e
          omega
    subst e
    rw [strict_ext h2 h4 fun x => ⟨fun hx => ?_, fun hx => ?_⟩]
    · rcases List.mem_cons.mp ((h x).mp (List.mem_cons_of_mem _ hx)) with e | e
      · have := h1 x hx
        omega
      · exact e
    · rcases List.mem_cons.mp ((h x).mpr (List.mem_cons_of_mem _ hx)) with e | e
      · have := h3 x hx
        omega
      · exact e
theorem strict_of {l : List Nat} (h : l.Pairwise (· ≤ ·)) (hn : l.Nodup) : l.Pairwise (· < ·) := by
  induction l with
  | nil => exact .nil
  | cons a l ih =>
    obtain ⟨h1, h2⟩ := List.pairwise_cons.mp h
    obtain ⟨h3, h4⟩ := List.nodup_cons.mp hn
    refine List.pairwise_cons.mpr ⟨fun x hx => ?_, ih h2 h4⟩
    have := h1 x hx
    have : a ≠ x := fun e => h3 (e ▸ hx)
    omega
theorem strict_nodup {l : List Nat} (h : l.Pairwise (· < ·)) : l.Nodup := h.imp fun h => by omega
theorem range_strict (n : Nat) : (List.range n).Pairwise (· < ·) := List.pairwise_lt_range
theorem filter_strict (n : Nat) (p : Nat → Bool) : ((List.range n).filter p).Pairwise (· < ·) := (range_strict n).filter p
theorem nodup_len_le : ∀ {l m : List Nat}, l.Nodup → (∀ x ∈ l, x ∈ m) → l.length ≤ m.length
  | [], _, _, _ => Nat.zero_le _
  | a :: l, m, hn, h => by
    obtain ⟨h1, h2⟩ := List.nodup_cons.mp hn
    have ha : a ∈ m := h a List.mem_cons_self
    have ih := nodup_len_le (l := l) (m := m.erase a) h2 fun x hx => (List.mem_erase_of_ne (show x ≠ a from fun e => h1 (by rw [← e]; exact hx))).mpr (h x (List.mem_cons_of_mem _ hx))
    rw [List.length_erase_of_mem ha] at ih
    have : 0 < m.length := List.length_pos_of_mem ha
    rw [List.length_cons]
    omega
theorem nodup_len_lt {l m : List Nat} (hn : l.Nodup) (h : ∀ x ∈ l, x ∈ m) {v : Nat} (hv : v ∈ m) (hv2 : v ∉ l) : l.length < m.length :=
  nodup_len_le (l := v :: l) (List.nodup_cons.mpr ⟨hv2, hn⟩) fun x hx => by
    rcases List.mem_cons.mp hx with e | e
    · exact e ▸ hv
    · exact h x e
theorem eq_single {l : List Nat} {p : Nat} (hn : l.Nodup) : l = [p] ↔ p ∈ l ∧ ∀ u ∈ l, u = p := by
  constructor
  · rintro rfl
    exact ⟨List.mem_cons_self, fun u hu => List.mem_singleton.mp hu⟩
  · rintro ⟨h1, h2⟩
    cases l with
    | nil => exact absurd h1 (by simp)
    | cons a l =>
      have e := h2 a List.mem_cons_self
      subst e
      cases l with
      | nil => rfl
      | cons b l =>
        have e := h2 b (by simp)
        subst e
        exact absurd hn (by simp)

theorem nodup_count : ∀ {l : List Nat} {v : Nat}, l.Nodup → v ∈ l → l.count v = 1
  | [], v, _, h => absurd h (by simp)
  | a :: l, v, hn, h => by
    obtain ⟨h1, h2⟩ := List.nodup_cons.mp hn
    rcases List.mem_cons.mp h with e | e
    · subst e
      rw [List.count_cons_self, List.count_eq_zero_of_not_mem h1]
    · rw [List.count_cons_of_ne (fun e2 => h1 (by rw [e2]; exact e)), nodup_count h2 e]
theorem len_split (p : Nat → Bool) : ∀ l : List Nat, l.length = (l.filter p).length + (l.filter fun v => !p v).length
  | [] => rfl
  | a :: l => by
    have ih := len_split p l
    cases h : p a with
    | true => simp only [List.filter_cons, h, if_true, List.length_cons]; simp; omega
    | false => simp only [List.filter_cons, h, List.length_cons]; simp; omega

/-! ### webs -/
def nb (n : Nat) (adj : Nat → Nat → Bool) (v : Nat) : List Nat := (List.range n).filter (adj v)
def lot (n : Nat) (adj : Nat → Nat → Bool) (v : Nat) : List Nat := (List.range n).filter (fun u => adj v u || u == v)
theorem mem_nb {n : Nat} {adj : Nat → Nat → Bool} {v u : Nat} : u ∈ nb n adj v ↔ u < n ∧ adj v u = true := by
  unfold nb
  rw [List.mem_filter, List.mem_range]
theorem mem_lot {n : Nat} {adj : Nat → Nat → Bool} {v u : Nat} : u ∈ lot n adj v ↔ u < n ∧ (adj v u = true ∨ u = v) := by
  unfold lot
  rw [List.mem_filter, List.mem_range, Bool.or_eq_true, beq_iff_eq]
structure Web (n : Nat) (adj : Nat → Nat → Bool) : Prop where
  lo : 3 ≤ n
  hi : n ≤ 6
  sym : ∀ a b, adj a b = adj b a
  irr : ∀ a, adj a a = false
structure Rise (n : Nat) (L : List Nat) : Prop where
  up : L.Pairwise (· < ·)
  lt : ∀ v ∈ L, v < n
theorem Rise.nd {n : Nat} {L : List Nat} (h : Rise n L) : L.Nodup := strict_nodup h.up
theorem Rise.len {n : Nat} {L : List Nat} (h : Rise n L) : L.length ≤ n := by
  have := nodup_len_le h.nd (m := List.range n) fun x hx => List.mem_range.mpr (h.lt x hx)
  rw [List.length_range] at this
  exact this
theorem Rise.filter {n : Nat} {L : List Nat} (h : Rise n L) (p : Nat → Bool) : Rise n (L.filter p) := ⟨h.up.filter p, fun v hv => h.lt v (List.mem_filter.mp hv).1⟩
theorem Rise.range (n : Nat) (p : Nat → Bool) : Rise n ((List.range n).filter p) := ⟨filter_strict n p, fun v hv => List.mem_range.mp (List.mem_filter.mp hv).1⟩
theorem Rise.eq_filter {n : Nat} {L : List Nat} (h : Rise n L) : L = (List.range n).filter (fun v => decide (v ∈ L)) :=
  strict_ext h.up (filter_strict n _) fun x => by
    rw [List.mem_filter, List.mem_range, decide_eq_true_eq]
    exact ⟨fun hx => ⟨h.lt x hx, hx⟩, fun hx => hx.2⟩

/-! ### busy sets -/
def Conn (adj : Nat → Nat → Bool) (B : List Nat) : Prop :=
  B ≠ [] ∧ ∀ S : Nat → Prop, (∃ x, x ∈ B ∧ S x) → (∀ x, x ∈ B → S x → ∀ y, y ∈ B → adj x y = true → S y) → ∀ y, y ∈ B → S y
structure IsBusy (n : Nat) (adj : Nat → Nat → Bool) (B : List Nat) : Prop where
  conn : Conn adj B
  dom : ∀ v, v < n → v ∉ B → ∃ u, u ∈ B ∧ adj v u = true
def wop (B : List Nat) (p : Nat) : List Nat := B.filter (fun x => decide (x ≠ p))
theorem mem_wop {B : List Nat} {p x : Nat} : x ∈ wop B p ↔ x ∈ B ∧ x ≠ p := by
  unfold wop
  rw [List.mem_filter, decide_eq_true_eq]
def IsLean (n : Nat) (adj : Nat → Nat → Bool) (B : List Nat) : Prop := ∀ p, p ∈ B → ¬ IsBusy n adj (wop B p)
/-- the places come to from s along open ones -/
structure Piece (n : Nat) (adj : Nat → Nat → Bool) (op : Nat → Prop) (s : Nat) (R : List Nat) : Prop where
  rise : Rise n R
  start : s ∈ R
  sub : ∀ v, v ∈ R → v = s ∨ op v
  closed : ∀ v, v ∈ R → ∀ u, u < n → adj v u = true → op u → u ∈ R
  least : ∀ S : Nat → Prop, S s → (∀ v u, v ∈ R → S v → u ∈ R → adj v u = true → S u) → ∀ v, v ∈ R → S v
theorem Piece.inB {n : Nat} {adj : Nat → Nat → Bool} {B : List Nat} {s : Nat} {R : List Nat} (h : Piece n adj (· ∈ B) s R) (hs : s ∈ B) : ∀ v, v ∈ R → v ∈ B := fun v hv => by
  rcases h.sub v hv with e | e
  · exact e ▸ hs
  · exact e
theorem piece_conn {n : Nat} {adj : Nat → Nat → Bool} (W : Web n adj) {B : List Nat} (hB : ∀ v ∈ B, v < n) {s : Nat} (hs : s ∈ B) {R : List Nat} (h : Piece n adj (· ∈ B) s R) : Conn adj B ↔ ∀ v, v ∈ B → v ∈ R := by
  constructor
  · intro hc v hv
    exact hc.2 (fun x => x ∈ R) ⟨s, hs, h.start⟩ (fun x _ hx y hy a => h.closed x hx y (hB y hy) a hy) v hv
  · intro ha
    refine ⟨fun e => by rw [e] at hs; exact absurd hs (by simp), fun S hx hS => ?_⟩
    obtain ⟨x, hxB, hxS⟩ := hx
    have hsS : S s := by
      refine Classical.byContradiction fun hn => ?_
      have := h.least (fun v => ¬ S v) hn (fun v u hv hnv hu a hu2 => hnv (hS u (h.inB hs u hu) hu2 v (h.inB hs v hv) (by rw [W.sym]; exact a))) x (ha x hxB)
      exact this hxS
    intro y hy
    exact h.least S hsS (fun v u hv hvS hu a => hS v (h.inB hs v hv) hvS u (h.inB hs u hu) a) y (ha y hy)
theorem piece_all_len {n : Nat} {adj : Nat → Nat → Bool} {B : List Nat} (hB : Rise n B) {s : Nat} (hs : s ∈ B) {R : List Nat} (h : Piece n adj (· ∈ B) s R) : R.length = B.length ↔ ∀ v, v ∈ B → v ∈ R := by
  constructor
  · intro e v hv
    refine Classical.byContradiction fun hn => ?_
    have := nodup_len_lt h.rise.nd (h.inB hs) hv hn
    omega
  · intro ha
    have h1 := nodup_len_le h.rise.nd (h.inB hs)
    have h2 := nodup_len_le hB.nd ha
    omega
/-- what the touched ones are -/
def touchB (n : Nat) (adj : Nat → Nat → Bool) (B : List Nat) : List Nat := (List.range n).filter fun v => !decide (v ∈ B) && !((nb n adj v).filter fun u => decide (u ∈ B)).isEmpty
theorem mem_touchB {n : Nat} {adj : Nat → Nat → Bool} {B : List Nat} {v : Nat} (hB : ∀ v ∈ B, v < n) : v ∈ touchB n adj B ↔ v < n ∧ v ∉ B ∧ ∃ u, u ∈ B ∧ adj v u = true := by
  unfold touchB
  rw [List.mem_filter, List.mem_range, Bool.and_eq_true, Bool.not_eq_true', decide_eq_false_iff_not, Bool.not_eq_true', List.isEmpty_eq_false_iff_exists_mem]
  constructor
  · rintro ⟨h1, h2, u, hu⟩
    obtain ⟨h3, h4⟩ := List.mem_filter.mp hu
    exact ⟨h1, h2, u, of_decide_eq_true h4, (mem_nb.mp h3).2⟩
  · rintro ⟨h1, h2, u, hu, a⟩
    exact ⟨h1, h2, u, List.mem_filter.mpr ⟨mem_nb.mpr ⟨hB u hu, a⟩, decide_eq_true hu⟩⟩
theorem touch_len {n : Nat} {adj : Nat → Nat → Bool} {B : List Nat} (hB : Rise n B) : (touchB n adj B).length + B.length = n ↔ ∀ v, v < n → v ∉ B → ∃ u, u ∈ B ∧ adj v u = true := by
  have hnd : (touchB n adj B ++ B).Nodup := by
    refine List.nodup_append.mpr ⟨strict_nodup (filter_strict n _), hB.nd, fun a ha b hb e => ?_⟩
    subst e
    exact ((mem_touchB hB.lt).mp ha).2.1 hb
  have hsub : ∀ x ∈ touchB n adj B ++ B, x ∈ List.range n := fun x hx => by
    rcases List.mem_append.mp hx with e | e
    · exact List.mem_range.mpr ((mem_touchB hB.lt).mp e).1
    · exact List.mem_range.mpr (hB.lt x e)
  have hlen : (touchB n adj B ++ B).length = (touchB n adj B).length + B.length := List.length_append
  constructor
  · intro e v hv hvB
    refine Classical.byContradiction fun hn => ?_
    have := nodup_len_lt hnd hsub (List.mem_range.mpr hv) fun hm => by
      rcases List.mem_append.mp hm with e | e
      · exact hn ((mem_touchB hB.lt).mp e).2.2
      · exact hvB e
    rw [hlen, List.length_range] at this
    omega
  · intro h
    have h1 := nodup_len_le hnd hsub
    have h2 := nodup_len_le (strict_nodup (range_strict n)) (m := touchB n adj B ++ B) fun x hx => by
      by_cases hb : x ∈ B
      · exact List.mem_append_right _ hb
      · exact List.mem_append_left _ ((mem_touchB hB.lt).mpr ⟨List.mem_range.mp hx, hb, h x (List.mem_range.mp hx) hb⟩)
    rw [List.length_range] at h1 h2
    omega

/-! ### needs -/
def Own (n : Nat) (adj : Nat → Nat → Bool) (B : List Nat) (p x : Nat) : Prop := (lot n adj x).filter (fun u => decide (u ∈ B)) = [p]
theorem own_iff {n : Nat} {adj : Nat → Nat → Bool} {B : List Nat} {p x : Nat} : Own n adj B p x ↔ (p ∈ lot n adj x ∧ p ∈ B) ∧ ∀ u, u ∈ lot n adj x → u ∈ B → u = p := by
  unfold Own
  rw [eq_single (l := (lot n adj x).filter (fun u => decide (u ∈ B))) ((strict_nodup (filter_strict n _)).filter _)]
  constructor
  · rintro ⟨h1, h2⟩
    obtain ⟨a, b⟩ := List.mem_filter.mp h1
    exact ⟨⟨a, of_decide_eq_true b⟩, fun u hu hb => h2 u (List.mem_filter.mpr ⟨hu, decide_eq_true hb⟩)⟩
  · rintro ⟨⟨a, b⟩, h2⟩
    exact ⟨List.mem_filter.mpr ⟨a, decide_eq_true b⟩, fun u hu => h2 u (List.mem_filter.mp hu).1 (of_decide_eq_true (List.mem_filter.mp hu).2)⟩
structure IsSide (adj : Nat → Nat → Bool) (rest L : List Nat) : Prop where
  ne : L ≠ []
  less : L.length < rest.length
  sub : ∀ v, v ∈ L → v ∈ rest
  cut : ∀ v, v ∈ L → ∀ u, u ∈ rest → adj v u = true → u ∈ L
/-- what a need tells -/
inductive Need where
  | own (x : Nat)
  | parts (L : List Nat)
def NeedOk (n : Nat) (adj : Nat → Nat → Bool) (B : List Nat) (p : Nat) : Need → Prop
  | .own x => x < n ∧ Own n adj B p x
  | .parts L => Rise n L ∧ IsSide adj (wop B p) L
theorem own_not {n : Nat} {adj : Nat → Nat → Bool} {B : List Nat} {p x : Nat} (hx : x < n) (h : Own n adj B p x) (hB : ∀ v ∈ B, v < n) : ¬ IsBusy n adj (wop B p) := fun b => by
  obtain ⟨_, h2⟩ := own_iff.mp h
  by_cases hm : x ∈ wop B p
  · obtain ⟨a, c⟩ := mem_wop.mp hm
    exact c (h2 x (mem_lot.mpr ⟨hx, .inr rfl⟩) a)
  · obtain ⟨u, hu, a⟩ := b.dom x hx hm
    obtain ⟨hu1, hu2⟩ := mem_wop.mp hu
    exact hu2 (h2 u (mem_lot.mpr ⟨hB u hu1, .inl a⟩) hu1)
theorem side_not {n : Nat} {adj : Nat → Nat → Bool} {rest L : List Nat} (hr : rest.Nodup) (h : IsSide adj rest L) : ¬ IsBusy n adj rest := fun b => by
  obtain ⟨x, hx⟩ := List.exists_mem_of_ne_nil _ h.ne
  have ha := b.conn.2 (fun v => v ∈ L) ⟨x, h.sub x hx, hx⟩ fun v hv hvL u hu a => h.cut v hvL u hu a
  have h1 := nodup_len_le hr ha
  have h2 := h.less
  omega
theorem need_lean {n : Nat} {adj : Nat → Nat → Bool} {B : List Nat} (hB : Rise n B) (h : ∀ p, p ∈ B → ∃ e, NeedOk n adj B p e) : IsLean n adj B := fun p hp => by
  obtain ⟨e, he⟩ := h p hp
  cases e with
  | own x => exact own_not he.1 he.2 hB.lt
  | parts L => exact side_not (hB.nd.filter _) he.2
theorem lean_need {n : Nat} {adj : Nat → Nat → Bool} (W : Web n adj) {B : List Nat} (hB : Rise n B) (b : IsBusy n adj B) (l : IsLean n adj B) {p : Nat} (hp : p ∈ B) (ho : ∀ x, x < n → ¬ Own n adj B p x) :
    wop B p ≠ [] ∧ ∀ s R, s ∈ wop B p → Piece n adj (· ∈ wop B p) s R → IsSide adj (wop B p) R := by
  have hne : wop B p ≠ [] := fun e => by
    refine ho p (hB.lt p hp) (own_iff.mpr ⟨⟨mem_lot.mpr ⟨hB.lt p hp, .inr rfl⟩, hp⟩, fun u _ hu => ?_⟩)
    refine Classical.byContradiction fun hn => ?_
    have : u ∈ wop B p := mem_wop.mpr ⟨hu, hn⟩
    rw [e] at this
    exact absurd this (by simp)
  refine ⟨hne, fun s R hs hR => ?_⟩
  have hdom : ∀ v, v < n → v ∉ wop B p → ∃ u, u ∈ wop B p ∧ adj v u = true := fun v hv hvn => by
    refine Classical.byContradiction fun hn => ?_
    have hn' : ∀ u, u ∈ B → adj v u = true → u = p := fun u hu a => Classical.byContradiction fun hup => hn ⟨u, mem_wop.mpr ⟨hu, hup⟩, a⟩
    by_cases hvB : v ∈ B
    · have e : v = p := Classical.byContradiction fun hvp => hvn (mem_wop.mpr ⟨hvB, hvp⟩)
      subst e
      exact ho v hv (own_iff.mpr ⟨⟨mem_lot.mpr ⟨hv, .inr rfl⟩, hvB⟩, fun u hu hub => (mem_lot.mp hu).2.elim (hn' u hub) id⟩)
    · obtain ⟨u, hu, a⟩ := b.dom v hv hvB
      have e := hn' u hu a
      subst e
      refine ho v hv (own_iff.mpr ⟨⟨mem_lot.mpr ⟨hB.lt u hu, .inl a⟩, hu⟩, fun w hw hwb => (mem_lot.mp hw).2.elim (hn' w hwb) fun e => ?_⟩)
      subst e
      exact absurd hwb hvB
  have hnc : ¬ Conn adj (wop B p) := fun c => l p hp ⟨c, hdom⟩
  have hlt : ∀ v ∈ wop B p, v < n := fun v hv => hB.lt v (mem_wop.mp hv).1
  obtain ⟨v, hv, hvR⟩ : ∃ v, v ∈ wop B p ∧ v ∉ R := Classical.byContradiction fun hn => hnc ((piece_conn W hlt hs hR).mpr fun v hv => Classical.byContradiction fun hvR => hn ⟨v, hv, hvR⟩)
  exact ⟨fun e => by have := hR.start; rw [e] at this; exact absurd this (by simp), nodup_len_lt hR.rise.nd (hR.inB hs) hv hvR, hR.inB hs, fun x hx u hu a => hR.closed x hx u (hlt u hu) a hu⟩

/-! ### trees of a busy set -/
/-- places joined one by one: each to an earlier one -/
inductive Grow (adj : Nat → Nat → Bool) : List Nat → List (Nat × Nat) → Prop
  | one (b : Nat) : Grow adj [b] []
  | add {bs : List Nat} {ts : List (Nat × Nat)} {p q : Nat} : Grow adj bs ts → p ∈ bs → q ∉ bs → adj p q = true → Grow adj (bs ++ [q]) (ts ++ [(p, q)])
/-- how many ties a place has -/
def deg (T : List (Nat × Nat)) (v : Nat) : Nat := (T.countP fun e => e.1 == v) + (T.countP fun e => e.2 == v)
theorem deg_append (T U : List (Nat × Nat)) (v : Nat) : deg (T ++ U) v = deg T v + deg U v := by
  unfold deg
  rw [List.countP_append, List.countP_append]
  omega
theorem deg_perm {T U : List (Nat × Nat)} (h : T.Perm U) (v : Nat) : deg T v = deg U v := by
  unfold deg
  rw [h.countP_eq, h.countP_eq]
theorem deg_one (p q v : Nat) : deg [(p, q)] v = (if p = v then 1 else 0) + (if q = v then 1 else 0) := by
  unfold deg
  simp only [List.countP_cons, List.countP_nil, beq_iff_eq]
  omega
theorem deg_cons (e : Nat × Nat) (T : List (Nat × Nat)) (v : Nat) : deg (e :: T) v = deg [e] v + deg T v := deg_append [e] T v
theorem deg_nil (v : Nat) : deg [] v = 0 := rfl
def nrm (e : Nat × Nat) : Nat × Nat := (min e.1 e.2, max e.1 e.2)
theorem deg_nrm : ∀ (T : List (Nat × Nat)) (v : Nat), deg (T.map nrm) v = deg T v
  | [], _ => rfl
  | (p, q) :: T, v => by
    rw [List.map_cons, deg_cons, deg_cons (p, q), deg_nrm T v]
    show deg [(min p q, max p q)] v + _ = _
    rw [deg_one, deg_one]
    have : min p q = p ∧ max p q = q ∨ min p q = q ∧ max p q = p := by omega
    rcases this with ⟨e1, e2⟩ | ⟨e1, e2⟩ <;> rw [e1, e2] <;> omega
section
variable {n : Nat} {adj : Nat → Nat → Bool}
theorem Grow.nodup {bs : List Nat} {ts : List (Nat × Nat)} (h : Grow adj bs ts) : bs.Nodup := by
  induction h with
  | one b => simp
  | add h hp hq a ih =>
    refine List.nodup_append.mpr ⟨ih, by simp, fun x hx y hy e => ?_⟩
    have := List.mem_singleton.mp hy
    subst e
    subst this
    exact hq hx
theorem Grow.len {bs : List Nat} {ts : List (Nat × Nat)} (h : Grow adj bs ts) : ts.length + 1 = bs.length := by
  induction h with
  | one b => rfl
  | add h hp hq a ih => rw [List.length_append, List.length_append, ← ih]; rfl
theorem Grow.ends {bs : List Nat} {ts : List (Nat × Nat)} (h : Grow adj bs ts) : ∀ e ∈ ts, e.1 ∈ bs ∧ e.2 ∈ bs ∧ adj e.1 e.2 = true := by
  induction h with
  | one b => intro e he; exact absurd he (by simp)
  | add h hp hq a ih =>
    intro e he
    rcases List.mem_append.mp he with he | he
    · obtain ⟨h1, h2, h3⟩ := ih e he
      exact ⟨List.mem_append_left _ h1, List.mem_append_left _ h2, h3⟩
    · have := List.mem_singleton.mp he
      subst this
      exact ⟨List.mem_append_left _ hp, List.mem_append_right _ (by simp), a⟩
theorem Grow.conn (sym : ∀ a b, adj a b = adj b a) {bs : List Nat} {ts : List (Nat × Nat)} (h : Grow adj bs ts) : Conn adj bs := by
  induction h with
  | one b =>
    refine ⟨by simp, fun S hx _ y hy => ?_⟩
    obtain ⟨x, hx1, hx2⟩ := hx
    have e1 := List.mem_singleton.mp hx1
    have e2 := List.mem_singleton.mp hy
    rw [e2, ← e1]
    exact hx2
  | @add bs ts p q h hp hq a ih => exact conn_add sym ih hp a
where
  conn_add (sym : ∀ a b, adj a b = adj b a) {bs : List Nat} {p q : Nat} (c : Conn adj bs) (hp : p ∈ bs) (a : adj p q = true) : Conn adj (bs ++ [q]) := by
    refine ⟨by simp, fun S hx hS => ?_⟩
    have hS' : ∀ x, x ∈ bs → S x → ∀ y, y ∈ bs → adj x y = true → S y := fun x hx hxS y hy a => hS x (List.mem_append_left _ hx) hxS y (List.mem_append_left _ hy) a
    have hq : q ∈ bs ++ [q] := List.mem_append_right _ (by simp)
    have hpm : p ∈ bs ++ [q] := List.mem_append_left _ hp
    have hbs : ∀ y, y ∈ bs → S y := by
      obtain ⟨x, hx1, hx2⟩ := hx
      rcases List.mem_append.mp hx1 with hx1 | hx1
      · exact c.2 S ⟨x, hx1, hx2⟩ hS'
      · have e := List.mem_singleton.mp hx1
        subst e
        exact c.2 S ⟨p, hp, hS x hq hx2 p hpm (by rw [sym]; exact a)⟩ hS'
    intro y hy
    rcases List.mem_append.mp hy with hy | hy
    · exact hbs y hy
    · have e := List.mem_singleton.mp hy
      subst e
      exact hS p hpm (hbs p hp) y hq a
theorem Grow.deg_out {bs : List Nat} {ts : List (Nat × Nat)} (h : Grow adj bs ts) {v : Nat} (hv : v ∉ bs) : deg ts v = 0 := by
  unfold deg
  rw [List.countP_eq_zero.mpr, List.countP_eq_zero.mpr]
  · intro e he c
    have := eq_of_beq c
    subst this
    exact hv (h.ends e he).2.1
  · intro e he c
    have := eq_of_beq c
    subst this
    exact hv (h.ends e he).1
theorem Grow.deg_pos {bs : List Nat} {ts : List (Nat × Nat)} (h : Grow adj bs ts) {v : Nat} (hv : v ∈ bs) (h2 : 2 ≤ bs.length) : 1 ≤ deg ts v := by
  induction h with
  | one b => simp at h2
  | @add bs ts p q h hp hq a ih =>
    rw [deg_append, deg_one]
    rcases List.mem_append.mp hv with hv | hv
    · by_cases hb : 2 ≤ bs.length
      · have := ih hv hb
        omega
      · have hl : bs.length ≤ 1 := by omega
        have e : p = v := by
          match bs, hl, hp, hv with
          | [c], _, hp, hv => rw [List.mem_singleton.mp hp, List.mem_singleton.mp hv]
        rw [if_pos e]
        omega
    · have e := List.mem_singleton.mp hv
      rw [if_pos e.symm]
      omega
/-- without a place of one tie what is left hangs together -/
theorem Grow.without (sym : ∀ a b, adj a b = adj b a) {bs : List Nat} {ts : List (Nat × Nat)} (h : Grow adj bs ts) {v : Nat} (hv : v ∈ bs) (h2 : 2 ≤ bs.length) (h1 : deg ts v ≤ 1) : Conn adj (wop bs v) := by
  induction h with
  | one b => simp at h2
  | @add bs ts p q h hp hq a ih =>
    rw [deg_append, deg_one] at h1
    have ew : wop (bs ++ [q]) v = wop bs v ++ wop [q] v := List.filter_append _ _
    rcases List.mem_append.mp hv with hv | hv
    · have hqv : q ≠ v := fun e => hq (e ▸ hv)
      have eq1 : wop [q] v = [q] := by unfold wop; rw [List.filter_cons, if_pos (decide_eq_true hqv)]; rfl
      rw [ew, eq1]
      by_cases hpv : p = v
      · rw [if_pos hpv] at h1
        have hb : ¬ 2 ≤ bs.length := fun hb => by
          have := h.deg_pos hv hb
          omega
        have hl : bs.length ≤ 1 := by omega
        have e : wop bs v = [] := by
          match bs, hl, hv with
          | [c], _, hv =>
            have e := List.mem_singleton.mp hv
            subst e
            unfold wop
            rw [List.filter_cons, if_neg (by simp)]
            rfl
        rw [e]
        exact (Grow.one (adj := adj) q).conn sym
      · have hb : 2 ≤ bs.length := Classical.byContradiction fun hb => by
          have hl : bs.length ≤ 1 := by omega
          match bs, hl, hp, hv with
          | [c], _, hp, hv => exact hpv (by rw [List.mem_singleton.mp hp, List.mem_singleton.mp hv])
        have c := ih hv hb (by omega)
        exact Grow.conn.conn_add sym c (mem_wop.mpr ⟨hp, hpv⟩) a
    · have e := List.mem_singleton.mp hv
      subst e
      have e1 : wop bs v = bs := List.filter_eq_self.mpr fun x hx => decide_eq_true fun e => hq (e ▸ hx)
      have e2 : wop [v] v = [] := by unfold wop; rw [List.filter_cons, if_neg (by simp)]; rfl
      rw [ew, e1, e2, List.append_nil]
      exact h.conn sym
/-- a tree of a busy set: it joins the set's places one by one, each other place is tied to one of the set -/
structure TreeOk (n : Nat) (adj : Nat → Nat → Bool) (B : List Nat) (T : List (Nat × Nat)) : Prop where
  ex : ∃ bs ts os, Grow adj bs ts ∧ (∀ x, x ∈ bs ↔ x ∈ B) ∧ os.map Prod.fst = (List.range n).filter (fun v => decide (v ∉ B)) ∧ (∀ e ∈ os, e.2 ∈ B ∧ adj e.1 e.2 = true) ∧ T.Perm ((ts ++ os).map nrm)
theorem count_out {os : List (Nat × Nat)} {L : List Nat} (h : os.map Prod.fst = L) (hn : L.Nodup) (v : Nat) : (os.countP fun e => e.1 == v) = if v ∈ L then 1 else 0 := by
  have e : (os.countP fun e => e.1 == v) = L.countP fun x => x == v := by
    rw [← h, List.countP_map]
    rfl
  rw [e]
  show L.count v = _
  by_cases hv : v ∈ L
  · rw [if_pos hv]
    exact nodup_count hn hv
  · rw [if_neg hv]
    exact List.count_eq_zero_of_not_mem hv
theorem TreeOk.facts (W : Web n adj) {B : List Nat} (hB : Rise n B) {T : List (Nat × Nat)} (h : TreeOk n adj B T) : T.length + 1 = n ∧ ∀ e ∈ T, e.1 < n ∧ e.2 < n := by
  obtain ⟨bs, ts, os, g, hb, h1, h2, hp⟩ := h.ex
  have hperm : bs.Perm B := (List.perm_ext_iff_of_nodup g.nodup hB.nd).mpr hb
  have hlo : os.length = ((List.range n).filter (fun v => decide (v ∉ B))).length := by rw [← h1, List.length_map]
  have hco : ((List.range n).filter (fun v => decide (v ∉ B))).length + B.length = n := by
    have e := hB.eq_filter
    have h3 : B.length = ((List.range n).filter (fun v => decide (v ∈ B))).length := congrArg List.length e
    rw [h3]
    have h4 := len_split (fun v => decide (v ∈ B)) (List.range n)
    rw [List.length_range] at h4
    have h5 : (List.range n).filter (fun v => decide (v ∉ B)) = (List.range n).filter (fun v => !decide (v ∈ B)) := by
      congr 1
      funext v
      exact decide_not
    rw [h5]
    omega
  constructor
  · rw [hp.length_eq, List.length_map, List.length_append]
    have := g.len
    have := hperm.length_eq
    omega
  · intro e he
    obtain ⟨⟨p, q⟩, hf, rfl⟩ := List.mem_map.mp (hp.mem_iff.mp he)
    have hpq : p < n ∧ q < n := by
      rcases List.mem_append.mp hf with hf | hf
      · obtain ⟨a, b, _⟩ := g.ends _ hf
        exact ⟨hB.lt p ((hb p).mp a), hB.lt q ((hb q).mp b)⟩
      · have hm : p ∈ os.map Prod.fst := List.mem_map.mpr ⟨(p, q), hf, rfl⟩
        rw [h1] at hm
        exact ⟨List.mem_range.mp (List.mem_filter.mp hm).1, hB.lt q (h2 _ hf).1⟩
    show min p q < n ∧ max p q < n
    omega
/-- of a lean set such a tree has just the leaves outside -/
theorem TreeOk.leaves (W : Web n adj) {B : List Nat} (hB : Rise n B) (b : IsBusy n adj B) (l : IsLean n adj B) {T : List (Nat × Nat)} (h : TreeOk n adj B T) :
    ((List.range n).filter fun v => deg T v == 1).length = n - B.length := by
  obtain ⟨bs, ts, os, g, hb, h1, h2, hp⟩ := h.ex
  have hdeg : ∀ v, deg T v = deg ts v + deg os v := fun v => by rw [deg_perm hp, deg_nrm, deg_append]
  have hnd : ((List.range n).filter (fun v => decide (v ∉ B))).Nodup := strict_nodup (filter_strict n _)
  have hout : ∀ v, v < n → v ∉ B → deg T v = 1 := fun v hv hvB => by
    rw [hdeg, g.deg_out fun hm => hvB ((hb v).mp hm)]
    unfold deg
    rw [count_out h1 hnd v, if_pos (List.mem_filter.mpr ⟨List.mem_range.mpr hv, decide_eq_true hvB⟩), List.countP_eq_zero.mpr]
    intro e he c
    have := eq_of_beq c
    subst this
    exact hvB (h2 e he).1
  have hin : ∀ v, v ∈ B → 2 ≤ deg T v := fun v hv => by
    refine Classical.byContradiction fun hlt => ?_
    rw [hdeg] at hlt
    have hfst : (os.countP fun e => e.1 == v) = 0 := by
      rw [count_out h1 hnd v, if_neg fun hm => (of_decide_eq_true (List.mem_filter.mp hm).2) hv]
    by_cases h2b : 2 ≤ bs.length
    · have hd := g.deg_pos ((hb v).mpr hv) h2b
      have ho : deg os v = 0 := by omega
      have hto : ∀ e ∈ os, e.2 ≠ v := fun e he c => by
        unfold deg at ho
        have : (os.countP fun e => e.2 == v) = 0 := by omega
        exact List.countP_eq_zero.mp this e he (beq_iff_eq.mpr c)
      have c := g.without W.sym ((hb v).mpr hv) h2b (by omega)
      have ew : ∀ x, x ∈ wop bs v ↔ x ∈ wop B v := fun x => by rw [mem_wop, mem_wop, hb]
      have c' : Conn adj (wop B v) := by
        refine ⟨fun e => ?_, fun S hx hS y hy => ?_⟩
        · obtain ⟨x, hx⟩ := List.exists_mem_of_ne_nil _ c.1
          have := (ew x).mp hx
          rw [e] at this
          exact absurd this (by simp)
        · obtain ⟨x, hx1, hx2⟩ := hx
          exact c.2 S ⟨x, (ew x).mpr hx1, hx2⟩ (fun x hx hxS y hy a => hS x ((ew x).mp hx) hxS y ((ew y).mp hy) a) y ((ew y).mpr hy)
      refine l v hv ⟨c', fun x hx hxn => ?_⟩
      by_cases hxB : x ∈ B
      · have e : x = v := Classical.byContradiction fun hxv => hxn (mem_wop.mpr ⟨hxB, hxv⟩)
        subst e
        -- a tie of x within the set
        have : 0 < (ts.countP fun e => e.1 == x) ∨ 0 < (ts.countP fun e => e.2 == x) := by
          unfold deg at hd
          omega
        rcases this with h3 | h3
        · obtain ⟨e, he, c1⟩ := List.countP_pos_iff.mp h3
          have c1 := eq_of_beq c1
          obtain ⟨ha, hb2, hc⟩ := g.ends e he
          refine ⟨e.2, mem_wop.mpr ⟨(hb _).mp hb2, fun c2 => ?_⟩, by rw [← c1]; exact hc⟩
          rw [c1, c2, W.irr] at hc
          exact absurd hc (by simp)
        · obtain ⟨e, he, c1⟩ := List.countP_pos_iff.mp h3
          have c1 := eq_of_beq c1
          obtain ⟨ha, hb2, hc⟩ := g.ends e he
          refine ⟨e.1, mem_wop.mpr ⟨(hb _).mp ha, fun c2 => ?_⟩, by rw [W.sym, ← c1]; exact hc⟩
          rw [c1, c2, W.irr] at hc
          exact absurd hc (by simp)
      · have hm : x ∈ os.map Prod.fst := by rw [h1]; exact List.mem_filter.mpr ⟨List.mem_range.mpr hx, decide_eq_true hxB⟩
        obtain ⟨e, he, rfl⟩ := List.mem_map.mp hm
        exact ⟨e.2, mem_wop.mpr ⟨(h2 e he).1, hto e he⟩, (h2 e he).2⟩
    · -- the set is v alone
      have hl : bs.length ≤ 1 := by omega
      have hall : ∀ x, x ∈ B → x = v := fun x hx => by
        have hx' := (hb x).mpr hx
        have hv' := (hb v).mpr hv
        match bs, hl, hx', hv' with
        | [c], _, hx', hv' => rw [List.mem_singleton.mp hx', List.mem_singleton.mp hv']
      have hlo : os.length = ((List.range n).filter (fun v => decide (v ∉ B))).length := by rw [← h1, List.length_map]
      have hcount : (os.countP fun e => e.2 == v) = os.length := List.countP_eq_length.mpr fun e he => beq_iff_eq.mpr (hall _ (h2 e he).1)
      have hge : 2 ≤ ((List.range n).filter (fun v => decide (v ∉ B))).length := by
        have h3 := nodup_len_le (l := List.range n) (m := v :: (List.range n).filter (fun v => decide (v ∉ B))) (strict_nodup (range_strict n)) fun x hx => by
          by_cases hxB : x ∈ B
          · rw [hall x hxB]; exact List.mem_cons_self
          · exact List.mem_cons_of_mem _ (List.mem_filter.mpr ⟨hx, decide_eq_true hxB⟩)
        rw [List.length_range, List.length_cons] at h3
        have := W.lo
        omega
      unfold deg at hlt
      omega
  have e : ((List.range n).filter fun v => deg T v == 1) = (List.range n).filter (fun v => !decide (v ∈ B)) := by
    refine List.filter_congr fun v hv => ?_
    by_cases hvB : v ∈ B
    · have := hin v hvB
      rw [decide_eq_true hvB]
      show (deg T v == 1) = false
      exact beq_eq_false_iff_ne.mpr (by omega)
    · rw [decide_eq_false hvB, hout v (List.mem_range.mp hv) hvB]
      rfl
  rw [e]
  have h3 : B.length = ((List.range n).filter (fun v => decide (v ∈ B))).length := congrArg List.length hB.eq_filter
  have h4 := len_split (fun v => decide (v ∈ B)) (List.range n)
  rw [List.length_range] at h4
  omega
end
end ML
set_option Elab.async false
set_option linter.all false
set_option maxRecDepth 100000
set_option maxHeartbeats 4000000
/-! what all walks share -/
namespace ML
open PySem PySem.Spec PyProof.Rows L2 Evl
def top (i : Nat) : Stmt := PySem.Challenge.pw_manyleaves_k36_whole_lean_sets.main.body.getD i (.Pass ⟨0, 0, 0, 0⟩)
theorem hu65 {A : Around} {k : Nat} (hr : Room k A) : A.units + 65 < cLine := by have := hr.un; omega
structure Bt (mg : Str → Option Value) : Prop where
  len_ : mg "len" = none
  range_ : mg "range" = none
  tuple_ : mg "tuple" = none
  sorted_ : mg "sorted" = none
  isinstance_ : mg "isinstance" = none
  enumerate_ : mg "enumerate" = none
  dict_ : mg "dict" = none
  min_ : mg "min" = none
  max_ : mg "max" = none
  list_ : mg "list" = none
  int_ : mg "int" = none
  bool_ : mg "bool" = none
  reversed_ : mg "reversed" = none
structure Def (P : Program) (w : World) (K : PySem.W.Frag) (mg : Str → Option Value) (base : Heap) (x : Str) (k : Nat) (ps : List Str) (sp : Sp) : Prop where
  ex : ∃ f fd, mg x = some (.ref f) ∧ FnOk P w K mg base CX0 k f fd ps sp ∧ PySem.W.keepIn K (.ref f) = true ∧ Binds K fd ps []
structure Ld (K : PySem.W.Frag) (mg : Str → Option Value) (x : Str) (st : Stmt) : Prop where
  ex : ∃ f fd, Fun K x x st f fd ∧ mg x = some (.ref f)
section
variable {P : Program} {w : World} {K : PySem.W.Frag} {mg : Str → Option Value} {base : Heap}
theorem Ld.ok {x : Str} {st : Stmt} {N ps : List Str} {k : Nat} {sp : Sp} (L : Ld K mg x st) (S : FnScope N ps (defScope st))
    (hb : ∀ (kV doc pm : Value) (an : Option Addr) (cdv ct : Value) (us : List Value), us.length = ps.length → bindArgs (PySem.W.fnOf x x (defArgs st) (defBody st) (defScope st) .none kV doc pm an cdv ct) ⟨us, []⟩ = pure (ps.zip us))
    (len : ∀ vs H Q E, sp vs H Q E → vs.length = ps.length)
    (hbody : ∀ (f : Addr) (cdv : Value) (A : Around) (outer : List Env) (s : Shared) (H : Hp) (vs : List V) (Q : VK) (E : XK), Room k (A.deeper (envOfC x (defScope st) s.heap.objs.size f cdv)) → sp vs H Q E →
      ∃ t, PSs (cxOf CX0 P w K mg base N x (defScope st) f cdv A outer s H E).nox (defBody st) t ∧ t { nx := fun _ H' => Q .non H', rt := Q } (start N vs) H) : Def P w K mg base x (k + 1) ps sp := by
  obtain ⟨f, fd, F, m⟩ := L.ex
  exact ⟨f, fd, m, F.ok S len fun cdv A outer s H vs Q E hr h => hbody f cdv A outer s H vs Q E hr h, F.kp, F.binds hb⟩
end
theorem pe_def {X : Cx} {x : Str} {p pos : Pos} {e : Expr} {es : List Expr} {k : Nat} {ps : List Str} {sp : Sp} {t : TA} (D : Def X.prog X.w X.K X.mg X.base x k ps sp) (hr : Room k X.A) (hg : Gl X x)
    (ha : PA X (e :: es) t) (hdb : (x == ("__debug__" : Str)) = false := by decide) (he : starEach (e :: es) X.env = (false, eval e X.env) :: starEach es X.env := by rfl) (hpl : (backTo pos (starEach es X.env)).any (·.1) = false := by rfl) :
    PE X (.Call (.Name x p) (e :: es) [] pos) (tCall sp [] E0 t) := by
  obtain ⟨f, fd, m, F, kp, b⟩ := D.ex
  exact pe_call F hr hg m kp b .nil pass0 ha hdb he hpl

/-! ### rules, the written part named -/
def rLn (K : PySem.W.Frag) : List V → Hp → VK → Prop := fun xs H Q => ∃ p ys, xs = [.ref p] ∧ (SqL K H p ys ∨ SqT K H p ys) ∧ Q (.int ys.length) H
def rTp (K : PySem.W.Frag) : List V → Hp → VK → Prop := fun xs H Q => ∃ p ys, xs = [.ref p] ∧ ((SqL K H p ys ∧ ∀ l, H l = none → Q (.ref l) (upd H l (.tup ys))) ∨ (SqT K H p ys ∧ Q (.ref p) H))
def rLi (K : PySem.W.Frag) : List V → Hp → VK → Prop := fun xs H Q => ∃ p ys, xs = [.ref p] ∧ (SqL K H p ys ∨ SqT K H p ys) ∧ ∀ l, H l = none → Q (.ref l) (upd H l (.lst ys))
section
variable {X : Cx}
theorem call_ln : CallR X (.builtin "len") (rLn X.K) := call_len_seq
theorem call_tp : CallR X (.type "tuple") (rTp X.K) := call_tuple_of
theorem call_li : CallR X (.type "list") (rLi X.K) := call_list_of
theorem pi_listK {tg l : Expr} {tl : TE} (K : PySem.W.Frag) (hK : X.K = K) (hl : PE X l tl) : PI X tg l (iList K tl) := hK ▸ pi_list hl
theorem pi_tupK {tg l : Expr} {tl : TE} (K : PySem.W.Frag) (hK : X.K = K) (hl : PE X l tl) : PI X tg l (iTup K tl) := hK ▸ pi_tup hl
theorem pg_tupK {es : List Expr} {k : Nat} {pos : Pos} {t : TGs} {n : Nat} (K : PySem.W.Frag) (hK : X.K = K) (hc : X.calm = true) (h : PGs X es t)
    (hn : (assignEach es X.env).length = n := by rfl) (hst : (assignEach es X.env).findIdx? (·.1) = none := by rfl) : PG X (.Tuple es k pos) (gTup K n t) := hK ▸ pg_tup hc h hn hst
end

/-! ### lists of places -/
def ns (l : List Nat) : List V := l.map fun k : Nat => V.int (k : Int)
theorem ns_len (l : List Nat) : (ns l).length = l.length := List.length_map ..
theorem ns_get {l : List Nat} {i v : Nat} (h : l[i]? = some v) : (ns l)[i]? = some (.int (v : Int)) := by
  unfold ns
  rw [List.getElem?_map, h]
  rfl
theorem ns_got {l : List Nat} {i : Nat} {x : V} (h : (ns l)[i]? = some x) : ∃ v, l[i]? = some v ∧ v ∈ l ∧ x = .int (v : Int) := by
  unfold ns at h
  rw [List.getElem?_map] at h
  cases e : l[i]? with
  | none => rw [e] at h; cases h
  | some v =>
    rw [e] at h
    exact ⟨v, rfl, List.mem_of_getElem? e, (Option.some.inj h).symm⟩
theorem ns_append (l m : List Nat) : ns (l ++ m) = ns l ++ ns m := List.map_append
theorem ns_one (v : Nat) : ns [v] = [V.int (v : Int)] := rfl
theorem ns_int (l : List Nat) : ns l = (l.map fun k : Nat => (k : Int)).map V.int := by
  unfold ns
  rw [List.map_map]
  rfl
theorem ns_flat (l : List Nat) : (ns l).all flatV = true := by
  unfold ns
  rw [List.all_map, List.all_eq_true]
  intro x _
  rfl
theorem ns_in (v : Nat) (l : List Nat) : inV (.int (v : Int)) (ns l) = decide (v ∈ l) := by
  unfold inV ns
  rw [List.any_map]
  have e : ((fun y => eqV y (V.int (v : Int))) ∘ fun k : Nat => V.int (k : Int)) = fun k : Nat => decide (k = v) := by
    funext k
    show ((k : Int) == (v : Int)) = decide (k = v)
    by_cases h : k = v
    · subst h
      simp
    · rw [decide_eq_false h]
      exact beq_eq_false_iff_ne.mpr (by omega)
  rw [e]
  by_cases h : v ∈ l
  · rw [decide_eq_true h]
    exact List.any_eq_true.mpr ⟨v, h, decide_eq_true rfl⟩
  · rw [decide_eq_false h]
    exact List.any_eq_false.mpr fun x hx c => h (of_decide_eq_true c ▸ hx)
theorem dec_ns (a b : Nat) : decide (V.int (a : Int) = V.int (b : Int)) = decide (a = b) := by
  by_cases h : a = b
  · subst h
    simp
  · rw [decide_eq_false h]
    exact decide_eq_false fun e => h (by injection e; omega)
/-- data of ints -/
def di (l : List Nat) : List PyData := l.map fun k : Nat => PyData.int (k : Int)
theorem dp_ns {K : PySem.W.Frag} {H : Hp} : ∀ l : List Nat, DpAll K H (ns l) (di l)
  | [] => .nil
  | v :: l => .cons (.int _) (dp_ns l)
theorem di_lay : ∀ l : List Nat, PyData.canLayAll0 (di l) = true
  | [] => by simp [di, PyData.canLayAll0]
  | v :: l => by
    have := di_lay l
    simp only [di, List.map_cons, PyData.canLayAll0] at this ⊢
    rw [this]
    simp [PyData.canLay0]
theorem di_depth : ∀ l : List Nat, PyData.depthAll (di l) = 0
  | [] => by simp [di, PyData.depthAll]
  | v :: l => by
    have := di_depth l
    simp only [di, List.map_cons, PyData.depthAll] at this ⊢
    rw [this]
    simp [PyData.depth]
theorem di_shL (l : List Nat) : SeqAt.shaped (.list (di l)) = true := by
  show (PyData.canLay0 (.list (di l)) && decide (PyData.depth (.list (di l)) ≤ 64)) = true
  have h1 := di_lay l
  have h2 := di_depth l
  rw [Bool.and_eq_true]
  exact ⟨by simp only [PyData.canLay0]; exact h1, decide_eq_true (by simp only [PyData.depth]; omega)⟩
theorem di_shT (l : List Nat) : SeqAt.shaped (.tuple (di l)) = true := by
  show (PyData.canLay0 (.tuple (di l)) && decide (PyData.depth (.tuple (di l)) ≤ 64)) = true
  have h1 := di_lay l
  have h2 := di_depth l
  rw [Bool.and_eq_true]
  exact ⟨by simp only [PyData.canLay0]; exact h1, decide_eq_true (by simp only [PyData.depth]; omega)⟩
theorem di_eqv : ∀ a b : List Nat, PyData.eqvAll (di a) (di b) = decide (a = b)
  | [], [] => by simp [di, PyData.eqvAll]
  | [], _ :: _ => by simp [di, PyData.eqvAll]
  | _ :: _, [] => by simp [di, PyData.eqvAll]
  | x :: a, y :: b => by
    have ih := di_eqv a b
    simp only [di, List.map_cons, PyData.eqvAll, PyData.eqv] at ih ⊢
    rw [ih]
    by_cases h : x = y
    · subst h
      by_cases h2 : a = b
      · subst h2
        simp
      · rw [decide_eq_false h2, decide_eq_false (fun e => h2 (List.cons.inj e).2)]
        simp
    · rw [decide_eq_false (fun e => h (List.cons.inj e).1), show ((x : Int) == (y : Int)) = false from beq_eq_false_iff_ne.mpr (by omega)]
      rfl
theorem di_eqL (a b : List Nat) : PyData.eqv (.list (di a)) (.list (di b)) = decide (a = b) := by rw [PyData.eqv]; exact di_eqv a b
theorem di_eqT (a b : List Nat) : PyData.eqv (.tuple (di a)) (.tuple (di b)) = decide (a = b) := by rw [PyData.eqv]; exact di_eqv a b
theorem dec_nil {α : Type} [DecidableEq α] (l : List α) : decide (l = []) = l.isEmpty := by cases l <;> simp
section
variable {K : PySem.W.Frag} {H H' : Hp}
mutual
theorem dp_mono (e : Ex H H') : ∀ {v : V} {d : PyData}, Dp K H v d → Dp K H' v d
  | _, _, .non => .non
  | _, _, .bl b => .bl b
  | _, _, .int i => .int i
  | _, _, .str x => .str x
  | _, _, .lst h a => .lst (ex_l e h) (dpa_mono e a)
  | _, _, .tup h a => .tup (ex_t e h) (dpa_mono e a)
theorem dpa_mono (e : Ex H H') : ∀ {vs : List V} {ds : List PyData}, DpAll K H vs ds → DpAll K H' vs ds
  | _, _, .nil => .nil
  | _, _, .cons h a => .cons (dp_mono e h) (dpa_mono e a)
end
theorem dpa_len : ∀ {vs : List V} {ds : List PyData}, DpAll K H vs ds → vs.length = ds.length
  | _, _, .nil => rfl
  | _, _, .cons _ t => by rw [List.length_cons, List.length_cons, dpa_len t]
theorem dpa_get : ∀ {vs : List V} {ds : List PyData} {i : Nat} {x : V}, DpAll K H vs ds → vs[i]? = some x → ∃ d, ds[i]? = some d ∧ Dp K H x d
  | _, _, _, _, .nil, h => by simp at h
  | _, _, 0, _, .cons h _, e => ⟨_, rfl, (Option.some.inj e) ▸ h⟩
  | _, _, i + 1, x, .cons _ t, e => dpa_get (i := i) t e
end
/-! ### a web, its neighbours -/
/-- ties: pairs of places -/
def tieV (e : Nat × Nat) : List V := [.int (e.1 : Int), .int (e.2 : Int)]
/-- a list of pairs at addresses ts -/
def Pairs (H : Hp) (ts : List Addr) (E : List (Nat × Nat)) : Prop := Paired (fun t e => H t = some (.tup (tieV e))) ts E
theorem Pairs.mono {H H' : Hp} {ts : List Addr} {E : List (Nat × Nat)} (h : Pairs H ts E) (e : Ex H H') : Pairs H' ts E := Paired.mapP h fun _ _ q => e _ _ q
def adjOf (E : List (Nat × Nat)) (a b : Nat) : Bool := decide ((a, b) ∈ E ∨ (b, a) ∈ E)
structure WebAt (K : PySem.W.Frag) (H : Hp) (a : Addr) (n : Nat) (adj : Nat → Nat → Bool) : Prop where
  ex : ∃ (t : Addr) (ts : List Addr) (E : List (Nat × Nat)), SqT K H a [.int (n : Int), .ref t] ∧ SqT K H t (ts.map V.ref) ∧ Pairs H ts E ∧ (∀ e ∈ E, e.1 < e.2 ∧ e.2 < n) ∧ E.Nodup ∧ ∀ x y, adj x y = adjOf E x y
theorem WebAt.mono {K : PySem.W.Frag} {H H' : Hp} {a : Addr} {n : Nat} {adj : Nat → Nat → Bool} (h : WebAt K H a n adj) (e : Ex H H') : WebAt K H' a n adj := by
  obtain ⟨t, ts, E, h1, h2, h3, h4⟩ := h.ex
  exact ⟨t, ts, E, ex_t e h1, ex_t e h2, h3.mono e, h4⟩
/-- a list of the neighbours' lists -/
structure NearAt (H : Hp) (a : Addr) (n : Nat) (adj : Nat → Nat → Bool) : Prop where
  ex : ∃ rs : List Addr, H a = some (.lst (rs.map V.ref)) ∧ rs.length = n ∧ ∀ v, v < n → ∃ r, rs[v]? = some r ∧ H r = some (.lst (ns (nb n adj v)))
theorem NearAt.mono {H H' : Hp} {a : Addr} {n : Nat} {adj : Nat → Nat → Bool} (h : NearAt H a n adj) (e : Ex H H') : NearAt H' a n adj := by
  obtain ⟨rs, h1, h2, h3⟩ := h.ex
  exact ⟨rs, e _ _ h1, h2, fun v hv => let ⟨r, q1, q2⟩ := h3 v hv; ⟨r, q1, e _ _ q2⟩⟩
/-- a row of it -/
theorem NearAt.row {H : Hp} {a : Addr} {n : Nat} {adj : Nat → Nat → Bool} (h : NearAt H a n adj) {v : Nat} (hv : v < n) :
    ∃ xs r, H a = some (.lst xs) ∧ atI xs (v : Int) = some (.ref r) ∧ H r = some (.lst (ns (nb n adj v))) := by
  obtain ⟨rs, h1, h2, h3⟩ := h.ex
  obtain ⟨r, q1, q2⟩ := h3 v hv
  exact ⟨_, r, h1, atI_nat (by rw [List.getElem?_map, q1]; rfl), q2⟩
/-- .. all of it new -/
structure NearNew (H H' : Hp) (a : Addr) (n : Nat) (adj : Nat → Nat → Bool) : Prop where
  ex : ∃ rs : List Addr, H a = none ∧ H' a = some (.lst (rs.map V.ref)) ∧ rs.length = n ∧ ∀ v, v < n → ∃ r, rs[v]? = some r ∧ H r = none ∧ H' r = some (.lst (ns (nb n adj v)))
theorem NearNew.near {H H' : Hp} {a : Addr} {n : Nat} {adj : Nat → Nat → Bool} (h : NearNew H H' a n adj) : NearAt H' a n adj := by
  obtain ⟨rs, h0, h1, h2, h3⟩ := h.ex
  exact ⟨rs, h1, h2, fun v hv => let ⟨r, q1, _, q2⟩ := h3 v hv; ⟨r, q1, q2⟩⟩
/-- a heap without what stands at o -/
def wo (o : Addr) (H : Hp) : Hp := fun b => if b = o then none else H b
theorem wo_at {o : Addr} {H : Hp} : wo o H o = none := if_pos rfl
theorem wo_ne {o b : Addr} {H : Hp} (h : b ≠ o) : wo o H b = H b := if_neg h
theorem wo_ex {o : Addr} {H : Hp} : Ex (wo o H) H := fun b u h => by
  by_cases e : b = o
  · subst e
    rw [wo_at] at h
    cases h
  · rw [wo_ne e] at h
    exact h
theorem ex_wo {o : Addr} {H H' : Hp} (e : Ex H H') (h : H o = none) : Ex H (wo o H') := fun b u hb => by
  rw [wo_ne (ne_of_none hb h)]
  exact e b u hb
theorem wo_mut {o : Addr} {H H' : Hp} {x : HO} (e : Ex (wo o H) H') : Ex (wo o H) (upd H' o x) := Ex.mut e wo_at
theorem wo_upd {o : Addr} {H : Hp} {x : HO} : wo o (upd H o x) = wo o H := by
  funext b
  by_cases e : b = o
  · subst e
    rw [wo_at, wo_at]
  · rw [wo_ne e, wo_ne e, upd_ne e]
theorem wo_mono {o : Addr} {H H' : Hp} (e : Ex H H') : Ex (wo o H) (wo o H') := fun b u hb => by
  by_cases h : b = o
  · subst h
    rw [wo_at] at hb
    cases hb
  · rw [wo_ne h] at hb ⊢
    exact e b u hb
theorem NearNew.wo {H H' : Hp} {a o : Addr} {n : Nat} {adj : Nat → Nat → Bool} {x : HO} (h : NearNew H H' a n adj) (ho : H o = some x) : NearAt (wo o H') a n adj := by
  obtain ⟨rs, h0, h1, h2, h3⟩ := h.ex
  exact ⟨rs, by rw [wo_ne (ne_of_none ho h0).symm]; exact h1, h2, fun v hv => let ⟨r, q1, q0, q2⟩ := h3 v hv; ⟨r, q1, by rw [wo_ne (ne_of_none ho q0).symm]; exact q2⟩⟩

/-! ### a comprehension's list over places: those of a test, each told -/
section
variable {K : PySem.W.Frag} {σ : L2.St} {H1 : Hp} {t : TT} {te : TE} {D : Addr} {Qd : Hp → Prop} {j : Nat} {vs : List Nat}
theorem lcAny {J : It} {m : Nat} {Gw : Hp → Prop} {Y : Nat → Hp → V → Hp → Prop} (w : Walk J m Gw Y) (l : List Nat) (hm : m = l.length) (hG : ∀ H', Ex H1 H' → Gw H') (hY : ∀ i H x H', Y i H x H' → H' = H ∧ ∃ v, l[i]? = some v ∧ x = .int (v : Int)) (hz : l.length ≤ 1000)
    (p : Nat → Bool) (f : Nat → V) (hw : ∀ x, wipe ((wipe σ vs).set j (some x)) vs = wipe σ vs)
    (ht : ∀ v, v ∈ l → EvT t ((wipe σ vs).set j (some (.int (v : Int)))) H1 (p v)) (he : ∀ v, v ∈ l → p v = true → Ev te ((wipe σ vs).set j (some (.int (v : Int)))) H1 (f v))
    (hD : H1 D = none) (k : ∀ H', Ex H1 H' → H' D = some (.lst ((l.filter p).map f)) → Qd H') :
    ∃ W : Nat → Nat → Hp → Prop, (∃ m, W 0 m (upd H1 D (.lst []))) ∧ ∀ i m H, W i m H →
      (J.stop i H ∧ Qd H) ∨ (J.go i H ∧ ∃ Nx : Hp → Prop, (∀ H', Nx H' → ∃ m', m' < m ∧ W (i + 1) m' H') ∧ ∀ x H', J.yld i H x H' → gName j x (wipe σ vs) H' fun σ2 H2 => wipe σ2 vs = wipe σ vs ∧ t σ2 H2 fun b H3 =>
        if b = true then te σ2 H3 fun y H4 => ∃ acc, H4 D = some (.lst acc) ∧ acc.length < sizeLine ∧ Nx (upd H4 D (.lst (acc ++ [y]))) else Nx H3) := by
  subst hm
  refine lc_it w (fun i H' => Ex H1 H' ∧ H' D = some (.lst (((l.take i).filter p).map f))) ⟨Ex.new hD, by rw [upd_same]; rfl⟩ (fun i H' _ q => hG H' q.1) (fun i x H' H2 hi q y => ?_) (fun H' q => ?_)
  · obtain ⟨e1, v, hv, ex⟩ := hY i H' x H2 y
    subst e1 ex
    obtain ⟨q1, q2⟩ := q
    have hm : v ∈ l := List.mem_of_getElem? hv
    have ek : l.take (i + 1) = l.take i ++ [v] := by rw [List.take_add_one, hv]; rfl
    refine ⟨hw _, ht v hm _ q1 _ fun H3 e3 => ?_⟩
    cases hp : p v with
    | true =>
      show te _ H3 fun y H4 => _
      refine he v hm hp H3 (q1.trans e3) _ fun H4 e4 => ⟨_, e4 _ _ (e3 _ _ q2), ?_, Ex.mut ((q1.trans e3).trans e4) hD, ?_⟩
      · rw [List.length_map]
        have h1 := List.length_filter_le p (l.take i)
        have h2 : (l.take i).length ≤ l.length := by rw [List.length_take]; exact Nat.min_le_right _ _
        exact small1000 (by omega)
      · rw [upd_same, ek, List.filter_append, List.map_append, show List.filter p [v] = [v] by rw [List.filter_cons, if_pos hp]; rfl]
        rfl
    | false =>
      show Ex H1 H3 ∧ _
      refine ⟨q1.trans e3, ?_⟩
      rw [ek, List.filter_append, show List.filter p [v] = [] by rw [List.filter_cons, if_neg (by rw [hp]; decide)]; rfl, List.append_nil]
      exact e3 _ _ q2
  · have e : l.take l.length = l := List.take_length
    obtain ⟨q1, q2⟩ := q
    rw [e] at q2
    exact k H' q1 q2
theorem lcL {a : Addr} (l : List Nat) (hl : SqL K H1 a (ns l)) (hz : l.length ≤ 1000) (p : Nat → Bool) (f : Nat → V) (hw : ∀ x, wipe ((wipe σ vs).set j (some x)) vs = wipe σ vs)
    (ht : ∀ v, v ∈ l → EvT t ((wipe σ vs).set j (some (.int (v : Int)))) H1 (p v)) (he : ∀ v, v ∈ l → p v = true → Ev te ((wipe σ vs).set j (some (.int (v : Int)))) H1 (f v))
    (hD : H1 D = none) (k : ∀ H', Ex H1 H' → H' D = some (.lst ((l.filter p).map f)) → Qd H') :
    ∃ W : Nat → Nat → Hp → Prop, (∃ m, W 0 m (upd H1 D (.lst []))) ∧ ∀ i m H, W i m H →
      ((Itl K a).stop i H ∧ Qd H) ∨ ((Itl K a).go i H ∧ ∃ Nx : Hp → Prop, (∀ H', Nx H' → ∃ m', m' < m ∧ W (i + 1) m' H') ∧ ∀ x H', (Itl K a).yld i H x H' → gName j x (wipe σ vs) H' fun σ2 H2 => wipe σ2 vs = wipe σ vs ∧ t σ2 H2 fun b H3 =>
        if b = true then te σ2 H3 fun y H4 => ∃ acc, H4 D = some (.lst acc) ∧ acc.length < sizeLine ∧ Nx (upd H4 D (.lst (acc ++ [y]))) else Nx H3) :=
  lcAny (walk_list (xs := ns l)) l (ns_len l) (fun H' e => ex_l e hl) (fun i H x H' y => ⟨y.1, let ⟨v, h1, _, h3⟩ := ns_got y.2; ⟨v, h1, h3⟩⟩) hz p f hw ht he hD k
theorem lcT {a : Addr} (l : List Nat) (hl : SqT K H1 a (ns l)) (hz : l.length ≤ 1000) (p : Nat → Bool) (f : Nat → V) (hw : ∀ x, wipe ((wipe σ vs).set j (some x)) vs = wipe σ vs)
    (ht : ∀ v, v ∈ l → EvT t ((wipe σ vs).set j (some (.int (v : Int)))) H1 (p v)) (he : ∀ v, v ∈ l → p v = true → Ev te ((wipe σ vs).set j (some (.int (v : Int)))) H1 (f v))
    (hD : H1 D = none) (k : ∀ H', Ex H1 H' → H' D = some (.lst ((l.filter p).map f)) → Qd H') :
    ∃ W : Nat → Nat → Hp → Prop, (∃ m, W 0 m (upd H1 D (.lst []))) ∧ ∀ i m H, W i m H →
      ((Itt K a).stop i H ∧ Qd H) ∨ ((Itt K a).go i H ∧ ∃ Nx : Hp → Prop, (∀ H', Nx H' → ∃ m', m' < m ∧ W (i + 1) m' H') ∧ ∀ x H', (Itt K a).yld i H x H' → gName j x (wipe σ vs) H' fun σ2 H2 => wipe σ2 vs = wipe σ vs ∧ t σ2 H2 fun b H3 =>
        if b = true then te σ2 H3 fun y H4 => ∃ acc, H4 D = some (.lst acc) ∧ acc.length < sizeLine ∧ Nx (upd H4 D (.lst (acc ++ [y]))) else Nx H3) :=
  lcAny (walk_tup (xs := ns l)) l (ns_len l) (fun H' e => ex_t e hl) (fun i H x H' y => ⟨y.1, let ⟨v, h1, _, h3⟩ := ns_got y.2; ⟨v, h1, h3⟩⟩) hz p f hw ht he hD k
theorem lcR {m : Int} {n : Nat} (hm : m = (n : Int)) (hz : n ≤ 1000) (p : Nat → Bool) (f : Nat → V) (hw : ∀ x, wipe ((wipe σ vs).set j (some x)) vs = wipe σ vs)
    (ht : ∀ v, v < n → EvT t ((wipe σ vs).set j (some (.int (v : Int)))) H1 (p v)) (he : ∀ v, v < n → p v = true → Ev te ((wipe σ vs).set j (some (.int (v : Int)))) H1 (f v))
    (hD : H1 D = none) (k : ∀ H', Ex H1 H' → H' D = some (.lst (((List.range n).filter p).map f)) → Qd H') :
    ∃ W : Nat → Nat → Hp → Prop, (∃ m, W 0 m (upd H1 D (.lst []))) ∧ ∀ i m' H, W i m' H →
      ((Itr 0 m.toNat).stop i H ∧ Qd H) ∨ ((Itr 0 m.toNat).go i H ∧ ∃ Nx : Hp → Prop, (∀ H', Nx H' → ∃ m'', m'' < m' ∧ W (i + 1) m'' H') ∧ ∀ x H', (Itr 0 m.toNat).yld i H x H' → gName j x (wipe σ vs) H' fun σ2 H2 => wipe σ2 vs = wipe σ vs ∧ t σ2 H2 fun b H3 =>
        if b = true then te σ2 H3 fun y H4 => ∃ acc, H4 D = some (.lst acc) ∧ acc.length < sizeLine ∧ Nx (upd H4 D (.lst (acc ++ [y]))) else Nx H3) := by
  subst hm
  have e0 : ((n : Int)).toNat = n := by omega
  rw [e0]
  refine lcAny (Y := fun i H x H' => i < n ∧ H' = H ∧ x = .int (0 + (i : Int))) ⟨fun _ _ hi _ => hi, fun _ _ => Nat.le_refl _, fun i H x H' hi _ y => ⟨hi, y.1, y.2⟩⟩ (Gw := fun _ => True) (List.range n) List.length_range.symm (fun _ _ => trivial) (fun i H x H' y => ⟨y.2.1, i, ?_, ?_⟩) (by rw [List.length_range]; exact hz) p f hw (fun v hv => ht v (List.mem_range.mp hv)) (fun v hv => he v (List.mem_range.mp hv)) hD k
  · rw [List.getElem?_range y.1]
  · rw [y.2.2, Int.zero_add]
end
section
variable {K : PySem.W.Frag} {σ : L2.St} {H : Hp} {t : TT} {te tl ta tb : TE} {j : Nat} {vs : List Nat} {l : List Nat} {a : Addr}
theorem el_L (l : List Nat) (p : Nat → Bool) (f : Nat → V) (h : Ev tl σ H (.ref a)) (hl : SqL K H a (ns l)) (hz : l.length ≤ 1000) (hw : ∀ x, wipe ((wipe σ vs).set j (some x)) vs = wipe σ vs)
    (ht : ∀ v, v ∈ l → EvT t ((wipe σ vs).set j (some (.int (v : Int)))) H (p v)) (he : ∀ v, v ∈ l → p v = true → Ev te ((wipe σ vs).set j (some (.int (v : Int)))) H (f v)) :
    EvL (tLc (iList K tl) (gName j) t te vs) σ H ((l.filter p).map f) := fun H0 e Q q => h H0 e _ fun H1 e1 => ⟨a, rfl, ⟨_, ex_l (e.trans e1) hl⟩, fun D hD =>
  lcL l (ex_l (e.trans e1) hl) hz p f hw (fun v hv => (ht v hv).mono (e.trans e1)) (fun v hv hp => (he v hv hp).mono (e.trans e1)) hD fun H' e2 hl2 => q D H' (fresh_back e1 hD) (e1.trans e2) hl2⟩
theorem el_T (l : List Nat) (p : Nat → Bool) (f : Nat → V) (h : Ev tl σ H (.ref a)) (hl : SqT K H a (ns l)) (hz : l.length ≤ 1000) (hw : ∀ x, wipe ((wipe σ vs).set j (some x)) vs = wipe σ vs)
    (ht : ∀ v, v ∈ l → EvT t ((wipe σ vs).set j (some (.int (v : Int)))) H (p v)) (he : ∀ v, v ∈ l → p v = true → Ev te ((wipe σ vs).set j (some (.int (v : Int)))) H (f v)) :
    EvL (tLc (iTup K tl) (gName j) t te vs) σ H ((l.filter p).map f) := fun H0 e Q q => h H0 e _ fun H1 e1 => ⟨a, rfl, ⟨_, ex_t (e.trans e1) hl⟩, fun D hD =>
  lcT l (ex_t (e.trans e1) hl) hz p f hw (fun v hv => (ht v hv).mono (e.trans e1)) (fun v hv hp => (he v hv hp).mono (e.trans e1)) hD fun H' e2 hl2 => q D H' (fresh_back e1 hD) (e1.trans e2) hl2⟩
theorem el_R {ta : TA} {m : Int} (n : Nat) (p : Nat → Bool) (f : Nat → V) (h : EvA ta σ H [.int m]) (hm : m = (n : Int)) (hz : n ≤ 1000) (hw : ∀ x, wipe ((wipe σ vs).set j (some x)) vs = wipe σ vs)
    (ht : ∀ v, v < n → EvT t ((wipe σ vs).set j (some (.int (v : Int)))) H (p v)) (he : ∀ v, v < n → p v = true → Ev te ((wipe σ vs).set j (some (.int (v : Int)))) H (f v)) :
    EvL (tLc (iRng1 ta) (gName j) t te vs) σ H (((List.range n).filter p).map f) := fun H0 e Q q => h H0 e _ fun H1 e1 => ⟨m, rfl, by omega, by omega, fun D hD =>
  lcR hm hz p f hw (fun v hv => (ht v hv).mono (e.trans e1)) (fun v hv hp => (he v hv hp).mono (e.trans e1)) hD fun H' e2 hl2 => q D H' (fresh_back e1 hD) (e1.trans e2) hl2⟩
theorem yes_go {A B : Hp → Prop} (h : A H) : tYes σ H (fun b H3 => if b = true then A H3 else B H3) := iteT (B := B H) h
theorem et_yes : EvT tYes σ H true := fun H1 _ _ q => q H1 (Ex.refl H1)
theorem et_mono {H' : Hp} {b : Bool} (e : Ex H H') (h : EvT t σ H b) : EvT t σ H' b := h.mono e
theorem rv_neN {a b : List Nat} {p q : Addr} (hp : SqL K H p (ns a)) (hq : SqL K H q (ns b)) : RV (rNeD K) (.ref p) (.ref q) H (.bl (!decide (a = b))) := fun H1 e Q k =>
  ⟨_, _, .lst (ex_l e hp) (dp_ns a), .lst (ex_l e hq) (dp_ns b), di_shL a, di_shL b, by rw [di_eqL]; exact k H1 (Ex.refl H1)⟩
theorem rv_eqN {a b : List Nat} {p q : Addr} (hp : SqL K H p (ns a)) (hq : SqL K H q (ns b)) : RV (rEqD K) (.ref p) (.ref q) H (.bl (decide (a = b))) := fun H1 e Q k =>
  ⟨_, _, .lst (ex_l e hp) (dp_ns a), .lst (ex_l e hq) (dp_ns b), di_shL a, di_shL b, by rw [di_eqL]; exact k H1 (Ex.refl H1)⟩
theorem rv_eqT {a b : List Nat} {p q : Addr} (hp : SqT K H p (ns a)) (hq : SqT K H q (ns b)) : RV (rEqD K) (.ref p) (.ref q) H (.bl (decide (a = b))) := fun H1 e Q k =>
  ⟨_, _, .tup (ex_t e hp) (dp_ns a), .tup (ex_t e hq) (dp_ns b), di_shT a, di_shT b, by rw [di_eqT]; exact k H1 (Ex.refl H1)⟩
/-- [..] != [] -/
theorem ev_neNil {l : List Nat} (h : EvL ta σ H (ns l)) : Ev (tOp (rNeD K) ta (tLst tNil)) σ H (.bl (!l.isEmpty)) := by
  rw [← dec_nil]
  exact ev_opLL h (el_lst ea_nil (Nat.zero_le _)) fun p q H1 hp hq _ => rv_neN (b := []) (.of hp) (.of hq)
theorem ev_inL (l : List Nat) {p : Addr} {v : Nat} (ha : Ev ta σ H (.int (v : Int))) (hb : Ev tb σ H (.ref p)) (h : SqL K H p (ns l)) : Ev (tOp (rIn K false) ta tb) σ H (.bl (decide (v ∈ l))) := by
  rw [← ns_in]
  exact ev_op ha hb (rv_isL h rfl (ns_flat l))
theorem ev_inT (l : List Nat) {p : Addr} {v : Nat} (ha : Ev ta σ H (.int (v : Int))) (hb : Ev tb σ H (.ref p)) (h : SqT K H p (ns l)) : Ev (tOp (rIn K false) ta tb) σ H (.bl (decide (v ∈ l))) := by
  rw [← ns_in]
  exact ev_op ha hb (rv_isT h rfl (ns_flat l))
theorem ev_niL (l : List Nat) {p : Addr} {v : Nat} (ha : Ev ta σ H (.int (v : Int))) (hb : Ev tb σ H (.ref p)) (h : SqL K H p (ns l)) : Ev (tOp (rIn K true) ta tb) σ H (.bl (!decide (v ∈ l))) := by
  rw [← ns_in]
  exact ev_op ha hb (rv_niL h rfl (ns_flat l))
theorem ev_niT (l : List Nat) {p : Addr} {v : Nat} (ha : Ev ta σ H (.int (v : Int))) (hb : Ev tb σ H (.ref p)) (h : SqT K H p (ns l)) : Ev (tOp (rIn K true) ta tb) σ H (.bl (!decide (v ∈ l))) := by
  rw [← ns_in]
  exact ev_op ha hb (rv_niT h rfl (ns_flat l))
theorem ns_map (l : List Nat) : l.map (fun v : Nat => V.int (v : Int)) = ns l := rfl
theorem filter_true (l : List Nat) : l.filter (fun _ => true) = l := List.filter_eq_self.mpr fun _ _ => rfl
/-- sorted lists of places -/
theorem sorted_nat {l : List Nat} {is : List Int} (hp : is.Perm (l.map fun k : Nat => (k : Int))) (hs : is.Pairwise (· ≤ ·)) : ∃ m : List Nat, is.map V.int = ns m ∧ m.Perm l ∧ m.Pairwise (· ≤ ·) := by
  refine ⟨is.map Int.toNat, ?_, ?_, ?_⟩
  · unfold ns
    rw [List.map_map]
    refine List.map_congr_left fun x hx => ?_
    obtain ⟨k, _, rfl⟩ := List.mem_map.mp (hp.mem_iff.mp hx)
    rfl
  · have := hp.map Int.toNat
    rw [List.map_map] at this
    have e : (Int.toNat ∘ fun k : Nat => (k : Int)) = id := by funext k; rfl
    rw [e, List.map_id] at this
    exact this
  · exact List.pairwise_map.mpr (hs.imp fun h => by omega)
/-- .. told: the rising list of the same places -/
theorem sorted_strict {l m : List Nat} (hn : l.Nodup) (hm : m.Pairwise (· < ·)) (h : ∀ x, x ∈ l ↔ x ∈ m) {is : List Int} (hp : is.Perm (l.map fun k : Nat => (k : Int))) (hs : is.Pairwise (· ≤ ·)) : is.map V.int = ns m := by
  obtain ⟨k, h1, h2, h3⟩ := sorted_nat hp hs
  rw [h1, strict_ext (strict_of h3 (h2.nodup_iff.mpr hn)) hm fun x => (h2.mem_iff).trans (h x)]
end
end ML
set_option Elab.async false
set_option linter.all false
set_option maxRecDepth 100000
set_option maxHeartbeats 4000000
namespace ML
open PySem PySem.Spec PyProof.Rows L2 Evl
/-! ### kinds of data -/
def tyD : PyData → String
  | .none => "NoneType"
  | .bool _ => "bool"
  | .int _ => "int"
  | .str _ => "str"
  | .list _ => "list"
  | .tuple _ => "tuple"
  | .dict _ => "dict"
theorem sqL_ty {K : PySem.W.Frag} {H : Hp} {a : Addr} {xs : List V} (h : SqL K H a xs) : TyX K H (.ref a) (.type "list") := by
  rcases h with (h | ⟨o, h⟩) | ⟨o, its, n, h1, h2, _⟩
  · exact .base (.lst h)
  · exact .base (.frz h)
  · exact .kList h1 h2
theorem sqT_ty {K : PySem.W.Frag} {H : Hp} {a : Addr} {xs : List V} (h : SqT K H a xs) : TyX K H (.ref a) (.type "tuple") := by
  rcases h with (h | ⟨o, h⟩) | ⟨o, its, n, h1, h2, _⟩
  · exact .base (.tup h)
  · exact .fTuple h
  · exact .kTuple h1 h2
theorem dp_ty {K : PySem.W.Frag} {H : Hp} {v : V} {d : PyData} (h : Dp K H v d) : TyX K H v (.type (tyD d)) := by
  cases h with
  | non => exact .base .non
  | bl b => exact .base (.bl b)
  | int i => exact .base (.int i)
  | str x => exact .base (.str x)
  | lst h _ => exact sqL_ty h
  | tup h _ => exact sqT_ty h
def isTupD : PyData → Bool
  | .tuple _ => true
  | _ => false
def isIntD : PyData → Bool
  | .bool _ => true
  | .int _ => true
  | _ => false
def isBoolD : PyData → Bool
  | .bool _ => true
  | _ => false
theorem kit_tup {K : PySem.W.Frag} : ∀ d : PyData, PySem.W.kitOne K (.type (tyD d)) (.type "tuple") = some (isTupD d)
  | .none => kit_ty (show kitB "NoneType" "tuple" = some false by decide +kernel)
  | .bool _ => kit_ty (show kitB "bool" "tuple" = some false by decide +kernel)
  | .int _ => kit_ty (show kitB "int" "tuple" = some false by decide +kernel)
  | .str _ => kit_ty (show kitB "str" "tuple" = some false by decide +kernel)
  | .list _ => kit_ty (show kitB "list" "tuple" = some false by decide +kernel)
  | .tuple _ => kit_ty (show kitB "tuple" "tuple" = some true by decide +kernel)
  | .dict _ => kit_ty (show kitB "dict" "tuple" = some false by decide +kernel)
theorem kit_int {K : PySem.W.Frag} : ∀ d : PyData, PySem.W.kitOne K (.type (tyD d)) (.type "int") = some (isIntD d)
  | .none => kit_ty (show kitB "NoneType" "int" = some false by decide +kernel)
  | .bool _ => kit_ty (show kitB "bool" "int" = some true by decide +kernel)
  | .int _ => kit_ty (show kitB "int" "int" = some true by decide +kernel)
  | .str _ => kit_ty (show kitB "str" "int" = some false by decide +kernel)
  | .list _ => kit_ty (show kitB "list" "int" = some false by decide +kernel)
  | .tuple _ => kit_ty (show kitB "tuple" "int" = some false by decide +kernel)
  | .dict _ => kit_ty (show kitB "dict" "int" = some false by decide +kernel)
theorem kit_bool {K : PySem.W.Frag} : ∀ d : PyData, PySem.W.kitOne K (.type (tyD d)) (.type "bool") = some (isBoolD d)
  | .none => kit_ty (show kitB "NoneType" "bool" = some false by decide +kernel)
  | .bool _ => kit_ty (show kitB "bool" "bool" = some true by decide +kernel)
  | .int _ => kit_ty (show kitB "int" "bool" = some false by decide +kernel)
  | .str _ => kit_ty (show kitB "str" "bool" = some false by decide +kernel)
  | .list _ => kit_ty (show kitB "list" "bool" = some false by decide +kernel)
  | .tuple _ => kit_ty (show kitB "tuple" "bool" = some false by decide +kernel)
  | .dict _ => kit_ty (show kitB "dict" "bool" = some false by decide +kernel)
section
variable {P : Program} {w : World} {K : PySem.W.Frag} {mg : Str → Option Value} {base : Heap}
/-! ### is_int -/
abbrev st_is_int : Stmt := top 1
theorem sc_is_int : FnScope ["thing", "least", "most"] ["thing", "least", "most"] (defScope st_is_int) := ⟨rfl, rfl, rfl, by decide +kernel, rfl, by decide +kernel, by decide +kernel⟩
def intIn (lo hi : Int) : PyData → Bool
  | .int i => decide (lo ≤ i) && decide (i ≤ hi)
  | _ => false
def sp_is_int (K : PySem.W.Frag) : Sp := fun vs H Q _ => ∃ x d lo hi, vs = [x, .int lo, .int hi] ∧ Dp K H x d ∧ Q (.bl (intIn lo hi d)) H
theorem D_is_int (L : Ld K mg "is_int" st_is_int) (B : Bt mg) : Def P w K mg base "is_int" 1 ["thing", "least", "most"] (sp_is_int K) := by
  refine L.ok (ps := ["thing", "least", "most"]) sc_is_int (fun _ _ _ _ _ _ us hl => match us, hl with | [_, _, _], _ => rfl) (fun vs H Q E h => ?_) (fun f cdv A outer s H vs Q E hr h => ?_)
  · obtain ⟨x, d, lo, hi, rfl, _⟩ := h
    rfl
  · obtain ⟨x, d, lo, hi, rfl, hd, q⟩ := h
    refine ⟨_, (pss_one (ps_ret (pe_and (pe_callB (r := rIsi K) call_isi (by rfl) B.isinstance_ (by decide +kernel) (pa_cons (pv 0) (pa_cons (pe_bltn (v := .ty "int") (by rfl) B.int_ (by decide +kernel) rfl) pa_nil))) (pe_and (pe_not (pe_callB (r := rIsi K) call_isi (by rfl) B.isinstance_ (by decide +kernel) (pa_cons (pv 0) (pa_cons (pe_bltn (v := .ty "bool") (by rfl) B.bool_ (by decide +kernel) rfl) pa_nil)))) (pe_one (pe_chain op_le op_le (pv 1) (pv 0) (pv 2))))))), ?_⟩
    refine ⟨x, rfl, x, _, _, _, _, rfl, .ty "int", dp_ty hd, kit_int d, _, rfl, ?_⟩
    cases hd with
    | int i =>
      refine iteT ⟨_, rfl, _, _, _, _, _, rfl, .ty "bool", dp_ty (.int i), kit_bool (.int i), _, rfl, _, rfl, iteT ?_⟩
      refine ⟨_, rfl, _, rfl, _, _, rfl, rfl, _, rfl, ite2 (fun h => ?_) (fun h => ?_)⟩
      · refine ⟨_, rfl, _, _, rfl, rfl, ?_⟩
        rw [show intIn lo hi (.int i) = (decide (lo ≤ i) && decide (i ≤ hi)) from rfl, h] at q
        exact q
      · rw [show intIn lo hi (.int i) = (decide (lo ≤ i) && decide (i ≤ hi)) from rfl, Bool.eq_false_iff.mpr h] at q
        exact q
    | bl b =>
      refine iteT ⟨_, rfl, _, _, _, _, _, rfl, .ty "bool", dp_ty (.bl b), kit_bool (.bool b), _, rfl, _, rfl, iteF ?_⟩
      exact q
    | non => exact iteF q
    | str x => exact iteF q
    | lst h a => exact iteF q
    | tup h a => exact iteF q
/-! ### is_tuple -/
abbrev st_is_tuple : Stmt := top 2
theorem sc_is_tuple : FnScope ["thing", "length"] ["thing", "length"] (defScope st_is_tuple) := ⟨rfl, rfl, rfl, by decide +kernel, rfl, by decide +kernel, by decide +kernel⟩
def tupLen (l : Option Nat) : PyData → Bool
  | .tuple ds => match l with
    | none => true
    | some k => decide (ds.length = k)
  | _ => false
def lenV : Option Nat → V
  | none => .non
  | some k => .int (k : Int)
def sp_is_tuple (K : PySem.W.Frag) : Sp := fun vs H Q _ => ∃ x d l, vs = [x, lenV l] ∧ Dp K H x d ∧ Q (.bl (tupLen l d)) H
theorem D_is_tuple (L : Ld K mg "is_tuple" st_is_tuple) (B : Bt mg) : Def P w K mg base "is_tuple" 1 ["thing", "length"] (sp_is_tuple K) := by
  refine L.ok (ps := ["thing", "length"]) sc_is_tuple (fun _ _ _ _ _ _ us hl => match us, hl with | [_, _], _ => rfl) (fun vs H Q E h => ?_) (fun f cdv A outer s H vs Q E hr h => ?_)
  · obtain ⟨x, d, l, rfl, _⟩ := h
    rfl
  · obtain ⟨x, d, l, rfl, hd, q⟩ := h
    refine ⟨_, (pss_one (ps_ret (pe_and (pe_callB (r := rIsi K) call_isi (by rfl) B.isinstance_ (by decide +kernel) (pa_cons (pv 0) (pa_cons (pe_bltn (v := .ty "tuple") (by rfl) B.tuple_ (by decide +kernel) rfl) pa_nil))) (pe_one (pe_or (pe_cmpR op_isN (pv 1) pe_non (nomark _)) (pe_one (pe_cmpR (r := rEqD K) (op_eqD hr.units) (pe_callB (r := rLn K) call_ln (by rfl) B.len_ (by decide +kernel) (pa_cons (pv 0) pa_nil)) (pv 1) (nomark _)))))))), ?_⟩
    refine ⟨x, rfl, x, _, _, _, _, rfl, .ty "tuple", dp_ty hd, kit_tup d, _, rfl, ?_⟩
    cases hd with
    | tup h a =>
      refine iteT ⟨_, rfl, rfl, _, rfl, ?_⟩
      cases l with
      | none => exact iteT q
      | some k =>
        refine iteF ⟨_, rfl, _, _, rfl, .inr h, _, rfl, _, _, .int _, .int _, rfl, rfl, ?_⟩
        rename_i a1 xs ds
        have e : PyData.eqv (.int (xs.length : Int)) (.int (k : Int)) = tupLen (some k) (.tuple ds) := by
          rw [PyData.eqv, dpa_len a]
          show ((ds.length : Int) == (k : Int)) = decide (ds.length = k)
          by_cases hk : ds.length = k
          · rw [decide_eq_true hk, hk]
            simp
          · rw [decide_eq_false hk]
            exact beq_eq_false_iff_ne.mpr (by omega)
        show Q (.bl (PyData.eqv (.int (xs.length : Int)) (.int (k : Int)))) H
        rw [e]
        exact q
    | int i => exact iteF q
    | bl b => exact iteF q
    | non => exact iteF q
    | str x => exact iteF q
    | lst h a => exact iteF q
end
end ML
set_option Elab.async false
set_option linter.all false
set_option maxRecDepth 100000
set_option maxHeartbeats 4000000
namespace ML
open PySem PySem.Spec PyProof.Rows L2 Evl
section
variable {P : Program} {w : World} {K : PySem.W.Frag} {mg : Str → Option Value} {base : Heap}
/-! ### is_rising -/
abbrev st_is_rising : Stmt := top 3
theorem sc_is_rising : FnScope ["thing", "most", "last", "item"] ["thing", "most"] (defScope st_is_rising) := ⟨rfl, rfl, rfl, by decide +kernel, rfl, by decide +kernel, by decide +kernel⟩
def risL (m : Int) : Int → List PyData → Bool
  | _, [] => true
  | last, .int i :: ds => intIn (last + 1) m (.int i) && risL m i ds
  | _, _ :: _ => false
def risD (m : Int) : PyData → Bool
  | .tuple ds => risL m (-1) ds
  | _ => false
theorem risD_not {m : Int} {d : PyData} (h : tupLen none d = false) : risD m d = false := by
  cases d <;> first | rfl | exact absurd h (by simp [tupLen])
theorem intIn_int {lo hi : Int} {d : PyData} (h : intIn lo hi d = true) : ∃ i, d = .int i := by
  cases d <;> first | exact ⟨_, rfl⟩ | exact absurd h (by simp [intIn])
theorem risL_no {m last : Int} {d : PyData} {ds : List PyData} (h : intIn (last + 1) m d = false) : risL m last (d :: ds) = false := by
  cases d with
  | int i =>
    show (intIn (last + 1) m (.int i) && risL m i ds) = false
    rw [h]
    rfl
  | _ => rfl
def sp_is_rising (K : PySem.W.Frag) : Sp := fun vs H Q _ => ∃ x d m, vs = [x, .int m] ∧ Dp K H x d ∧ Q (.bl (risD m d)) H
theorem D_is_rising (L : Ld K mg "is_rising" st_is_rising) (B : Bt mg) (D_is_tuple : Def P w K mg base "is_tuple" 1 ["thing", "length"] (sp_is_tuple K)) (D_is_int : Def P w K mg base "is_int" 1 ["thing", "least", "most"] (sp_is_int K)) : Def P w K mg base "is_rising" 2 ["thing", "most"] (sp_is_rising K) := by
  refine L.ok (ps := ["thing", "most"]) sc_is_rising (fun _ _ _ _ _ _ us hl => match us, hl with | [_, _], _ => rfl) (fun vs H Q E h => ?_) (fun f cdv A outer s H vs Q E hr h => ?_)
  · obtain ⟨x, d, m, rfl, _⟩ := h
    rfl
  · obtain ⟨x, d, m, rfl, hd, q⟩ := h
    refine ⟨_, (pss_cons (ps_if (pt_not (pt_val (pe_def D_is_tuple (hr.mono (by decide)) (by rfl) (pa_cons (pv 0) (pa_cons pe_non pa_nil))))) (pss_one (ps_ret pe_bl)) pss_nil)
      (pss_cons (ps_set (i := 2) sc_is_rising.nd rfl (.inl rfl) (pe_un un_neg pe_int))
      (pss_cons (ps_for PassesOwn.never rfl (pi_tupK K rfl (pv 0)) (pg_name (i := 3) sc_is_rising.nd rfl (.inl rfl))
        (pss_cons (ps_if (pt_not (pt_val (pe_def D_is_int (hr.mono (by decide)) (by rfl) (pa_cons (pv 3) (pa_cons (pe_op op_add (pv 2) pe_int) (pa_cons (pv 1) pa_nil)))))) (pss_one (ps_ret pe_bl)) pss_nil)
      (pss_one (ps_set (i := 2) sc_is_rising.nd rfl (.inl rfl) (pv 3)))))
      (pss_one (ps_ret pe_bl))))), ?_⟩
    refine ⟨x, rfl, x, d, none, rfl, hd, _, rfl, ?_⟩
    cases ht : tupLen none d with
    | false =>
      refine iteT ?_
      rw [risD_not ht] at q
      exact q
    | true =>
      refine iteF ?_
      cases hd with
      | @tup a xs ds hs ha =>
        refine ⟨1, rfl, _, rfl, a, rfl, ⟨_, hs⟩, for_tup (fun i σ H' => H' = H ∧ ∃ last y, σ = [some (.ref a), some (.int m), some (.int last), y] ∧ risL m (-1) ds = risL m last (ds.drop i)) ⟨rfl, -1, none, rfl, rfl⟩ (fun i σ H' _ hP => by rw [hP.1]; exact hs) (fun i v σ H' hi hP => ?_) (fun σ H' hP => ?_)⟩
        · obtain ⟨rfl, last, y, rfl, er⟩ := hP
          obtain ⟨e, he, hv⟩ := dpa_get ha hi
          have ed : ds.drop i = e :: ds.drop (i + 1) := by
            obtain ⟨h1, h2⟩ := List.getElem?_eq_some_iff.mp he
            rw [List.drop_eq_getElem_cons h1, h2]
          refine ⟨v, rfl, _, rfl, last, 1, rfl, rfl, _, rfl, v, e, last + 1, m, rfl, hv, _, rfl, ?_⟩
          cases hin : intIn (last + 1) m e with
          | false =>
            refine iteT ?_
            rw [show risD m (.tuple ds) = risL m (-1) ds from rfl, er, ed, risL_no hin] at q
            exact q
          | true =>
            refine iteF ?_
            obtain ⟨j, rfl⟩ := intIn_int hin
            cases hv
            refine ⟨_, rfl, rfl, j, _, rfl, ?_⟩
            rw [er, ed]
            show (intIn (last + 1) m (.int j) && risL m j (ds.drop (i + 1))) = _
            rw [hin, Bool.true_and]
        · obtain ⟨rfl, last, y, rfl, er⟩ := hP
          rw [show risD m (.tuple ds) = risL m (-1) ds from rfl, er, dpa_len ha, List.drop_length] at q
          exact q
      | _ => exact absurd ht (by simp [tupLen])
/-- what is_rising lets by -/
theorem risL_iff {n : Nat} : ∀ {ds : List PyData} {last : Int}, -1 ≤ last → risL ((n : Int) - 1) last ds = true → ∃ L : List Nat, ds = di L ∧ L.Pairwise (· < ·) ∧ (∀ v ∈ L, v < n) ∧ ∀ v ∈ L, last < (v : Int)
  | [], _, _, _ => ⟨[], rfl, .nil, fun v hv => absurd hv (by simp), fun v hv => absurd hv (by simp)⟩
  | d :: ds, last, hl, h => by
    cases d with
    | int i =>
      have h' : (intIn (last + 1) ((n : Int) - 1) (.int i) && risL ((n : Int) - 1) i ds) = true := h
      rw [Bool.and_eq_true] at h'
      obtain ⟨h1, h2⟩ := h'
      have h1' : (decide (last + 1 ≤ i) && decide (i ≤ (n : Int) - 1)) = true := h1
      rw [Bool.and_eq_true, decide_eq_true_eq, decide_eq_true_eq] at h1'
      obtain ⟨L, e, p, q, r⟩ := risL_iff (ds := ds) (last := i) (by omega) h2
      obtain ⟨k, rfl⟩ : ∃ k : Nat, i = (k : Int) := ⟨i.toNat, by omega⟩
      refine ⟨k :: L, by rw [e]; rfl, List.pairwise_cons.mpr ⟨fun v hv => by have := r v hv; omega, p⟩, fun v hv => ?_, fun v hv => ?_⟩
      · rcases List.mem_cons.mp hv with e | e
        · rw [e]; omega
        · exact q v e
      · rcases List.mem_cons.mp hv with e | e
        · rw [e]; omega
        · have := r v e
          omega
    | _ => exact absurd h (by simp [risL])
theorem risL_di {n : Nat} : ∀ {L : List Nat} {last : Int}, L.Pairwise (· < ·) → (∀ v ∈ L, v < n) → (∀ v ∈ L, last < (v : Int)) → risL ((n : Int) - 1) last (di L) = true
  | [], _, _, _, _ => rfl
  | k :: L, last, p, q, r => by
    obtain ⟨p1, p2⟩ := List.pairwise_cons.mp p
    show (intIn (last + 1) ((n : Int) - 1) (.int (k : Int)) && risL ((n : Int) - 1) (k : Int) (di L)) = true
    rw [risL_di p2 (fun v hv => q v (List.mem_cons_of_mem _ hv)) (fun v hv => by have := p1 v hv; omega)]
    show ((decide (last + 1 ≤ (k : Int)) && decide ((k : Int) ≤ (n : Int) - 1)) && true) = true
    have h1 := r k List.mem_cons_self
    have h2 := q k List.mem_cons_self
    rw [decide_eq_true (by omega), decide_eq_true (by omega)]
    rfl
theorem risD_di {n : Nat} {L : List Nat} (h : Rise n L) : risD ((n : Int) - 1) (.tuple (di L)) = true := risL_di h.up h.lt fun v _ => by omega
theorem risD_iff {n : Nat} {d : PyData} (h : risD ((n : Int) - 1) d = true) : ∃ L, d = .tuple (di L) ∧ Rise n L := by
  cases d with
  | tuple ds =>
    obtain ⟨L, e, p, q, _⟩ := risL_iff (ds := ds) (Int.le_refl _) h
    exact ⟨L, by rw [e], p, q⟩
  | _ => exact absurd h (by simp [risD])
/-! ### places_of -/
abbrev st_places_of : Stmt := top 23
theorem sc_places_of : FnScope ["tree"] ["tree"] (defScope st_places_of) := ⟨rfl, rfl, rfl, by decide +kernel, rfl, by decide +kernel, by decide +kernel⟩
def sp_places_of (K : PySem.W.Frag) : Sp := fun vs H Q _ => ∃ a xs, vs = [.ref a] ∧ SqT K H a xs ∧ Q (.int ((xs.length : Int) + 1)) H
theorem D_places_of (L : Ld K mg "places_of" st_places_of) (B : Bt mg) : Def P w K mg base "places_of" 1 ["tree"] (sp_places_of K) := by
  refine L.ok (ps := ["tree"]) sc_places_of (fun _ _ _ _ _ _ us hl => match us, hl with | [_], _ => rfl) (fun vs H Q E h => ?_) (fun f cdv A outer s H vs Q E hr h => ?_)
  · obtain ⟨a, xs, rfl, _⟩ := h
    rfl
  · obtain ⟨a, xs, rfl, hs, q⟩ := h
    refine ⟨_, (pss_one (ps_ret (pe_op op_add (pe_callB (r := rLn K) call_ln (by rfl) B.len_ (by decide +kernel) (pa_cons (pv 0) pa_nil)) pe_int))), ?_⟩
    exact ⟨_, rfl, _, _, rfl, .inr hs, _, _, rfl, rfl, q⟩
/-! ### all_others -/
abbrev st_all_others : Stmt := top 15
theorem sc_all_others : FnScope ["busy", "place", "other"] ["busy", "place"] (defScope st_all_others) := ⟨rfl, rfl, rfl, by decide +kernel, rfl, by decide +kernel, by decide +kernel⟩
def sp_all_others (K : PySem.W.Frag) : Sp := fun vs H Q _ => ∃ a L p, vs = [.ref a, .int ((p : Nat) : Int)] ∧ SqT K H a (ns L) ∧ L.length ≤ 1000 ∧ ∀ r H', H r = none → Ex H H' → H' r = some (.tup (ns (wop L p))) → Q (.ref r) H'
theorem D_all_others (L : Ld K mg "all_others" st_all_others) (B : Bt mg) : Def P w K mg base "all_others" 1 ["busy", "place"] (sp_all_others K) := by
  refine L.ok (ps := ["busy", "place"]) sc_all_others (fun _ _ _ _ _ _ us hl => match us, hl with | [_, _], _ => rfl) (fun vs H Q E h => ?_) (fun f cdv A outer s H vs Q E hr h => ?_)
  · obtain ⟨a, L, p, rfl, _⟩ := h
    rfl
  · obtain ⟨a, L, p, rfl, hs, hz, q⟩ := h
    refine ⟨_, (pss_one (ps_ret (pe_callTy (r := rTp K) call_tp (by rfl) B.tuple_ (by decide +kernel) (pa_cons (pe_lc (own := [("other", 2)]) (g := gName 2) (by rfl) sc_all_others.nd (pi_tupK K rfl (pv 0)) (blkOk_by (N := ["busy", "place", "other"]) (sc := defScope st_all_others) (by decide +kernel)) (fun _ _ _ _ _ => (pg_name (i := 2) sc_all_others.nd rfl (.inl rfl))) (fun _ _ _ _ _ => (pts_one (pt_cmpR op_ne (pv 2) (pv 1) (nomark _)))) (fun _ _ _ _ _ => (pv 2))) pa_nil)))), ?_⟩
    refine ⟨_, rfl, a, rfl, ⟨_, hs⟩, fun D hD => ?_⟩
    refine lcT L hs hz (fun x => decide (x ≠ p)) (fun v => .int (v : Int)) (fun _ => ?_) (fun v hv => ?_) (fun v hv _ => ?_) hD fun H' e hl => ?_
    · rfl
    · refine et_is (et_test (ev_op (ev_var rfl) (ev_var rfl) (rv_ne rfl))) ?_
      rw [dec_ns]
      exact decide_not.symm
    · exact ev_var rfl
    · exact ⟨D, _, rfl, .inl ⟨SqL.of hl, fun l hl2 => q l _ (fresh_back e hl2) (e.trans (Ex.new hl2)) upd_same⟩⟩
/-! ### marks_of -/
abbrev st_marks_of : Stmt := top 8
theorem sc_marks_of : FnScope ["places", "many", "marks", "place"] ["places", "many"] (defScope st_marks_of) := ⟨rfl, rfl, rfl, by decide +kernel, rfl, by decide +kernel, by decide +kernel⟩
def marks (n : Nat) (p : Nat → Bool) : List V := (List.range n).map fun v => V.bl (p v)
theorem marks_len (n : Nat) (p : Nat → Bool) : (marks n p).length = n := by unfold marks; rw [List.length_map, List.length_range]
theorem marks_get {n : Nat} {p : Nat → Bool} {v : Nat} (h : v < n) : (marks n p)[v]? = some (.bl (p v)) := by
  unfold marks
  rw [List.getElem?_map, List.getElem?_range h]
  rfl
theorem marks_set {n : Nat} {p : Nat → Bool} {v : Nat} (b : Bool) : (marks n p).set v (.bl b) = marks n (fun u => if u = v then b else p u) := by
  apply List.ext_getElem?
  intro i
  by_cases hi : i < n
  · rw [marks_get hi]
    by_cases e : v = i
    · subst e
      rw [List.getElem?_set_self (by rw [marks_len]; exact hi), if_pos rfl]
    · rw [List.getElem?_set_ne e, marks_get hi, if_neg (fun c => e c.symm)]
  · rw [List.getElem?_eq_none (by rw [List.length_set, marks_len]; omega), List.getElem?_eq_none (by rw [marks_len]; omega)]
theorem marks_congr {n : Nat} {p q : Nat → Bool} (h : ∀ v, v < n → p v = q v) : marks n p = marks n q := by
  unfold marks
  refine List.map_congr_left fun v hv => ?_
  rw [h v (List.mem_range.mp hv)]
def sp_marks_of (K : PySem.W.Frag) : Sp := fun vs H Q _ => ∃ a L n, vs = [.ref a, .int ((n : Nat) : Int)] ∧ SqT K H a (ns L) ∧ (∀ v ∈ L, v < n) ∧ n ≤ 1000 ∧ ∀ r H', H r = none → Ex H H' → H' r = some (.lst (marks n fun v => decide (v ∈ L))) → Q (.ref r) H'
theorem D_marks_of (L : Ld K mg "marks_of" st_marks_of) (B : Bt mg) : Def P w K mg base "marks_of" 1 ["places", "many"] (sp_marks_of K) := by
  refine L.ok (ps := ["places", "many"]) sc_marks_of (fun _ _ _ _ _ _ us hl => match us, hl with | [_, _], _ => rfl) (fun vs H Q E h => ?_) (fun f cdv A outer s H vs Q E hr h => ?_)
  · obtain ⟨a, L, n, rfl, _⟩ := h
    rfl
  · obtain ⟨a, L, n, rfl, hs, hlt, hz, q⟩ := h
    refine ⟨_, (pss_cons (ps_set (i := 2) sc_marks_of.nd rfl (.inl rfl) (pe_op op_rep (pe_lst (pa_cons pe_bl pa_nil)) (pv 1)))
      (pss_cons (ps_for PassesOwn.never rfl (pi_tupK K rfl (pv 0)) (pg_name (i := 3) sc_marks_of.nd rfl (.inl rfl))
        (pss_one (ps_asg pe_bl (pg_sub (pv 2) (pv 3) set_list))))
      (pss_one (ps_ret (pv 2))))), ?_⟩
    refine ⟨by show 1 ≤ sizeLine; decide, fun o ho => ?_⟩
    have eN : (List.replicate ((n : Int)).toNat [V.bl false]).flatten = marks n fun _ => false := by
      rw [show ((n : Int)).toNat = n by omega]
      unfold marks
      rw [List.map_const', List.length_range]
      have e : ∀ k : Nat, (List.replicate k [V.bl false]).flatten = List.replicate k (V.bl false) := fun k => by
        induction k with
        | zero => rfl
        | succ k ih => rw [List.replicate_succ, List.replicate_succ, List.flatten_cons, ih]; rfl
      exact e n
    refine ⟨_, rfl, o, (n : Int), _, rfl, rfl, upd_same, by omega, by omega, ?_, fun m hm => ?_⟩
    · show 1 * ((n : Int)).toNat ≤ sizeLine
      have : (1000 : Nat) ≤ sizeLine := by decide
      omega
    · rw [eN]
      have hm' : H m = none := fresh_back (Ex.new ho) hm
      have e0 : Ex H (upd (upd H o (.lst [V.bl false])) m (.lst (marks n fun _ => false))) := (Ex.new ho).trans (Ex.new hm)
      refine ⟨_, rfl, a, rfl, ⟨_, ex_t e0 hs⟩, for_tup (fun i σ H' => Ex H H' ∧ H' m = some (.lst (marks n fun v => decide (v ∈ L.take i))) ∧ ∃ y, σ = [some (.ref a), some (.int (n : Int)), some (.ref m), y]) ⟨e0, ?_, none, rfl⟩ (fun i σ H' _ hP => ex_t hP.1 hs) (fun i v σ H' hi hP => ?_) (fun σ H' hP => ?_)⟩
      · rw [upd_same]
        exact congrArg (fun l => some (HO.lst l)) (marks_congr fun v _ => (decide_eq_false (by simp)).symm)
      · obtain ⟨q1, q2, y, rfl⟩ := hP
        obtain ⟨u, hu, hm2, rfl⟩ := ns_got hi
        have hun := hlt u hm2
        refine ⟨_, rfl, _, rfl, m, _, _, u, rfl, rfl, q2, ixN_nat (by rw [marks_len]; exact hun), Ex.mut q1 hm', ?_, _, rfl⟩
        rw [upd_same, marks_set]
        refine congrArg (fun l => some (HO.lst l)) (marks_congr fun v _ => ?_)
        rw [List.take_add_one, hu]
        by_cases e : v = u
        · rw [if_pos e, decide_eq_true (by rw [e]; simp)]
        · rw [if_neg e]
          by_cases h2 : v ∈ L.take i
          · rw [decide_eq_true h2, decide_eq_true (List.mem_append_left _ h2)]
          · rw [decide_eq_false h2, decide_eq_false]
            intro c
            rcases List.mem_append.mp c with c | c
            · exact h2 c
            · exact e (List.mem_singleton.mp c)
      · obtain ⟨q1, q2, y, rfl⟩ := hP
        rw [ns_len, List.take_length] at q2
        exact ⟨_, rfl, q m H' hm' q1 q2⟩
end
end ML
set_option Elab.async false
set_option linter.all false
set_option maxRecDepth 100000
set_option maxHeartbeats 4000000
namespace ML
open PySem PySem.Spec PyProof.Rows L2 Evl
/-! ### rows of ties -/
def hasT (e : Nat × Nat) (v : Nat) : List Nat := (if e.1 = v then [e.2] else []) ++ (if e.2 = v then [e.1] else [])
def rowL (E : List (Nat × Nat)) (v : Nat) : List Nat := E.flatMap fun e => hasT e v
theorem rowL_snoc (E : List (Nat × Nat)) (e : Nat × Nat) (v : Nat) : rowL (E ++ [e]) v = rowL E v ++ hasT e v := by
  unfold rowL
  rw [List.flatMap_append]
  simp
theorem mem_hasT {e : Nat × Nat} {v u : Nat} : u ∈ hasT e v ↔ e = (v, u) ∨ e = (u, v) := by
  obtain ⟨a, b⟩ := e
  unfold hasT
  rw [List.mem_append]
  constructor
  · rintro (h | h)
    · split at h
      · rename_i c
        have := List.mem_singleton.mp h
        left
        rw [this, ← c]
      · exact absurd h (by simp)
    · split at h
      · rename_i c
        have := List.mem_singleton.mp h
        right
        rw [this, ← c]
      · exact absurd h (by simp)
  · rintro (h | h)
    · obtain ⟨rfl, rfl⟩ := Prod.mk.inj h
      left
      rw [if_pos rfl]
      simp
    · obtain ⟨rfl, rfl⟩ := Prod.mk.inj h
      right
      rw [if_pos rfl]
      simp
theorem mem_rowL {E : List (Nat × Nat)} {v u : Nat} : u ∈ rowL E v ↔ (v, u) ∈ E ∨ (u, v) ∈ E := by
  unfold rowL
  rw [List.mem_flatMap]
  constructor
  · rintro ⟨e, he, h⟩
    rcases mem_hasT.mp h with h | h
    · exact .inl (h ▸ he)
    · exact .inr (h ▸ he)
  · rintro (h | h)
    · exact ⟨_, h, mem_hasT.mpr (.inl rfl)⟩
    · exact ⟨_, h, mem_hasT.mpr (.inr rfl)⟩
theorem rowL_nodup : ∀ {E : List (Nat × Nat)}, (∀ e ∈ E, e.1 < e.2) → E.Nodup → ∀ v, (rowL E v).Nodup
  | [], _, _, v => by simp [rowL]
  | e :: E, h, hn, v => by
    obtain ⟨h1, h2⟩ := List.nodup_cons.mp hn
    have ih := rowL_nodup (E := E) (fun e he => h e (List.mem_cons_of_mem _ he)) h2 v
    have he := h e List.mem_cons_self
    show (hasT e v ++ rowL E v).Nodup
    refine List.nodup_append.mpr ⟨?_, ih, fun a ha b hb c => ?_⟩
    · unfold hasT
      by_cases c1 : e.1 = v
      · rw [if_pos c1, if_neg (by omega)]
        simp
      · rw [if_neg c1]
        split <;> simp
    · subst c
      rcases mem_hasT.mp ha with ha | ha <;> rcases mem_rowL.mp hb with hb | hb
      · exact h1 (ha ▸ hb)
      · have := h _ (List.mem_cons_of_mem _ hb)
        rw [ha] at he
        simp only at this he
        omega
      · have := h _ (List.mem_cons_of_mem _ hb)
        rw [ha] at he
        simp only at this he
        omega
      · exact h1 (ha ▸ hb)
theorem rowL_deg (E : List (Nat × Nat)) (v : Nat) : (rowL E v).length = deg E v := by
  induction E with
  | nil => rfl
  | cons e E ih =>
    rw [deg_cons, ← ih]
    show (hasT e v ++ rowL E v).length = _
    rw [List.length_append]
    obtain ⟨a, b⟩ := e
    rw [deg_one]
    unfold hasT
    rw [List.length_append]
    split <;> split <;> simp
theorem rowL_len (E : List (Nat × Nat)) (v : Nat) : (rowL E v).length ≤ 2 * E.length := by
  rw [rowL_deg]
  unfold deg
  have h1 := List.countP_le_length (p := fun e : Nat × Nat => e.1 == v) (l := E)
  have h2 := List.countP_le_length (p := fun e : Nat × Nat => e.2 == v) (l := E)
  omega
/-- lists that are filled: the list of them at D, the v-th at rs[v] -/
structure RowsAt (H0 H' : Hp) (D : Addr) (rs : List Addr) (row : Nat → List Nat) : Prop where
  ex : Ex H0 H'
  d0 : H0 D = none
  lst : H' D = some (.lst (rs.map V.ref))
  nd : rs.Nodup
  fr : ∀ r ∈ rs, H0 r = none ∧ r ≠ D
  at' : ∀ v r, rs[v]? = some r → H' r = some (.lst (ns (row v)))
theorem RowsAt.mono {H0 H' H2 : Hp} {D : Addr} {rs : List Addr} {row : Nat → List Nat} (h : RowsAt H0 H' D rs row) (e : Ex H' H2) : RowsAt H0 H2 D rs row :=
  ⟨h.ex.trans e, h.d0, e _ _ h.lst, h.nd, h.fr, fun v r q => e _ _ (h.at' v r q)⟩
theorem RowsAt.app {H0 H' : Hp} {D r : Addr} {rs : List Addr} {row : Nat → List Nat} {v u : Nat} (h : RowsAt H0 H' D rs row) (hv : rs[v]? = some r) :
    RowsAt H0 (upd H' r (.lst (ns (row v) ++ [.int (u : Int)]))) D rs (fun w => if w = v then row v ++ [u] else row w) := by
  have hm := List.mem_of_getElem? hv
  refine ⟨Ex.mut h.ex (h.fr r hm).1, h.d0, by rw [upd_ne (h.fr r hm).2.symm]; exact h.lst, h.nd, h.fr, fun w q hq => ?_⟩
  by_cases e : w = v
  · subst e
    rw [hv] at hq
    cases hq
    rw [upd_same, if_pos rfl, ns_append]
    rfl
  · rw [if_neg e]
    have hne : q ≠ r := fun c => e (nd_ix h.nd hq (c ▸ hv))
    rw [upd_ne hne]
    exact h.at' w q hq
theorem row_two (E : List (Nat × Nat)) (e : Nat × Nat) : (fun w => if w = e.2 then (if e.2 = e.1 then rowL E e.1 ++ [e.2] else rowL E e.2) ++ [e.1] else if w = e.1 then rowL E e.1 ++ [e.2] else rowL E w) = rowL (E ++ [e]) := by
  funext w
  rw [rowL_snoc]
  unfold hasT
  by_cases h2 : w = e.2
  · subst h2
    rw [if_pos rfl, if_pos rfl]
    by_cases h1 : e.2 = e.1
    · rw [if_pos h1, if_pos h1.symm, h1, List.append_assoc]
    · rw [if_neg h1, if_neg (fun c => h1 c.symm), List.nil_append]
  · rw [if_neg h2, if_neg (fun c : e.2 = w => h2 c.symm)]
    by_cases h1 : w = e.1
    · subst h1
      rw [if_pos rfl, if_pos rfl, List.append_nil]
    · rw [if_neg h1, if_neg (fun c : e.1 = w => h1 c.symm), List.append_nil, List.append_nil]
theorem wipeOne {σ : L2.St} {j : Nat} (x : V) : wipe ((wipe σ [j]).set j (some x)) [j] = wipe σ [j] := by
  show ((σ.set j none).set j (some x)).set j none = σ.set j none
  rw [List.set_set, List.set_set]
section
variable {K : PySem.W.Frag} {σ : L2.St} {H0 H1 : Hp} {D : Addr} {Qd : Hp → Prop} {j : Nat}
/-- [[] for place in range(n)] -/
theorem lcBlank {n : Nat} {m : Int} (hm : m = (n : Int)) (hz : n ≤ 1000) (e0 : Ex H0 H1) (hD : H1 D = none)
    (k : ∀ H' rs, rs.length = n → RowsAt H0 H' D rs (fun _ => []) → Qd H') :
    ∃ W : Nat → Nat → Hp → Prop, (∃ m, W 0 m (upd H1 D (.lst []))) ∧ ∀ i m' H, W i m' H →
      ((Itr 0 m.toNat).stop i H ∧ Qd H) ∨ ((Itr 0 m.toNat).go i H ∧ ∃ Nx : Hp → Prop, (∀ H', Nx H' → ∃ m'', m'' < m' ∧ W (i + 1) m'' H') ∧ ∀ x H', (Itr 0 m.toNat).yld i H x H' → gName j x (wipe σ [j]) H' fun σ2 H2 => wipe σ2 [j] = wipe σ [j] ∧ tYes σ2 H2 fun b H3 =>
        if b = true then (tLst tNil) σ2 H3 fun y H4 => ∃ acc, H4 D = some (.lst acc) ∧ acc.length < sizeLine ∧ Nx (upd H4 D (.lst (acc ++ [y]))) else Nx H3) := by
  subst hm
  have en : ((n : Int)).toNat = n := by omega
  rw [en]
  refine lc_range (fun i H' => ∃ rs, rs.length = i ∧ RowsAt H0 H' D rs (fun _ => [])) ⟨[], rfl, e0.trans (Ex.new hD), fresh_back e0 hD, upd_same, .nil, fun r hr => absurd hr (by simp), fun v r h => absurd h (by simp)⟩ (fun i H' hi q => ?_) (fun H' q => ?_)
  · obtain ⟨rs, hl, R⟩ := q
    refine ⟨wipeOne _, yes_go ?_⟩
    refine ⟨Nat.zero_le _, fun r hr => ⟨rs.map V.ref, ?_, ?_, rs ++ [r], by rw [List.length_append, hl]; rfl, ?_⟩⟩
    · rw [upd_ne (ne_of_none R.lst hr)]
      exact R.lst
    · rw [List.length_map]
      exact small1000 (by omega)
    · have hrD : r ≠ D := (ne_of_none R.lst hr).symm
      have hr0 : H0 r = none := fresh_back R.ex hr
      have hnm : r ∉ rs := fun hm => by
        obtain ⟨v, hv⟩ := List.getElem?_of_mem hm
        have := R.at' v r hv
        rw [hr] at this
        cases this
      refine ⟨Ex.mut (Ex.mut R.ex hr0) R.d0, R.d0, by rw [upd_same, List.map_append]; rfl, List.nodup_append.mpr ⟨R.nd, by simp, fun a ha b hb c => ?_⟩, fun q hq => ?_, fun v q hq => ?_⟩
      · have := List.mem_singleton.mp hb
        exact hnm (this ▸ c ▸ ha)
      · rcases List.mem_append.mp hq with hq | hq
        · exact R.fr q hq
        · have := List.mem_singleton.mp hq
          subst this
          exact ⟨hr0, hrD⟩
      · by_cases hv : v < rs.length
        · rw [List.getElem?_append_left hv] at hq
          have hqm := List.mem_of_getElem? hq
          have hqr : q ≠ r := fun c => hnm (c ▸ hqm)
          rw [upd_ne (R.fr q hqm).2, upd_ne hqr]
          exact R.at' v q hq
        · rw [List.getElem?_append_right (by omega)] at hq
          have hq2 : q = r := by
            cases h : v - rs.length with
            | zero => rw [h] at hq; exact (Option.some.inj hq).symm
            | succ k => rw [h] at hq; cases hq
          subst hq2
          rw [upd_ne hrD, upd_same]
          rfl
  · obtain ⟨rs, hl, R⟩ := q
    exact k H' rs hl R
end
section
variable {P : Program} {w : World} {K : PySem.W.Frag} {mg : Str → Option Value} {base : Heap}
theorem tie_at {K : PySem.W.Frag} {H : Hp} {ts : List Addr} {E : List (Nat × Nat)} (h : Pairs H ts E) {i : Nat} {x : V} (hx : (ts.map V.ref)[i]? = some x) : ∃ t e, x = .ref t ∧ E[i]? = some e ∧ e ∈ E ∧ H t = some (.tup (tieV e)) := by
  rw [List.getElem?_map] at hx
  cases ht : ts[i]? with
  | none => rw [ht] at hx; cases hx
  | some t =>
    rw [ht] at hx
    have hx' : x = .ref t := (Option.some.inj hx).symm
    have go : ∀ {ts : List Addr} {E : List (Nat × Nat)} {i : Nat}, Pairs H ts E → ts[i]? = some t → ∃ e, E[i]? = some e ∧ H t = some (.tup (tieV e)) := by
      intro ts E i h
      unfold Pairs at h
      induction h generalizing i with
      | nil => intro q; simp at q
      | cons a _ ih =>
        intro q
        cases i with
        | zero => exact ⟨_, rfl, by have := Option.some.inj q; rw [← this]; exact a⟩
        | succ i => exact ih q
    obtain ⟨e, h1, h2⟩ := go h ht
    exact ⟨t, e, hx', h1, List.mem_of_getElem? h1, h2⟩
theorem pairs_len {H : Hp} {ts : List Addr} {E : List (Nat × Nat)} (h : Pairs H ts E) : ts.length = E.length := Paired.length h
theorem WebAt.sym {H : Hp} {a : Addr} {n : Nat} {adj : Nat → Nat → Bool} (h : WebAt K H a n adj) (x y : Nat) : adj x y = adj y x := by
  obtain ⟨_, _, E, _, _, _, _, _, h6⟩ := h.ex
  rw [h6, h6]
  unfold adjOf
  exact decide_eq_decide.mpr Or.comm
theorem WebAt.irr {H : Hp} {a : Addr} {n : Nat} {adj : Nat → Nat → Bool} (h : WebAt K H a n adj) (x : Nat) : adj x x = false := by
  obtain ⟨_, _, E, _, _, _, h4, _, h6⟩ := h.ex
  rw [h6]
  unfold adjOf
  refine decide_eq_false fun c => ?_
  rcases c with c | c
  · have := (h4 _ c).1
    simp at this
  · have := (h4 _ c).1
    simp at this
def sp_near (K : PySem.W.Frag) : Sp := fun vs H Q _ => ∃ a n adj, vs = [.ref a] ∧ WebAt K H a n adj ∧ n ≤ 6 ∧ ∀ r H', Ex H H' → NearNew H H' r n adj → Q (.ref r) H'
abbrev sp_neighbours_by := sp_near
abbrev sp_law_near := sp_near
/-! ### neighbours_by -/
abbrev st_neighbours_by : Stmt := top 5
theorem sc_neighbours_by : FnScope ["web", "found", "one", "other", "place", "near"] ["web"] (defScope st_neighbours_by) := ⟨rfl, rfl, rfl, by decide +kernel, rfl, by decide +kernel, by decide +kernel⟩
theorem D_neighbours_by (L : Ld K mg "neighbours_by" st_neighbours_by) (B : Bt mg) : Def P w K mg base "neighbours_by" 1 ["web"] (sp_neighbours_by K) := by
  refine L.ok (ps := ["web"]) sc_neighbours_by (fun _ _ _ _ _ _ us hl => match us, hl with | [_], _ => rfl) (fun vs H Q E h => ?_) (fun f cdv A outer s H vs Q E hr h => ?_)
  · obtain ⟨a, n, adj, rfl, _⟩ := h
    rfl
  · obtain ⟨a, n, adj, rfl, hW, hn6, q⟩ := h
    obtain ⟨t, ts, E, h1, h2, h3, h4, h5, h6⟩ := hW.ex
    refine ⟨_, (pss_cons (ps_setLc (i := 1) (own := [("place", 4)]) (g := gName 4) (tt := tYes) (by rfl) sc_neighbours_by.nd rfl rfl (sw_true rfl rfl rfl (by decide +kernel)) (pi_range1 (by rfl) B.range_ (pa_cons (pe_ix (r := rIxT K) ix_tup (pv 0) pe_int (fun _ _ => rfl)) pa_nil)) (blkOk_by (N := ["web", "found", "one", "other", "place", "near"]) (sc := defScope st_neighbours_by) (by decide +kernel)) (fun _ _ _ _ _ => (pg_name (i := 4) sc_neighbours_by.nd rfl (.inl rfl))) (fun _ _ _ _ _ => pts_nil) (fun _ _ _ _ _ => (pe_lst pa_nil)))
      (pss_cons (ps_for PassesOwn.never rfl (pi_tupK K rfl (pe_ix (r := rIxT K) ix_tup (pv 0) pe_int (fun _ _ => rfl))) (pg_tupK K rfl (by rfl) (pgs_cons (pg_name (i := 2) sc_neighbours_by.nd rfl (.inl rfl)) (pgs_cons (pg_name (i := 3) sc_neighbours_by.nd rfl (.inl rfl)) pgs_nil)))
        (pss_cons (ps_expr (pe_bm PySem.F.plainAttrs_list PySem.F.slot_list_append PySem.F.type_list_append mt_append (pe_ix (r := rIxL K) ix_list (pv 1) (pv 2) (fun _ _ => rfl)) (pa_cons (pv 3) pa_nil)))
      (pss_one (ps_expr (pe_bm PySem.F.plainAttrs_list PySem.F.slot_list_append PySem.F.type_list_append mt_append (pe_ix (r := rIxL K) ix_list (pv 1) (pv 3) (fun _ _ => rfl)) (pa_cons (pv 2) pa_nil))))))
      (pss_one (ps_ret (pe_lc (own := [("near", 5)]) (g := gName 5) (tt := tYes) (by rfl) sc_neighbours_by.nd (pi_listK K rfl (pv 1)) (blkOk_by (N := ["web", "found", "one", "other", "place", "near"]) (sc := defScope st_neighbours_by) (by decide +kernel)) (fun _ _ _ _ _ => (pg_name (i := 5) sc_neighbours_by.nd rfl (.inl rfl))) (fun _ _ _ _ _ => pts_nil) (fun _ _ _ _ _ => (pe_callB (r := rSorted K) cr_sorted (by rfl) B.sorted_ (by decide +kernel) (pa_cons (pv 5) pa_nil)))))))), ?_⟩
    refine ⟨_, rfl, a, _, _, .int (n : Int), rfl, rfl, h1, atI_nat (j := 0) rfl, (n : Int), rfl, by omega, by omega, fun D hD => ?_⟩
    refine lcBlank (H0 := H) (n := n) rfl (by omega) (Ex.refl H) hD fun H1 rs hl R1 => ?_
    refine ⟨_, rfl, a, _, _, .ref t, rfl, rfl, ex_t R1.ex h1, atI_nat (j := 1) rfl, t, rfl, ⟨_, ex_t R1.ex h2⟩, ?_⟩
    refine for_tup (xs := ts.map V.ref) (fun i σ H' => RowsAt H H' D rs (rowL (E.take i)) ∧ ∃ y2 y3 y4 y5, σ = [some (.ref a), some (.ref D), y2, y3, y4, y5]) ⟨R1, _, _, _, _, rfl⟩ (fun i σ H' _ hP => ex_t hP.1.ex h2) (fun i x σ H' hi hP => ?_) (fun σ H' hP => ?_)
    · obtain ⟨R, y2, y3, y4, y5, rfl⟩ := hP
      obtain ⟨tt, e, rfl, hE, hm, hT⟩ := tie_at (K := K) (h3.mono R.ex) hi
      obtain ⟨h41, h42⟩ := h4 e hm
      obtain ⟨r1, hr1⟩ : ∃ r, rs[e.1]? = some r := ⟨_, List.getElem?_eq_getElem (by omega)⟩
      obtain ⟨r2, hr2⟩ : ∃ r, rs[e.2]? = some r := ⟨_, List.getElem?_eq_getElem (by omega)⟩
      have A1 := R.app (u := e.2) hr1
      refine ⟨tt, tieV e, rfl, .of hT, rfl, _, _, rfl, _, [], rfl, rfl, ?_⟩
      refine ⟨_, rfl, _, rfl, D, _, _, .ref r1, rfl, rfl, .of R.lst, atI_nat (by rw [List.getElem?_map, hr1]; rfl), .inl ⟨rfl, _, .of (R.at' _ _ hr1)⟩, _, rfl, r1, _, _, rfl, rfl, R.at' _ _ hr1, ?_, ?_⟩
      · have h7 := rowL_len (E.take i) e.1
        have h8 : (E.take i).length ≤ i := by rw [List.length_take]; exact Nat.min_le_left _ _
        have h9 := nodup_len_le (rowL_nodup (E := E.take i) (fun e he => (h4 e (List.mem_of_mem_take he)).1) (h5.sublist (List.take_sublist i E)) e.1) (m := List.range n) fun x hx => by
          refine List.mem_range.mpr ?_
          rcases mem_rowL.mp hx with c | c
          · exact (h4 _ (List.mem_of_mem_take c)).2
          · have := h4 _ (List.mem_of_mem_take c)
            simp only at this
            omega
        rw [List.length_range] at h9
        rw [ns_len]
        exact small1000 (by omega)
      · -- found[other].append(one)
        refine ⟨_, rfl, _, rfl, D, _, _, .ref r2, rfl, rfl, .of A1.lst, atI_nat (by rw [List.getElem?_map, hr2]; rfl), .inl ⟨rfl, _, .of (A1.at' _ _ hr2)⟩, _, rfl, r2, _, _, rfl, rfl, A1.at' _ _ hr2, ?_, ?_⟩
        · rw [ns_len, if_neg (by omega)]
          have h9 := nodup_len_le (rowL_nodup (E := E.take i) (fun e he => (h4 e (List.mem_of_mem_take he)).1) (h5.sublist (List.take_sublist i E)) e.2) (m := List.range n) fun x hx => by
            refine List.mem_range.mpr ?_
            rcases mem_rowL.mp hx with c | c
            · exact (h4 _ (List.mem_of_mem_take c)).2
            · have := h4 _ (List.mem_of_mem_take c)
              simp only at this
              omega
          rw [List.length_range] at h9
          exact small1000 (by omega)
        · have A2 := A1.app (u := e.1) hr2
          have ek : E.take (i + 1) = E.take i ++ [e] := by rw [List.take_add_one, hE]; rfl
          refine ⟨?_, _, _, _, _, rfl⟩
          rw [ek, ← row_two]
          exact A2
    · -- return [sorted(near) for near in found]
      obtain ⟨R, y2, y3, y4, y5, rfl⟩ := hP
      have eE : E.take (ts.map V.ref).length = E := by rw [List.length_map, pairs_len h3, List.take_length]
      rw [eE] at R
      refine ⟨_, rfl, D, rfl, ⟨_, .of R.lst⟩, fun F hF => ?_⟩
      refine lc_list (xs := rs.map V.ref) (fun i H2 => ∃ qs : List Addr, Ex H' H2 ∧ qs.length = i ∧ H2 F = some (.lst (qs.map V.ref)) ∧ ∀ v r, qs[v]? = some r → H' r = none ∧ r ≠ F ∧ H2 r = some (.lst (ns (nb n adj v)))) ⟨[], Ex.new hF, rfl, upd_same, fun v r h => absurd h (by simp)⟩ (fun i H2 _ q => .of (q.choose_spec.1 _ _ R.lst)) (fun i x H2 hi q => ?_) (fun H2 q2 => ?_)
      · obtain ⟨qs, e2, hl2, hF2, hq⟩ := q
        rw [List.getElem?_map] at hi
        cases hr : rs[i]? with
        | none => rw [hr] at hi; cases hi
        | some r =>
          rw [hr] at hi
          have hx := (Option.some.inj hi).symm
          subst hx
          have hin : i < n := by have := (List.getElem?_eq_some_iff.mp hr).1; omega
          have hrow := e2 _ _ (R.at' i r hr)
          refine ⟨rfl, yes_go ?_⟩
          have hnd := rowL_nodup (fun e he => (h4 e he).1) h5 i
          have hmem : ∀ x, x ∈ rowL E i ↔ x ∈ nb n adj i := fun x => by
            rw [mem_rowL, mem_nb, h6]
            unfold adjOf
            rw [decide_eq_true_eq]
            refine ⟨fun c => ⟨?_, c⟩, fun c => c.2⟩
            rcases c with c | c
            · exact (h4 _ c).2
            · have := h4 _ c
              simp only at this
              omega
          refine ⟨_, rfl, r, _, rfl, .of (by rw [← ns_int]; exact hrow), ?_, fun is p hp hs hp0 => ?_⟩
          · rw [List.length_map]
            have h9 := nodup_len_le hnd (m := List.range n) fun x hx => List.mem_range.mpr (mem_nb.mp ((hmem x).mp hx)).1
            rw [List.length_range] at h9
            omega
          · rw [sorted_strict hnd (filter_strict n _) hmem hp hs]
            have hFp : F ≠ p := ne_of_none hF2 hp0
            refine ⟨qs.map V.ref, by rw [upd_ne hFp]; exact hF2, by rw [List.length_map]; exact small1000 (by omega), qs ++ [p], Ex.mut (e2.trans (Ex.new hp0)) hF, by rw [List.length_append, hl2]; rfl, by rw [upd_same, List.map_append]; rfl, fun v r' hr' => ?_⟩
            by_cases hv : v < qs.length
            · rw [List.getElem?_append_left hv] at hr'
              obtain ⟨a1, a2, a3⟩ := hq v r' hr'
              exact ⟨a1, a2, by rw [upd_ne a2, upd_ne (ne_of_none a3 hp0)]; exact a3⟩
            · rw [List.getElem?_append_right (by omega)] at hr'
              have hr2 : r' = p ∧ v = qs.length := by
                cases h : v - qs.length with
                | zero => rw [h] at hr'; exact ⟨(Option.some.inj hr').symm, by omega⟩
                | succ k => rw [h] at hr'; cases hr'
              obtain ⟨rfl, hv2⟩ := hr2
              refine ⟨fresh_back e2 hp0, hFp.symm, ?_⟩
              rw [upd_ne hFp.symm, upd_same, hv2, hl2]
              rfl
      · obtain ⟨qs, e2, hl2, hF2, hq⟩ := q2
        rw [List.length_map] at hl2
        refine q F H2 (R.ex.trans e2) ⟨qs, fresh_back R.ex hF, hF2, by omega, fun v hv => ?_⟩
        obtain ⟨r, hr⟩ : ∃ r, qs[v]? = some r := ⟨_, List.getElem?_eq_getElem (by omega)⟩
        obtain ⟨a1, a2, a3⟩ := hq v r hr
        exact ⟨r, hr, fresh_back R.ex a1, a3⟩
/-! ### _law_near -/
abbrev st_law_near : Stmt := top 32
theorem sc_law_near : FnScope ["_law_web_here", "_law_near_here", "_law_one", "_law_other", "_law_place", "_law_row"] ["_law_web_here"] (defScope st_law_near) := ⟨rfl, rfl, rfl, by decide +kernel, rfl, by decide +kernel, by decide +kernel⟩
theorem D_law_near (L : Ld K mg "_law_near" st_law_near) (B : Bt mg) : Def P w K mg base "_law_near" 1 ["_law_web_here"] (sp_law_near K) := by
  refine L.ok (ps := ["_law_web_here"]) sc_law_near (fun _ _ _ _ _ _ us hl => match us, hl with | [_], _ => rfl) (fun vs H Q E h => ?_) (fun f cdv A outer s H vs Q E hr h => ?_)
  · obtain ⟨a, n, adj, rfl, _⟩ := h
    rfl
  · obtain ⟨a, n, adj, rfl, hW, hn6, q⟩ := h
    obtain ⟨t, ts, E, h1, h2, h3, h4, h5, h6⟩ := hW.ex
    refine ⟨_, (pss_cons (ps_setLc (i := 1) (own := [("_law_place", 4)]) (g := gName 4) (tt := tYes) (by rfl) sc_law_near.nd rfl rfl (sw_true rfl rfl rfl (by decide +kernel)) (pi_range1 (by rfl) B.range_ (pa_cons (pe_ix (r := rIxT K) ix_tup (pv 0) pe_int (fun _ _ => rfl)) pa_nil)) (blkOk_by (N := ["_law_web_here", "_law_near_here", "_law_one", "_law_other", "_law_place", "_law_row"]) (sc := defScope st_law_near) (by decide +kernel)) (fun _ _ _ _ _ => (pg_name (i := 4) sc_law_near.nd rfl (.inl rfl))) (fun _ _ _ _ _ => pts_nil) (fun _ _ _ _ _ => (pe_lst pa_nil)))
      (pss_cons (ps_for PassesOwn.never rfl (pi_tupK K rfl (pe_ix (r := rIxT K) ix_tup (pv 0) pe_int (fun _ _ => rfl))) (pg_tupK K rfl (by rfl) (pgs_cons (pg_name (i := 2) sc_law_near.nd rfl (.inl rfl)) (pgs_cons (pg_name (i := 3) sc_law_near.nd rfl (.inl rfl)) pgs_nil)))
        (pss_cons (ps_expr (pe_bm PySem.F.plainAttrs_list PySem.F.slot_list_append PySem.F.type_list_append mt_append (pe_ix (r := rIxL K) ix_list (pv 1) (pv 2) (fun _ _ => rfl)) (pa_cons (pv 3) pa_nil)))
      (pss_one (ps_expr (pe_bm PySem.F.plainAttrs_list PySem.F.slot_list_append PySem.F.type_list_append mt_append (pe_ix (r := rIxL K) ix_list (pv 1) (pv 3) (fun _ _ => rfl)) (pa_cons (pv 2) pa_nil))))))
      (pss_one (ps_ret (pe_lc (own := [("_law_row", 5)]) (g := gName 5) (tt := tYes) (by rfl) sc_law_near.nd (pi_listK K rfl (pv 1)) (blkOk_by (N := ["_law_web_here", "_law_near_here", "_law_one", "_law_other", "_law_place", "_law_row"]) (sc := defScope st_law_near) (by decide +kernel)) (fun _ _ _ _ _ => (pg_name (i := 5) sc_law_near.nd rfl (.inl rfl))) (fun _ _ _ _ _ => pts_nil) (fun _ _ _ _ _ => (pe_callB (r := rSorted K) cr_sorted (by rfl) B.sorted_ (by decide +kernel) (pa_cons (pv 5) pa_nil)))))))), ?_⟩
    refine ⟨_, rfl, a, _, _, .int (n : Int), rfl, rfl, h1, atI_nat (j := 0) rfl, (n : Int), rfl, by omega, by omega, fun D hD => ?_⟩
    refine lcBlank (H0 := H) (n := n) rfl (by omega) (Ex.refl H) hD fun H1 rs hl R1 => ?_
    refine ⟨_, rfl, a, _, _, .ref t, rfl, rfl, ex_t R1.ex h1, atI_nat (j := 1) rfl, t, rfl, ⟨_, ex_t R1.ex h2⟩, ?_⟩
    refine for_tup (xs := ts.map V.ref) (fun i σ H' => RowsAt H H' D rs (rowL (E.take i)) ∧ ∃ y2 y3 y4 y5, σ = [some (.ref a), some (.ref D), y2, y3, y4, y5]) ⟨R1, _, _, _, _, rfl⟩ (fun i σ H' _ hP => ex_t hP.1.ex h2) (fun i x σ H' hi hP => ?_) (fun σ H' hP => ?_)
    · obtain ⟨R, y2, y3, y4, y5, rfl⟩ := hP
      obtain ⟨tt, e, rfl, hE, hm, hT⟩ := tie_at (K := K) (h3.mono R.ex) hi
      obtain ⟨h41, h42⟩ := h4 e hm
      obtain ⟨r1, hr1⟩ : ∃ r, rs[e.1]? = some r := ⟨_, List.getElem?_eq_getElem (by omega)⟩
      obtain ⟨r2, hr2⟩ : ∃ r, rs[e.2]? = some r := ⟨_, List.getElem?_eq_getElem (by omega)⟩
      have A1 := R.app (u := e.2) hr1
      refine ⟨tt, tieV e, rfl, .of hT, rfl, _, _, rfl, _, [], rfl, rfl, ?_⟩
      refine ⟨_, rfl, _, rfl, D, _, _, .ref r1, rfl, rfl, .of R.lst, atI_nat (by rw [List.getElem?_map, hr1]; rfl), .inl ⟨rfl, _, .of (R.at' _ _ hr1)⟩, _, rfl, r1, _, _, rfl, rfl, R.at' _ _ hr1, ?_, ?_⟩
      · have h7 := rowL_len (E.take i) e.1
        have h8 : (E.take i).length ≤ i := by rw [List.length_take]; exact Nat.min_le_left _ _
        have h9 := nodup_len_le (rowL_nodup (E := E.take i) (fun e he => (h4 e (List.mem_of_mem_take he)).1) (h5.sublist (List.take_sublist i E)) e.1) (m := List.range n) fun x hx => by
          refine List.mem_range.mpr ?_
          rcases mem_rowL.mp hx with c | c
          · exact (h4 _ (List.mem_of_mem_take c)).2
          · have := h4 _ (List.mem_of_mem_take c)
            simp only at this
            omega
        rw [List.length_range] at h9
        rw [ns_len]
        exact small1000 (by omega)
      · -- found[other].append(one)
        refine ⟨_, rfl, _, rfl, D, _, _, .ref r2, rfl, rfl, .of A1.lst, atI_nat (by rw [List.getElem?_map, hr2]; rfl), .inl ⟨rfl, _, .of (A1.at' _ _ hr2)⟩, _, rfl, r2, _, _, rfl, rfl, A1.at' _ _ hr2, ?_, ?_⟩
        · rw [ns_len, if_neg (by omega)]
          have h9 := nodup_len_le (rowL_nodup (E := E.take i) (fun e he => (h4 e (List.mem_of_mem_take he)).1) (h5.sublist (List.take_sublist i E)) e.2) (m := List.range n) fun x hx => by
            refine List.mem_range.mpr ?_
            rcases mem_rowL.mp hx with c | c
            · exact (h4 _ (List.mem_of_mem_take c)).2
            · have := h4 _ (List.mem_of_mem_take c)
              simp only at this
              omega
          rw [List.length_range] at h9
          exact small1000 (by omega)
        · have A2 := A1.app (u := e.1) hr2
          have ek : E.take (i + 1) = E.take i ++ [e] := by rw [List.take_add_one, hE]; rfl
          refine ⟨?_, _, _, _, _, rfl⟩
          rw [ek, ← row_two]
          exact A2
    · -- return [sorted(near) for near in found]
      obtain ⟨R, y2, y3, y4, y5, rfl⟩ := hP
      have eE : E.take (ts.map V.ref).length = E := by rw [List.length_map, pairs_len h3, List.take_length]
      rw [eE] at R
      refine ⟨_, rfl, D, rfl, ⟨_, .of R.lst⟩, fun F hF => ?_⟩
      refine lc_list (xs := rs.map V.ref) (fun i H2 => ∃ qs : List Addr, Ex H' H2 ∧ qs.length = i ∧ H2 F = some (.lst (qs.map V.ref)) ∧ ∀ v r, qs[v]? = some r → H' r = none ∧ r ≠ F ∧ H2 r = some (.lst (ns (nb n adj v)))) ⟨[], Ex.new hF, rfl, upd_same, fun v r h => absurd h (by simp)⟩ (fun i H2 _ q => .of (q.choose_spec.1 _ _ R.lst)) (fun i x H2 hi q => ?_) (fun H2 q2 => ?_)
      · obtain ⟨qs, e2, hl2, hF2, hq⟩ := q
        rw [List.getElem?_map] at hi
        cases hr : rs[i]? with
        | none => rw [hr] at hi; cases hi
        | some r =>
          rw [hr] at hi
          have hx := (Option.some.inj hi).symm
          subst hx
          have hin : i < n := by have := (List.getElem?_eq_some_iff.mp hr).1; omega
          have hrow := e2 _ _ (R.at' i r hr)
          refine ⟨rfl, yes_go ?_⟩
          have hnd := rowL_nodup (fun e he => (h4 e he).1) h5 i
          have hmem : ∀ x, x ∈ rowL E i ↔ x ∈ nb n adj i := fun x => by
            rw [mem_rowL, mem_nb, h6]
            unfold adjOf
            rw [decide_eq_true_eq]
            refine ⟨fun c => ⟨?_, c⟩, fun c => c.2⟩
            rcases c with c | c
            · exact (h4 _ c).2
            · have := h4 _ c
              simp only at this
              omega
          refine ⟨_, rfl, r, _, rfl, .of (by rw [← ns_int]; exact hrow), ?_, fun is p hp hs hp0 => ?_⟩
          · rw [List.length_map]
            have h9 := nodup_len_le hnd (m := List.range n) fun x hx => List.mem_range.mpr (mem_nb.mp ((hmem x).mp hx)).1
            rw [List.length_range] at h9
            omega
          · rw [sorted_strict hnd (filter_strict n _) hmem hp hs]
            have hFp : F ≠ p := ne_of_none hF2 hp0
            refine ⟨qs.map V.ref, by rw [upd_ne hFp]; exact hF2, by rw [List.length_map]; exact small1000 (by omega), qs ++ [p], Ex.mut (e2.trans (Ex.new hp0)) hF, by rw [List.length_append, hl2]; rfl, by rw [upd_same, List.map_append]; rfl, fun v r' hr' => ?_⟩
            by_cases hv : v < qs.length
            · rw [List.getElem?_append_left hv] at hr'
              obtain ⟨a1, a2, a3⟩ := hq v r' hr'
              exact ⟨a1, a2, by rw [upd_ne a2, upd_ne (ne_of_none a3 hp0)]; exact a3⟩
            · rw [List.getElem?_append_right (by omega)] at hr'
              have hr2 : r' = p ∧ v = qs.length := by
                cases h : v - qs.length with
                | zero => rw [h] at hr'; exact ⟨(Option.some.inj hr').symm, by omega⟩
                | succ k => rw [h] at hr'; cases hr'
              obtain ⟨rfl, hv2⟩ := hr2
              refine ⟨fresh_back e2 hp0, hFp.symm, ?_⟩
              rw [upd_ne hFp.symm, upd_same, hv2, hl2]
              rfl
      · obtain ⟨qs, e2, hl2, hF2, hq⟩ := q2
        rw [List.length_map] at hl2
        refine q F H2 (R.ex.trans e2) ⟨qs, fresh_back R.ex hF, hF2, by omega, fun v hv => ?_⟩
        obtain ⟨r, hr⟩ : ∃ r, qs[v]? = some r := ⟨_, List.getElem?_eq_getElem (by omega)⟩
        obtain ⟨a1, a2, a3⟩ := hq v r hr
        exact ⟨r, hr, fresh_back R.ex a1, a3⟩
end
end ML
set_option Elab.async false
set_option linter.all false
set_option maxRecDepth 100000
set_option maxHeartbeats 4000000
namespace ML
open PySem PySem.Spec PyProof.Rows L2 Evl
section
variable {P : Program} {w : World} {K : PySem.W.Frag} {mg : Str → Option Value} {base : Heap}
/-! ### ties_by -/
abbrev st_ties_by : Stmt := top 24
theorem sc_ties_by : FnScope ["tree", "found", "one", "other", "place"] ["tree"] (defScope st_ties_by) := ⟨rfl, rfl, rfl, by decide +kernel, rfl, by decide +kernel, by decide +kernel⟩
def sp_ties_by (K : PySem.W.Frag) : Sp := fun vs H Q _ => ∃ a ts E, vs = [.ref a] ∧ SqT K H a (ts.map V.ref) ∧ Pairs H ts E ∧ (∀ e ∈ E, e.1 < E.length + 1 ∧ e.2 < E.length + 1) ∧ E.length ≤ 100 ∧
  ∀ r H' rs, rs.length = E.length + 1 → RowsAt H H' r rs (rowL E) → Q (.ref r) H'
theorem D_ties_by (L : Ld K mg "ties_by" st_ties_by) (B : Bt mg) (D_places_of : Def P w K mg base "places_of" 1 ["tree"] (sp_places_of K)) : Def P w K mg base "ties_by" 2 ["tree"] (sp_ties_by K) := by
  refine L.ok (ps := ["tree"]) sc_ties_by (fun _ _ _ _ _ _ us hl => match us, hl with | [_], _ => rfl) (fun vs H Q E h => ?_) (fun f cdv A outer s H vs Q E hr h => ?_)
  · obtain ⟨a, ts, E, rfl, _⟩ := h
    rfl
  · obtain ⟨a, ts, E, rfl, h2, h3, h4, h5, q⟩ := h
    have hl3 := pairs_len h3
    refine ⟨_, (pss_cons (ps_setLc (i := 1) (own := [("place", 4)]) (g := gName 4) (tt := tYes) (by rfl) sc_ties_by.nd rfl rfl (sw_true rfl rfl rfl (by decide +kernel)) (pi_range1 (by rfl) B.range_ (pa_cons (pe_def D_places_of (hr.mono (by decide)) (by rfl) (pa_cons (pv 0) pa_nil)) pa_nil)) (blkOk_by (N := ["tree", "found", "one", "other", "place"]) (sc := defScope st_ties_by) (by decide +kernel)) (fun _ _ _ _ _ => (pg_name (i := 4) sc_ties_by.nd rfl (.inl rfl))) (fun _ _ _ _ _ => pts_nil) (fun _ _ _ _ _ => (pe_lst pa_nil)))
      (pss_cons (ps_for PassesOwn.never rfl (pi_tupK K rfl (pv 0)) (pg_tupK K rfl (by rfl) (pgs_cons (pg_name (i := 2) sc_ties_by.nd rfl (.inl rfl)) (pgs_cons (pg_name (i := 3) sc_ties_by.nd rfl (.inl rfl)) pgs_nil)))
        (pss_cons (ps_expr (pe_bm PySem.F.plainAttrs_list PySem.F.slot_list_append PySem.F.type_list_append mt_append (pe_ix (r := rIxL K) ix_list (pv 1) (pv 2) (fun _ _ => rfl)) (pa_cons (pv 3) pa_nil)))
      (pss_one (ps_expr (pe_bm PySem.F.plainAttrs_list PySem.F.slot_list_append PySem.F.type_list_append mt_append (pe_ix (r := rIxL K) ix_list (pv 1) (pv 3) (fun _ _ => rfl)) (pa_cons (pv 2) pa_nil))))))
      (pss_one (ps_ret (pv 1))))), ?_⟩
    refine ⟨_, rfl, a, _, rfl, h2, _, rfl, by rw [List.length_map]; omega, by rw [List.length_map]; omega, fun D hD => ?_⟩
    refine lcBlank (H0 := H) (n := E.length + 1) (by rw [List.length_map, hl3]; omega) (by omega) (Ex.refl H) hD fun H1 rs hl R1 => ?_
    refine ⟨_, rfl, a, rfl, ⟨_, ex_t R1.ex h2⟩, ?_⟩
    refine for_tup (xs := ts.map V.ref) (fun i σ H' => RowsAt H H' D rs (rowL (E.take i)) ∧ ∃ y2 y3 y4, σ = [some (.ref a), some (.ref D), y2, y3, y4]) ⟨R1, _, _, _, rfl⟩ (fun i σ H' _ hP => ex_t hP.1.ex h2) (fun i x σ H' hi hP => ?_) (fun σ H' hP => ?_)
    · obtain ⟨R, y2, y3, y4, rfl⟩ := hP
      obtain ⟨tt, e, rfl, hE, hm, hT⟩ := tie_at (K := K) (h3.mono R.ex) hi
      obtain ⟨h41, h42⟩ := h4 e hm
      obtain ⟨r1, hr1⟩ : ∃ r, rs[e.1]? = some r := ⟨_, List.getElem?_eq_getElem (by omega)⟩
      obtain ⟨r2, hr2⟩ : ∃ r, rs[e.2]? = some r := ⟨_, List.getElem?_eq_getElem (by omega)⟩
      have A1 := R.app (u := e.2) hr1
      have hlen : ∀ v, (rowL (E.take i) v).length ≤ 200 := fun v => by
        have h7 := rowL_len (E.take i) v
        have h8 : (E.take i).length ≤ E.length := by rw [List.length_take]; exact Nat.min_le_right _ _
        omega
      refine ⟨tt, tieV e, rfl, .of hT, rfl, _, _, rfl, _, [], rfl, rfl, ?_⟩
      refine ⟨_, rfl, _, rfl, D, _, _, .ref r1, rfl, rfl, .of R.lst, atI_nat (by rw [List.getElem?_map, hr1]; rfl), .inl ⟨rfl, _, .of (R.at' _ _ hr1)⟩, _, rfl, r1, _, _, rfl, rfl, R.at' _ _ hr1, ?_, ?_⟩
      · rw [ns_len]
        have := hlen e.1
        exact small1000 (by omega)
      · refine ⟨_, rfl, _, rfl, D, _, _, .ref r2, rfl, rfl, .of A1.lst, atI_nat (by rw [List.getElem?_map, hr2]; rfl), .inl ⟨rfl, _, .of (A1.at' _ _ hr2)⟩, _, rfl, r2, _, _, rfl, rfl, A1.at' _ _ hr2, ?_, ?_⟩
        · rw [ns_len]
          have h1 := hlen e.1
          have h2 := hlen e.2
          split
          · rw [List.length_append]
            exact small1000 (by show _ + 1 ≤ 1000; omega)
          · exact small1000 (by omega)
        · have A2 := A1.app (u := e.1) hr2
          have ek : E.take (i + 1) = E.take i ++ [e] := by rw [List.take_add_one, hE]; rfl
          refine ⟨?_, _, _, _, rfl⟩
          rw [ek, ← row_two]
          exact A2
    · obtain ⟨R, y2, y3, y4, rfl⟩ := hP
      have eE : E.take (ts.map V.ref).length = E := by rw [List.length_map, hl3, List.take_length]
      rw [eE] at R
      exact ⟨_, rfl, q D H' rs hl R⟩
/-! ### leaves_of -/
abbrev st_leaves_of : Stmt := top 25
theorem sc_leaves_of : FnScope ["tree", "place", "row"] ["tree"] (defScope st_leaves_of) := ⟨rfl, rfl, rfl, by decide +kernel, rfl, by decide +kernel, by decide +kernel⟩
def sp_leaves_of (K : PySem.W.Frag) : Sp := fun vs H Q _ => ∃ a ts E, vs = [.ref a] ∧ SqT K H a (ts.map V.ref) ∧ Pairs H ts E ∧ (∀ e ∈ E, e.1 < E.length + 1 ∧ e.2 < E.length + 1) ∧ E.length ≤ 100 ∧
  ∀ r H', H r = none → Ex H H' → H' r = some (.tup (ns ((List.range (E.length + 1)).filter fun v => deg E v == 1))) → Q (.ref r) H'
theorem range_snoc_filter (i : Nat) (p : Nat → Bool) : (List.range (i + 1)).filter p = (List.range i).filter p ++ (if p i = true then [i] else []) := by
  rw [List.range_succ, List.filter_append, List.filter_cons]
  rfl
theorem D_leaves_of (L : Ld K mg "leaves_of" st_leaves_of) (B : Bt mg) (D_ties_by : Def P w K mg base "ties_by" 2 ["tree"] (sp_ties_by K)) : Def P w K mg base "leaves_of" 3 ["tree"] (sp_leaves_of K) := by
  refine L.ok (ps := ["tree"]) sc_leaves_of (fun _ _ _ _ _ _ us hl => match us, hl with | [_], _ => rfl) (fun vs H Q E h => ?_) (fun f cdv A outer s H vs Q E hr h => ?_)
  · obtain ⟨a, ts, E, rfl, _⟩ := h
    rfl
  · obtain ⟨a, ts, E, rfl, h2, h3, h4, h5, q⟩ := h
    refine ⟨_, (pss_one (ps_ret (pe_callTy (r := rTp K) call_tp (by rfl) B.tuple_ (by decide +kernel) (pa_cons (pe_lc (own := [("place", 1), ("row", 2)]) (g := gTup K 2 (gCons (gName 1) (gCons (gName 2) gNil))) (by rfl) sc_leaves_of.nd (pi_enum (by rfl) B.enumerate_ (pa_cons (pe_def D_ties_by (hr.mono (by decide)) (by rfl) (pa_cons (pv 0) pa_nil)) pa_nil)) (blkOk_by (N := ["tree", "place", "row"]) (sc := defScope st_leaves_of) (by decide +kernel)) (fun _ _ _ _ _ => (pg_tupK K rfl (by rfl) (pgs_cons (pg_name (i := 1) sc_leaves_of.nd rfl (.inl rfl)) (pgs_cons (pg_name (i := 2) sc_leaves_of.nd rfl (.inl rfl)) pgs_nil)))) (fun _ _ _ _ _ => (pts_one (pt_cmpR op_eq (pe_callB (r := rLn K) call_ln (by rfl) B.len_ (by decide +kernel) (pa_cons (pv 2) pa_nil)) pe_int (nomark _)))) (fun _ _ _ _ _ => (pv 1))) pa_nil)))), ?_⟩
    refine ⟨_, rfl, a, ts, E, rfl, h2, h3, h4, h5, fun r H1 rs hl R => ?_⟩
    refine ⟨r, _, rfl, .of R.lst, fun D hD => ?_⟩
    refine lc_it (walk_enum (xs := rs.map V.ref)) (fun i H' => Ex H1 H' ∧ H' D = some (.lst (ns ((List.range i).filter fun v => deg E v == 1)))) ⟨Ex.new hD, upd_same⟩ (fun i H' _ hP => .of (hP.1 _ _ R.lst)) (fun i x H' H2 hi hP hy => ?_) (fun H' hP => ?_)
    · obtain ⟨e1, hDl⟩ := hP
      obtain ⟨T, x1, x2, rfl, hT, rfl, g1, g2⟩ := hy
      cases g1
      replace g2 : (rs.map V.ref)[i]? = some x2 := g2
      rw [List.getElem?_map] at g2
      cases hr2 : rs[i]? with
      | none => rw [hr2] at g2; cases g2
      | some r2 =>
        rw [hr2] at g2
        cases g2
        have hrow := e1 _ _ (R.at' i r2 hr2)
        have eT : Ex H1 (upd H' T (.tup [.int (i : Int), .ref r2])) := e1.trans (Ex.new hT)
        have hDl2 : (upd H' T (.tup [.int (i : Int), .ref r2])) D = some (.lst (ns ((List.range i).filter fun v => deg E v == 1))) := Ex.new hT _ _ hDl
        refine ⟨T, _, rfl, .of upd_same, rfl, _, _, rfl, _, [], rfl, rfl, rfl, ?_⟩
        refine ⟨_, rfl, r2, _, rfl, .inl (.of (Ex.new hT _ _ hrow)), rfl, _, rfl, ite2 (fun hc => ?_) (fun hc => ?_)⟩
        · have hd : (deg E i == 1) = true := by
            have := of_decide_eq_true hc
            rw [ns_len, rowL_deg] at this
            injection this with this
            exact beq_iff_eq.mpr (by omega)
          refine ⟨_, rfl, ns ((List.range i).filter fun v => deg E v == 1), hDl2, ?_, Ex.mut eT hD, ?_⟩
          · rw [ns_len]
            have := List.length_filter_le (fun v => deg E v == 1) (List.range i)
            rw [List.length_range] at this
            rw [List.length_map] at hi
            exact small1000 (by omega)
          · rw [upd_same, range_snoc_filter, if_pos hd, ns_append]
            rfl
        · have hd : ¬ (deg E i == 1) = true := fun h => hc (decide_eq_true (by
            rw [ns_len, rowL_deg, beq_iff_eq.mp h]
            rfl))
          refine ⟨eT, ?_⟩
          rw [range_snoc_filter, if_neg hd, List.append_nil]
          exact hDl2
    · obtain ⟨e1, hDl⟩ := hP
      rw [List.length_map, hl] at hDl
      exact ⟨D, _, rfl, .inl ⟨.of hDl, fun l hl2 => q l _ (fresh_back (R.ex.trans e1) hl2) ((R.ex.trans e1).trans (Ex.new hl2)) upd_same⟩⟩
/-! ### lot_of -/
theorem lot_sorted {n : Nat} {adj : Nat → Nat → Bool} (irr : ∀ a, adj a a = false) {v : Nat} (hv : v < n) {is : List Int} (hp : is.Perm ((nb n adj v ++ [v]).map fun k : Nat => (k : Int))) (hs : is.Pairwise (· ≤ ·)) : is.map V.int = ns (lot n adj v) := by
  refine sorted_strict (l := nb n adj v ++ [v]) (List.nodup_append.mpr ⟨strict_nodup (filter_strict n _), by simp, fun a ha b hb c => ?_⟩) (filter_strict n _) (fun x => ?_) hp hs
  · have := List.mem_singleton.mp hb
    subst this
    subst c
    have h := (mem_nb.mp ha).2
    rw [irr] at h
    cases h
  · rw [List.mem_append, mem_nb, List.mem_singleton]
    show _ ↔ x ∈ lot n adj v
    rw [mem_lot]
    constructor
    · rintro (⟨h1, h2⟩ | h)
      · exact ⟨h1, .inl h2⟩
      · exact ⟨h ▸ hv, .inr h⟩
    · rintro ⟨h1, h2 | h2⟩
      · exact .inl ⟨h1, h2⟩
      · exact .inr h2
theorem nb_len (n : Nat) (adj : Nat → Nat → Bool) (v : Nat) : (nb n adj v).length ≤ n := by
  have := List.length_filter_le (adj v) (List.range n)
  rw [List.length_range] at this
  exact this
theorem lot_len (n : Nat) (adj : Nat → Nat → Bool) (v : Nat) : (lot n adj v).length ≤ n := by
  have := List.length_filter_le (fun u => adj v u || u == v) (List.range n)
  rw [List.length_range] at this
  exact this
abbrev st_lot_of : Stmt := top 6
theorem sc_lot_of : FnScope ["web", "place"] ["web", "place"] (defScope st_lot_of) := ⟨rfl, rfl, rfl, by decide +kernel, rfl, by decide +kernel, by decide +kernel⟩
def sp_lot_of (K : PySem.W.Frag) : Sp := fun vs H Q _ => ∃ a n adj x, vs = [.ref a, .int ((x : Nat) : Int)] ∧ WebAt K H a n adj ∧ n ≤ 6 ∧ x < n ∧ ∀ r H', H r = none → Ex H H' → H' r = some (.tup (ns (lot n adj x))) → Q (.ref r) H'
theorem D_lot_of (L : Ld K mg "lot_of" st_lot_of) (B : Bt mg) (D_neighbours_by : Def P w K mg base "neighbours_by" 1 ["web"] (sp_neighbours_by K)) : Def P w K mg base "lot_of" 2 ["web", "place"] (sp_lot_of K) := by
  refine L.ok (ps := ["web", "place"]) sc_lot_of (fun _ _ _ _ _ _ us hl => match us, hl with | [_, _], _ => rfl) (fun vs H Q E h => ?_) (fun f cdv A outer s H vs Q E hr h => ?_)
  · obtain ⟨a, n, adj, x, rfl, _⟩ := h
    rfl
  · obtain ⟨a, n, adj, x, rfl, hW, hn6, hx, q⟩ := h
    refine ⟨_, (pss_one (ps_ret (pe_callTy (r := rTp K) call_tp (by rfl) B.tuple_ (by decide +kernel) (pa_cons (pe_callB (r := rSorted K) cr_sorted (by rfl) B.sorted_ (by decide +kernel) (pa_cons (pe_op op_cat (pe_ix (r := rIxL K) ix_list (pe_def D_neighbours_by (hr.mono (by decide)) (by rfl) (pa_cons (pv 0) pa_nil)) (pv 1) (fun _ _ => rfl)) (pe_lst (pa_cons (pv 1) pa_nil))) pa_nil)) pa_nil)))), ?_⟩
    refine ⟨_, rfl, a, n, adj, rfl, hW, hn6, fun r H1 e1 hN => ?_⟩
    obtain ⟨xs, p, h1, h2, h3⟩ := hN.near.row hx
    refine ⟨_, rfl, r, xs, _, _, rfl, rfl, .of h1, h2, _, rfl, ⟨by show 1 ≤ sizeLine; decide, fun o ho => ?_⟩⟩
    have hpo : p ≠ o := ne_of_none h3 ho
    refine ⟨p, o, _, _, rfl, rfl, by rw [upd_ne hpo]; exact h3, upd_same, ?_, fun c hc => ?_⟩
    · have := nb_len n adj x
      rw [ns_len]
      exact Nat.le_of_lt (small1000 (by show _ + 1 ≤ 1000; omega))
    · refine ⟨c, (nb n adj x ++ [x]).map (fun k : Nat => (k : Int)), rfl, .of (by rw [upd_same, ← ns_int, ns_append]; rfl), ?_, fun is p2 hp hs hp2 => ?_⟩
      · rw [List.length_map, List.length_append]
        have := nb_len n adj x
        show _ + 1 < 64
        omega
      · have e2 : Ex H (upd (upd (upd H1 o (.lst [.int (x : Int)])) c (.lst (ns (nb n adj x) ++ [.int (x : Int)]))) p2 (.lst (is.map V.int))) := ((e1.trans (Ex.new ho)).trans (Ex.new hc)).trans (Ex.new hp2)
        refine ⟨p2, _, rfl, .inl ⟨.of upd_same, fun l hl => q l _ (fresh_back e2 hl) (e2.trans (Ex.new hl)) ?_⟩⟩
        rw [upd_same, lot_sorted hW.irr hx hp hs]
/-! ### _law_lot -/
abbrev st_law_lot : Stmt := top 38
theorem sc_law_lot : FnScope ["_law_near_here", "_law_p"] ["_law_near_here", "_law_p"] (defScope st_law_lot) := ⟨rfl, rfl, rfl, by decide +kernel, rfl, by decide +kernel, by decide +kernel⟩
def sp_law_lot (K : PySem.W.Frag) : Sp := fun vs H Q _ => ∃ a n adj x, vs = [.ref a, .int ((x : Nat) : Int)] ∧ NearAt H a n adj ∧ (∀ a, adj a a = false) ∧ n ≤ 6 ∧ x < n ∧ ∀ r H', H r = none → Ex H H' → H' r = some (.lst (ns (lot n adj x))) → Q (.ref r) H'
theorem D_law_lot (L : Ld K mg "_law_lot" st_law_lot) (B : Bt mg) : Def P w K mg base "_law_lot" 1 ["_law_near_here", "_law_p"] (sp_law_lot K) := by
  refine L.ok (ps := ["_law_near_here", "_law_p"]) sc_law_lot (fun _ _ _ _ _ _ us hl => match us, hl with | [_, _], _ => rfl) (fun vs H Q E h => ?_) (fun f cdv A outer s H vs Q E hr h => ?_)
  · obtain ⟨a, n, adj, x, rfl, _⟩ := h
    rfl
  · obtain ⟨r, n, adj, x, rfl, hN, irr, hn6, hx, q⟩ := h
    refine ⟨_, (pss_one (ps_ret (pe_callB (r := rSorted K) cr_sorted (by rfl) B.sorted_ (by decide +kernel) (pa_cons (pe_op op_cat (pe_ix (r := rIxL K) ix_list (pv 0) (pv 1) (fun _ _ => rfl)) (pe_lst (pa_cons (pv 1) pa_nil))) pa_nil)))), ?_⟩
    obtain ⟨xs, p, h1, h2, h3⟩ := hN.row hx
    refine ⟨_, rfl, _, rfl, r, xs, _, _, rfl, rfl, .of h1, h2, _, rfl, ⟨by show 1 ≤ sizeLine; decide, fun o ho => ?_⟩⟩
    have hpo : p ≠ o := ne_of_none h3 ho
    refine ⟨p, o, _, _, rfl, rfl, by rw [upd_ne hpo]; exact h3, upd_same, ?_, fun c hc => ?_⟩
    · have := nb_len n adj x
      rw [ns_len]
      exact Nat.le_of_lt (small1000 (by show _ + 1 ≤ 1000; omega))
    · refine ⟨c, (nb n adj x ++ [x]).map (fun k : Nat => (k : Int)), rfl, .of (by rw [upd_same, ← ns_int, ns_append]; rfl), ?_, fun is p2 hp hs hp2 => ?_⟩
      · rw [List.length_map, List.length_append]
        have := nb_len n adj x
        show _ + 1 < 64
        omega
      · have e2 : Ex H (upd (upd (upd H o (.lst [.int (x : Int)])) c (.lst (ns (nb n adj x) ++ [.int (x : Int)]))) p2 (.lst (is.map V.int))) := ((Ex.new ho).trans (Ex.new hc)).trans (Ex.new hp2)
        refine q p2 _ (fresh_back ((Ex.new ho).trans (Ex.new hc)) hp2) e2 ?_
        rw [upd_same, lot_sorted irr hx hp hs]
end
end ML
set_option Elab.async false
set_option linter.all false
set_option maxRecDepth 100000
set_option maxHeartbeats 4000000
namespace ML
open PySem PySem.Spec PyProof.Rows L2 Evl
/-! ### places come to, one by one -/
structure Come (n : Nat) (adj : Nat → Nat → Bool) (op : Nat → Prop) (s : Nat) (F : List Nat) : Prop where
  nd : F.Nodup
  lt : ∀ v ∈ F, v < n
  start : s ∈ F
  sub : ∀ v, v ∈ F → v = s ∨ op v
  least : ∀ S : Nat → Prop, S s → (∀ v u, v ∈ F → S v → u ∈ F → adj v u = true → S u) → ∀ v, v ∈ F → S v
theorem Come.len {n : Nat} {adj : Nat → Nat → Bool} {op : Nat → Prop} {s : Nat} {F : List Nat} (h : Come n adj op s F) : F.length ≤ n := by
  have := nodup_len_le h.nd (m := List.range n) fun x hx => List.mem_range.mpr (h.lt x hx)
  rw [List.length_range] at this
  exact this
theorem Come.one {n : Nat} {adj : Nat → Nat → Bool} {op : Nat → Prop} {s : Nat} (hs : s < n) : Come n adj op s [s] :=
  ⟨by simp, fun v hv => by rw [List.mem_singleton.mp hv]; exact hs, List.mem_cons_self, fun v hv => .inl (List.mem_singleton.mp hv), fun S h _ v hv => by rw [List.mem_singleton.mp hv]; exact h⟩
theorem Come.add {n : Nat} {adj : Nat → Nat → Bool} {op : Nat → Prop} {s v u : Nat} {F : List Nat} (h : Come n adj op s F) (hv : v ∈ F) (hu : u < n) (ha : adj v u = true) (ho : op u) (hn : u ∉ F) : Come n adj op s (F ++ [u]) := by
  refine ⟨List.nodup_append.mpr ⟨h.nd, by simp, fun a ha b hb c => hn (by rw [← List.mem_singleton.mp hb, ← c]; exact ha)⟩, fun x hx => ?_, List.mem_append_left _ h.start, fun x hx => ?_, fun S h0 hS x hx => ?_⟩
  · rcases List.mem_append.mp hx with hx | hx
    · exact h.lt x hx
    · rw [List.mem_singleton.mp hx]; exact hu
  · rcases List.mem_append.mp hx with hx | hx
    · exact h.sub x hx
    · rw [List.mem_singleton.mp hx]; exact .inr ho
  · have hF := h.least S h0 fun a b ha hSa hb hab => hS a b (List.mem_append_left _ ha) hSa (List.mem_append_left _ hb) hab
    rcases List.mem_append.mp hx with hx | hx
    · exact hF x hx
    · rw [List.mem_singleton.mp hx]
      exact hS v u (List.mem_append_left _ hv) (hF v hv) (List.mem_append_right _ (by simp)) ha
theorem Come.piece {n : Nat} {adj : Nat → Nat → Bool} {op : Nat → Prop} {s : Nat} {F R : List Nat} (h : Come n adj op s F) (hc : ∀ v, v ∈ F → ∀ u, u < n → adj v u = true → op u → u ∈ F) (hR : R.Pairwise (· < ·)) (hm : ∀ x, x ∈ F ↔ x ∈ R) : Piece n adj op s R :=
  ⟨⟨hR, fun v hv => h.lt v ((hm v).mpr hv)⟩, (hm s).mp h.start, fun v hv => h.sub v ((hm v).mpr hv), fun v hv u hu a o => (hm u).mp (hc v ((hm v).mpr hv) u hu a o),
    fun S h0 hS v hv => h.least S h0 (fun a b ha hSa hb hab => hS a b ((hm a).mp ha) hSa ((hm b).mp hb) hab) v ((hm v).mpr hv)⟩
/-- .. in a row, the first k looked at -/
structure Bfs (n : Nat) (adj : Nat → Nat → Bool) (op : Nat → Prop) (s : Nat) (F : List Nat) (k : Nat) : Prop where
  come : Come n adj op s F
  done : ∀ i v, i < k → F[i]? = some v → ∀ u, u < n → adj v u = true → op u → u ∈ F
theorem Bfs.add {n : Nat} {adj : Nat → Nat → Bool} {op : Nat → Prop} {s v u k : Nat} {F : List Nat} (h : Bfs n adj op s F k) (hk : k < F.length) (hv : v ∈ F) (hu : u < n) (ha : adj v u = true) (ho : op u) (hn : u ∉ F) : Bfs n adj op s (F ++ [u]) k :=
  ⟨h.come.add hv hu ha ho hn, fun i x hi hx w hw a o => List.mem_append_left _ (h.done i x hi (by rw [List.getElem?_append_left (by omega)] at hx; exact hx) w hw a o)⟩
theorem Bfs.next {n : Nat} {adj : Nat → Nat → Bool} {op : Nat → Prop} {s v k : Nat} {F : List Nat} (h : Bfs n adj op s F k) (hv : F[k]? = some v) (hd : ∀ u ∈ nb n adj v, op u → u ∈ F) : Bfs n adj op s F (k + 1) :=
  ⟨h.come, fun i x hi hx w hw a o => by
    by_cases e : i = k
    · subst e
      rw [hv] at hx
      cases hx
      exact hd w (mem_nb.mpr ⟨hw, a⟩) o
    · exact h.done i x (by omega) hx w hw a o⟩
theorem Bfs.closed {n : Nat} {adj : Nat → Nat → Bool} {op : Nat → Prop} {s k : Nat} {F : List Nat} (h : Bfs n adj op s F k) (hk : F.length ≤ k) : ∀ v, v ∈ F → ∀ u, u < n → adj v u = true → op u → u ∈ F := fun v hv u hu a o => by
  obtain ⟨i, hi⟩ := List.getElem?_of_mem hv
  have := (List.getElem?_eq_some_iff.mp hi).1
  exact h.done i v (by omega) hi u hu a o
section
variable {P : Program} {w : World} {K : PySem.W.Frag} {mg : Str → Option Value} {base : Heap}
/-! ### touched -/
abbrev st_touched : Stmt := top 7
theorem sc_touched : FnScope ["web", "places", "marks", "found", "place", "near", "other"] ["web", "places"] (defScope st_touched) := ⟨rfl, rfl, rfl, by decide +kernel, rfl, by decide +kernel, by decide +kernel⟩
def sp_touched (K : PySem.W.Frag) : Sp := fun vs H Q _ => ∃ a b n adj L, vs = [.ref a, .ref b] ∧ WebAt K H a n adj ∧ n ≤ 6 ∧ SqT K H b (ns L) ∧ (∀ v ∈ L, v < n) ∧ ∀ r H', H r = none → Ex H H' → H' r = some (.tup (ns (touchB n adj L))) → Q (.ref r) H'
theorem wo_row {o : Addr} {H : Hp} {a : Addr} {x : HO} (h : H a = some x) (ne : a ≠ o) : wo o H a = some x := by rw [wo_ne ne]; exact h
theorem D_touched (L : Ld K mg "touched" st_touched) (B : Bt mg) (D_marks_of : Def P w K mg base "marks_of" 1 ["places", "many"] (sp_marks_of K)) (D_neighbours_by : Def P w K mg base "neighbours_by" 1 ["web"] (sp_neighbours_by K)) : Def P w K mg base "touched" 2 ["web", "places"] (sp_touched K) := by
  refine L.ok (ps := ["web", "places"]) sc_touched (fun _ _ _ _ _ _ us hl => match us, hl with | [_, _], _ => rfl) (fun vs H Q E h => ?_) (fun f cdv A outer s H vs Q E hr h => ?_)
  · obtain ⟨a, b, n, adj, L, rfl, _⟩ := h
    rfl
  · obtain ⟨a, b, n, adj, L, rfl, hW, hn6, hL, hlt, q⟩ := h
    refine ⟨_, (pss_cons (ps_set (i := 2) sc_touched.nd rfl (.inr rfl) (pe_def D_marks_of (hr.mono (by decide)) (by rfl) (pa_cons (pv 1) (pa_cons (pe_ix (r := rIxT K) ix_tup (pv 0) pe_int (fun _ _ => rfl)) pa_nil))))
      (pss_cons (ps_set (i := 3) sc_touched.nd rfl (.inl rfl) (pe_lst pa_nil))
      (pss_cons (ps_for PassesOwn.never rfl (pi_enum (by rfl) B.enumerate_ (pa_cons (pe_def D_neighbours_by (hr.mono (by decide)) (by rfl) (pa_cons (pv 0) pa_nil)) pa_nil)) (pg_tupK K rfl (by rfl) (pgs_cons (pg_name (i := 4) sc_touched.nd rfl (.inl rfl)) (pgs_cons (pg_name (i := 5) sc_touched.nd rfl (.inl rfl)) pgs_nil)))
        (pss_one (ps_if (PW.pt (pw_and (pt_not (pt_val (pe_ix (r := rIxL K) ix_list (pv 2) (pv 4) (fun _ _ => rfl)))) (pw_and1 (pt_cmpR (r := rNeD K) (op_neD hr.units) (pe_lc (own := [("other", 6)]) (g := gName 6) (by rfl) sc_touched.nd (pi_listK K rfl (pv 5)) (blkOk_by (N := ["web", "places", "marks", "found", "place", "near", "other"]) (sc := defScope st_touched) (by decide +kernel)) (fun _ _ _ _ _ => (pg_name (i := 6) sc_touched.nd rfl (.inl rfl))) (fun _ _ _ _ _ => (pts_one (pt_val (pe_ix (r := rIxL K) ix_list (pv 2) (pv 6) (fun _ _ => rfl))))) (fun _ _ _ _ _ => (pv 6))) (pe_lst pa_nil) (nomark _))))) (pss_one (ps_expr (pe_bm PySem.F.plainAttrs_list PySem.F.slot_list_append PySem.F.type_list_append mt_append (pv 3) (pa_cons (pv 4) pa_nil)))) pss_nil)))
      (pss_one (ps_ret (pe_callTy (r := rTp K) call_tp (by rfl) B.tuple_ (by decide +kernel) (pa_cons (pv 3) pa_nil))))))), ?_⟩
    obtain ⟨t, ts, E, h1, h2, h3, _⟩ := hW.ex
    refine ⟨_, rfl, _, rfl, a, _, _, .int (n : Int), rfl, rfl, h1, atI_nat (j := 0) rfl, b, L, n, rfl, hL, hlt, by omega, fun m H1 hm e1 hml => ?_⟩
    refine ⟨Nat.zero_le _, fun o ho => ?_⟩
    refine ⟨_, rfl, a, n, adj, rfl, hW.mono (e1.trans (Ex.new ho)), hn6, fun r H2 e2 hN => ?_⟩
    have hG := hN.wo (o := o) upd_same
    obtain ⟨rs, g1, g2, g3⟩ := hG.ex
    have eG : Ex H1 (wo o H2) := ex_wo ((Ex.new ho).trans e2) ho
    refine ⟨r, rs.map V.ref, rfl, .of (wo_ex _ _ g1), ?_⟩
    refine for_it (walk_enum (xs := rs.map V.ref)) (fun i σ H' => Ex (wo o H2) H' ∧ H' o = some (.lst (ns ((List.range i).filter fun v => !decide (v ∈ L) && !((nb n adj v).filter fun u => decide (u ∈ L)).isEmpty))) ∧ ∃ y4 y5, σ = [some (.ref a), some (.ref b), some (.ref m), some (.ref o), y4, y5, none]) ⟨wo_ex, e2 _ _ upd_same, _, _, rfl⟩ (fun i σ H' _ hP => .of (hP.1 _ _ g1)) (fun i x σ H' H3 hi hP hy => ?_) (fun σ H' hP => ?_)
    · obtain ⟨p1, p2, y4, y5, rfl⟩ := hP
      obtain ⟨T, x1, x2, rfl, hT, rfl, k1, k2⟩ := hy
      cases k1
      replace k2 : (rs.map V.ref)[i]? = some x2 := k2
      rw [List.getElem?_map] at k2
      have hin : i < n := by rw [List.length_map] at hi; omega
      obtain ⟨r2, hr2, hrow⟩ := g3 i hin
      rw [hr2] at k2
      cases k2
      have eT : Ex H' (upd H' T (.tup [.int (i : Int), .ref r2])) := Ex.new hT
      have hmG : (wo o H2) m = some (.lst (marks n fun v => decide (v ∈ L))) := eG _ _ hml
      refine ⟨T, _, rfl, .of upd_same, rfl, _, _, rfl, _, [], rfl, rfl, ?_⟩
      have hc : EvT (tAnd (tNot (tB (tOp (rIxL K) (tVar 2) (tVar 4)))) (tTest (tOp (rNeD K) (tLc (iList K (tVar 5)) (gName 6) (tB (tOp (rIxL K) (tVar 2) (tVar 6))) (tVar 6) [6]) (tLst tNil)))) [some (.ref a), some (.ref b), some (.ref m), some (.ref o), some (.int (i : Int)), some (.ref r2), none] (upd H' T (.tup [.int (i : Int), .ref r2]))
          (!decide (i ∈ L) && !((nb n adj i).filter fun u => decide (u ∈ L)).isEmpty) := by
        have hm2 : SqL K (upd H' T (.tup [.int (i : Int), .ref r2])) m (marks n fun v => decide (v ∈ L)) := .of (eT _ _ (p1 _ _ hmG))
        refine et_and (et_not (et_B (ev_op (ev_var rfl) (ev_var rfl) (rv_ixL hm2 (atI_nat (marks_get hin)))))) fun _ => et_test (ev_neNil ?_)
        refine el_L (nb n adj i) (fun u => decide (u ∈ L)) (fun v => .int (v : Int)) (ev_var rfl) (.of (eT _ _ (p1 _ _ hrow))) (by have := nb_len n adj i; omega) (fun _ => rfl) (fun v hv => ?_) (fun v hv _ => ev_var rfl)
        exact et_B (ev_op (ev_var rfl) (ev_var rfl) (rv_ixL hm2 (atI_nat (marks_get (mem_nb.mp hv).1))))
      refine hc _ (Ex.refl _) _ fun H4 e4 => ?_
      have e5 : Ex (wo o H2) H4 := (p1.trans eT).trans e4
      have ho4 := e4 _ _ (eT _ _ p2)
      refine ite2 (fun hb => ?_) (fun hb => ?_)
      · refine ⟨_, rfl, .inl ⟨rfl, _, .of ho4⟩, _, rfl, o, _, _, rfl, rfl, ho4, ?_, wo_mut e5, ?_, _, _, rfl⟩
        · rw [ns_len]
          have := List.length_filter_le (fun v => !decide (v ∈ L) && !((nb n adj v).filter fun u => decide (u ∈ L)).isEmpty) (List.range i)
          rw [List.length_range] at this
          exact small1000 (by omega)
        · rw [upd_same, range_snoc_filter, if_pos hb, ns_append]
          rfl
      · refine ⟨e5, ?_, _, _, rfl⟩
        rw [range_snoc_filter, if_neg hb, List.append_nil]
        exact ho4
    · obtain ⟨p1, p2, y4, y5, rfl⟩ := hP
      have en : (rs.map V.ref).length = n := by rw [List.length_map]; exact g2
      rw [en] at p2
      have eH : Ex H H' := e1.trans (eG.trans p1)
      exact ⟨_, rfl, o, _, rfl, .inl ⟨.of p2, fun l hl => q l _ (fresh_back eH hl) (eH.trans (Ex.new hl)) upd_same⟩⟩
/-! ### _law_touched -/
abbrev st_law_touched : Stmt := top 35
theorem sc_law_touched : FnScope ["_law_near_here", "_law_places", "_law_others", "_law_place", "_law_k"] ["_law_near_here", "_law_places"] (defScope st_law_touched) := ⟨rfl, rfl, rfl, by decide +kernel, rfl, by decide +kernel, by decide +kernel⟩
def sp_law_touched (K : PySem.W.Frag) : Sp := fun vs H Q _ => ∃ a b n adj L, vs = [.ref a, .ref b] ∧ NearAt H a n adj ∧ n ≤ 6 ∧ SqL K H b (ns L) ∧ (∀ v ∈ L, v < n) ∧ ∀ r H', H r = none → Ex H H' → H' r = some (.lst (ns (touchB n adj L))) → Q (.ref r) H'
theorem D_law_touched (L : Ld K mg "_law_touched" st_law_touched) (B : Bt mg) : Def P w K mg base "_law_touched" 1 ["_law_near_here", "_law_places"] (sp_law_touched K) := by
  refine L.ok (ps := ["_law_near_here", "_law_places"]) sc_law_touched (fun _ _ _ _ _ _ us hl => match us, hl with | [_, _], _ => rfl) (fun vs H Q E h => ?_) (fun f cdv A outer s H vs Q E hr h => ?_)
  · obtain ⟨a, b, n, adj, L, rfl, _⟩ := h
    rfl
  · obtain ⟨a, b, n, adj, L, rfl, hN, hn6, hL, hlt, q⟩ := h
    refine ⟨_, (pss_cons (ps_setLc (i := 2) (own := [("_law_place", 3)]) (g := gName 3) (by rfl) sc_law_touched.nd rfl rfl (sw_true rfl rfl rfl (by decide +kernel)) (pi_range1 (by rfl) B.range_ (pa_cons (pe_callB (r := rLn K) call_ln (by rfl) B.len_ (by decide +kernel) (pa_cons (pv 0) pa_nil)) pa_nil)) (blkOk_by (N := ["_law_near_here", "_law_places", "_law_others", "_law_place", "_law_k"]) (sc := defScope st_law_touched) (by decide +kernel)) (fun _ _ _ _ _ => (pg_name (i := 3) sc_law_touched.nd rfl (.inl rfl))) (fun _ _ _ _ _ => (pts_one (pt_cmpR (r := rIn K true) op_notIn_seq (pv 3) (pv 1) (by rfl)))) (fun _ _ _ _ _ => (pv 3)))
      (pss_one (ps_ret (pe_lc (own := [("_law_place", 3)]) (g := gName 3) (by rfl) sc_law_touched.nd (pi_listK K rfl (pv 2)) (blkOk_by (N := ["_law_near_here", "_law_places", "_law_others", "_law_place", "_law_k"]) (sc := defScope st_law_touched) (by decide +kernel)) (fun _ _ _ _ _ => (pg_name (i := 3) sc_law_touched.nd rfl (.inl rfl))) (fun _ _ _ _ _ => (pts_one (pt_cmpR (r := rNeD K) (op_neD hr.units) (pe_lc (own := [("_law_k", 4)]) (g := gName 4) (by rfl) sc_law_touched.nd (pi_listK K rfl (pe_ix (r := rIxL K) ix_list (pv 0) (pv 3) (fun _ _ => rfl))) (blkOk_by (N := ["_law_near_here", "_law_places", "_law_others", "_law_place", "_law_k"]) (sc := relS _ (defScope st_law_touched)) (by decide +kernel)) (fun _ _ _ _ _ => (pg_name (i := 4) sc_law_touched.nd rfl (.inl rfl))) (fun _ _ _ _ _ => (pts_one (pt_cmpR (r := rIn K false) op_in_seq (pv 4) (pv 1) (by rfl)))) (fun _ _ _ _ _ => (pv 4))) (pe_lst pa_nil) (nomark _)))) (fun _ _ _ _ _ => (pv 3)))))), ?_⟩
    obtain ⟨rs, g1, g2, g3⟩ := hN.ex
    have hO : EvL (tLc (iRng1 (tCons (tCB (rLn K) (tCons (tVar 0) tNil)) tNil)) (gName 3) (tTest (tOp (rIn K true) (tVar 3) (tVar 1))) (tVar 3) [3]) [some (.ref a), some (.ref b), none, none, none] H (ns ((List.range n).filter fun v => !decide (v ∈ L))) := by
      refine el_R n (fun v => !decide (v ∈ L)) (fun v => .int (v : Int)) (m := ((rs.map V.ref).length : Int)) (ea_cons (ev_cb (ea_cons (ev_var rfl) ea_nil) fun H1 e Q q => ⟨a, rs.map V.ref, rfl, .inl (.of (e _ _ g1)), q H1 (Ex.refl H1)⟩) ea_nil) (by rw [List.length_map, g2]) (by omega) (fun _ => rfl) (fun v hv => ?_) (fun v hv _ => ev_var rfl)
      exact et_test (ev_niL L (ev_var rfl) (ev_var rfl) hL)
    refine q_asgL hO fun o H1 ho e1 ho1 => ?_
    have hR : EvL (tLc (iList K (tVar 2)) (gName 3) (tTest (tOp (rNeD K) (tLc (iList K (tOp (rIxL K) (tVar 0) (tVar 3))) (gName 4) (tTest (tOp (rIn K false) (tVar 4) (tVar 1))) (tVar 4) [4]) (tLst tNil))) (tVar 3) [3]) [some (.ref a), some (.ref b), some (.ref o), none, none] H1 (ns (((List.range n).filter fun v => !decide (v ∈ L)).filter fun v => !((nb n adj v).filter fun u => decide (u ∈ L)).isEmpty)) := by
      refine el_L ((List.range n).filter fun v => !decide (v ∈ L)) (fun v => !((nb n adj v).filter fun u => decide (u ∈ L)).isEmpty) (fun v => .int (v : Int)) (ev_var rfl) (.of ho1) ?_ (fun _ => rfl) (fun v hv => ?_) (fun v hv _ => ev_var rfl)
      · have := List.length_filter_le (fun v => !decide (v ∈ L)) (List.range n)
        rw [List.length_range] at this
        omega
      · have hvn : v < n := List.mem_range.mp (List.mem_filter.mp hv).1
        obtain ⟨xs, p, k1, k2, k3⟩ := (hN.mono e1).row hvn
        refine et_test (ev_neNil ?_)
        refine el_L (nb n adj v) (fun u => decide (u ∈ L)) (fun v => .int (v : Int)) (a := p) (ev_op (ev_var rfl) (ev_var rfl) (rv_ixL (.of k1) k2)) (.of k3) (by have := nb_len n adj v; omega) (fun _ => rfl) (fun u hu => ?_) (fun u hu _ => ev_var rfl)
        exact et_test (ev_inL L (ev_var rfl) (ev_var rfl) (ex_l e1 hL))
    refine s_retL hR fun r H2 hr e2 hr2 => q r H2 (fresh_back e1 hr) (e1.trans e2) ?_
    rw [hr2]
    unfold touchB
    rw [List.filter_filter]
    refine congrArg (fun l => some (HO.lst (ns l))) (List.filter_congr fun v _ => Bool.and_comm _ _)
/-! ### piece_of -/
abbrev st_piece_of : Stmt := top 9
theorem sc_piece_of : FnScope ["near", "open_marks", "start", "found", "at", "other"] ["near", "open_marks", "start"] (defScope st_piece_of) := ⟨rfl, rfl, rfl, by decide +kernel, rfl, by decide +kernel, by decide +kernel⟩
def sp_piece_of (K : PySem.W.Frag) : Sp := fun vs H Q _ => ∃ a m n adj op s, vs = [.ref a, .ref m, .int ((s : Nat) : Int)] ∧ NearAt (wo m H) a n adj ∧ H m = some (.lst (marks n op)) ∧ s < n ∧ n ≤ 6 ∧
  ∀ r H' R, Piece n adj (fun v => op v = true) s R → H r = none → Ex (wo m H) H' → H' m = some (.lst (marks n fun v => op v && !decide (v ∈ R))) → H' r = some (.tup (ns R)) → Q (.ref r) H'
theorem D_piece_of (L : Ld K mg "piece_of" st_piece_of) (B : Bt mg) : Def P w K mg base "piece_of" 1 ["near", "open_marks", "start"] (sp_piece_of K) := by
  refine L.ok (ps := ["near", "open_marks", "start"]) sc_piece_of (fun _ _ _ _ _ _ us hl => match us, hl with | [_, _, _], _ => rfl) (fun vs H Q E h => ?_) (fun f cdv A outer s H vs Q E hr h => ?_)
  · obtain ⟨a, m, n, adj, op, s, rfl, _⟩ := h
    rfl
  · obtain ⟨a, m, n, adj, op, s, rfl, hN, hm, hs, hn6, q⟩ := h
    refine ⟨_, (pss_cons (ps_set (i := 3) sc_piece_of.nd rfl (.inl rfl) (pe_lst (pa_cons (pv 2) pa_nil)))
      (pss_cons (ps_asg pe_bl (pg_sub (pv 1) (pv 2) set_list))
      (pss_cons (ps_set (i := 4) sc_piece_of.nd rfl (.inl rfl) pe_int)
      (pss_cons (ps_while PassesOwn.never (pt_cmpR op_lt (pv 4) (pe_callB (r := rLn K) call_ln (by rfl) B.len_ (by decide +kernel) (pa_cons (pv 3) pa_nil)) (nomark _)) (pss_cons (ps_for PassesOwn.never rfl (pi_listK K rfl (pe_ix (r := rIxL K) ix_list (pv 0) (pe_ix (r := rIxL K) ix_list (pv 3) (pv 4) (fun _ _ => rfl)) (fun _ _ => rfl))) (pg_name (i := 5) sc_piece_of.nd rfl (.inl rfl))
        (pss_one (ps_if (pt_val (pe_ix (r := rIxL K) ix_list (pv 1) (pv 5) (fun _ _ => rfl))) (pss_cons (ps_asg pe_bl (pg_sub (pv 1) (pv 5) set_list))
      (pss_one (ps_expr (pe_bm PySem.F.plainAttrs_list PySem.F.slot_list_append PySem.F.type_list_append mt_append (pv 3) (pa_cons (pv 5) pa_nil))))) pss_nil)))
      (pss_one (ps_set (i := 4) sc_piece_of.nd rfl (.inl rfl) (pe_op op_add (pv 4) pe_int)))))
      (pss_one (ps_ret (pe_callTy (r := rTp K) call_tp (by rfl) B.tuple_ (by decide +kernel) (pa_cons (pe_callB (r := rSorted K) cr_sorted (by rfl) B.sorted_ (by decide +kernel) (pa_cons (pv 3) pa_nil)) pa_nil)))))))), ?_⟩
    obtain ⟨rs, g1, g2, g3⟩ := hN.ex
    refine ⟨_, rfl, by show 1 ≤ sizeLine; decide, fun fd hfd => ?_⟩
    have hmf : m ≠ fd := ne_of_none hm hfd
    refine ⟨_, rfl, _, rfl, m, _, _, s, rfl, rfl, by rw [upd_ne hmf]; exact hm, ixN_nat (by rw [marks_len]; exact hs), ?_⟩
    have eG0 : Ex (wo m H) (upd (upd H fd (.lst [.int (s : Int)])) m (.lst ((marks n op).set s (.bl false)))) := wo_mut (wo_ex.trans (Ex.new hfd))
    have hGf : wo m H fd = none := by rw [wo_ne hmf.symm]; exact hfd
    refine ⟨fun μ σ H' => ∃ F k y5, σ = [some (.ref a), some (.ref m), some (.int (s : Int)), some (.ref fd), some (.int ((k : Nat) : Int)), y5] ∧ Bfs n adj (fun v => op v = true) s F k ∧ k ≤ F.length ∧ μ = n - k ∧ Ex (wo m H) H' ∧ H' m = some (.lst (marks n fun v => op v && !decide (v ∈ F))) ∧ H' fd = some (.lst (ns F)),
      ⟨n, [s], 0, none, rfl, ⟨Come.one hs, fun i v hi => absurd hi (by omega)⟩, Nat.zero_le _, rfl, eG0, ?_, ?_⟩, fun μ σ H' hW => ?_⟩
    · rw [upd_same, marks_set]
      refine congrArg (fun l => some (HO.lst l)) (marks_congr fun v _ => ?_)
      by_cases e : v = s
      · rw [if_pos e, decide_eq_true (by rw [e]; simp)]
        simp
      · rw [if_neg e, decide_eq_false (by simpa using e)]
        simp
    · rw [upd_ne hmf.symm, upd_same]
      rfl
    · obtain ⟨F, k, y5, rfl, hB, hk, rfl, e1, hm1, hf1⟩ := hW
      refine ⟨_, rfl, _, rfl, fd, _, rfl, .inl (.of hf1), _, _, rfl, rfl, _, rfl, ite2 (fun hc => ?_) (fun hc => ?_)⟩
      · have hkl : k < F.length := by
          have := of_decide_eq_true hc
          rw [ns_len] at this
          omega
        obtain ⟨v, hv⟩ : ∃ v, F[k]? = some v := ⟨_, List.getElem?_eq_getElem hkl⟩
        have hvF : v ∈ F := List.mem_of_getElem? hv
        have hvn := hB.come.lt v hvF
        obtain ⟨r1, hr1, hrow⟩ := g3 v hvn
        have hFn := hB.come.len
        refine ⟨fun σ2 H2 => ∃ F2 y5, σ2 = [some (.ref a), some (.ref m), some (.int (s : Int)), some (.ref fd), some (.int (((k + 1 : Nat) : Nat) : Int)), y5] ∧ Bfs n adj (fun v => op v = true) s F2 (k + 1) ∧ k + 1 ≤ F2.length ∧ Ex (wo m H) H2 ∧ H2 m = some (.lst (marks n fun v => op v && !decide (v ∈ F2))) ∧ H2 fd = some (.lst (ns F2)), fun σ2 H2 hN2 => ?_, ?_⟩
        · obtain ⟨F2, y, h1, h2, h3, h4, h5, h6⟩ := hN2
          exact ⟨n - (k + 1), by omega, F2, k + 1, y, h1, h2, h3, rfl, h4, h5, h6⟩
        · -- for other in near[found[at]]
          refine ⟨_, rfl, _, rfl, _, rfl, fd, _, _, _, rfl, rfl, .of hf1, atI_nat (ns_get hv), a, _, _, .ref r1, rfl, rfl, .of (e1 _ _ g1), atI_nat (by rw [List.getElem?_map, hr1]; rfl), r1, rfl, ⟨_, .of (e1 _ _ hrow)⟩, ?_⟩
          refine for_list (xs := ns (nb n adj v)) (fun j σ2 H2 => ∃ F2 y5, σ2 = [some (.ref a), some (.ref m), some (.int (s : Int)), some (.ref fd), some (.int ((k : Nat) : Int)), y5] ∧ Bfs n adj (fun v => op v = true) s F2 k ∧ F2[k]? = some v ∧ (∀ u ∈ (nb n adj v).take j, op u = true → u ∈ F2) ∧ Ex (wo m H) H2 ∧ H2 m = some (.lst (marks n fun v => op v && !decide (v ∈ F2))) ∧ H2 fd = some (.lst (ns F2)))
            ⟨F, y5, rfl, hB, hv, fun u hu => absurd hu (by simp), e1, hm1, hf1⟩ (fun j σ2 H2 _ hP => by obtain ⟨_, _, _, _, _, _, e2, _⟩ := hP; exact .of (e2 _ _ hrow)) (fun j x σ2 H2 hj hP => ?_) (fun σ2 H2 hP => ?_)
          · obtain ⟨F2, y, rfl, hB2, hv2, hd, e2, hm2, hf2⟩ := hP
            obtain ⟨u, hu, hum, rfl⟩ := ns_got hj
            obtain ⟨hun, hua⟩ := mem_nb.mp hum
            have hvF2 := List.mem_of_getElem? hv2
            have hk2 := (List.getElem?_eq_some_iff.mp hv2).1
            have ek : (nb n adj v).take (j + 1) = (nb n adj v).take j ++ [u] := by rw [List.take_add_one, hu]; rfl
            refine ⟨_, rfl, _, rfl, m, _, _, .bl (op u && !decide (u ∈ F2)), rfl, rfl, .of hm2, atI_nat (marks_get hun), _, rfl, ite2 (fun hc => ?_) (fun hc => ?_)⟩
            · obtain ⟨ho, hn⟩ : op u = true ∧ u ∉ F2 := by
                rw [Bool.and_eq_true, Bool.not_eq_true', decide_eq_false_iff_not] at hc
                exact hc
              have hl2 := hB2.come.len
              refine ⟨_, rfl, _, rfl, m, _, _, u, rfl, rfl, hm2, ixN_nat (by rw [marks_len]; exact hun), ?_⟩
              have hf3 : upd H2 m (.lst ((marks n fun v => op v && !decide (v ∈ F2)).set u (.bl false))) fd = some (.lst (ns F2)) := by rw [upd_ne hmf.symm]; exact hf2
              refine ⟨_, rfl, .inl ⟨rfl, _, .of hf3⟩, _, rfl, fd, _, _, rfl, rfl, hf3, ?_, F2 ++ [u], _, rfl, hB2.add hk2 hvF2 hun hua ho hn, ?_, fun x hx hox => ?_, Ex.mut (wo_mut e2) hGf, ?_, ?_⟩
              · rw [ns_len]
                exact small1000 (by omega)
              · rw [List.getElem?_append_left hk2]
                exact hv2
              · rw [ek] at hx
                rcases List.mem_append.mp hx with hx | hx
                · exact List.mem_append_left _ (hd x hx hox)
                · exact List.mem_append_right _ hx
              · rw [upd_ne hmf, upd_same, marks_set]
                refine congrArg (fun l => some (HO.lst l)) (marks_congr fun x _ => ?_)
                by_cases e : x = u
                · rw [if_pos e, decide_eq_true (by rw [e]; simp)]
                  simp
                · rw [if_neg e]
                  by_cases hx : x ∈ F2
                  · rw [decide_eq_true hx, decide_eq_true (List.mem_append_left _ hx)]
                  · rw [decide_eq_false hx, decide_eq_false (by simp [hx, e])]
              · rw [upd_same, ns_append]
                rfl
            · refine ⟨F2, _, rfl, hB2, hv2, fun x hx hox => ?_, e2, hm2, hf2⟩
              rw [ek] at hx
              rcases List.mem_append.mp hx with hx | hx
              · exact hd x hx hox
              · have e := List.mem_singleton.mp hx
                subst e
                refine Classical.byContradiction fun hn => hc ?_
                rw [hox, decide_eq_false hn]
                rfl
          · obtain ⟨F2, y, rfl, hB2, hv2, hd, e2, hm2, hf2⟩ := hP
            rw [ns_len, List.take_length] at hd
            have hk2 := (List.getElem?_eq_some_iff.mp hv2).1
            refine ⟨_, rfl, _, _, rfl, rfl, F2, y, ?_, hB2.next hv2 hd, by omega, e2, hm2, hf2⟩
            rfl
      · -- return tuple(sorted(found))
        have hkl : F.length ≤ k := by
          refine Classical.byContradiction fun h => hc (decide_eq_true ?_)
          rw [ns_len]
          omega
        have hFn := hB.come.len
        refine ⟨_, rfl, fd, F.map (fun k : Nat => (k : Int)), rfl, .of (by rw [← ns_int]; exact hf1), by rw [List.length_map]; omega, fun is p hp hs2 hp0 => ?_⟩
        obtain ⟨R, k1, k2, k3⟩ := sorted_nat hp hs2
        have hR := hB.come.piece (hB.closed hkl) (strict_of k3 (k2.nodup_iff.mpr hB.come.nd)) fun x => k2.mem_iff.symm
        rw [k1]
        have hmp : m ≠ p := ne_of_none hm1 hp0
        refine ⟨p, _, rfl, .inl ⟨.of upd_same, fun l hl => ?_⟩⟩
        have e3 : Ex (wo m H) (upd (upd H' p (.lst (ns R))) l (.tup (ns R))) := (e1.trans (Ex.new hp0)).trans (Ex.new hl)
        have hml : m ≠ l := by
          refine ne_of_none (H := upd H' p (.lst (ns R))) (o := .lst (marks n fun v => op v && !decide (v ∈ F))) ?_ hl
          rw [upd_ne hmp]
          exact hm1
        refine q l _ R hR ?_ e3 ?_ upd_same
        · have h0 : wo m H l = none := fresh_back (e1.trans (Ex.new hp0)) hl
          rw [wo_ne hml.symm] at h0
          exact h0
        · rw [upd_ne hml, upd_ne hmp, hm1]
          refine congrArg (fun l => some (HO.lst l)) (marks_congr fun v _ => ?_)
          rw [show decide (v ∈ F) = decide (v ∈ R) from decide_eq_decide.mpr k2.mem_iff.symm]
end
end ML
set_option Elab.async false
set_option linter.all false
set_option maxRecDepth 100000
set_option maxHeartbeats 4000000
namespace ML
open PySem PySem.Spec PyProof.Rows L2 Evl
section
variable {P : Program} {w : World} {K : PySem.W.Frag} {mg : Str → Option Value} {base : Heap}
/-! ### pieces -/
abbrev st_pieces : Stmt := top 10
theorem sc_pieces : FnScope ["web", "places", "found", "near", "open_marks", "place"] ["web", "places"] (defScope st_pieces) := ⟨rfl, rfl, rfl, by decide +kernel, rfl, by decide +kernel, by decide +kernel⟩
def sp_pieces (K : PySem.W.Frag) : Sp := fun vs H Q _ => ∃ a b n adj s L, vs = [.ref a, .ref b] ∧ WebAt K H a n adj ∧ n ≤ 6 ∧ SqT K H b (ns (s :: L)) ∧ (∀ v ∈ s :: L, v < n) ∧ (s :: L).length ≤ 100 ∧
  ∀ r H' q0 more R0, Piece n adj (fun v => v ∈ s :: L) s R0 → H r = none → Ex H H' → H' r = some (.tup (.ref q0 :: more)) → H' q0 = some (.tup (ns R0)) → (more = [] ↔ ∀ v, v ∈ s :: L → v ∈ R0) → Q (.ref r) H'
theorem D_pieces (L : Ld K mg "pieces" st_pieces) (B : Bt mg) (D_neighbours_by : Def P w K mg base "neighbours_by" 1 ["web"] (sp_neighbours_by K)) (D_marks_of : Def P w K mg base "marks_of" 1 ["places", "many"] (sp_marks_of K)) (D_piece_of : Def P w K mg base "piece_of" 1 ["near", "open_marks", "start"] (sp_piece_of K)) : Def P w K mg base "pieces" 2 ["web", "places"] (sp_pieces K) := by
  refine L.ok (ps := ["web", "places"]) sc_pieces (fun _ _ _ _ _ _ us hl => match us, hl with | [_, _], _ => rfl) (fun vs H Q E h => ?_) (fun f cdv A outer s H vs Q E hr h => ?_)
  · obtain ⟨a, b, n, adj, s, L, rfl, _⟩ := h
    rfl
  · obtain ⟨a, b, n, adj, s0, L, rfl, hW, hn6, hL, hlt, hz, q⟩ := h
    refine ⟨_, (pss_cons (ps_set (i := 2) sc_pieces.nd rfl (.inl rfl) (pe_lst pa_nil))
      (pss_cons (ps_set (i := 3) sc_pieces.nd rfl (.inl rfl) (pe_def D_neighbours_by (hr.mono (by decide)) (by rfl) (pa_cons (pv 0) pa_nil)))
      (pss_cons (ps_set (i := 4) sc_pieces.nd rfl (.inl rfl) (pe_def D_marks_of (hr.mono (by decide)) (by rfl) (pa_cons (pv 1) (pa_cons (pe_ix (r := rIxT K) ix_tup (pv 0) pe_int (fun _ _ => rfl)) pa_nil))))
      (pss_cons (ps_for PassesOwn.never rfl (pi_tupK K rfl (pv 1)) (pg_name (i := 5) sc_pieces.nd rfl (.inl rfl))
        (pss_one (ps_if (pt_val (pe_ix (r := rIxL K) ix_list (pv 4) (pv 5) (fun _ _ => rfl))) (pss_one (ps_expr (pe_bm PySem.F.plainAttrs_list PySem.F.slot_list_append PySem.F.type_list_append mt_append (pv 2) (pa_cons (pe_def D_piece_of (hr.mono (by decide)) (by rfl) (pa_cons (pv 3) (pa_cons (pv 4) (pa_cons (pv 5) pa_nil)))) pa_nil)))) pss_nil)))
      (pss_one (ps_ret (pe_callTy (r := rTp K) call_tp (by rfl) B.tuple_ (by decide +kernel) (pa_cons (pv 2) pa_nil)))))))), ?_⟩
    refine ⟨Nat.zero_le _, fun fo hfo => ?_⟩
    refine ⟨_, rfl, a, n, adj, rfl, hW.mono (Ex.new hfo), hn6, fun nr H2 e2 hN => ?_⟩
    have hG := hN.wo (o := fo) upd_same
    have eHG : Ex H (wo fo H2) := ex_wo ((Ex.new hfo).trans e2) hfo
    have hW2 := hW.mono ((Ex.new hfo).trans e2)
    obtain ⟨t, ts, E, w1, w2, w3, _⟩ := hW2.ex
    refine ⟨_, rfl, _, rfl, a, _, _, .int (n : Int), rfl, rfl, w1, atI_nat (j := 0) rfl, b, s0 :: L, n, rfl, ex_t ((Ex.new hfo).trans e2) hL, hlt, by omega, fun m H3 hm e3 hm3 => ?_⟩
    have hGm : wo fo H2 m = none := fresh_back wo_ex hm
    have hfo3 : H3 fo = some (.lst []) := e3 _ _ (e2 _ _ upd_same)
    have hfm : fo ≠ m := ne_of_none (e2 _ _ upd_same) hm
    refine ⟨_, rfl, b, rfl, ⟨_, ex_t (((Ex.new hfo).trans e2).trans e3) hL⟩, ?_⟩
    refine for_tup (xs := ns (s0 :: L)) (fun i σ H' => Ex (wo fo H2) H' ∧ (∃ y5, σ = [some (.ref a), some (.ref b), some (.ref fo), some (.ref nr), some (.ref m), y5]) ∧
      ((i = 0 ∧ H' fo = some (.lst []) ∧ H' m = some (.lst (marks n fun v => decide (v ∈ s0 :: L)))) ∨
       (∃ q0 more R0, 1 ≤ i ∧ Piece n adj (fun v => v ∈ s0 :: L) s0 R0 ∧ H' fo = some (.lst (.ref q0 :: more)) ∧ H' q0 = some (.tup (ns R0)) ∧ more.length < i ∧
         ((more = [] ∧ H' m = some (.lst (marks n fun v => decide (v ∈ s0 :: L) && !decide (v ∈ R0))) ∧ ∀ v, v ∈ (s0 :: L).take i → v ∈ R0) ∨
          (more ≠ [] ∧ (∃ v, v ∈ s0 :: L ∧ v ∉ R0) ∧ ∃ op, H' m = some (.lst (marks n op)))))))
      ⟨wo_ex.trans e3, ⟨_, rfl⟩, .inl ⟨rfl, hfo3, hm3⟩⟩ (fun i σ H' _ hP => ex_t (eHG.trans hP.1) hL) (fun i x σ H' hi hP => ?_) (fun σ H' hP => ?_)
    · obtain ⟨p1, ⟨y5, rfl⟩, p2⟩ := hP
      obtain ⟨v, hv, hvm, rfl⟩ := ns_got hi
      have hvn := hlt v hvm
      have hil : i < (s0 :: L).length := (List.getElem?_eq_some_iff.mp hv).1
      have piece : ∀ {op : Nat → Bool} {H4 : Hp} {R : List Nat} {q1 : Addr} {xs : List V}, Ex (wo m H') H4 → H' fo = some (.lst xs) → H4 fo = some (.lst xs) := fun e h => e _ _ (by rw [wo_ne hfm]; exact h)
      rcases p2 with ⟨rfl, f1, m1⟩ | ⟨q0, more, R0, hi1, hR0, f1, k1, hml, hcase⟩
      · -- the first place
        have hvs : v = s0 := (Option.some.inj hv).symm
        subst hvs
        refine ⟨_, rfl, _, rfl, m, _, _, .bl (decide (v ∈ v :: L)), rfl, rfl, .of m1, atI_nat (marks_get hvn), _, rfl, ?_⟩
        refine ite2 (fun _ => ?_) (fun hc => absurd (decide_eq_true List.mem_cons_self) hc)
        refine ⟨_, rfl, .inl ⟨rfl, _, .of f1⟩, _, rfl, _, rfl, _, rfl, nr, m, n, adj, _, v, rfl, hG.mono (ex_wo p1 hGm), m1, hvn, hn6, fun r H4 R hR hr e4 m4 r4 => ?_⟩
        have f4 : H4 fo = some (.lst []) := e4 _ _ (by rw [wo_ne hfm]; exact f1)
        have e5 : Ex (wo fo H2) H4 := (ex_wo p1 hGm).trans e4
        have hrf : r ≠ fo := ne_of r4 f4 (by intro z; cases z)
        refine ⟨fo, _, _, rfl, rfl, f4, small1000 (by show 0 ≤ 1000; omega), wo_mut e5, ⟨_, rfl⟩, .inr ⟨r, [], R, Nat.le_refl _, ?_, ?_, ?_, by show 0 < 0 + 1; omega, .inl ⟨rfl, ?_, ?_⟩⟩⟩
        · exact ⟨hR.rise, hR.start, fun x hx => (hR.sub x hx).imp id (fun h => of_decide_eq_true h), fun x hx u hu a o => hR.closed x hx u hu a (decide_eq_true o), hR.least⟩
        · rw [upd_same]
          rfl
        · rw [upd_ne hrf]
          exact r4
        · rw [upd_ne hfm.symm]
          exact m4
        · intro x hx
          have hx' : x ∈ [v] := hx
          rw [List.mem_singleton.mp hx']
          exact hR.start
      · have hq0f : q0 ≠ fo := ne_of k1 f1 (by intro z; cases z)
        rcases hcase with ⟨rfl, m1, hall⟩ | ⟨hne, hex, op, m1⟩
        · -- one piece so far
          refine ⟨_, rfl, _, rfl, m, _, _, .bl (decide (v ∈ s0 :: L) && !decide (v ∈ R0)), rfl, rfl, .of m1, atI_nat (marks_get hvn), _, rfl, ite2 (fun hc => ?_) (fun hc => ?_)⟩
          · have hvR : v ∉ R0 := by
              rw [Bool.and_eq_true, Bool.not_eq_true', decide_eq_false_iff_not] at hc
              exact hc.2
            refine ⟨_, rfl, .inl ⟨rfl, _, .of f1⟩, _, rfl, _, rfl, _, rfl, nr, m, n, adj, _, v, rfl, hG.mono (ex_wo p1 hGm), m1, hvn, hn6, fun r H4 R hR hr e4 m4 r4 => ?_⟩
            have f4 : H4 fo = some (.lst [.ref q0]) := e4 _ _ (by rw [wo_ne hfm]; exact f1)
            have hq0m : q0 ≠ m := ne_of k1 m1 (by intro z; cases z)
            refine ⟨fo, _, _, rfl, rfl, f4, small1000 (by show 1 ≤ 1000; omega), wo_mut ((ex_wo p1 hGm).trans e4), ⟨_, rfl⟩, .inr ⟨q0, [.ref r], R0, by omega, hR0, ?_, ?_, by show 1 < i + 1; omega, .inr ⟨by simp, ⟨v, hvm, hvR⟩, (fun w => (decide (w ∈ s0 :: L) && !decide (w ∈ R0)) && !decide (w ∈ R)), ?_⟩⟩⟩
            · rw [upd_same]
              rfl
            · rw [upd_ne hq0f]
              exact e4 _ _ (by rw [wo_ne hq0m]; exact k1)
            · rw [upd_ne hfm.symm]
              exact m4
          · refine ⟨p1, ⟨_, rfl⟩, .inr ⟨q0, [], R0, by omega, hR0, f1, k1, by show 0 < i + 1; omega, .inl ⟨rfl, m1, fun x hx => ?_⟩⟩⟩
            rw [List.take_add_one, hv] at hx
            rcases List.mem_append.mp hx with hx | hx
            · exact hall x hx
            · have e := List.mem_singleton.mp hx
              subst e
              refine Classical.byContradiction fun hn => hc ?_
              rw [decide_eq_true hvm, decide_eq_false hn]
              rfl
        · -- more
          refine ⟨_, rfl, _, rfl, m, _, _, .bl (op v), rfl, rfl, .of m1, atI_nat (marks_get hvn), _, rfl, ite2 (fun hc => ?_) (fun hc => ?_)⟩
          · refine ⟨_, rfl, .inl ⟨rfl, _, .of f1⟩, _, rfl, _, rfl, _, rfl, nr, m, n, adj, _, v, rfl, hG.mono (ex_wo p1 hGm), m1, hvn, hn6, fun r H4 R hR hr e4 m4 r4 => ?_⟩
            have f4 : H4 fo = some (.lst (.ref q0 :: more)) := e4 _ _ (by rw [wo_ne hfm]; exact f1)
            have hq0m : q0 ≠ m := ne_of k1 m1 (by intro z; cases z)
            refine ⟨fo, _, _, rfl, rfl, f4, small1000 (by rw [List.length_cons]; omega), wo_mut ((ex_wo p1 hGm).trans e4), ⟨_, rfl⟩, .inr ⟨q0, more ++ [.ref r], R0, by omega, hR0, ?_, ?_, by rw [List.length_append]; show _ + 1 < i + 1; omega, .inr ⟨by simp, hex, (fun w => op w && !decide (w ∈ R)), ?_⟩⟩⟩
            · rw [upd_same]
              rfl
            · rw [upd_ne hq0f]
              exact e4 _ _ (by rw [wo_ne hq0m]; exact k1)
            · rw [upd_ne hfm.symm]
              exact m4
          · exact ⟨p1, ⟨_, rfl⟩, .inr ⟨q0, more, R0, by omega, hR0, f1, k1, by omega, .inr ⟨hne, hex, op, m1⟩⟩⟩
    · -- return tuple(found)
      obtain ⟨p1, ⟨y5, rfl⟩, p2⟩ := hP
      rw [ns_len] at p2
      rcases p2 with ⟨h0, _⟩ | ⟨q0, more, R0, hi1, hR0, f1, k1, hml, hcase⟩
      · exact absurd h0 (by simp)
      · have eH : Ex H H' := eHG.trans p1
        refine ⟨_, rfl, fo, _, rfl, .inl ⟨.of f1, fun l hl => q l _ q0 more R0 hR0 (fresh_back eH hl) (eH.trans (Ex.new hl)) upd_same (Ex.new hl _ _ k1) ?_⟩⟩
        rcases hcase with ⟨rfl, m1, hall⟩ | ⟨hne, ⟨v, hv1, hv2⟩, op, m1⟩
        · rw [List.take_length] at hall
          exact ⟨fun _ => hall, fun _ => rfl⟩
        · exact ⟨fun e => absurd e hne, fun h => absurd (h v hv1) hv2⟩
/-! ### right_set -/
abbrev st_right_set : Stmt := top 12
theorem sc_right_set : FnScope ["web", "thing", "places"] ["web", "thing"] (defScope st_right_set) := ⟨rfl, rfl, rfl, by decide +kernel, rfl, by decide +kernel, by decide +kernel⟩
def sp_right_set (K : PySem.W.Frag) : Sp := fun vs H Q _ => ∃ a b n adj L, vs = [.ref a, .ref b] ∧ WebAt K H a n adj ∧ Web n adj ∧ SqT K H b (ns L) ∧ Rise n L ∧ ∀ bo H', Ex H H' → (bo = true ↔ IsBusy n adj L) → Q (.bl bo) H'
theorem D_right_set (L : Ld K mg "right_set" st_right_set) (B : Bt mg) (D_is_rising : Def P w K mg base "is_rising" 2 ["thing", "most"] (sp_is_rising K)) (D_pieces : Def P w K mg base "pieces" 2 ["web", "places"] (sp_pieces K)) (D_touched : Def P w K mg base "touched" 2 ["web", "places"] (sp_touched K)) : Def P w K mg base "right_set" 3 ["web", "thing"] (sp_right_set K) := by
  refine L.ok (ps := ["web", "thing"]) sc_right_set (fun _ _ _ _ _ _ us hl => match us, hl with | [_, _], _ => rfl) (fun vs H Q E h => ?_) (fun f cdv A outer s H vs Q E hr h => ?_)
  · obtain ⟨a, b, n, adj, L, rfl, _⟩ := h
    rfl
  · obtain ⟨a, b, n, adj, L, rfl, hW, hw, hL, hr2, q⟩ := h
    refine ⟨_, (pss_cons (ps_set (i := 2) sc_right_set.nd rfl (.inl rfl) (pe_ix (r := rIxT K) ix_tup (pv 0) pe_int (fun _ _ => rfl)))
      (pss_cons (ps_if (PW.pt (pw_or (pt_not (pt_val (pe_def D_is_rising (hr.mono (by decide)) (by rfl) (pa_cons (pv 1) (pa_cons (pe_op op_sub (pv 2) pe_int) pa_nil))))) (pw_or1 (pt_cmpR (r := rEqD K) (op_eqD hr.units) (pv 1) (pe_tup pa_nil) (nomark _))))) (pss_one (ps_ret pe_bl)) pss_nil)
      (pss_one (ps_ret (pe_and (pe_cmpR op_eq (pe_callB (r := rLn K) call_ln (by rfl) B.len_ (by decide +kernel) (pa_cons (pe_def D_pieces (hr.mono (by decide)) (by rfl) (pa_cons (pv 0) (pa_cons (pv 1) pa_nil))) pa_nil)) pe_int (nomark _)) (pe_one (pe_cmpR op_eq (pe_op op_add (pe_callB (r := rLn K) call_ln (by rfl) B.len_ (by decide +kernel) (pa_cons (pe_def D_touched (hr.mono (by decide)) (by rfl) (pa_cons (pv 0) (pa_cons (pv 1) pa_nil))) pa_nil)) (pe_callB (r := rLn K) call_ln (by rfl) B.len_ (by decide +kernel) (pa_cons (pv 1) pa_nil))) (pv 2) (nomark _)))))))), ?_⟩
    obtain ⟨t, ts, E, w1, _⟩ := hW.ex
    refine ⟨_, rfl, a, _, _, .int (n : Int), rfl, rfl, w1, atI_nat (j := 0) rfl, ?_⟩
    refine ⟨_, rfl, _, rfl, _, 1, rfl, rfl, _, .tuple (di L), _, rfl, .tup hL (dp_ns L), _, rfl, ?_⟩
    rw [risD_di hr2]
    refine iteF ⟨_, rfl, Nat.zero_le _, fun p hp => ?_⟩
    refine rv_eqT (b := []) (ex_t (Ex.new hp) hL) (.of upd_same) _ (Ex.refl _) _ fun H1 e1 => ⟨_, rfl, ?_⟩
    have eH : Ex H H1 := (Ex.new hp).trans e1
    cases L with
    | nil =>
      refine iteT ?_
      exact q false H1 eH ⟨fun h => absurd h (by decide), fun h => absurd rfl h.conn.1⟩
    | cons s0 L =>
      rw [decide_eq_false (by simp)]
      refine iteF ?_
      have hlen := hr2.len
      have hi := hw.hi
      refine ⟨_, rfl, _, rfl, a, b, n, adj, s0, L, rfl, hW.mono eH, hw.hi, ex_t eH hL, hr2.lt, by omega, fun r H2 q0 more R0 hR hr0 e2 r2 k2 hm => ?_⟩
      have hc : Conn adj (s0 :: L) ↔ more = [] := (piece_conn hw hr2.lt List.mem_cons_self hR).trans hm.symm
      refine ⟨r, _, rfl, .inr (.of r2), rfl, _, rfl, ?_⟩
      refine ite2 (fun hd => ?_) (fun hd => ?_)
      · have hm0 : more = [] := by
          have := of_decide_eq_true hd
          injection this with this
          rw [List.length_cons] at this
          exact List.eq_nil_of_length_eq_zero (by omega)
        refine ⟨_, rfl, _, rfl, a, b, n, adj, s0 :: L, rfl, hW.mono (eH.trans e2), hw.hi, ex_t (eH.trans e2) hL, hr2.lt, fun r3 H3 h3 e3 k3 => ?_⟩
        refine ⟨r3, _, rfl, .inr (.of k3), _, rfl, b, _, rfl, .inr (ex_t ((eH.trans e2).trans e3) hL), _, _, rfl, rfl, _, rfl, rfl, ?_⟩
        refine q _ H3 ((eH.trans e2).trans e3) ?_
        rw [ns_len, ns_len]
        rw [decide_eq_true_eq]
        constructor
        · intro h
          injection h with h
          exact ⟨hc.mpr hm0, (touch_len hr2).mp (by omega)⟩
        · intro h
          show V.int (((touchB n adj (s0 :: L)).length : Int) + ((s0 :: L).length : Int)) = V.int (n : Int)
          rw [show ((touchB n adj (s0 :: L)).length : Int) + ((s0 :: L).length : Int) = (n : Int) by have := (touch_len hr2).mpr h.dom; omega]
      · refine q false H2 (eH.trans e2) ⟨fun h => absurd h (by decide), fun h => absurd (decide_eq_true ?_) hd⟩
        rw [hc.mp h.conn]
        rfl
end
end ML
set_option Elab.async false
set_option linter.all false
set_option maxRecDepth 100000
set_option maxHeartbeats 4000000
namespace ML
open PySem PySem.Spec PyProof.Rows L2 Evl
section
variable {K : PySem.W.Frag} {σ : L2.St} {H : Hp} {ta tb : TE}
theorem ev_lnT {p : Addr} {xs : List V} (ha : Ev ta σ H (.ref p)) (h : SqT K H p xs) : Ev (tCB (rLn K) (tCons ta tNil)) σ H (.int (xs.length : Int)) :=
  ev_cb (ea_cons ha ea_nil) fun H1 e Q q => ⟨p, xs, rfl, .inr (ex_t e h), q H1 (Ex.refl H1)⟩
theorem ev_lnL {p : Addr} {xs : List V} (ha : Ev ta σ H (.ref p)) (h : SqL K H p xs) : Ev (tCB (rLn K) (tCons ta tNil)) σ H (.int (xs.length : Int)) :=
  ev_cb (ea_cons ha ea_nil) fun H1 e Q q => ⟨p, xs, rfl, .inl (ex_l e h), q H1 (Ex.refl H1)⟩
theorem empty_filter {l : List Nat} {p : Nat → Bool} : (l.filter p).isEmpty = true ↔ ∀ v ∈ l, p v = false := by
  rw [List.isEmpty_iff, List.filter_eq_nil_iff]
  exact ⟨fun h v hv => Bool.eq_false_iff.mpr (h v hv), fun h v hv => by rw [h v hv]; decide⟩
end
/-! ### needs as data -/
def needD : Need → PyData
  | .own x => .tuple [.str "own", .int (x : Int)]
  | .parts L => .tuple [.str "parts", .tuple (di L)]
def NeedAt (H : Hp) (r : Addr) : Need → Prop
  | .own x => H r = some (.tup [.str "own", .int (x : Int)])
  | .parts L => ∃ q, H r = some (.tup [.str "parts", .ref q]) ∧ H q = some (.tup (ns L))
theorem NeedAt.mono {H H' : Hp} {r : Addr} : ∀ {e : Need}, NeedAt H r e → Ex H H' → NeedAt H' r e
  | .own _, h, e => e _ _ h
  | .parts _, ⟨q, h1, h2⟩, e => ⟨q, e _ _ h1, e _ _ h2⟩
theorem NeedAt.dp {K : PySem.W.Frag} {H : Hp} {r : Addr} : ∀ {e : Need}, NeedAt H r e → Dp K H (.ref r) (needD e)
  | .own _, h => .tup (.of h) (.cons (.str _) (.cons (.int _) .nil))
  | .parts _, ⟨q, h1, h2⟩ => .tup (.of h1) (.cons (.str _) (.cons (.tup (.of h2) (dp_ns _)) .nil))
def NeedD (n : Nat) (adj : Nat → Nat → Bool) (L : List Nat) (p : Nat) (d : PyData) : Prop := ∃ e, d = needD e ∧ NeedOk n adj L p e
/-- its items may be compared -/
def Sh1 (d : PyData) : Prop := ∀ ds, d = .tuple ds → ∀ e ∈ ds, SeqAt.shaped e = true
theorem eqv_str {d : PyData} {x : Str} : PyData.eqv d (.str x) = true ↔ d = .str x := by
  cases d <;> simp [PyData.eqv]
theorem sh_str {x : Str} (h : PyData.strOk x = true) : SeqAt.shaped (.str x) = true := by
  show (PyData.canLay0 (.str x) && decide (PyData.depth (.str x) ≤ 64)) = true
  rw [Bool.and_eq_true]
  exact ⟨by simp only [PyData.canLay0]; exact h, decide_eq_true (by simp only [PyData.depth]; omega)⟩
theorem sh_own : SeqAt.shaped (.str ("own" : Str)) = true := sh_str (by decide +kernel)
theorem sh_parts : SeqAt.shaped (.str ("parts" : Str)) = true := sh_str (by decide +kernel)
theorem sh_Own : SeqAt.shaped (.str ("Own" : Str)) = true := sh_str (by decide +kernel)
theorem sh_int (i : Int) : SeqAt.shaped (.int i) = true := by
  show (PyData.canLay0 (.int i) && decide (PyData.depth (.int i) ≤ 64)) = true
  rw [Bool.and_eq_true]
  exact ⟨by simp only [PyData.canLay0], decide_eq_true (by simp only [PyData.depth]; omega)⟩
theorem needD_sh : ∀ e : Need, Sh1 (needD e)
  | .own x => fun ds h f hf => by
    injection h with h
    subst h
    rcases List.mem_cons.mp hf with c | hf
    · subst c; exact sh_own
    · rw [List.mem_singleton.mp hf]; exact sh_int _
  | .parts L => fun ds h f hf => by
    injection h with h
    subst h
    rcases List.mem_cons.mp hf with c | hf
    · subst c; exact sh_parts
    · rw [List.mem_singleton.mp hf]; exact di_shT _
theorem own_parts : ¬ (("own" : Str) = ("parts" : Str)) := by decide +kernel
section
variable {P : Program} {w : World} {K : PySem.W.Frag} {mg : Str → Option Value} {base : Heap}
/-! ### is_own -/
abbrev st_is_own : Stmt := top 16
theorem sc_is_own : FnScope ["web", "busy", "place", "x", "other"] ["web", "busy", "place", "x"] (defScope st_is_own) := ⟨rfl, rfl, rfl, by decide +kernel, rfl, by decide +kernel, by decide +kernel⟩
def sp_is_own (K : PySem.W.Frag) : Sp := fun vs H Q _ => ∃ a b n adj L p x, vs = [.ref a, .ref b, .int ((p : Nat) : Int), .int ((x : Nat) : Int)] ∧ WebAt K H a n adj ∧ n ≤ 6 ∧ SqT K H b (ns L) ∧ x < n ∧ ∀ H', Ex H H' → Q (.bl (decide (((lot n adj x).filter fun u => decide (u ∈ L)) = [p]))) H'
theorem D_is_own (L : Ld K mg "is_own" st_is_own) (B : Bt mg) (D_lot_of : Def P w K mg base "lot_of" 2 ["web", "place"] (sp_lot_of K)) : Def P w K mg base "is_own" 3 ["web", "busy", "place", "x"] (sp_is_own K) := by
  refine L.ok (ps := ["web", "busy", "place", "x"]) sc_is_own (fun _ _ _ _ _ _ us hl => match us, hl with | [_, _, _, _], _ => rfl) (fun vs H Q E h => ?_) (fun f cdv A outer s H vs Q E hr h => ?_)
  · obtain ⟨a, b, n, adj, L, p, x, rfl, _⟩ := h
    rfl
  · obtain ⟨a, b, n, adj, L, p, x, rfl, hW, hn6, hL, hx, q⟩ := h
    refine ⟨_, (pss_one (ps_ret (pe_cmpR (r := rEqD K) (op_eqD hr.units) (pe_lc (own := [("other", 4)]) (g := gName 4) (by rfl) sc_is_own.nd (pi_tupK K rfl (pe_def D_lot_of (hr.mono (by decide)) (by rfl) (pa_cons (pv 0) (pa_cons (pv 3) pa_nil)))) (blkOk_by (N := ["web", "busy", "place", "x", "other"]) (sc := defScope st_is_own) (by decide +kernel)) (fun _ _ _ _ _ => (pg_name (i := 4) sc_is_own.nd rfl (.inl rfl))) (fun _ _ _ _ _ => (pts_one (pt_cmpR (r := rIn K false) op_in_seq (pv 4) (pv 1) (by rfl)))) (fun _ _ _ _ _ => (pv 4))) (pe_lst (pa_cons (pv 2) pa_nil)) (nomark _)))), ?_⟩
    refine ⟨_, rfl, _, rfl, a, n, adj, x, rfl, hW, hn6, hx, fun r H1 hr e1 r1 => ⟨r, rfl, ⟨_, .of r1⟩, fun D hD => ?_⟩⟩
    refine lcT (lot n adj x) (.of r1) (by have := lot_len n adj x; omega) (fun u => decide (u ∈ L)) (fun v => .int (v : Int)) (fun _ => ?_) (fun v hv => ?_) (fun v hv _ => ?_) hD fun H2 e2 hl2 => ?_
    · rfl
    · exact et_test (ev_inT L (ev_var rfl) (ev_var rfl) (ex_t e1 hL))
    · exact ev_var rfl
    · refine ⟨_, rfl, by show 1 ≤ sizeLine; decide, fun l hl => ?_⟩
      have hDl : D ≠ l := ne_of_none hl2 hl
      exact rv_eqN (b := [p]) (.of (by rw [upd_ne hDl]; exact hl2)) (.of upd_same) _ (Ex.refl _) _ fun H3 e3 => q H3 (((e1.trans e2).trans (Ex.new hl)).trans e3)
/-! ### is_side -/
abbrev st_is_side : Stmt := top 17
theorem sc_is_side : FnScope ["web", "rest", "side", "place", "near", "other"] ["web", "rest", "side"] (defScope st_is_side) := ⟨rfl, rfl, rfl, by decide +kernel, rfl, by decide +kernel, by decide +kernel⟩
def sp_is_side (K : PySem.W.Frag) : Sp := fun vs H Q _ => ∃ a b c n adj R L, vs = [.ref a, .ref b, .ref c] ∧ WebAt K H a n adj ∧ n ≤ 6 ∧ SqT K H b (ns R) ∧ SqT K H c (ns L) ∧ Rise n R ∧ Rise n L ∧ ∀ bo H', Ex H H' → (bo = true ↔ IsSide adj R L) → Q (.bl bo) H'
theorem D_is_side (L : Ld K mg "is_side" st_is_side) (B : Bt mg) (D_neighbours_by : Def P w K mg base "neighbours_by" 1 ["web"] (sp_neighbours_by K)) : Def P w K mg base "is_side" 2 ["web", "rest", "side"] (sp_is_side K) := by
  refine L.ok (ps := ["web", "rest", "side"]) sc_is_side (fun _ _ _ _ _ _ us hl => match us, hl with | [_, _, _], _ => rfl) (fun vs H Q E h => ?_) (fun f cdv A outer s H vs Q E hr h => ?_)
  · obtain ⟨a, b, c, n, adj, R, L, rfl, _⟩ := h
    rfl
  · obtain ⟨a, b, c, n, adj, R, L, rfl, hW, hn6, hR, hL, hr1, hr2, q⟩ := h
    refine ⟨_, (pss_cons (ps_if (PW.pt (pw_or (pt_cmpR (r := rEqD K) (op_eqD hr.units) (pv 2) (pe_tup pa_nil) (nomark _)) (pw_or (pt_cmpR op_ge (pe_callB (r := rLn K) call_ln (by rfl) B.len_ (by decide +kernel) (pa_cons (pv 2) pa_nil)) (pe_callB (r := rLn K) call_ln (by rfl) B.len_ (by decide +kernel) (pa_cons (pv 1) pa_nil)) (nomark _)) (pw_or1 (pt_cmpR (r := rNeD K) (op_neD hr.units) (pe_lc (own := [("place", 3)]) (g := gName 3) (by rfl) sc_is_side.nd (pi_tupK K rfl (pv 2)) (blkOk_by (N := ["web", "rest", "side", "place", "near", "other"]) (sc := defScope st_is_side) (by decide +kernel)) (fun _ _ _ _ _ => (pg_name (i := 3) sc_is_side.nd rfl (.inl rfl))) (fun _ _ _ _ _ => (pts_one (pt_cmpR (r := rIn K true) op_notIn_seq (pv 3) (pv 1) (by rfl)))) (fun _ _ _ _ _ => (pv 3))) (pe_lst pa_nil) (nomark _)))))) (pss_one (ps_ret pe_bl)) pss_nil)
      (pss_cons (ps_set (i := 4) sc_is_side.nd rfl (.inl rfl) (pe_def D_neighbours_by (hr.mono (by decide)) (by rfl) (pa_cons (pv 0) pa_nil)))
      (pss_cons (ps_for PassesOwn.never rfl (pi_tupK K rfl (pv 2)) (pg_name (i := 3) sc_is_side.nd rfl (.inl rfl))
        (pss_one (ps_if (pt_cmpR (r := rNeD K) (op_neD hr.units) (pe_lc (own := [("other", 5)]) (g := gName 5) (by rfl) sc_is_side.nd (pi_listK K rfl (pe_ix (r := rIxL K) ix_list (pv 4) (pv 3) (fun _ _ => rfl))) (blkOk_by (N := ["web", "rest", "side", "place", "near", "other"]) (sc := defScope st_is_side) (by decide +kernel)) (fun _ _ _ _ _ => (pg_name (i := 5) sc_is_side.nd rfl (.inl rfl))) (fun _ _ _ _ _ => (pts_one (PW.pt (pw_and (pt_cmpR (r := rIn K false) op_in_seq (pv 5) (pv 1) (by rfl)) (pw_and1 (pt_cmpR (r := rIn K true) op_notIn_seq (pv 5) (pv 2) (by rfl))))))) (fun _ _ _ _ _ => (pv 5))) (pe_lst pa_nil) (nomark _)) (pss_one (ps_ret pe_bl)) pss_nil)))
      (pss_one (ps_ret pe_bl))))), ?_⟩
    have hlr := hr1.len
    have hll := hr2.len
    have hc : EvT (tOr (tTest (tOp (rEqD K) (tVar 2) (tTup tNil))) (tOr (tTest (tOp (rI0 fun i j => .bl (decide (j ≤ i))) (tCB (rLn K) (tCons (tVar 2) tNil)) (tCB (rLn K) (tCons (tVar 1) tNil)))) (tTest (tOp (rNeD K) (tLc (iTup K (tVar 2)) (gName 3) (tTest (tOp (rIn K true) (tVar 3) (tVar 1))) (tVar 3) [3]) (tLst tNil)))))
        [some (.ref a), some (.ref b), some (.ref c), none, none, none] H (decide (L = []) || (decide ((R.length : Int) ≤ (L.length : Int)) || !(L.filter fun v => !decide (v ∈ R)).isEmpty)) := by
      refine et_or (et_test (ev_opU (ev_var rfl) (eu_tup ea_nil (Nat.zero_le _)) fun p H1 hp e => rv_eqT (b := []) (ex_t e hL) (.of hp))) fun _ => et_or (et_test ?_) fun _ => et_test (ev_neNil ?_)
      · have h1 := ev_lnT (K := K) (ta := tVar 2) (σ := [some (.ref a), some (.ref b), some (.ref c), none, none, none]) (ev_var rfl) hL
        have h2 := ev_lnT (K := K) (ta := tVar 1) (σ := [some (.ref a), some (.ref b), some (.ref c), none, none, none]) (ev_var rfl) hR
        rw [ns_len] at h1 h2
        exact ev_op h1 h2 rv_I0
      · refine el_T L (fun v => !decide (v ∈ R)) (fun v => .int (v : Int)) (ev_var rfl) hL (by omega) (fun _ => rfl) (fun v hv => ?_) (fun v hv _ => ev_var rfl)
        exact et_test (ev_niT R (ev_var rfl) (ev_var rfl) hR)
    refine q_when hc (fun hb H1 e1 => ?_) (fun hb H1 e1 => ?_)
    · refine q false H1 e1 ⟨fun h => absurd h (by decide), fun h => ?_⟩
      rw [Bool.or_eq_true, Bool.or_eq_true, decide_eq_true_eq, decide_eq_true_eq, Bool.not_eq_true', Bool.eq_false_iff] at hb
      rcases hb with hb | hb | hb
      · exact absurd hb h.ne
      · have := h.less
        omega
      · exact absurd (empty_filter.mpr fun v hv => by rw [decide_eq_true (h.sub v hv)]; rfl) hb
    · rw [Bool.or_eq_false_iff, Bool.or_eq_false_iff, decide_eq_false_iff_not, decide_eq_false_iff_not, Bool.not_eq_false'] at hb
      obtain ⟨hb1, hb2, hb3⟩ := hb
      have hsub : ∀ v, v ∈ L → v ∈ R := fun v hv => by
        have := empty_filter.mp hb3 v hv
        rw [Bool.not_eq_false'] at this
        exact of_decide_eq_true this
      refine ⟨_, rfl, a, n, adj, rfl, hW.mono e1, hn6, fun r H2 e2 hN => ?_⟩
      have hNr := hN.near
      obtain ⟨rs, g1, g2, g3⟩ := hNr.ex
      refine ⟨_, rfl, c, rfl, ⟨_, ex_t (e1.trans e2) hL⟩, ?_⟩
      refine for_tup (xs := ns L) (fun i σ H' => Ex H2 H' ∧ (∃ y3, σ = [some (.ref a), some (.ref b), some (.ref c), y3, some (.ref r), none]) ∧ ∀ v, v ∈ L.take i → ∀ u, u ∈ R → adj v u = true → u ∈ L) ⟨Ex.refl _, ⟨_, rfl⟩, fun v hv => absurd hv (by simp)⟩ (fun i σ H' _ hP => ex_t ((e1.trans e2).trans hP.1) hL) (fun i x σ H' hi hP => ?_) (fun σ H' hP => ?_)
      · obtain ⟨p1, ⟨y3, rfl⟩, p2⟩ := hP
        obtain ⟨v, hv, hvm, rfl⟩ := ns_got hi
        obtain ⟨r1, k1, k2⟩ := g3 v (hr2.lt v hvm)
        have eH : Ex H H' := (e1.trans e2).trans p1
        have hc2 : EvT (tTest (tOp (rNeD K) (tLc (iList K (tOp (rIxL K) (tVar 4) (tVar 3))) (gName 5) (tAnd (tTest (tOp (rIn K false) (tVar 5) (tVar 1))) (tTest (tOp (rIn K true) (tVar 5) (tVar 2)))) (tVar 5) [5]) (tLst tNil)))
            [some (.ref a), some (.ref b), some (.ref c), some (.int (v : Int)), some (.ref r), none] H' (!((nb n adj v).filter fun u => decide (u ∈ R) && !decide (u ∈ L)).isEmpty) := by
          refine et_test (ev_neNil ?_)
          refine el_L (nb n adj v) (fun u => decide (u ∈ R) && !decide (u ∈ L)) (fun v => .int (v : Int)) (a := r1) (ev_op (ev_var rfl) (ev_var rfl) (rv_ixL (.of (p1 _ _ g1)) (atI_nat (by rw [List.getElem?_map, k1]; rfl)))) (.of (p1 _ _ k2)) (by have := nb_len n adj v; omega) (fun _ => rfl) (fun u hu => ?_) (fun u hu _ => ev_var rfl)
          exact et_and (et_test (ev_inT R (ev_var rfl) (ev_var rfl) (ex_t eH hR))) fun _ => et_test (ev_niT L (ev_var rfl) (ev_var rfl) (ex_t eH hL))
        refine s_when hc2 (fun hb H3 e3 => ?_) (fun hb H3 e3 => ?_)
        · refine q false H3 (eH.trans e3) ⟨fun h => absurd h (by decide), fun h => ?_⟩
          rw [Bool.not_eq_true', Bool.eq_false_iff] at hb
          refine absurd (empty_filter.mpr fun u hu => ?_) hb
          by_cases huR : u ∈ R
          · rw [decide_eq_true (h.cut v hvm u huR (mem_nb.mp hu).2)]
            simp
          · rw [decide_eq_false huR]
            rfl
        · refine ⟨p1.trans e3, ⟨_, rfl⟩, fun x hx u hu hxu => ?_⟩
          rw [List.take_add_one, hv] at hx
          rcases List.mem_append.mp hx with hx | hx
          · exact p2 x hx u hu hxu
          · have e := List.mem_singleton.mp hx
            subst e
            rw [Bool.not_eq_false'] at hb
            have h1 := empty_filter.mp hb u (mem_nb.mpr ⟨hr1.lt u hu, hxu⟩)
            rw [decide_eq_true hu, Bool.true_and, Bool.not_eq_false'] at h1
            exact of_decide_eq_true h1
      · obtain ⟨p1, ⟨y3, rfl⟩, p2⟩ := hP
        rw [ns_len, List.take_length] at p2
        exact q true H' ((e1.trans e2).trans p1) ⟨fun _ => ⟨hb1, by omega, hsub, p2⟩, fun _ => rfl⟩
/-! ### is_need -/
abbrev st_is_need : Stmt := top 18
theorem sc_is_need : FnScope ["web", "busy", "place", "thing"] ["web", "busy", "place", "thing"] (defScope st_is_need) := ⟨rfl, rfl, rfl, by decide +kernel, rfl, by decide +kernel, by decide +kernel⟩
def sp_is_need (K : PySem.W.Frag) : Sp := fun vs H Q _ => ∃ a b n adj L p x d, vs = [.ref a, .ref b, .int ((p : Nat) : Int), x] ∧ WebAt K H a n adj ∧ 3 ≤ n ∧ n ≤ 6 ∧ SqT K H b (ns L) ∧ Rise n L ∧ Dp K H x d ∧ Sh1 d ∧ ∀ bo H', Ex H H' → (bo = true ↔ NeedD n adj L p d) → Q (.bl bo) H'
theorem D_is_need (L : Ld K mg "is_need" st_is_need) (B : Bt mg) (D_is_tuple : Def P w K mg base "is_tuple" 1 ["thing", "length"] (sp_is_tuple K)) (D_is_int : Def P w K mg base "is_int" 1 ["thing", "least", "most"] (sp_is_int K)) (D_is_own : Def P w K mg base "is_own" 3 ["web", "busy", "place", "x"] (sp_is_own K)) (D_is_rising : Def P w K mg base "is_rising" 2 ["thing", "most"] (sp_is_rising K)) (D_is_side : Def P w K mg base "is_side" 2 ["web", "rest", "side"] (sp_is_side K)) (D_all_others : Def P w K mg base "all_others" 1 ["busy", "place"] (sp_all_others K)) : Def P w K mg base "is_need" 4 ["web", "busy", "place", "thing"] (sp_is_need K) := by
  refine L.ok (ps := ["web", "busy", "place", "thing"]) sc_is_need (fun _ _ _ _ _ _ us hl => match us, hl with | [_, _, _, _], _ => rfl) (fun vs H Q E h => ?_) (fun f cdv A outer s H vs Q E hr h => ?_)
  · obtain ⟨a, b, n, adj, L, p, x, d, rfl, _⟩ := h
    rfl
  · obtain ⟨a, b, n, adj, L, p, x, d, rfl, hW, hn3, hn6, hL, hr1, hd, hsh, q⟩ := h
    refine ⟨_, (pss_cons (ps_if (pt_not (pt_val (pe_def D_is_tuple (hr.mono (by decide)) (by rfl) (pa_cons (pv 3) (pa_cons pe_int pa_nil))))) (pss_one (ps_ret pe_bl)) pss_nil)
      (pss_cons (ps_if (pt_cmpR (r := rEqD K) (op_eqD hr.units) (pe_ix (r := rIxT K) ix_tup (pv 3) pe_int (fun _ _ => rfl)) pe_str (nomark _)) (pss_one (ps_ret (pe_and (pe_def D_is_int (hr.mono (by decide)) (by rfl) (pa_cons (pe_ix (r := rIxT K) ix_tup (pv 3) pe_int (fun _ _ => rfl)) (pa_cons pe_int (pa_cons (pe_op op_sub (pe_ix (r := rIxT K) ix_tup (pv 0) pe_int (fun _ _ => rfl)) pe_int) pa_nil)))) (pe_one (pe_def D_is_own (hr.mono (by decide)) (by rfl) (pa_cons (pv 0) (pa_cons (pv 1) (pa_cons (pv 2) (pa_cons (pe_ix (r := rIxT K) ix_tup (pv 3) pe_int (fun _ _ => rfl)) pa_nil))))))))) pss_nil)
      (pss_cons (ps_if (PW.pt (pw_or (pt_cmpR (r := rNeD K) (op_neD hr.units) (pe_ix (r := rIxT K) ix_tup (pv 3) pe_int (fun _ _ => rfl)) pe_str (nomark _)) (pw_or1 (pt_not (pt_val (pe_def D_is_rising (hr.mono (by decide)) (by rfl) (pa_cons (pe_ix (r := rIxT K) ix_tup (pv 3) pe_int (fun _ _ => rfl)) (pa_cons (pe_op op_sub (pe_ix (r := rIxT K) ix_tup (pv 0) pe_int (fun _ _ => rfl)) pe_int) pa_nil)))))))) (pss_one (ps_ret pe_bl)) pss_nil)
      (pss_one (ps_ret (pe_def D_is_side (hr.mono (by decide)) (by rfl) (pa_cons (pv 0) (pa_cons (pe_def D_all_others (hr.mono (by decide)) (by rfl) (pa_cons (pv 1) (pa_cons (pv 2) pa_nil))) (pa_cons (pe_ix (r := rIxT K) ix_tup (pv 3) pe_int (fun _ _ => rfl)) pa_nil))))))))), ?_⟩
    obtain ⟨t, ts, E, w1, _⟩ := hW.ex
    have hll := hr1.len
    have no : ∀ {H'}, Ex H H' → (¬ NeedD n adj L p d) → Q (.bl false) H' := fun e h => q false _ e ⟨fun c => absurd c (by decide), fun c => absurd c h⟩
    refine ⟨_, rfl, x, d, some 2, rfl, hd, _, rfl, ?_⟩
    cases ht : tupLen (some 2) d with
    | false =>
      refine iteT (no (Ex.refl _) fun ⟨e, h1, _⟩ => ?_)
      rw [h1] at ht
      cases e <;> exact absurd ht (by simp [needD, tupLen])
    | true =>
      refine iteF ?_
      cases hd with
      | @tup c xs ds hs ha =>
        have hl2 : ds.length = 2 := of_decide_eq_true ht
        cases ha with
        | nil => exact absurd hl2 (by decide)
        | @cons x0 xs d0 ds h0 ha =>
          cases ha with
          | nil => exact absurd hl2 (by simp)
          | @cons x1 xs d1 ds h1 ha =>
            cases ha with
            | cons _ _ => exact absurd hl2 (by simp)
            | nil =>
              have s0 : SeqAt.shaped d0 = true := hsh _ rfl _ List.mem_cons_self
              refine ⟨_, rfl, c, _, _, x0, rfl, rfl, hs, atI_nat (j := 0) rfl, d0, .str ("own" : Str), h0, .str _, s0, sh_own, _, rfl, ite2 (fun hc => ?_) (fun hc => ?_)⟩
              · have e0 := eqv_str.mp hc
                subst e0
                refine ⟨_, rfl, c, _, _, x1, rfl, rfl, hs, atI_nat (j := 1) rfl, _, rfl, a, _, _, .int (n : Int), rfl, rfl, w1, atI_nat (j := 0) rfl, (n : Int), 1, rfl, rfl, x1, d1, 0, (n : Int) - 1, rfl, h1, _, rfl, ite2 (fun hi => ?_) (fun hi => ?_)⟩
                · obtain ⟨i, rfl⟩ := intIn_int hi
                  have hi' : (decide (0 ≤ i) && decide (i ≤ (n : Int) - 1)) = true := hi
                  rw [Bool.and_eq_true, decide_eq_true_eq, decide_eq_true_eq] at hi'
                  obtain ⟨k, rfl⟩ : ∃ k : Nat, i = (k : Int) := ⟨i.toNat, by omega⟩
                  have hkn : k < n := by omega
                  cases h1
                  refine ⟨_, rfl, _, rfl, _, rfl, _, rfl, c, _, _, _, rfl, rfl, hs, atI_nat (j := 1) rfl, a, b, n, adj, L, p, k, rfl, hW, hn6, hL, hkn, fun H' e => q _ H' e ?_⟩
                  rw [decide_eq_true_eq]
                  constructor
                  · intro h
                    exact ⟨.own k, rfl, hkn, h⟩
                  · rintro ⟨e, h3, h4⟩
                    cases e with
                    | own y =>
                      injection h3 with h3
                      injection h3 with _ h3
                      injection h3 with h3
                      injection h3 with h3
                      have : k = y := by omega
                      subst this
                      exact h4.2
                    | parts M =>
                      injection h3 with h3
                      injection h3 with h3
                      injection h3 with h3
                      exact absurd h3 own_parts
                · refine no (Ex.refl _) fun ⟨e, h3, h4⟩ => hi ?_
                  cases e with
                  | own y =>
                    injection h3 with h3
                    injection h3 with _ h3
                    injection h3 with h3
                    subst h3
                    have := h4.1
                    show (decide ((0 : Int) ≤ (y : Int)) && decide ((y : Int) ≤ (n : Int) - 1)) = true
                    rw [decide_eq_true (by omega), decide_eq_true (by omega)]
                    rfl
                  | parts M =>
                    injection h3 with h3
                    injection h3 with h3
                    injection h3 with h3
                    exact absurd h3 own_parts
              · -- if thing[0] != 'parts' or not is_rising(thing[1], web[0] - 1)
                refine ⟨_, rfl, c, _, _, x0, rfl, rfl, hs, atI_nat (j := 0) rfl, d0, .str ("parts" : Str), h0, .str _, s0, sh_parts, _, rfl, ite2 (fun hp => ?_) (fun hp => ?_)⟩
                · refine iteT (no (Ex.refl _) fun ⟨e, h3, h4⟩ => ?_)
                  cases e with
                  | own y =>
                    injection h3 with h3
                    injection h3 with h3
                    exact hc (eqv_str.mpr h3)
                  | parts M =>
                    injection h3 with h3
                    injection h3 with h3
                    rw [eqv_str.mpr h3] at hp
                    exact absurd hp (by decide)
                · have e0 : d0 = .str ("parts" : Str) := eqv_str.mp (by
                    cases h : PyData.eqv d0 (.str ("parts" : Str)) with
                    | true => rfl
                    | false => rw [h] at hp; exact absurd rfl hp)
                  subst e0
                  refine ⟨_, rfl, c, _, _, x1, rfl, rfl, hs, atI_nat (j := 1) rfl, _, rfl, a, _, _, .int (n : Int), rfl, rfl, w1, atI_nat (j := 0) rfl, (n : Int), 1, rfl, rfl, x1, d1, (n : Int) - 1, rfl, h1, _, rfl, ?_⟩
                  cases hri : risD ((n : Int) - 1) d1 with
                  | false =>
                    refine iteT (no (Ex.refl _) fun ⟨e, h3, h4⟩ => ?_)
                    cases e with
                    | own y =>
                      injection h3 with h3
                      injection h3 with h3
                      injection h3 with h3
                      exact own_parts h3.symm
                    | parts M =>
                      injection h3 with h3
                      injection h3 with _ h3
                      injection h3 with h3
                      rw [h3, risD_di h4.1] at hri
                      cases hri
                  | true =>
                    refine iteF ?_
                    obtain ⟨M, rfl, hM⟩ := risD_iff hri
                    cases h1 with
                    | @tup c2 ys _ hs2 ha2 =>
                      have eys : ys = ns M := by
                        have go : ∀ {M : List Nat} {ys : List V}, DpAll K H ys (di M) → ys = ns M := by
                          intro M
                          induction M with
                          | nil => intro ys h; cases h; rfl
                          | cons v M ih =>
                            intro ys h
                            cases h with
                            | cons h1 h2 =>
                              cases h1
                              rw [ih h2]
                              rfl
                        exact go ha2
                      subst eys
                      refine ⟨_, rfl, _, rfl, _, rfl, b, L, p, rfl, hL, by omega, fun r H1 hr e1 r1 => ?_⟩
                      refine ⟨_, rfl, c, _, _, _, rfl, rfl, ex_t e1 hs, atI_nat (j := 1) rfl, a, r, c2, n, adj, wop L p, M, rfl, hW.mono e1, hn6, .of r1, ex_t e1 hs2, hr1.filter _, hM, fun bo H2 e2 hbo => q bo H2 (e1.trans e2) (hbo.trans ?_)⟩
                      constructor
                      · intro h
                        exact ⟨.parts M, rfl, hM, h⟩
                      · rintro ⟨e, h3, h4⟩
                        cases e with
                        | own y =>
                          injection h3 with h3
                          injection h3 with h3
                          injection h3 with h3
                          exact absurd h3.symm own_parts
                        | parts M2 =>
                          injection h3 with h3
                          injection h3 with _ h3
                          injection h3 with h3
                          injection h3 with h3
                          have hinj : ∀ {a b : List Nat}, di a = di b → a = b := by
                            intro a
                            induction a with
                            | nil => intro b h; cases b with
                              | nil => rfl
                              | cons _ _ => cases h
                            | cons v a ih => intro b h; cases b with
                              | nil => cases h
                              | cons u b =>
                                injection h with h1 h2
                                injection h1 with h1
                                rw [ih h2, show v = u by omega]
                          rw [hinj h3]
                          exact h4.2
      | _ => exact absurd ht (by simp [tupLen])
end
end ML
set_option Elab.async false
set_option linter.all false
set_option maxRecDepth 100000
set_option maxHeartbeats 4000000
namespace ML
open PySem PySem.Spec PyProof.Rows L2 Evl
def NeedsD (n : Nat) (adj : Nat → Nat → Bool) (L : List Nat) (d : PyData) : Prop := ∃ ds, d = .tuple ds ∧ ds.length = L.length ∧ ∀ (i p : Nat) e, L[i]? = some p → ds[i]? = some e → NeedD n adj L p e
def Sh2 (d : PyData) : Prop := ∀ ds, d = .tuple ds → ∀ e ∈ ds, Sh1 e
theorem needs_lean {n : Nat} {adj : Nat → Nat → Bool} {L : List Nat} (hL : Rise n L) {d : PyData} (h : NeedsD n adj L d) : IsLean n adj L := need_lean hL fun p hp => by
  obtain ⟨ds, _, hl, hh⟩ := h
  obtain ⟨i, hi⟩ := List.getElem?_of_mem hp
  have := (List.getElem?_eq_some_iff.mp hi).1
  obtain ⟨e, _, h2⟩ := hh i p _ hi (List.getElem?_eq_getElem (by omega))
  exact ⟨e, h2⟩
section
variable {P : Program} {w : World} {K : PySem.W.Frag} {mg : Str → Option Value} {base : Heap}
/-! ### right_needs -/
abbrev st_right_needs : Stmt := top 19
theorem sc_right_needs : FnScope ["web", "busy", "thing", "k"] ["web", "busy", "thing"] (defScope st_right_needs) := ⟨rfl, rfl, rfl, by decide +kernel, rfl, by decide +kernel, by decide +kernel⟩
def sp_right_needs (K : PySem.W.Frag) : Sp := fun vs H Q _ => ∃ a b n adj L x d, vs = [.ref a, .ref b, x] ∧ WebAt K H a n adj ∧ Web n adj ∧ SqT K H b (ns L) ∧ Rise n L ∧ Dp K H x d ∧ Sh2 d ∧ ∀ bo H', Ex H H' → (bo = true ↔ NeedsD n adj L d) → Q (.bl bo) H'
open Classical in
theorem D_right_needs (L : Ld K mg "right_needs" st_right_needs) (B : Bt mg) (D_is_tuple : Def P w K mg base "is_tuple" 1 ["thing", "length"] (sp_is_tuple K)) (D_is_need : Def P w K mg base "is_need" 4 ["web", "busy", "place", "thing"] (sp_is_need K)) : Def P w K mg base "right_needs" 5 ["web", "busy", "thing"] (sp_right_needs K) := by
  refine L.ok (ps := ["web", "busy", "thing"]) sc_right_needs (fun _ _ _ _ _ _ us hl => match us, hl with | [_, _, _], _ => rfl) (fun vs H Q E h => ?_) (fun f cdv A outer s H vs Q E hr h => ?_)
  · obtain ⟨a, b, n, adj, L, x, d, rfl, _⟩ := h
    rfl
  · obtain ⟨a, b, n, adj, L, x, d, rfl, hW, hw, hL, hr1, hd, hsh, q⟩ := h
    refine ⟨_, (pss_cons (ps_if (pt_not (pt_val (pe_def D_is_tuple (hr.mono (by decide)) (by rfl) (pa_cons (pv 2) (pa_cons (pe_callB (r := rLn K) call_ln (by rfl) B.len_ (by decide +kernel) (pa_cons (pv 1) pa_nil)) pa_nil))))) (pss_one (ps_ret pe_bl)) pss_nil)
      (pss_one (ps_ret (pe_cmpR (r := rEqD K) (op_eqD hr.units) (pe_lc (own := [("k", 3)]) (g := gName 3) (by rfl) sc_right_needs.nd (pi_range1 (by rfl) B.range_ (pa_cons (pe_callB (r := rLn K) call_ln (by rfl) B.len_ (by decide +kernel) (pa_cons (pv 1) pa_nil)) pa_nil)) (blkOk_by (N := ["web", "busy", "thing", "k"]) (sc := defScope st_right_needs) (by decide +kernel)) (fun _ _ _ _ _ => (pg_name (i := 3) sc_right_needs.nd rfl (.inl rfl))) (fun _ _ _ _ _ => (pts_one (pt_not (pt_val (pe_def D_is_need (hr.mono (by decide)) (by rfl) (pa_cons (pv 0) (pa_cons (pv 1) (pa_cons (pe_ix (r := rIxT K) ix_tup (pv 1) (pv 3) (fun _ _ => rfl)) (pa_cons (pe_ix (r := rIxT K) ix_tup (pv 2) (pv 3) (fun _ _ => rfl)) pa_nil))))))))) (fun _ _ _ _ _ => (pv 3))) (pe_lst pa_nil) (nomark _))))), ?_⟩
    have hlo := hw.lo
    have hhi := hw.hi
    have hll := hr1.len
    refine ⟨_, rfl, _, rfl, b, _, rfl, .inr hL, x, d, some L.length, by rw [ns_len]; rfl, hd, _, rfl, ?_⟩
    cases ht : tupLen (some L.length) d with
    | false =>
      refine iteT (q false H (Ex.refl _) ⟨fun c => absurd c (by decide), fun ⟨ds, h1, h2, _⟩ => ?_⟩)
      rw [h1] at ht
      have ht' : decide (ds.length = L.length) = false := ht
      exact absurd h2 (of_decide_eq_false ht')
    | true =>
      refine iteF ?_
      cases hd with
      | @tup c xs ds hs ha =>
        have hl2 : ds.length = L.length := of_decide_eq_true ht
        have hR : EvL (tLc (iRng1 (tCons (tCB (rLn K) (tCons (tVar 1) tNil)) tNil)) (gName 3) (tNot (tB (tCall (sp_is_need K) [] E0 (tCons (tVar 0) (tCons (tVar 1) (tCons (tOp (rIxT K) (tVar 1) (tVar 3)) (tCons (tOp (rIxT K) (tVar 2) (tVar 3)) tNil))))))) (tVar 3) [3])
            [some (.ref a), some (.ref b), some (.ref c), none] H (ns ((List.range L.length).filter fun k => !decide (∀ (p : Nat) e, L[k]? = some p → ds[k]? = some e → NeedD n adj L p e))) := by
          refine el_R L.length (fun k => !decide (∀ (p : Nat) e, L[k]? = some p → ds[k]? = some e → NeedD n adj L p e)) (fun v => .int (v : Int)) (m := ((ns L).length : Int)) (ea_cons (ev_lnT (ev_var rfl) hL) ea_nil) (by rw [ns_len]) (by omega) (fun _ => rfl) (fun k hk => ?_) (fun v hv _ => ev_var rfl)
          intro H1 e1 R hR
          obtain ⟨p, hp⟩ : ∃ p, L[k]? = some p := ⟨_, List.getElem?_eq_getElem hk⟩
          have hxl := dpa_len ha
          obtain ⟨y, hy⟩ : ∃ y, xs[k]? = some y := ⟨_, List.getElem?_eq_getElem (by omega)⟩
          obtain ⟨e, he, hdy⟩ := dpa_get ha hy
          refine ⟨_, rfl, _, rfl, _, rfl, _, rfl, b, _, _, .int (p : Int), rfl, rfl, ex_t e1 hL, atI_nat (ns_get hp), _, rfl, _, rfl, c, _, _, y, rfl, rfl, ex_t e1 hs, atI_nat hy, ?_⟩
          refine ⟨a, b, n, adj, L, p, y, e, rfl, hW.mono e1, hlo, hhi, ex_t e1 hL, hr1, dp_mono e1 hdy, hsh _ rfl e (List.mem_of_getElem? he), fun bo H2 e2 hbo => ⟨bo, rfl, ?_⟩⟩
          have hq := hR H2 e2
          have ebo : (!decide (∀ (p : Nat) e, L[k]? = some p → ds[k]? = some e → NeedD n adj L p e)) = !bo := by
            congr 1
            rw [Bool.eq_iff_iff, decide_eq_true_eq, hbo]
            constructor
            · intro h
              exact h p e hp he
            · intro h p' e' hp' he'
              rw [hp] at hp'
              rw [he] at he'
              cases hp'
              cases he'
              exact h
          show R (!bo) H2
          rw [← ebo]
          exact hq
        refine s_ret (ev_opLL hR (el_lst ea_nil (Nat.zero_le _)) fun p q H1 hp hq _ => rv_eqN (b := []) (.of hp) (.of hq)) fun H1 e1 => q _ H1 e1 ?_
        rw [decide_eq_true_eq, List.filter_eq_nil_iff]
        constructor
        · intro h
          refine ⟨ds, rfl, hl2, fun i p e hp he => ?_⟩
          have hi := (List.getElem?_eq_some_iff.mp hp).1
          have h1 := h i (List.mem_range.mpr hi)
          rw [Bool.not_eq_true', decide_eq_false_iff_not, Classical.not_not] at h1
          exact h1 p e hp he
        · rintro ⟨ds', h1, h2, h3⟩ k hk
          injection h1 with h1
          subst h1
          rw [Bool.not_eq_true', decide_eq_false_iff_not, Classical.not_not]
          exact fun p e hp he => h3 k p e hp he
      | _ => exact absurd ht (by simp [tupLen])
/-! ### need_of -/
abbrev st_need_of : Stmt := top 20
theorem sc_need_of : FnScope ["web", "busy", "place", "x"] ["web", "busy", "place"] (defScope st_need_of) := ⟨rfl, rfl, rfl, by decide +kernel, rfl, by decide +kernel, by decide +kernel⟩
def sp_need_of (K : PySem.W.Frag) : Sp := fun vs H Q _ => ∃ a b n adj L p, vs = [.ref a, .ref b, .int ((p : Nat) : Int)] ∧ WebAt K H a n adj ∧ Web n adj ∧ SqT K H b (ns L) ∧ Rise n L ∧ IsBusy n adj L ∧ IsLean n adj L ∧ p ∈ L ∧
  ∀ r H' e, NeedOk n adj L p e → NeedAt H' r e → Ex H H' → Q (.ref r) H'
theorem D_need_of (L : Ld K mg "need_of" st_need_of) (B : Bt mg) (D_is_own : Def P w K mg base "is_own" 3 ["web", "busy", "place", "x"] (sp_is_own K)) (D_pieces : Def P w K mg base "pieces" 2 ["web", "places"] (sp_pieces K)) (D_all_others : Def P w K mg base "all_others" 1 ["busy", "place"] (sp_all_others K)) : Def P w K mg base "need_of" 4 ["web", "busy", "place"] (sp_need_of K) := by
  refine L.ok (ps := ["web", "busy", "place"]) sc_need_of (fun _ _ _ _ _ _ us hl => match us, hl with | [_, _, _], _ => rfl) (fun vs H Q E h => ?_) (fun f cdv A outer s H vs Q E hr h => ?_)
  · obtain ⟨a, b, n, adj, L, p, rfl, _⟩ := h
    rfl
  · obtain ⟨a, b, n, adj, L, p, rfl, hW, hw, hL, hr1, hB, hLe, hp, q⟩ := h
    refine ⟨_, (pss_cons (ps_for PassesOwn.never rfl (pi_range1 (by rfl) B.range_ (pa_cons (pe_ix (r := rIxT K) ix_tup (pv 0) pe_int (fun _ _ => rfl)) pa_nil)) (pg_name (i := 3) sc_need_of.nd rfl (.inl rfl))
        (pss_one (ps_if (pt_val (pe_def D_is_own (hr.mono (by decide)) (by rfl) (pa_cons (pv 0) (pa_cons (pv 1) (pa_cons (pv 2) (pa_cons (pv 3) pa_nil)))))) (pss_one (ps_ret (pe_tup (pa_cons pe_str (pa_cons (pv 3) pa_nil))))) pss_nil)))
      (pss_one (ps_ret (pe_tup (pa_cons pe_str (pa_cons (pe_ix (r := rIxT K) ix_tup (pe_def D_pieces (hr.mono (by decide)) (by rfl) (pa_cons (pv 0) (pa_cons (pe_def D_all_others (hr.mono (by decide)) (by rfl) (pa_cons (pv 1) (pa_cons (pv 2) pa_nil))) pa_nil))) pe_int (fun _ _ => rfl)) pa_nil)))))), ?_⟩
    obtain ⟨t, ts, E, w1, _⟩ := hW.ex
    have hhi := hw.hi
    have hll := hr1.len
    refine ⟨_, rfl, a, _, _, .int (n : Int), rfl, rfl, w1, atI_nat (j := 0) rfl, (n : Int), rfl, by omega, by omega, ?_⟩
    have en : ((n : Int)).toNat = n := by omega
    rw [en]
    refine for_range (fun i σ H' => Ex H H' ∧ (∃ y, σ = [some (.ref a), some (.ref b), some (.int (p : Int)), y]) ∧ ∀ x, x < i → ¬ Own n adj L p x) ⟨Ex.refl _, ⟨_, rfl⟩, fun x hx => absurd hx (by omega)⟩ (fun i σ H' hi hP => ?_) (fun σ H' hP => ?_)
    · obtain ⟨p1, ⟨y, rfl⟩, p2⟩ := hP
      have e0 : (0 : Int) + (i : Int) = (i : Int) := Int.zero_add _
      rw [e0]
      refine ⟨_, rfl, _, rfl, _, rfl, _, rfl, a, b, n, adj, L, p, i, rfl, hW.mono p1, hhi, ex_t p1 hL, hi, fun H2 e2 => ⟨_, rfl, ?_⟩⟩
      refine ite2 (fun hc => ?_) (fun hc => ?_)
      · have ho : Own n adj L p i := (of_decide_eq_true hc : ((lot n adj i).filter fun u => decide (u ∈ L)) = [p])
        refine ⟨_, rfl, by show 2 ≤ sizeLine; decide, fun r hr => ?_⟩
        exact q r _ (.own i) ⟨hi, ho⟩ upd_same ((p1.trans e2).trans (Ex.new hr))
      · refine ⟨p1.trans e2, ⟨_, rfl⟩, fun x hx => ?_⟩
        by_cases h : x = i
        · subst h
          exact fun ho => hc (decide_eq_true (show ((lot n adj x).filter fun u => decide (u ∈ L)) = [p] from ho))
        · exact p2 x (by omega)
    · obtain ⟨p1, ⟨y, rfl⟩, p2⟩ := hP
      obtain ⟨hne, hside⟩ := lean_need hw hr1 hB hLe hp p2
      cases hwl : wop L p with
      | nil => exact absurd hwl hne
      | cons s0 M =>
        have hrw : Rise n (wop L p) := hr1.filter _
        have hlw := hrw.len
        refine ⟨_, rfl, _, rfl, _, rfl, b, L, p, rfl, ex_t p1 hL, by omega, fun r1 H1 hr1' e1 k1 => ?_⟩
        rw [hwl] at k1 hrw hlw
        refine ⟨a, r1, n, adj, s0, M, rfl, hW.mono (p1.trans e1), hhi, .of k1, hrw.lt, by omega, fun r2 H2 q0 more R0 hR hr2 e2 k2 k3 hm => ?_⟩
        refine ⟨r2, _, _, .ref q0, rfl, rfl, .of k2, atI_nat (j := 0) rfl, by show 2 ≤ sizeLine; decide, fun r hr => ?_⟩
        refine q r _ (.parts R0) ⟨hR.rise, hside s0 R0 (by rw [hwl]; exact List.mem_cons_self) (by rw [hwl]; exact hR)⟩ ⟨q0, upd_same, Ex.new hr _ _ k3⟩ (((p1.trans e1).trans e2).trans (Ex.new hr))
/-! ### lean_of -/
abbrev st_lean_of : Stmt := top 21
theorem sc_lean_of : FnScope ["web", "busy", "order", "place", "rest"] ["web", "busy", "order"] (defScope st_lean_of) := ⟨rfl, rfl, rfl, by decide +kernel, rfl, by decide +kernel, by decide +kernel⟩
def sp_lean_of (K : PySem.W.Frag) : Sp := fun vs H Q _ => ∃ a b n adj L, vs = [.ref a, .ref b, .ref b] ∧ WebAt K H a n adj ∧ Web n adj ∧ SqT K H b (ns L) ∧ Rise n L ∧ IsBusy n adj L ∧ IsLean n adj L ∧
  ∀ (r t : Addr) H' (rs : List Addr), Ex H H' → H' r = some (.tup [.ref b, .ref t]) → H' t = some (.tup (rs.map V.ref)) → rs.length = L.length → (∀ (i p : Nat), L[i]? = some p → ∃ rr e, rs[i]? = some rr ∧ NeedAt H' rr e ∧ NeedOk n adj L p e) → Q (.ref r) H'
theorem D_lean_of (L : Ld K mg "lean_of" st_lean_of) (B : Bt mg) (D_all_others : Def P w K mg base "all_others" 1 ["busy", "place"] (sp_all_others K)) (D_right_set : Def P w K mg base "right_set" 3 ["web", "thing"] (sp_right_set K)) (D_need_of : Def P w K mg base "need_of" 4 ["web", "busy", "place"] (sp_need_of K)) : Def P w K mg base "lean_of" 5 ["web", "busy", "order"] (sp_lean_of K) := by
  refine L.ok (ps := ["web", "busy", "order"]) sc_lean_of (fun _ _ _ _ _ _ us hl => match us, hl with | [_, _, _], _ => rfl) (fun vs H Q E h => ?_) (fun f cdv A outer s H vs Q E hr h => ?_)
  · obtain ⟨a, b, n, adj, L, rfl, _⟩ := h
    rfl
  · obtain ⟨a, b, n, adj, L, rfl, hW, hw, hL, hr1, hB, hLe, q⟩ := h
    refine ⟨_, (pss_cons (ps_for PassesOwn.never rfl (pi_tupK K rfl (pv 2)) (pg_name (i := 3) sc_lean_of.nd rfl (.inl rfl))
        (pss_cons (ps_set (i := 4) sc_lean_of.nd rfl (.inl rfl) (pe_def D_all_others (hr.mono (by decide)) (by rfl) (pa_cons (pv 1) (pa_cons (pv 3) pa_nil))))
      (pss_one (ps_if (pt_val (pe_def D_right_set (hr.mono (by decide)) (by rfl) (pa_cons (pv 0) (pa_cons (pv 4) pa_nil)))) (pss_one (ps_set (i := 1) sc_lean_of.nd rfl (.inr rfl) (pv 4))) pss_nil))))
      (pss_one (ps_ret (pe_tup (pa_cons (pv 1) (pa_cons (pe_callTy (r := rTp K) call_tp (by rfl) B.tuple_ (by decide +kernel) (pa_cons (pe_lc (own := [("place", 3)]) (g := gName 3) (tt := tYes) (by rfl) sc_lean_of.nd (pi_tupK K rfl (pv 1)) (blkOk_by (N := ["web", "busy", "order", "place", "rest"]) (sc := defScope st_lean_of) (by decide +kernel)) (fun _ _ _ _ _ => (pg_name (i := 3) sc_lean_of.nd rfl (.inl rfl))) (fun _ _ _ _ _ => pts_nil) (fun _ _ _ _ _ => (pe_def D_need_of (hr.mono (by decide)) (by rfl) (pa_cons (pv 0) (pa_cons (pv 1) (pa_cons (pv 3) pa_nil)))))) pa_nil)) pa_nil)))))), ?_⟩
    have hhi := hw.hi
    have hll := hr1.len
    refine ⟨_, rfl, b, rfl, ⟨_, hL⟩, ?_⟩
    refine for_tup (xs := ns L) (fun i σ H' => Ex H H' ∧ ∃ y3 y4, σ = [some (.ref a), some (.ref b), some (.ref b), y3, y4]) ⟨Ex.refl _, _, _, rfl⟩ (fun i σ H' _ hP => ex_t hP.1 hL) (fun i x σ H' hi hP => ?_) (fun σ H' hP => ?_)
    · obtain ⟨p1, y3, y4, rfl⟩ := hP
      obtain ⟨v, hv, hvm, rfl⟩ := ns_got hi
      refine ⟨_, rfl, _, rfl, b, L, v, rfl, ex_t p1 hL, by omega, fun r1 H1 hr1' e1 k1 => ?_⟩
      refine ⟨_, rfl, _, rfl, a, r1, n, adj, wop L v, rfl, hW.mono (p1.trans e1), hw, .of k1, hr1.filter _, fun bo H2 e2 hbo => ⟨bo, rfl, ?_⟩⟩
      cases bo with
      | true => exact absurd (hbo.mp rfl) (hLe v hvm)
      | false => exact iteF ⟨(p1.trans e1).trans e2, _, _, rfl⟩
    · obtain ⟨p1, y3, y4, rfl⟩ := hP
      refine ⟨_, rfl, _, rfl, b, rfl, ⟨_, ex_t p1 hL⟩, fun D hD => ?_⟩
      refine lc_tup (xs := ns L) (fun i H2 => ∃ rs : List Addr, Ex H' H2 ∧ rs.length = i ∧ H2 D = some (.lst (rs.map V.ref)) ∧ ∀ (j p : Nat), j < i → L[j]? = some p → ∃ rr e, rs[j]? = some rr ∧ NeedAt (wo D H2) rr e ∧ NeedOk n adj L p e) ⟨[], Ex.new hD, rfl, upd_same, fun j p hj => absurd hj (by omega)⟩ (fun i H2 _ hP => ex_t (p1.trans hP.choose_spec.1) hL) (fun i x H2 hi hP => ?_) (fun H2 hP => ?_)
      · obtain ⟨rs, e2, hl2, hD2, hall⟩ := hP
        obtain ⟨v, hv, hvm, rfl⟩ := ns_got hi
        have eH : Ex H H2 := p1.trans e2
        refine ⟨rfl, yes_go ?_⟩
        refine ⟨_, rfl, _, rfl, _, rfl, a, b, n, adj, L, v, rfl, hW.mono eH, hw, ex_t eH hL, hr1, hB, hLe, hvm, fun r H3 e hok hat e3 => ?_⟩
        have hD3 := e3 _ _ hD2
        have hatD : NeedAt (wo D H3) r e := by
          cases e with
          | own y =>
            have h1 : H3 r = some (.tup [.str "own", .int (y : Int)]) := hat
            exact wo_row h1 (ne_of h1 hD3 (by intro z; cases z))
          | parts M =>
            obtain ⟨q1, h1, h2⟩ := hat
            exact ⟨q1, wo_row h1 (ne_of h1 hD3 (by intro z; cases z)), wo_row h2 (ne_of h2 hD3 (by intro z; cases z))⟩
        refine ⟨rs.map V.ref, hD3, by rw [List.length_map]; exact small1000 (by have := (List.getElem?_eq_some_iff.mp hv).1; omega), rs ++ [r], Ex.mut (e2.trans e3) hD, by rw [List.length_append, hl2]; rfl, by rw [upd_same, List.map_append]; rfl, fun j p hj hp => ?_⟩
        rw [wo_upd]
        by_cases h : j < i
        · obtain ⟨rr, e', k1, k2, k3⟩ := hall j p h hp
          exact ⟨rr, e', by rw [List.getElem?_append_left (by omega)]; exact k1, k2.mono (wo_mono e3), k3⟩
        · have hji : j = i := by omega
          subst hji
          rw [hv] at hp
          cases hp
          refine ⟨r, e, ?_, hatD, hok⟩
          rw [List.getElem?_append_right (by omega), hl2, Nat.sub_self]
          rfl
      · obtain ⟨rs, e2, hl2, hD2, hall⟩ := hP
        rw [ns_len] at hl2 hall
        refine ⟨D, _, rfl, .inl ⟨.of hD2, fun t ht => ?_⟩⟩
        refine ⟨by show 2 ≤ sizeLine; decide, fun r hr => ?_⟩
        have hrt : t ≠ r := ne_of_none (H := upd H2 t (.tup (rs.map V.ref))) upd_same hr
        refine q r t _ rs (((p1.trans e2).trans (Ex.new ht)).trans (Ex.new hr)) upd_same (by rw [upd_ne hrt, upd_same]) hl2 fun i p hp => ?_
        obtain ⟨rr, e, k1, k2, k3⟩ := hall i p (List.getElem?_eq_some_iff.mp hp).1 hp
        exact ⟨rr, e, k1, k2.mono ((wo_ex.trans (Ex.new ht)).trans (Ex.new hr)), k3⟩
end
end ML
set_option Elab.async false
set_option linter.all false
set_option maxRecDepth 100000
set_option maxHeartbeats 4000000
namespace ML
open PySem PySem.Spec PyProof.Rows L2 Evl
/-! ### dicts as sets of places -/
def kd (l : List Nat) : List (L2.Key × V) := l.map fun k : Nat => (Sum.inl (k : Int), V.bl true)
theorem kd_len (l : List Nat) : (kd l).length = l.length := List.length_map ..
theorem kd_keys (l : List Nat) : (kd l).map (·.1) = (l.map fun k : Nat => (k : Int)).map Sum.inl := by
  unfold kd
  rw [List.map_map, List.map_map]
  rfl
theorem kd_has (v : Nat) : ∀ l : List Nat, (valV (kd l) (Sum.inl (v : Int) : L2.Key)).isSome = decide (v ∈ l)
  | [] => rfl
  | a :: l => by
    have ih := kd_has v l
    by_cases h : a = v
    · subst h
      rw [decide_eq_true List.mem_cons_self]
      show (valV ((Sum.inl (a : Int), V.bl true) :: kd l) _).isSome = true
      rw [valV_pos rfl]
      rfl
    · show (valV ((Sum.inl (a : Int), V.bl true) :: kd l) _).isSome = _
      rw [valV_neg (fun e => h (by
        have e' : (Sum.inl (a : Int) : L2.Key) = Sum.inl (v : Int) := e
        injection e' with e'
        omega)), ih]
      exact decide_eq_decide.mpr ⟨fun hm => List.mem_cons_of_mem _ hm, fun hm => (List.mem_cons.mp hm).elim (fun e => absurd e.symm h) id⟩
theorem kd_put {l : List Nat} {v : Nat} (h : v ∉ l) : putK (kd l) (Sum.inl (v : Int)) (V.bl true) = kd (l ++ [v]) := by
  have h0 : valV (kd l) (Sum.inl (v : Int) : L2.Key) = none := by
    have := kd_has v l
    rw [decide_eq_false h] at this
    exact Option.not_isSome_iff_eq_none.mp (by rw [this]; decide)
  rw [putK_new _ h0]
  unfold kd
  rw [List.map_append]
  rfl
theorem kd_merge : ∀ {m l : List Nat}, (l ++ m).Nodup → mergeK (kd l) (kd m) = kd (l ++ m)
  | [], l, _ => by rw [List.append_nil]; rfl
  | v :: m, l, h => by
    have hv : v ∉ l := fun hm => (List.nodup_append.mp h).2.2 v hm v List.mem_cons_self rfl
    show mergeK (putK (kd l) (Sum.inl (v : Int)) (V.bl true)) (kd m) = _
    rw [kd_put hv, kd_merge (m := m) (l := l ++ [v]) (by rw [List.append_assoc]; exact h), List.append_assoc]
    rfl
section
variable {K : PySem.W.Frag} {σ : L2.St} {H : Hp} {ta tb : TE}
theorem ev_dIn (l : List Nat) {d : Addr} {v : Nat} (ha : Ev ta σ H (.int (v : Int))) (hb : Ev tb σ H (.ref d)) (h : H d = some (.dK (kd l))) : Ev (tDIn ta tb) σ H (.bl (decide (v ∈ l))) := fun H1 e Q q =>
  ha H1 e _ fun H2 e2 => hb H2 (e.trans e2) _ fun H3 e3 => ⟨d, _, rfl, DGet.k (k := Sum.inl (v : Int)) (((e.trans e2).trans e3) _ _ h), by rw [kd_has]; exact q H3 (e2.trans e3)⟩
theorem ev_dNi (l : List Nat) {d : Addr} {v : Nat} (ha : Ev ta σ H (.int (v : Int))) (hb : Ev tb σ H (.ref d)) (h : H d = some (.dK (kd l))) : Ev (tDNotIn ta tb) σ H (.bl (!decide (v ∈ l))) := fun H1 e Q q =>
  ha H1 e _ fun H2 e2 => hb H2 (e.trans e2) _ fun H3 e3 => ⟨d, _, rfl, DGet.k (k := Sum.inl (v : Int)) (((e.trans e2).trans e3) _ _ h), by rw [kd_has]; exact q H3 (e2.trans e3)⟩
theorem et_cmp {te : TE} {b : Bool} (h : Ev te σ H (.bl b)) : EvT (tB te) σ H b := et_B h
end
theorem pairs_snoc {H : Hp} {fs : List Addr} {T : List (Nat × Nat)} {t : Addr} {e : Nat × Nat} (h : Pairs H fs T) (ht : H t = some (.tup (tieV e))) : Pairs H (fs ++ [t]) (T ++ [e]) := by
  unfold Pairs at h ⊢
  induction h with
  | nil => exact .cons ht .nil
  | cons a _ ih => exact .cons a ih
theorem pairs_zip {H : Hp} {fs : List Addr} {T : List (Nat × Nat)} (h : Pairs H fs T) : ∃ z : List (Addr × (Nat × Nat)), z.map Prod.fst = fs ∧ z.map Prod.snd = T ∧ ∀ x ∈ z, H x.1 = some (.tup (tieV x.2)) := by
  unfold Pairs at h
  induction h with
  | nil => exact ⟨[], rfl, rfl, fun x hx => absurd hx (by simp)⟩
  | @cons a b as bs h1 _ ih =>
    obtain ⟨z, e1, e2, e3⟩ := ih
    exact ⟨(a, b) :: z, by rw [List.map_cons, e1], by rw [List.map_cons, e2], fun x hx => by
      rcases List.mem_cons.mp hx with e | hx
      · subst e; exact h1
      · exact e3 x hx⟩
theorem pairs_unzip {H : Hp} : ∀ {z : List (Addr × (Nat × Nat))}, (∀ x ∈ z, H x.1 = some (.tup (tieV x.2))) → Pairs H (z.map Prod.fst) (z.map Prod.snd)
  | [], _ => .nil
  | a :: z, h => .cons (h a List.mem_cons_self) (pairs_unzip fun x hx => h x (List.mem_cons_of_mem _ hx))
/-- a permutation of the images lifts -/
theorem perm_lift {α β : Type} {f : α → β} : ∀ {ys w : List β}, ys.Perm w → ∀ {z : List α}, z.map f = w → ∃ z' : List α, z'.Perm z ∧ ys = z'.map f := by
  intro ys w hp
  induction hp with
  | nil =>
    intro z hw
    have : z = [] := List.map_eq_nil_iff.mp hw
    subst this
    exact ⟨[], .nil, rfl⟩
  | @cons x l₁ l₂ p ih =>
    intro z hw
    cases z with
    | nil => cases hw
    | cons a z =>
      injection hw with h1 h2
      obtain ⟨z', p', e'⟩ := ih h2
      exact ⟨a :: z', .cons a p', by rw [List.map_cons, ← e', h1]⟩
  | swap x y l =>
    intro z hw
    cases z with
    | nil => cases hw
    | cons a z =>
      cases z with
      | nil => injection hw with h1 h2; cases h2
      | cons b z =>
        injection hw with h1 h2
        injection h2 with h2 h3
        exact ⟨b :: a :: z, .swap _ _ _, by rw [List.map_cons, List.map_cons, h1, h2, h3]⟩
  | trans p q ih1 ih2 =>
    intro z hw
    obtain ⟨z2, p2, e2⟩ := ih2 hw
    obtain ⟨z3, p3, e3⟩ := ih1 e2.symm
    exact ⟨z3, p3.trans p2, e3⟩
theorem pairs_perm {H : Hp} {fs : List Addr} {T : List (Nat × Nat)} (h : Pairs H fs T) {ys : List V} (hp : ys.Perm (fs.map V.ref)) : ∃ fs' T', ys = fs'.map V.ref ∧ Pairs H fs' T' ∧ T'.Perm T := by
  obtain ⟨z, e1, e2, e3⟩ := pairs_zip h
  have hp2 : ys.Perm (z.map fun x => V.ref x.1) := by
    rw [← e1, List.map_map] at hp
    exact hp
  obtain ⟨z', hp', ey⟩ := perm_lift hp2 rfl
  exact ⟨z'.map Prod.fst, z'.map Prod.snd, by rw [List.map_map]; exact ey, pairs_unzip fun x hx => e3 x (hp'.mem_iff.mp hx), by rw [← e2]; exact hp'.map _⟩
theorem pairs_all {H : Hp} {fs : List Addr} {T : List (Nat × Nat)} (h : Pairs H fs T) : ∀ x ∈ fs.map V.ref, ∃ t i j, x = V.ref t ∧ H t = some (.tup [.int i, .int j]) := by
  obtain ⟨z, e1, e2, e3⟩ := pairs_zip h
  intro x hx
  rw [← e1, List.map_map] at hx
  obtain ⟨y, hy, rfl⟩ := List.mem_map.mp hx
  exact ⟨y.1, _, _, rfl, e3 y hy⟩
theorem tie_minmax (a b : Nat) : ([.int (if (b : Int) < (a : Int) then (b : Int) else (a : Int)), .int (if (b : Int) > (a : Int) then (b : Int) else (a : Int))] : List V) = tieV (nrm (a, b)) := by
  unfold tieV nrm
  have e1 : (if (b : Int) < (a : Int) then (b : Int) else (a : Int)) = ((min a b : Nat) : Int) := by split <;> omega
  have e2 : (if (b : Int) > (a : Int) then (b : Int) else (a : Int)) = ((max a b : Nat) : Int) := by split <;> omega
  rw [e1, e2]
theorem pairs_len' {H : Hp} {fs : List Addr} {T : List (Nat × Nat)} (h : Pairs H fs T) : (fs.map V.ref).length = T.length := by rw [List.length_map]; exact pairs_len h
theorem pairs_upd {H : Hp} {fs : List Addr} {T : List (Nat × Nat)} {o : Addr} {u x : HO} (h : Pairs H fs T) (ho : H o = some u) (hu : ∀ xs, u ≠ .tup xs) : Pairs (upd H o x) fs T := Paired.mapP h fun t e ht => by
  rw [upd_ne (ne_of ht ho fun c => hu _ c.symm)]
  exact ht
theorem no_tupL {xs : List V} : ∀ ys, HO.lst xs ≠ .tup ys := fun _ c => by cases c
theorem no_tupD {xs : List (L2.Key × V)} : ∀ ys, HO.dK xs ≠ .tup ys := fun _ c => by cases c
section
variable {P : Program} {w : World} {K : PySem.W.Frag} {mg : Str → Option Value} {base : Heap}
/-! ### tree_by -/
abbrev st_tree_by : Stmt := top 13
theorem sc_tree_by : FnScope ["web", "busy", "near", "place", "within", "seen", "row", "found", "at", "other", "one"] ["web", "busy"] (defScope st_tree_by) := ⟨rfl, rfl, rfl, by decide +kernel, rfl, by decide +kernel, by decide +kernel⟩
def sp_tree_by (K : PySem.W.Frag) : Sp := fun vs H Q _ => ∃ a b n adj L, vs = [.ref a, .ref b] ∧ WebAt K H a n adj ∧ Web n adj ∧ SqT K H b (ns L) ∧ Rise n L ∧ IsBusy n adj L ∧
  ∀ r H' ts T, TreeOk n adj L T → Pairs H' ts T → Ex H H' → H' r = some (.tup (ts.map V.ref)) → Q (.ref r) H'
theorem D_tree_by (L : Ld K mg "tree_by" st_tree_by) (B : Bt mg) (D_neighbours_by : Def P w K mg base "neighbours_by" 1 ["web"] (sp_neighbours_by K)) : Def P w K mg base "tree_by" 2 ["web", "busy"] (sp_tree_by K) := by
  refine L.ok (ps := ["web", "busy"]) sc_tree_by (fun _ _ _ _ _ _ us hl => match us, hl with | [_, _], _ => rfl) (fun vs H Q E h => ?_) (fun f cdv A outer s H vs Q E hr h => ?_)
  · obtain ⟨a, b, n, adj, L, rfl, _⟩ := h
    rfl
  · obtain ⟨a, b, n, adj, L, rfl, hW, hw, hL, hr1, hB, q⟩ := h
    refine ⟨_, (pss_cons (ps_set (i := 2) sc_tree_by.nd rfl (.inl rfl) (pe_def D_neighbours_by (hr.mono (by decide)) (by rfl) (pa_cons (pv 0) pa_nil)))
      (pss_cons (ps_set (i := 4) sc_tree_by.nd rfl (.inr rfl) (pe_callTy (call_dictP rfl) (by rfl) B.dict_ (by decide +kernel) (pa_cons (pe_lc (own := [("place", 3)]) (g := gName 3) (tt := tYes) (by rfl) sc_tree_by.nd (pi_tupK K rfl (pv 1)) (blkOk_by (N := ["web", "busy", "near", "place", "within", "seen", "row", "found", "at", "other", "one"]) (sc := defScope st_tree_by) (by decide +kernel)) (fun _ _ _ _ _ => (pg_name (i := 3) sc_tree_by.nd rfl (.inl rfl))) (fun _ _ _ _ _ => pts_nil) (fun _ _ _ _ _ => (pe_tup (pa_cons (pv 3) (pa_cons pe_bl pa_nil))))) pa_nil)))
      (pss_cons (ps_set (i := 5) sc_tree_by.nd rfl (.inl rfl) (pe_disp (pps_cons (pe_ix (r := rIxT K) ix_tup (pv 1) pe_int (fun _ _ => rfl)) pe_bl pps_nil) (by rfl) (by rfl) (fun z => by cases z) (by decide)))
      (pss_cons (ps_set (i := 6) sc_tree_by.nd rfl (.inl rfl) (pe_lst (pa_cons (pe_ix (r := rIxT K) ix_tup (pv 1) pe_int (fun _ _ => rfl)) pa_nil)))
      (pss_cons (ps_set (i := 7) sc_tree_by.nd rfl (.inl rfl) (pe_lst pa_nil))
      (pss_cons (ps_set (i := 8) sc_tree_by.nd rfl (.inl rfl) pe_int)
      (pss_cons (ps_while PassesOwn.never (pt_cmpR op_lt (pv 8) (pe_callB (r := rLn K) call_ln (by rfl) B.len_ (by decide +kernel) (pa_cons (pv 6) pa_nil)) (nomark _)) (pss_cons (ps_set (i := 3) sc_tree_by.nd rfl (.inl rfl) (pe_ix (r := rIxL K) ix_list (pv 6) (pv 8) (fun _ _ => rfl)))
      (pss_cons (ps_set (i := 8) sc_tree_by.nd rfl (.inl rfl) (pe_op op_add (pv 8) pe_int))
      (pss_one (ps_for PassesOwn.never rfl (pi_listK K rfl (pe_ix (r := rIxL K) ix_list (pv 2) (pv 3) (fun _ _ => rfl))) (pg_name (i := 9) sc_tree_by.nd rfl (.inl rfl))
        (pss_one (ps_if (PW.pt (pw_and (pt_cmp (pc_din (hu_of hr) (pv 9) (pv 4)) (by rfl)) (pw_and1 (pt_cmp (pc_dnotin (hu_of hr) (pv 9) (pv 5)) (by rfl))))) (pss_cons (ps_dput (hu_of hr) (pv 5) (pv 9) pe_bl rfl)
      (pss_cons (ps_expr (pe_bm PySem.F.plainAttrs_list PySem.F.slot_list_append PySem.F.type_list_append mt_append (pv 6) (pa_cons (pv 9) pa_nil)))
      (pss_one (ps_expr (pe_bm PySem.F.plainAttrs_list PySem.F.slot_list_append PySem.F.type_list_append mt_append (pv 7) (pa_cons (pe_tup (pa_cons (pe_callB (call_min2 rfl) (by rfl) B.min_ (by decide +kernel) (pa_cons (pv 3) (pa_cons (pv 9) pa_nil))) (pa_cons (pe_callB (call_max2 rfl) (by rfl) B.max_ (by decide +kernel) (pa_cons (pv 3) (pa_cons (pv 9) pa_nil))) pa_nil))) pa_nil)))))) pss_nil)))))))
      (pss_cons (ps_for PassesOwn.never rfl (pi_range1 (by rfl) B.range_ (pa_cons (pe_ix (r := rIxT K) ix_tup (pv 0) pe_int (fun _ _ => rfl)) pa_nil)) (pg_name (i := 3) sc_tree_by.nd rfl (.inl rfl))
        (pss_one (ps_if (pt_cmp (pc_dnotin (hu_of hr) (pv 3) (pv 4)) (by rfl)) (pss_cons (ps_set (i := 9) sc_tree_by.nd rfl (.inl rfl) (pe_ix (r := rIxL K) ix_list (pe_lc (own := [("one", 10)]) (g := gName 10) (by rfl) sc_tree_by.nd (pi_listK K rfl (pe_ix (r := rIxL K) ix_list (pv 2) (pv 3) (fun _ _ => rfl))) (blkOk_by (N := ["web", "busy", "near", "place", "within", "seen", "row", "found", "at", "other", "one"]) (sc := defScope st_tree_by) (by decide +kernel)) (fun _ _ _ _ _ => (pg_name (i := 10) sc_tree_by.nd rfl (.inl rfl))) (fun _ _ _ _ _ => (pts_one (pt_cmp (pc_din (hu_of hr) (pv 10) (pv 4)) (by rfl)))) (fun _ _ _ _ _ => (pv 10))) pe_int (fun _ _ => rfl)))
      (pss_one (ps_expr (pe_bm PySem.F.plainAttrs_list PySem.F.slot_list_append PySem.F.type_list_append mt_append (pv 7) (pa_cons (pe_tup (pa_cons (pe_callB (call_min2 rfl) (by rfl) B.min_ (by decide +kernel) (pa_cons (pv 3) (pa_cons (pv 9) pa_nil))) (pa_cons (pe_callB (call_max2 rfl) (by rfl) B.max_ (by decide +kernel) (pa_cons (pv 3) (pa_cons (pv 9) pa_nil))) pa_nil))) pa_nil))))) pss_nil)))
      (pss_one (ps_ret (pe_callTy (r := rTp K) call_tp (by rfl) B.tuple_ (by decide +kernel) (pa_cons (pe_callB (r := rSortedP K) cr_sortedP (by rfl) B.sorted_ (by decide +kernel) (pa_cons (pv 7) pa_nil)) pa_nil)))))))))))), ?_⟩
    have hhi := hw.hi
    have hll := hr1.len
    obtain ⟨s0, L0, hL0⟩ : ∃ s0 L0, L = s0 :: L0 := by
      cases L with
      | nil => exact absurd rfl hB.conn.1
      | cons s0 L0 => exact ⟨s0, L0, rfl⟩
    have hs0 : s0 ∈ L := by rw [hL0]; exact List.mem_cons_self
    have hat0 : (ns L)[0]? = some (.int (s0 : Int)) := by rw [hL0]; rfl
    have hs0n := hr1.lt s0 hs0
    refine ⟨_, rfl, a, n, adj, rfl, hW, hhi, fun nr H1 e1 hN => ?_⟩
    have hNr := hN.near
    refine ⟨_, rfl, b, rfl, ⟨_, ex_t e1 hL⟩, fun D hD => ?_⟩
    refine lc_tup (xs := ns L) (fun i H2 => ∃ ps : List Addr, Ex H1 H2 ∧ H2 D = some (.lst (ps.map V.ref)) ∧ Paired (fun p kv => (wo D H2) p = some (.tup [kV kv.1, kv.2])) ps (kd (L.take i))) ⟨[], Ex.new hD, upd_same, .nil⟩ (fun i H2 _ hP => ex_t (e1.trans hP.choose_spec.1) hL) (fun i x H2 hi hP => ?_) (fun H2 hP => ?_)
    · obtain ⟨ps, e2, hD2, hps⟩ := hP
      obtain ⟨v, hv, hvm, rfl⟩ := ns_got hi
      refine ⟨rfl, yes_go ?_⟩
      refine ⟨_, rfl, by show 2 ≤ sizeLine; decide, fun p hp => ?_⟩
      have hDp : D ≠ p := ne_of_none hD2 hp
      have hlen : ps.length = (L.take i).length := by have := Paired.length hps; rw [kd_len] at this; exact this
      refine ⟨ps.map V.ref, by rw [upd_ne hDp]; exact hD2, ?_, ps ++ [p], Ex.mut (e2.trans (Ex.new hp)) hD, by rw [upd_same, List.map_append]; rfl, ?_⟩
      · rw [List.length_map, hlen, List.length_take]
        have := Nat.min_le_right i L.length
        exact small1000 (by omega)
      · have ek : L.take (i + 1) = L.take i ++ [v] := by rw [List.take_add_one, hv]; rfl
        rw [ek, wo_upd]
        have snoc : ∀ {ps : List Addr} {kvs : List (L2.Key × V)} {F : Addr → (L2.Key × V) → Prop} {p : Addr} {kv : L2.Key × V}, Paired F ps kvs → F p kv → Paired F (ps ++ [p]) (kvs ++ [kv]) := by
          intro ps kvs F p kv h hk
          induction h with
          | nil => exact .cons hk .nil
          | cons a _ ih => exact .cons a ih
        have e3 : kd (L.take i ++ [v]) = kd (L.take i) ++ [(Sum.inl (v : Int), V.bl true)] := by unfold kd; rw [List.map_append]; rfl
        rw [e3]
        refine snoc (Paired.mapP hps fun p' kv h => wo_mono (Ex.new hp) _ _ h) ?_
        rw [wo_ne hDp.symm, upd_same]
        rfl
    · obtain ⟨ps, e2, hD2, hps⟩ := hP
      rw [ns_len, List.take_length] at hps
      refine ⟨D, ps, kd L, rfl, .of hD2, Paired.mapP hps fun p kv h => .of (wo_ex _ _ h), fun wd hwd => ?_⟩
      have hkd : mergeK [] (kd L) = kd L := kd_merge (l := []) (by rw [List.nil_append]; exact hr1.nd)
      rw [hkd]
      have eA : Ex H1 (upd H2 wd (.dK (kd L))) := e2.trans (Ex.new hwd)
      generalize hHA : upd H2 wd (.dK (kd L)) = HA at eA
      have hwA : HA wd = some (.dK (kd L)) := by rw [← hHA]; exact upd_same
      have hLA : SqT K HA b (ns L) := ex_t (e1.trans eA) hL
      refine fun sn hsn => ⟨_, rfl, b, _, _, _, rfl, rfl, ex_t (Ex.new hsn) hLA, atI_nat (j := 0) hat0, upd_same, [(Sum.inl (s0 : Int), V.bl true)], rfl, by show 1 ≤ 15; decide, ?_⟩
      rw [upd_upd]
      have eB : Ex HA (upd HA sn (.dK (mergeK [] [(Sum.inl (s0 : Int), V.bl true)]))) := Ex.new hsn
      refine ⟨_, rfl, b, _, _, _, rfl, rfl, ex_t eB hLA, atI_nat (j := 0) hat0, by show 1 ≤ sizeLine; decide, fun ro hro => ?_⟩
      refine ⟨Nat.zero_le _, fun fo hfo => ?_⟩
      have hsr : sn ≠ ro := ne_of_none upd_same hro
      have hrf : ro ≠ fo := ne_of_none (H := upd _ ro _) upd_same hfo
      have hsf : sn ≠ fo := ne_of_none (H := upd _ ro _) (by rw [upd_ne hsr]; exact upd_same) hfo
      have hA_ro : HA ro = none := fresh_back eB hro
      have hA_fo : HA fo = none := fresh_back (eB.trans (Ex.new hro)) hfo
      obtain ⟨rs, g1, g2, g3⟩ := (hNr.mono eA).ex
      refine ⟨fun μ σ H' => ∃ F ts fs k y3 y9, σ = [some (.ref a), some (.ref b), some (.ref nr), y3, some (.ref wd), some (.ref sn), some (.ref ro), some (.ref fo), some (.int ((k : Nat) : Int)), y9, none] ∧
          Bfs n adj (fun v => v ∈ L) s0 F k ∧ k ≤ F.length ∧ μ = n - k ∧ Grow adj F ts ∧ Ex HA H' ∧ H' sn = some (.dK (kd F)) ∧ H' ro = some (.lst (ns F)) ∧ H' fo = some (.lst (fs.map V.ref)) ∧ Pairs H' fs (ts.map nrm),
        ⟨n, [s0], [], [], 0, _, none, rfl, ⟨Come.one hs0n, fun i v hi => absurd hi (by omega)⟩, Nat.zero_le _, rfl, .one s0, (eB.trans (Ex.new hro)).trans (Ex.new hfo), ?_, ?_, upd_same, .nil⟩, fun μ σ H' hW2 => ?_⟩
      · rw [upd_ne hsf, upd_ne hsr, upd_same]
        rfl
      · rw [upd_ne hrf, upd_same]
        rfl
      · obtain ⟨F, ts, fs, k, y3, y9, rfl, hBf, hk, rfl, hG, eH', hsn', hro', hfo', hPr⟩ := hW2
        have hFn := hBf.come.len
        have htsl := hG.len
        have hfsl := pairs_len' hPr
        rw [List.length_map] at hfsl
        refine ⟨_, rfl, _, rfl, ro, _, rfl, .inl (.of hro'), _, _, rfl, rfl, _, rfl, ite2 (fun hc => ?_) (fun hc => ?_)⟩
        · have hkl : k < F.length := by
            have := of_decide_eq_true hc
            rw [ns_len] at this
            omega
          obtain ⟨v, hv⟩ : ∃ v, F[k]? = some v := ⟨_, List.getElem?_eq_getElem hkl⟩
          have hvn := hBf.come.lt v (List.mem_of_getElem? hv)
          obtain ⟨r1, k1, k2⟩ := g3 v hvn
          refine ⟨fun σ2 H2 => ∃ F ts fs y3 y9, σ2 = [some (.ref a), some (.ref b), some (.ref nr), y3, some (.ref wd), some (.ref sn), some (.ref ro), some (.ref fo), some (.int (((k + 1 : Nat) : Nat) : Int)), y9, none] ∧
            Bfs n adj (fun v => v ∈ L) s0 F (k + 1) ∧ k + 1 ≤ F.length ∧ Grow adj F ts ∧ Ex HA H2 ∧ H2 sn = some (.dK (kd F)) ∧ H2 ro = some (.lst (ns F)) ∧ H2 fo = some (.lst (fs.map V.ref)) ∧ Pairs H2 fs (ts.map nrm), fun σ2 H2 hN2 => ?_, ?_⟩
          · obtain ⟨F2, ts2, fs2, z3, z9, h1, h2, h3, h4, h5, h6, h7, h8, h9⟩ := hN2
            exact ⟨n - (k + 1), by omega, F2, ts2, fs2, k + 1, z3, z9, h1, h2, h3, rfl, h4, h5, h6, h7, h8, h9⟩
          · -- place = row[at]; at = at + 1; for other in near[place]
            refine ⟨_, rfl, _, rfl, ro, _, _, .int (v : Int), rfl, rfl, .of hro', atI_nat (ns_get hv), ?_⟩
            refine ⟨_, rfl, _, _, rfl, rfl, ?_⟩
            refine ⟨_, rfl, _, rfl, nr, _, _, .ref r1, rfl, rfl, .of (eH' _ _ g1), atI_nat (by rw [List.getElem?_map, k1]; rfl), r1, rfl, ⟨_, .of (eH' _ _ k2)⟩, ?_⟩
            refine for_list (xs := ns (nb n adj v)) (fun j σ2 H2 => ∃ F2 ts2 fs2 y9, σ2 = [some (.ref a), some (.ref b), some (.ref nr), some (.int (v : Int)), some (.ref wd), some (.ref sn), some (.ref ro), some (.ref fo), some (.int (((k + 1 : Nat) : Nat) : Int)), y9, none] ∧
                Bfs n adj (fun v => v ∈ L) s0 F2 k ∧ F2[k]? = some v ∧ (∀ u ∈ (nb n adj v).take j, u ∈ L → u ∈ F2) ∧ Grow adj F2 ts2 ∧ Ex HA H2 ∧ H2 sn = some (.dK (kd F2)) ∧ H2 ro = some (.lst (ns F2)) ∧ H2 fo = some (.lst (fs2.map V.ref)) ∧ Pairs H2 fs2 (ts2.map nrm))
              ⟨F, ts, fs, y9, rfl, hBf, hv, fun u hu => absurd hu (by simp), hG, eH', hsn', hro', hfo', hPr⟩ (fun j σ2 H2 _ hP => by obtain ⟨_, _, _, _, _, _, _, _, _, e2, _⟩ := hP; exact .of (e2 _ _ k2)) (fun j x σ2 H2 hj hP => ?_) (fun σ2 H2 hP => ?_)
            · obtain ⟨F2, ts2, fs2, z9, rfl, hB2, hv2, hd, hG2, e2, hs2, hr2, hf2, hP2⟩ := hP
              obtain ⟨u, hu, hum, rfl⟩ := ns_got hj
              obtain ⟨hun, hua⟩ := mem_nb.mp hum
              have hvF2 := List.mem_of_getElem? hv2
              have hk2 := (List.getElem?_eq_some_iff.mp hv2).1
              have hl2 := hB2.come.len
              have htl2 := hG2.len
              have hfl2 := pairs_len' hP2
              rw [List.length_map, List.length_map] at hfl2
              have ek : (nb n adj v).take (j + 1) = (nb n adj v).take j ++ [u] := by rw [List.take_add_one, hu]; rfl
              have hcc : EvT (tAnd (tB (tDIn (tVar 9) (tVar 4))) (tB (tDNotIn (tVar 9) (tVar 5)))) [some (.ref a), some (.ref b), some (.ref nr), some (.int (v : Int)), some (.ref wd), some (.ref sn), some (.ref ro), some (.ref fo), some (.int (((k + 1 : Nat) : Nat) : Int)), some (.int (u : Int)), none] H2 (decide (u ∈ L) && !decide (u ∈ F2)) :=
                et_and (et_cmp (ev_dIn L (ev_var rfl) (ev_var rfl) (e2 _ _ hwA))) fun _ => et_cmp (ev_dNi F2 (ev_var rfl) (ev_var rfl) hs2)
              refine s_when hcc (fun hb H3 e3 => ?_) (fun hb H3 e3 => ?_)
              · obtain ⟨huL, huF⟩ : u ∈ L ∧ u ∉ F2 := by
                  rw [Bool.and_eq_true, Bool.not_eq_true', decide_eq_true_eq, decide_eq_false_iff_not] at hb
                  exact hb
                have hs3 := e3 _ _ hs2
                have hr3 := e3 _ _ hr2
                have hf3 := e3 _ _ hf2
                have hP3 := hP2.mono e3
                refine ⟨_, rfl, _, rfl, sn, upd H3 sn (.dK (kd (F2 ++ [u]))), rfl, .inl ⟨kd F2, Sum.inl (u : Int), hs3, rfl, by rw [kd_len]; exact small1000 (by omega), by rw [kd_put huF]⟩, ?_⟩
                have hr4 : upd H3 sn (.dK (kd (F2 ++ [u]))) ro = some (.lst (ns F2)) := by rw [upd_ne hsr.symm]; exact hr3
                refine ⟨_, rfl, .inl ⟨rfl, _, .of hr4⟩, _, rfl, ro, _, _, rfl, rfl, hr4, by rw [ns_len]; exact small1000 (by omega), ?_⟩
                have hf5 : upd (upd H3 sn (.dK (kd (F2 ++ [u])))) ro (.lst (ns F2 ++ [.int (u : Int)])) fo = some (.lst (fs2.map V.ref)) := by rw [upd_ne hrf.symm, upd_ne hsf.symm]; exact hf3
                refine ⟨_, rfl, .inl ⟨rfl, _, .of hf5⟩, _, rfl, _, rfl, (v : Int), (u : Int), rfl, _, rfl, _, rfl, (v : Int), (u : Int), rfl, by show 2 ≤ sizeLine; decide, fun t ht => ?_⟩
                rw [tie_minmax]
                have hft : fo ≠ t := ne_of_none hf5 ht
                refine ⟨fo, fs2.map V.ref, _, rfl, rfl, by rw [upd_ne hft]; exact hf5, by rw [List.length_map]; exact small1000 (by omega), F2 ++ [u], ts2 ++ [(v, u)], fs2 ++ [t], _, rfl, hB2.add hk2 hvF2 hun hua huL huF, by rw [List.getElem?_append_left hk2]; exact hv2, fun x hx hxL => ?_, hG2.add hvF2 huF hua, ?_, ?_, ?_, by rw [upd_same, List.map_append]; rfl, ?_⟩
                · rw [ek] at hx
                  rcases List.mem_append.mp hx with hx | hx
                  · exact List.mem_append_left _ (hd x hx hxL)
                  · exact List.mem_append_right _ hx
                · exact Ex.mut ((Ex.mut (Ex.mut (e2.trans e3) hsn) hA_ro).trans (Ex.new ht)) hA_fo
                · have hst : sn ≠ t := ne_of_none (H := upd _ ro _) (by rw [upd_ne hsr, upd_same]) ht
                  rw [upd_ne hsf, upd_ne hst, upd_ne hsr, upd_same]
                · have hrt : ro ≠ t := ne_of_none (H := upd _ ro _) upd_same ht
                  rw [upd_ne hrf, upd_ne hrt, upd_same, ns_append]
                  rfl
                · have hP4 : Pairs (upd (upd H3 sn (.dK (kd (F2 ++ [u])))) ro (.lst (ns F2 ++ [.int (u : Int)]))) fs2 (ts2.map nrm) := pairs_upd (pairs_upd hP3 hs3 no_tupD) hr4 no_tupL
                  rw [List.map_append]
                  exact pairs_upd (pairs_snoc (hP4.mono (Ex.new ht)) upd_same) (by rw [upd_ne hft]; exact hf5) no_tupL
              · refine ⟨F2, ts2, fs2, _, rfl, hB2, hv2, fun x hx hxL => ?_, hG2, e2.trans e3, e3 _ _ hs2, e3 _ _ hr2, e3 _ _ hf2, hP2.mono e3⟩
                rw [ek] at hx
                rcases List.mem_append.mp hx with hx | hx
                · exact hd x hx hxL
                · have e := List.mem_singleton.mp hx
                  subst e
                  refine Classical.byContradiction fun hn => ?_
                  rw [decide_eq_true hxL, decide_eq_false hn] at hb
                  exact absurd hb (by decide)
            · obtain ⟨F2, ts2, fs2, z9, rfl, hB2, hv2, hd, hG2, e2, hs2, hr2, hf2, hP2⟩ := hP
              rw [ns_len, List.take_length] at hd
              have hk2 := (List.getElem?_eq_some_iff.mp hv2).1
              exact ⟨F2, ts2, fs2, _, z9, rfl, hB2.next hv2 hd, by omega, hG2, e2, hs2, hr2, hf2, hP2⟩
        · -- all of the set is joined
          have hkl : F.length ≤ k := by
            refine Classical.byContradiction fun h => hc (decide_eq_true ?_)
            rw [ns_len]
            omega
          have hcl := hBf.closed hkl
          have hFL : ∀ x, x ∈ F ↔ x ∈ L := fun x => ⟨fun hx => (hBf.come.sub x hx).elim (fun e => e ▸ hs0) id, fun hx => hB.conn.2 (fun y => y ∈ F) ⟨s0, hs0, hBf.come.start⟩ (fun y _ hyF z hz ha => hcl y hyF z (hr1.lt z hz) ha hz) x hx⟩
          obtain ⟨t, ts0, E, w1, _⟩ := hW.ex
          refine ⟨_, rfl, a, _, _, .int (n : Int), rfl, rfl, ex_t ((e1.trans eA).trans eH') w1, atI_nat (j := 0) rfl, (n : Int), rfl, by omega, by omega, ?_⟩
          have en : ((n : Int)).toNat = n := by omega
          rw [en]
          refine for_range (fun i σ2 H2 => ∃ fs os y3 y9, σ2 = [some (.ref a), some (.ref b), some (.ref nr), y3, some (.ref wd), some (.ref sn), some (.ref ro), some (.ref fo), some (.int ((k : Nat) : Int)), y9, none] ∧ os.map Prod.fst = (List.range i).filter (fun v => decide (v ∉ L)) ∧ (∀ e ∈ os, e.2 ∈ L ∧ adj e.1 e.2 = true) ∧ Ex HA H2 ∧ H2 fo = some (.lst (fs.map V.ref)) ∧ Pairs H2 fs ((ts ++ os).map nrm))
            ⟨fs, [], _, _, rfl, rfl, fun e he => absurd he (by simp), eH', hfo', by rw [List.append_nil]; exact hPr⟩ (fun i σ2 H2 hi hP => ?_) (fun σ2 H2 hP => ?_)
          · obtain ⟨fs2, os, z3, z9, rfl, ho1, ho2, e2, hf2, hP2⟩ := hP
            have e0 : (0 : Int) + (i : Int) = (i : Int) := Int.zero_add _
            rw [e0]
            have hfl2 := pairs_len' hP2
            rw [List.length_map, List.length_map, List.length_append] at hfl2
            have hol : os.length ≤ i := by
              have h1 : (os.map Prod.fst).length = ((List.range i).filter (fun v => decide (v ∉ L))).length := by rw [ho1]
              have h2 := List.length_filter_le (fun v => decide (v ∉ L)) (List.range i)
              rw [List.length_range] at h2
              rw [List.length_map] at h1
              omega
            have hcc : EvT (tB (tDNotIn (tVar 3) (tVar 4))) [some (.ref a), some (.ref b), some (.ref nr), some (.int (i : Int)), some (.ref wd), some (.ref sn), some (.ref ro), some (.ref fo), some (.int ((k : Nat) : Int)), z9, none] H2 (!decide (i ∈ L)) :=
              et_cmp (ev_dNi L (ev_var rfl) (ev_var rfl) (e2 _ _ hwA))
            refine s_when hcc (fun hb H3 e3 => ?_) (fun hb H3 e3 => ?_)
            · have hiL : i ∉ L := by
                rw [Bool.not_eq_true', decide_eq_false_iff_not] at hb
                exact hb
              obtain ⟨r1, k1, k2⟩ := g3 i hi
              have e23 := e2.trans e3
              refine ⟨_, rfl, _, rfl, nr, _, _, .ref r1, rfl, rfl, .of (e23 _ _ g1), atI_nat (by rw [List.getElem?_map, k1]; rfl), r1, rfl, ⟨_, .of (e23 _ _ k2)⟩, fun D2 hD2 => ?_⟩
              refine lcL (nb n adj i) (.of (e23 _ _ k2)) (by have := nb_len n adj i; omega) (fun u => decide (u ∈ L)) (fun v => .int (v : Int)) (fun _ => ?_) (fun u hu => ?_) (fun u hu _ => ?_) hD2 fun H4 e4 hl4 => ?_
              · rfl
              · exact et_cmp (ev_dIn L (ev_var rfl) (ev_var rfl) (e23 _ _ hwA))
              · exact ev_var rfl
              · obtain ⟨u0, hu0, ha0⟩ := hB.dom i hi hiL
                obtain ⟨u, us, hus⟩ : ∃ u us, (nb n adj i).filter (fun u => decide (u ∈ L)) = u :: us := by
                  cases h : (nb n adj i).filter (fun u => decide (u ∈ L)) with
                  | nil =>
                    have : u0 ∈ (nb n adj i).filter (fun u => decide (u ∈ L)) := List.mem_filter.mpr ⟨mem_nb.mpr ⟨hr1.lt u0 hu0, ha0⟩, decide_eq_true hu0⟩
                    rw [h] at this
                    exact absurd this (by simp)
                  | cons u us => exact ⟨u, us, rfl⟩
                have hum : u ∈ (nb n adj i).filter (fun u => decide (u ∈ L)) := by rw [hus]; exact List.mem_cons_self
                obtain ⟨hum1, hum2⟩ := List.mem_filter.mp hum
                rw [hus] at hl4
                refine ⟨D2, _, 0, .int (u : Int), rfl, rfl, .of hl4, atI_nat (j := 0) rfl, ?_⟩
                have hf4 := e4 _ _ (e3 _ _ hf2)
                refine ⟨_, rfl, .inl ⟨rfl, _, .of hf4⟩, _, rfl, _, rfl, (i : Int), (u : Int), rfl, _, rfl, _, rfl, (i : Int), (u : Int), rfl, by show 2 ≤ sizeLine; decide, fun t ht => ?_⟩
                rw [tie_minmax]
                have hft : fo ≠ t := ne_of_none hf4 ht
                refine ⟨fo, fs2.map V.ref, _, rfl, rfl, by rw [upd_ne hft]; exact hf4, by rw [List.length_map]; exact small1000 (by omega), fs2 ++ [t], os ++ [(i, u)], _, _, rfl, ?_, fun e he => ?_, Ex.mut ((e23.trans e4).trans (Ex.new ht)) hA_fo, by rw [upd_same, List.map_append]; rfl, ?_⟩
                · rw [List.map_append, ho1, range_snoc_filter, if_pos (decide_eq_true hiL)]
                  rfl
                · rcases List.mem_append.mp he with he | he
                  · exact ho2 e he
                  · rw [List.mem_singleton.mp he]
                    exact ⟨of_decide_eq_true hum2, (mem_nb.mp hum1).2⟩
                · rw [← List.append_assoc, List.map_append]
                  exact pairs_upd (pairs_snoc ((hP2.mono (e3.trans e4)).mono (Ex.new ht)) upd_same) (by rw [upd_ne hft]; exact hf4) no_tupL
            · have hiL : i ∈ L := by
                rw [Bool.not_eq_false', decide_eq_true_eq] at hb
                exact hb
              refine ⟨fs2, os, _, _, rfl, ?_, ho2, e2.trans e3, e3 _ _ hf2, hP2.mono e3⟩
              rw [ho1, range_snoc_filter, if_neg (by simp [hiL]), List.append_nil]
          · obtain ⟨fs2, os, z3, z9, rfl, ho1, ho2, e2, hf2, hP2⟩ := hP
            refine ⟨_, rfl, fo, fs2.map V.ref, rfl, .of hf2, pairs_all hP2, fun ys p hperm hp => ?_⟩
            obtain ⟨fs3, T, rfl, hP3, hT⟩ := pairs_perm hP2 hperm
            refine ⟨p, _, rfl, .inl ⟨.of upd_same, fun l hl => ?_⟩⟩
            exact q l _ fs3 T ⟨F, ts, os, hG, hFL, ho1, ho2, hT⟩ ((hP3.mono (Ex.new hp)).mono (Ex.new hl)) ((((e1.trans eA).trans e2).trans (Ex.new hp)).trans (Ex.new hl)) upd_same
end
end ML
set_option Elab.async false
set_option linter.all false
set_option maxRecDepth 100000
set_option maxHeartbeats 4000000
namespace ML
open PySem PySem.Spec PyProof.Rows L2 Evl
section
variable {P : Program} {w : World} {K : PySem.W.Frag} {mg : Str → Option Value} {base : Heap}
/-! ### _law_reach -/
abbrev st_law_reach : Stmt := top 33
theorem sc_law_reach : FnScope ["_law_near_here", "_law_start", "_law_allowed", "_law_found", "_law_waiting", "_law_other"] ["_law_near_here", "_law_start", "_law_allowed"] (defScope st_law_reach) := ⟨rfl, rfl, rfl, by decide +kernel, rfl, by decide +kernel, by decide +kernel⟩
def sp_law_reach (K : PySem.W.Frag) : Sp := fun vs H Q _ => ∃ a b n adj s L, vs = [.ref a, .int ((s : Nat) : Int), .ref b] ∧ NearAt H a n adj ∧ n ≤ 6 ∧ SqL K H b (ns L) ∧ (∀ v ∈ L, v < n) ∧ s ∈ L ∧
  ∀ r H' R, Piece n adj (fun v => v ∈ L) s R → H r = none → Ex H H' → H' r = some (.lst (ns R)) → Q (.ref r) H'
theorem D_law_reach (L : Ld K mg "_law_reach" st_law_reach) (B : Bt mg) : Def P w K mg base "_law_reach" 1 ["_law_near_here", "_law_start", "_law_allowed"] (sp_law_reach K) := by
  refine L.ok (ps := ["_law_near_here", "_law_start", "_law_allowed"]) sc_law_reach (fun _ _ _ _ _ _ us hl => match us, hl with | [_, _, _], _ => rfl) (fun vs H Q E h => ?_) (fun f cdv A outer s H vs Q E hr h => ?_)
  · obtain ⟨a, b, n, adj, s, L, rfl, _⟩ := h
    rfl
  · obtain ⟨a, b, n, adj, s0, L, rfl, hN, hn6, hL, hlt, hs0, q⟩ := h
    refine ⟨_, (pss_cons (ps_set (i := 3) sc_law_reach.nd rfl (.inl rfl) (pe_disp (pps_cons (pv 1) pe_bl pps_nil) (by rfl) (by rfl) (fun z => by cases z) (by decide)))
      (pss_cons (ps_set (i := 4) sc_law_reach.nd rfl (.inl rfl) (pe_lst (pa_cons (pv 1) pa_nil)))
      (pss_cons (ps_while PassesOwn.never (pt_cmpR (r := rNeD K) (op_neD hr.units) (pv 4) (pe_lst pa_nil) (nomark _)) (pss_one (ps_for PassesOwn.never rfl (pi_listK K rfl (pe_ix (r := rIxL K) ix_list (pv 0) (pe_bm0 PySem.F.plainAttrs_list PySem.F.slot_list_pop PySem.F.type_list_pop mt_pop (pv 4)) (fun _ _ => rfl))) (pg_name (i := 5) sc_law_reach.nd rfl (.inl rfl))
        (pss_one (ps_if (PW.pt (pw_and (pt_cmpR (r := rIn K false) op_in_seq (pv 5) (pv 2) (by rfl)) (pw_and1 (pt_cmp (pc_dnotin (hu_of hr) (pv 5) (pv 3)) (by rfl))))) (pss_cons (ps_dput (hu_of hr) (pv 3) (pv 5) pe_bl rfl)
      (pss_one (ps_expr (pe_bm PySem.F.plainAttrs_list PySem.F.slot_list_append PySem.F.type_list_append mt_append (pv 4) (pa_cons (pv 5) pa_nil))))) pss_nil)))))
      (pss_one (ps_ret (pe_callB (call_sortedDI rfl) (by rfl) B.sorted_ (by decide +kernel) (pa_cons (pv 3) pa_nil))))))), ?_⟩
    have hs0n := hlt s0 hs0
    obtain ⟨rs, g1, g2, g3⟩ := hN.ex
    refine fun sn hsn => ⟨_, rfl, upd_same, [(Sum.inl (s0 : Int), V.bl true)], rfl, by show 1 ≤ 15; decide, ?_⟩
    rw [upd_upd]
    have eB : Ex H (upd H sn (.dK (mergeK [] [(Sum.inl (s0 : Int), V.bl true)]))) := Ex.new hsn
    refine ⟨_, rfl, by show 1 ≤ sizeLine; decide, fun wa hwa => ?_⟩
    have hsw : sn ≠ wa := ne_of_none upd_same hwa
    have hH_wa : H wa = none := fresh_back eB hwa
    refine ⟨fun μ σ H' => ∃ F W y5, σ = [some (.ref a), some (.int (s0 : Int)), some (.ref b), some (.ref sn), some (.ref wa), y5] ∧ Come n adj (fun v => v ∈ L) s0 F ∧ (∀ v ∈ W, v ∈ F) ∧ (∀ v, v ∈ F → v ∉ W → ∀ u, u < n → adj v u = true → u ∈ L → u ∈ F) ∧ μ + 2 * F.length = 2 * n + W.length ∧ W.length ≤ F.length + 20 ∧ Ex H H' ∧ H' sn = some (.dK (kd F)) ∧ H' wa = some (.lst (ns W)),
      ⟨2 * n + 1 - 2, [s0], [s0], none, rfl, Come.one hs0n, fun v hv => hv, fun v hv hn => absurd hv hn, by show 2 * n + 1 - 2 + 2 * 1 = 2 * n + 1; omega, by show 1 ≤ 1 + 20; omega, eB.trans (Ex.new hwa), ?_, upd_same⟩, fun μ σ H' hW => ?_⟩
    · rw [upd_ne hsw, upd_same]
      rfl
    · obtain ⟨F, W, y5, rfl, hC, hWF, hdone, hμ, hWl, e1, hs1, hw1⟩ := hW
      have hFn := hC.len
      have hc : EvT (tTest (tOp (rNeD K) (tVar 4) (tLst tNil))) [some (.ref a), some (.int (s0 : Int)), some (.ref b), some (.ref sn), some (.ref wa), y5] H' (!decide (W = [])) :=
        et_test (ev_opL (ev_var rfl) (el_lst ea_nil (Nat.zero_le _)) fun p H1 hp e => rv_neN (b := []) (.of (e _ _ hw1)) (.of hp))
      refine hc H' (Ex.refl _) _ fun H2 e2 => ?_
      refine ite2 (fun hb => ?_) (fun hb => ?_)
      · have hWne : W ≠ [] := by
          rw [Bool.not_eq_true', decide_eq_false_iff_not] at hb
          exact hb
        obtain ⟨W0, v, rfl⟩ : ∃ W0 v, W = W0 ++ [v] := ⟨W.dropLast, W.getLast hWne, (List.dropLast_concat_getLast hWne).symm⟩
        have hvF : v ∈ F := hWF v (List.mem_append_right _ (by simp))
        have hvn := hC.lt v hvF
        obtain ⟨r1, k1, k2⟩ := g3 v hvn
        rw [List.length_append] at hμ hWl
        have h1l : [v].length = 1 := rfl
        rw [h1l] at hμ hWl
        refine ⟨fun σ2 H2 => ∃ F2 W2 y5, σ2 = [some (.ref a), some (.int (s0 : Int)), some (.ref b), some (.ref sn), some (.ref wa), y5] ∧ Come n adj (fun v => v ∈ L) s0 F2 ∧ (∀ v ∈ W2, v ∈ F2) ∧ (∀ v, v ∈ F2 → v ∉ W2 → ∀ u, u < n → adj v u = true → u ∈ L → u ∈ F2) ∧ F.length ≤ F2.length ∧ W2.length + F.length = W0.length + F2.length ∧ Ex H H2 ∧ H2 sn = some (.dK (kd F2)) ∧ H2 wa = some (.lst (ns W2)), fun σ2 H3 hN3 => ?_, ?_⟩
        · obtain ⟨F2, W2, z5, h1, h2, h3, h4, h5, h6, h7, h8, h9⟩ := hN3
          have h2n := h2.len
          exact ⟨2 * n + W2.length - 2 * F2.length, by omega, F2, W2, z5, h1, h2, h3, h4, by omega, by omega, h7, h8, h9⟩
        · have hw2 := e2 _ _ hw1
          have hs2 := e2 _ _ hs1
          have hpop : (ns (W0 ++ [v]))[(ns (W0 ++ [v])).length - 1]? = some (.int (v : Int)) := by
            rw [ns_len, List.length_append]
            refine ns_get ?_
            rw [show W0.length + [v].length - 1 = W0.length by show W0.length + 1 - 1 = _; omega, List.getElem?_append_right (Nat.le_refl _), Nat.sub_self]
            rfl
          refine ⟨_, rfl, _, rfl, .inl ⟨rfl, _, .of hw2⟩, wa, _, _, rfl, rfl, hw2, hpop, ?_⟩
          have edl : (ns (W0 ++ [v])).dropLast = ns W0 := by
            rw [ns_append]
            exact List.dropLast_concat
          rw [edl]
          have e3 : Ex H (upd H2 wa (.lst (ns W0))) := Ex.mut (e1.trans e2) hH_wa
          refine ⟨a, _, _, .ref r1, rfl, rfl, .of (e3 _ _ g1), atI_nat (by rw [List.getElem?_map, k1]; rfl), r1, rfl, ⟨_, .of (e3 _ _ k2)⟩, ?_⟩
          refine for_list (xs := ns (nb n adj v)) (fun j σ2 H3 => ∃ F2 W2 y5, σ2 = [some (.ref a), some (.int (s0 : Int)), some (.ref b), some (.ref sn), some (.ref wa), y5] ∧ Come n adj (fun v => v ∈ L) s0 F2 ∧ v ∈ F2 ∧ (∀ v ∈ W2, v ∈ F2) ∧ (∀ x, x ∈ F2 → x ≠ v → x ∉ W2 → ∀ u, u < n → adj x u = true → u ∈ L → u ∈ F2) ∧ (∀ u ∈ (nb n adj v).take j, u ∈ L → u ∈ F2) ∧ F.length ≤ F2.length ∧ W2.length + F.length = W0.length + F2.length ∧ Ex H H3 ∧ H3 sn = some (.dK (kd F2)) ∧ H3 wa = some (.lst (ns W2)))
            ⟨F, W0, y5, rfl, hC, hvF, fun x hx => hWF x (List.mem_append_left _ hx), fun x hx hxv hxW => hdone x hx (fun hm => (List.mem_append.mp hm).elim hxW fun h => hxv (List.mem_singleton.mp h)), fun u hu => absurd hu (by simp), Nat.le_refl _, rfl, e3, by rw [upd_ne hsw]; exact hs2, upd_same⟩ (fun j σ2 H3 _ hP => by obtain ⟨_, _, _, _, _, _, _, _, _, _, _, e4, _⟩ := hP; exact .of (e4 _ _ k2)) (fun j x σ2 H3 hj hP => ?_) (fun σ2 H3 hP => ?_)
          · obtain ⟨F2, W2, z5, rfl, hC2, hvF2, hWF2, hd2, hd3, hl1, hl2, e4, hs4, hw4⟩ := hP
            obtain ⟨u, hu, hum, rfl⟩ := ns_got hj
            obtain ⟨hun, hua⟩ := mem_nb.mp hum
            have hF2n := hC2.len
            have ek : (nb n adj v).take (j + 1) = (nb n adj v).take j ++ [u] := by rw [List.take_add_one, hu]; rfl
            have hcc : EvT (tAnd (tTest (tOp (rIn K false) (tVar 5) (tVar 2))) (tB (tDNotIn (tVar 5) (tVar 3)))) [some (.ref a), some (.int (s0 : Int)), some (.ref b), some (.ref sn), some (.ref wa), some (.int (u : Int))] H3 (decide (u ∈ L) && !decide (u ∈ F2)) :=
              et_and (et_test (ev_inL L (ev_var rfl) (ev_var rfl) (ex_l e4 hL))) fun _ => et_cmp (ev_dNi F2 (ev_var rfl) (ev_var rfl) hs4)
            refine s_when hcc (fun hb H5 e5 => ?_) (fun hb H5 e5 => ?_)
            · obtain ⟨huL, huF⟩ : u ∈ L ∧ u ∉ F2 := by
                rw [Bool.and_eq_true, Bool.not_eq_true', decide_eq_true_eq, decide_eq_false_iff_not] at hb
                exact hb
              have hs5 := e5 _ _ hs4
              have hw5 := e5 _ _ hw4
              refine ⟨_, rfl, _, rfl, sn, upd H5 sn (.dK (kd (F2 ++ [u]))), rfl, .inl ⟨kd F2, Sum.inl (u : Int), hs5, rfl, by rw [kd_len]; exact small1000 (by omega), by rw [kd_put huF]⟩, ?_⟩
              have hw6 : upd H5 sn (.dK (kd (F2 ++ [u]))) wa = some (.lst (ns W2)) := by rw [upd_ne hsw.symm]; exact hw5
              refine ⟨_, rfl, .inl ⟨rfl, _, .of hw6⟩, _, rfl, wa, _, _, rfl, rfl, hw6, by rw [ns_len]; exact small1000 (by omega), F2 ++ [u], W2 ++ [u], _, rfl, hC2.add hvF2 hun hua huL huF, List.mem_append_left _ hvF2, fun x hx => ?_, fun x hx hxv hxW y hy ha hyL => ?_, fun x hx hxL => ?_, ?_, ?_, Ex.mut (Ex.mut (e4.trans e5) hsn) hH_wa, ?_, ?_⟩
              · rcases List.mem_append.mp hx with hx | hx
                · exact List.mem_append_left _ (hWF2 x hx)
                · exact List.mem_append_right _ hx
              · have hxW2 : x ∉ W2 := fun h => hxW (List.mem_append_left _ h)
                have hxu : x ≠ u := fun h => hxW (List.mem_append_right _ (by rw [h]; simp))
                have hxF2 : x ∈ F2 := (List.mem_append.mp hx).elim id fun h => absurd (List.mem_singleton.mp h) hxu
                exact List.mem_append_left _ (hd2 x hxF2 hxv hxW2 y hy ha hyL)
              · rw [ek] at hx
                rcases List.mem_append.mp hx with hx | hx
                · exact List.mem_append_left _ (hd3 x hx hxL)
                · exact List.mem_append_right _ hx
              · rw [List.length_append]
                omega
              · rw [List.length_append, List.length_append]
                show W2.length + 1 + F.length = W0.length + (F2.length + 1)
                omega
              · rw [upd_ne hsw, upd_same]
              · rw [upd_same, ns_append]
                rfl
            · refine ⟨F2, W2, _, rfl, hC2, hvF2, hWF2, hd2, fun x hx hxL => ?_, hl1, hl2, e4.trans e5, e5 _ _ hs4, e5 _ _ hw4⟩
              rw [ek] at hx
              rcases List.mem_append.mp hx with hx | hx
              · exact hd3 x hx hxL
              · have e := List.mem_singleton.mp hx
                subst e
                refine Classical.byContradiction fun hn => ?_
                rw [decide_eq_true hxL, decide_eq_false hn] at hb
                exact absurd hb (by decide)
          · obtain ⟨F2, W2, z5, rfl, hC2, hvF2, hWF2, hd2, hd3, hl1, hl2, e4, hs4, hw4⟩ := hP
            rw [ns_len, List.take_length] at hd3
            refine ⟨F2, W2, z5, rfl, hC2, hWF2, fun x hx hxW u hu ha huL => ?_, hl1, hl2, e4, hs4, hw4⟩
            by_cases hxv : x = v
            · subst hxv
              exact hd3 u (mem_nb.mpr ⟨hu, ha⟩) huL
            · exact hd2 x hx hxv hxW u hu ha huL
      · have hWe : W = [] := by
          rw [Bool.not_eq_true', decide_eq_false_iff_not, Classical.not_not] at hb
          exact hb
        subst hWe
        have hs2 := e2 _ _ hs1
        refine ⟨_, rfl, sn, kd F, F.map (fun k : Nat => (k : Int)), rfl, .of hs2, kd_keys F, by rw [List.length_map]; omega, fun is p hp hs hp0 => ?_⟩
        obtain ⟨R, k1, k3, k4⟩ := sorted_nat hp hs
        rw [k1]
        exact q p _ R (hC.piece (fun v hv u hu ha huL => hdone v hv (by simp) u hu ha huL) (strict_of k4 (k3.nodup_iff.mpr hC.nd)) fun x => k3.mem_iff.symm) (fresh_back (e1.trans e2) hp0) ((e1.trans e2).trans (Ex.new hp0)) upd_same
/-! ### _law_hang -/
abbrev st_law_hang : Stmt := top 34
theorem sc_law_hang : FnScope ["_law_near_here", "_law_places"] ["_law_near_here", "_law_places"] (defScope st_law_hang) := ⟨rfl, rfl, rfl, by decide +kernel, rfl, by decide +kernel, by decide +kernel⟩
def sp_law_hang (K : PySem.W.Frag) : Sp := fun vs H Q _ => ∃ a b n adj L, vs = [.ref a, .ref b] ∧ NearAt H a n adj ∧ Web n adj ∧ SqL K H b (ns L) ∧ Rise n L ∧ ∀ bo H', Ex H H' → (bo = true ↔ Conn adj L) → Q (.bl bo) H'
theorem D_law_hang (L : Ld K mg "_law_hang" st_law_hang) (B : Bt mg) (D_law_reach : Def P w K mg base "_law_reach" 1 ["_law_near_here", "_law_start", "_law_allowed"] (sp_law_reach K)) : Def P w K mg base "_law_hang" 2 ["_law_near_here", "_law_places"] (sp_law_hang K) := by
  refine L.ok (ps := ["_law_near_here", "_law_places"]) sc_law_hang (fun _ _ _ _ _ _ us hl => match us, hl with | [_, _], _ => rfl) (fun vs H Q E h => ?_) (fun f cdv A outer s H vs Q E hr h => ?_)
  · obtain ⟨a, b, n, adj, L, rfl, _⟩ := h
    rfl
  · obtain ⟨a, b, n, adj, L, rfl, hN, hw, hL, hr1, q⟩ := h
    refine ⟨_, (pss_one (ps_ret (pe_and (pe_cmpR op_gt (pe_callB (r := rLn K) call_ln (by rfl) B.len_ (by decide +kernel) (pa_cons (pv 1) pa_nil)) pe_int (nomark _)) (pe_one (pe_cmpR op_eq (pe_callB (r := rLn K) call_ln (by rfl) B.len_ (by decide +kernel) (pa_cons (pe_def D_law_reach (hr.mono (by decide)) (by rfl) (pa_cons (pv 0) (pa_cons (pe_ix (r := rIxL K) ix_list (pv 1) pe_int (fun _ _ => rfl)) (pa_cons (pv 1) pa_nil)))) pa_nil)) (pe_callB (r := rLn K) call_ln (by rfl) B.len_ (by decide +kernel) (pa_cons (pv 1) pa_nil)) (nomark _)))))), ?_⟩
    refine ⟨_, rfl, b, _, rfl, .inl hL, _, _, rfl, rfl, _, rfl, ?_⟩
    cases L with
    | nil => exact iteF (q false H (Ex.refl _) ⟨fun h => absurd h (by decide), fun h => absurd rfl h.1⟩)
    | cons s0 L =>
      have hpos : decide ((0 : Int) < ((ns (s0 :: L)).length : Int)) = true := decide_eq_true (by rw [ns_len, List.length_cons]; omega)
      refine ite2 (fun _ => ?_) (fun h => absurd hpos h)
      refine ⟨_, rfl, _, rfl, b, _, _, .int (s0 : Int), rfl, rfl, hL, atI_nat (j := 0) rfl, _, rfl, a, b, n, adj, s0, s0 :: L, rfl, hN, hw.hi, hL, hr1.lt, List.mem_cons_self, fun r H1 R hR hr e1 k1 => ?_⟩
      refine ⟨r, _, rfl, .inl (.of k1), _, rfl, b, _, rfl, .inl (ex_l e1 hL), rfl, ?_⟩
      refine q _ H1 e1 ?_
      rw [ns_len, ns_len, decide_eq_true_eq, piece_conn hw hr1.lt List.mem_cons_self hR, ← piece_all_len hr1 List.mem_cons_self hR]
      constructor
      · intro h
        injection h with h
        omega
      · intro h
        rw [h]
/-! ### _law_is_set -/
abbrev st_law_is_set : Stmt := top 36
theorem sc_law_is_set : FnScope ["_law_near_here", "_law_places"] ["_law_near_here", "_law_places"] (defScope st_law_is_set) := ⟨rfl, rfl, rfl, by decide +kernel, rfl, by decide +kernel, by decide +kernel⟩
def sp_law_is_set (K : PySem.W.Frag) : Sp := fun vs H Q _ => ∃ a b n adj L, vs = [.ref a, .ref b] ∧ NearAt H a n adj ∧ Web n adj ∧ SqL K H b (ns L) ∧ Rise n L ∧ ∀ bo H', Ex H H' → (bo = true ↔ IsBusy n adj L) → Q (.bl bo) H'
theorem D_law_is_set (L : Ld K mg "_law_is_set" st_law_is_set) (B : Bt mg) (D_law_hang : Def P w K mg base "_law_hang" 2 ["_law_near_here", "_law_places"] (sp_law_hang K)) (D_law_touched : Def P w K mg base "_law_touched" 1 ["_law_near_here", "_law_places"] (sp_law_touched K)) : Def P w K mg base "_law_is_set" 3 ["_law_near_here", "_law_places"] (sp_law_is_set K) := by
  refine L.ok (ps := ["_law_near_here", "_law_places"]) sc_law_is_set (fun _ _ _ _ _ _ us hl => match us, hl with | [_, _], _ => rfl) (fun vs H Q E h => ?_) (fun f cdv A outer s H vs Q E hr h => ?_)
  · obtain ⟨a, b, n, adj, L, rfl, _⟩ := h
    rfl
  · obtain ⟨a, b, n, adj, L, rfl, hN, hw, hL, hr1, q⟩ := h
    refine ⟨_, (pss_one (ps_ret (pe_and (pe_def D_law_hang (hr.mono (by decide)) (by rfl) (pa_cons (pv 0) (pa_cons (pv 1) pa_nil))) (pe_one (pe_cmpR op_eq (pe_op op_add (pe_callB (r := rLn K) call_ln (by rfl) B.len_ (by decide +kernel) (pa_cons (pe_def D_law_touched (hr.mono (by decide)) (by rfl) (pa_cons (pv 0) (pa_cons (pv 1) pa_nil))) pa_nil)) (pe_callB (r := rLn K) call_ln (by rfl) B.len_ (by decide +kernel) (pa_cons (pv 1) pa_nil))) (pe_callB (r := rLn K) call_ln (by rfl) B.len_ (by decide +kernel) (pa_cons (pv 0) pa_nil)) (nomark _)))))), ?_⟩
    refine ⟨_, rfl, _, rfl, a, b, n, adj, L, rfl, hN, hw, hL, hr1, fun bo H1 e1 hbo => ⟨bo, rfl, ?_⟩⟩
    cases bo with
    | false => exact iteF (q false H1 e1 ⟨fun h => absurd h (by decide), fun h => absurd (hbo.mpr h.conn) (by decide)⟩)
    | true =>
      refine iteT ?_
      have hc := hbo.mp rfl
      refine ⟨_, rfl, _, rfl, a, b, n, adj, L, rfl, hN.mono e1, hw.hi, ex_l e1 hL, hr1.lt, fun r H2 hr e2 k2 => ?_⟩
      obtain ⟨rs, g1, g2, g3⟩ := hN.ex
      refine ⟨r, _, rfl, .inl (.of k2), _, rfl, b, _, rfl, .inl (ex_l (e1.trans e2) hL), _, _, rfl, rfl, _, rfl, a, _, rfl, .inl (.of ((e1.trans e2) _ _ g1)), rfl, ?_⟩
      refine q _ H2 (e1.trans e2) ?_
      rw [ns_len, ns_len, List.length_map, g2, decide_eq_true_eq]
      constructor
      · intro h
        injection h with h
        exact ⟨hc, (touch_len hr1).mp (by omega)⟩
      · intro h
        show V.int (((touchB n adj L).length : Int) + (L.length : Int)) = V.int (n : Int)
        rw [show ((touchB n adj L).length : Int) + (L.length : Int) = (n : Int) by have := (touch_len hr1).mpr h.dom; omega]
end
end ML
set_option Elab.async false
set_option linter.all false
set_option maxRecDepth 100000
set_option maxHeartbeats 4000000
namespace ML
open PySem PySem.Spec PyProof.Rows L2 Evl
/-! ### sets by numbers -/
def setOf (n m : Nat) : List Nat := (List.range n).filter fun v => Nat.testBit m v
def numOf (B : List Nat) : Nat → Nat
  | 0 => 0
  | n + 1 => if n ∈ B then 2 ^ n + numOf B n else numOf B n
theorem numOf_lt (B : List Nat) : ∀ n, numOf B n < 2 ^ n
  | 0 => by show 0 < 1; omega
  | n + 1 => by
    have ih := numOf_lt B n
    have e : 2 ^ (n + 1) = 2 ^ n + 2 ^ n := by rw [Nat.pow_succ]; omega
    unfold numOf
    split <;> omega
theorem numOf_bit (B : List Nat) : ∀ n v, v < n → Nat.testBit (numOf B n) v = decide (v ∈ B)
  | 0, v, h => absurd h (by omega)
  | n + 1, v, h => by
    have hlt := numOf_lt B n
    unfold numOf
    by_cases hv : v = n
    · subst hv
      by_cases hB : v ∈ B
      · rw [if_pos hB, Nat.testBit_two_pow_add_eq, Nat.testBit_lt_two_pow hlt, decide_eq_true hB]
        rfl
      · rw [if_neg hB, Nat.testBit_lt_two_pow hlt, decide_eq_false hB]
    · have hvn : v < n := by omega
      have ih := numOf_bit B n v hvn
      by_cases hB : n ∈ B
      · rw [if_pos hB, Nat.testBit_two_pow_add_gt hvn, ih]
      · rw [if_neg hB, ih]
theorem setOf_num {n : Nat} {B : List Nat} (hB : Rise n B) : setOf n (numOf B n) = B := by
  exact Eq.trans (List.filter_congr fun v hv => numOf_bit B n v (List.mem_range.mp hv)) hB.eq_filter.symm
theorem bit_val (m v : Nat) : decide (V.int (Builtin.bitAnd ((m : Int) / 2 ^ ((v : Int)).toNat) 1) = V.int 1) = Nat.testBit m v := by
  have e0 : ((v : Int)).toNat = v := by omega
  have e1 : ((m : Int) / 2 ^ v) = ((m / 2 ^ v : Nat) : Int) := by
    rw [Int.natCast_ediv, Int.natCast_pow]
    rfl
  have e2 := Bits.bitAnd_mask (x := ((m / 2 ^ v : Nat) : Int)) 1 (Int.natCast_nonneg _)
  rw [e0, e1]
  have e3 : Builtin.bitAnd ((m / 2 ^ v : Nat) : Int) 1 = ((m / 2 ^ v : Nat) : Int) % 2 := e2
  rw [e3, Nat.testBit_eq_decide_div_mod_eq]
  by_cases h : m / 2 ^ v % 2 = 1
  · rw [decide_eq_true h]
    exact decide_eq_true (congrArg V.int (by omega))
  · rw [decide_eq_false h]
    exact decide_eq_false fun e => h (by injection e; omega)
/-! ### lists of tuples of places -/
def Tups (H : Hp) (ts : List Addr) (Bs : List (List Nat)) : Prop := Paired (fun t B => H t = some (.tup (ns B))) ts Bs
theorem Tups.mono {H H' : Hp} {ts : List Addr} {Bs : List (List Nat)} (h : Tups H ts Bs) (e : Ex H H') : Tups H' ts Bs := Paired.mapP h fun _ _ q => e _ _ q
theorem tups_upd {H : Hp} {ts : List Addr} {Bs : List (List Nat)} {o : Addr} {u x : HO} (h : Tups H ts Bs) (ho : H o = some u) (hu : ∀ xs, u ≠ .tup xs) : Tups (upd H o x) ts Bs := Paired.mapP h fun t e ht => by
  rw [upd_ne (ne_of ht ho fun c => hu _ c.symm)]
  exact ht
theorem tups_snoc {H : Hp} {ts : List Addr} {Bs : List (List Nat)} {t : Addr} {B : List Nat} (h : Tups H ts Bs) (ht : H t = some (.tup (ns B))) : Tups H (ts ++ [t]) (Bs ++ [B]) := by
  unfold Tups at h ⊢
  induction h with
  | nil => exact .cons ht .nil
  | cons a _ ih => exact .cons a ih
theorem tups_len {H : Hp} {ts : List Addr} {Bs : List (List Nat)} (h : Tups H ts Bs) : ts.length = Bs.length := Paired.length h
theorem tups_at {H : Hp} : ∀ {ts : List Addr} {Bs : List (List Nat)} {i : Nat} {t : Addr}, Tups H ts Bs → ts[i]? = some t → ∃ B, Bs[i]? = some B ∧ H t = some (.tup (ns B))
  | _, _, _, _, .nil, h => by simp at h
  | _, _, 0, _, .cons a _, h => ⟨_, rfl, by have := Option.some.inj h; rw [← this]; exact a⟩
  | _, _, i + 1, _, .cons _ r, h => tups_at (i := i) r h
def tD (Bs : List (List Nat)) : List PyData := Bs.map fun B => .tuple (di B)
theorem tups_dp {K : PySem.W.Frag} {H : Hp} : ∀ {ts : List Addr} {Bs : List (List Nat)}, Tups H ts Bs → DpAll K H (ts.map V.ref) (tD Bs)
  | _, _, .nil => .nil
  | _, _, .cons a r => .cons (.tup (.of a) (dp_ns _)) (tups_dp r)
theorem tD_lay : ∀ Bs : List (List Nat), PyData.canLayAll0 (tD Bs) = true
  | [] => by simp [tD, PyData.canLayAll0]
  | B :: Bs => by
    have h1 := tD_lay Bs
    have h2 := di_lay B
    simp only [tD, List.map_cons, PyData.canLayAll0, PyData.canLay0] at h1 ⊢
    rw [h1, h2]
    rfl
theorem tD_depth : ∀ Bs : List (List Nat), PyData.depthAll (tD Bs) ≤ 1
  | [] => by simp [tD, PyData.depthAll]
  | B :: Bs => by
    have h1 := tD_depth Bs
    have h2 := di_depth B
    simp only [tD, List.map_cons, PyData.depthAll, PyData.depth] at h1 ⊢
    omega
theorem tD_sh (Bs : List (List Nat)) : SeqAt.shaped (.list (tD Bs)) = true := by
  show (PyData.canLay0 (.list (tD Bs)) && decide (PyData.depth (.list (tD Bs)) ≤ 64)) = true
  have h1 := tD_lay Bs
  have h2 := tD_depth Bs
  rw [Bool.and_eq_true]
  exact ⟨by simp only [PyData.canLay0]; exact h1, decide_eq_true (by simp only [PyData.depth]; omega)⟩
theorem tD_any (B : List Nat) : ∀ Bs : List (List Nat), ((tD Bs).any fun z => PyData.eqv z (.tuple (di B))) = decide (B ∈ Bs)
  | [] => by simp [tD]
  | C :: Bs => by
    have ih := tD_any B Bs
    show (PyData.eqv (.tuple (di C)) (.tuple (di B)) || (tD Bs).any fun z => PyData.eqv z (.tuple (di B))) = _
    rw [ih, di_eqT]
    by_cases h : C = B
    · subst h
      rw [decide_eq_true rfl, decide_eq_true List.mem_cons_self]
      rfl
    · rw [decide_eq_false h, Bool.false_or]
      exact decide_eq_decide.mpr ⟨fun hm => List.mem_cons_of_mem _ hm, fun hm => (List.mem_cons.mp hm).elim (fun e => absurd e.symm h) id⟩
theorem tD_nil (Bs : List (List Nat)) : PyData.eqv (.list (tD Bs)) (.list []) = Bs.isEmpty := by
  cases Bs <;> simp [tD, PyData.eqv, PyData.eqvAll]
section
variable {P : Program} {w : World} {K : PySem.W.Frag} {mg : Str → Option Value} {base : Heap}
/-! ### _law_all_sets -/
abbrev st_law_all_sets : Stmt := top 37
theorem sc_law_all_sets : FnScope ["_law_near_here", "_law_found", "_law_number", "_law_places", "_law_place"] ["_law_near_here"] (defScope st_law_all_sets) := ⟨rfl, rfl, rfl, by decide +kernel, rfl, by decide +kernel, by decide +kernel⟩
def sp_law_all_sets (K : PySem.W.Frag) : Sp := fun vs H Q _ => ∃ a n adj, vs = [.ref a] ∧ NearAt H a n adj ∧ Web n adj ∧
  ∀ r H' ts Bs, H r = none → Ex H H' → H' r = some (.lst (ts.map V.ref)) → Tups H' ts Bs → (∀ B, B ∈ Bs ↔ Rise n B ∧ IsBusy n adj B) → Q (.ref r) H'
theorem D_law_all_sets (L : Ld K mg "_law_all_sets" st_law_all_sets) (B : Bt mg) (D_law_is_set : Def P w K mg base "_law_is_set" 3 ["_law_near_here", "_law_places"] (sp_law_is_set K)) : Def P w K mg base "_law_all_sets" 4 ["_law_near_here"] (sp_law_all_sets K) := by
  refine L.ok (ps := ["_law_near_here"]) sc_law_all_sets (fun _ _ _ _ _ _ us hl => match us, hl with | [_], _ => rfl) (fun vs H Q E h => ?_) (fun f cdv A outer s H vs Q E hr h => ?_)
  · obtain ⟨a, n, adj, rfl, _⟩ := h
    rfl
  · obtain ⟨a, n, adj, rfl, hN, hw, q⟩ := h
    refine ⟨_, (pss_cons (ps_set (i := 1) sc_law_all_sets.nd rfl (.inl rfl) (pe_lst pa_nil))
      (pss_cons (ps_for PassesOwn.never rfl (pi_range2 (by rfl) B.range_ (pa_cons pe_int (pa_cons (pe_op op_shl pe_int (pe_callB (r := rLn K) call_ln (by rfl) B.len_ (by decide +kernel) (pa_cons (pv 0) pa_nil))) pa_nil))) (pg_name (i := 2) sc_law_all_sets.nd rfl (.inr rfl))
        (pss_cons (ps_setLc (i := 3) (own := [("_law_place", 4)]) (g := gName 4) (by rfl) sc_law_all_sets.nd rfl rfl (sw_true rfl rfl rfl (by decide +kernel)) (pi_range1 (by rfl) B.range_ (pa_cons (pe_callB (r := rLn K) call_ln (by rfl) B.len_ (by decide +kernel) (pa_cons (pv 0) pa_nil)) pa_nil)) (blkOk_by (N := ["_law_near_here", "_law_found", "_law_number", "_law_places", "_law_place"]) (sc := defScope st_law_all_sets) (by decide +kernel)) (fun _ _ _ _ _ => (pg_name (i := 4) sc_law_all_sets.nd rfl (.inl rfl))) (fun _ _ _ _ _ => (pts_one (pt_cmpR op_eq (pe_op op_and (pe_op op_shr (pv 2) (pv 4)) pe_int) pe_int (nomark _)))) (fun _ _ _ _ _ => (pv 4)))
      (pss_one (ps_if (pt_val (pe_def D_law_is_set (hr.mono (by decide)) (by rfl) (pa_cons (pv 0) (pa_cons (pv 3) pa_nil)))) (pss_one (ps_expr (pe_bm PySem.F.plainAttrs_list PySem.F.slot_list_append PySem.F.type_list_append mt_append (pv 1) (pa_cons (pe_callTy (r := rTp K) call_tp (by rfl) B.tuple_ (by decide +kernel) (pa_cons (pv 3) pa_nil)) pa_nil)))) pss_nil))))
      (pss_one (ps_ret (pv 1))))), ?_⟩
    have hhi := hw.hi
    obtain ⟨rs, g1, g2, g3⟩ := hN.ex
    refine ⟨Nat.zero_le _, fun fo hfo => ?_⟩
    have e0 : Ex H (upd H fo (.lst [])) := Ex.new hfo
    obtain ⟨M, hM⟩ : ∃ M : Nat, 2 ^ n = M := ⟨_, rfl⟩
    have hp2 : M ≤ 64 := by rw [← hM]; exact Nat.pow_le_pow_right (n := 2) (by decide) hhi
    have hp1 : (1 : Int) * 2 ^ (((rs.map V.ref).length : Int)).toNat = (M : Int) := by
      rw [← hM, List.length_map, g2, Int.natCast_pow, Int.one_mul]
      rfl
    refine ⟨_, rfl, a, _, rfl, .inl (.of (e0 _ _ g1)), _, _, rfl, rfl, ⟨by omega, by rw [List.length_map]; omega, by decide⟩, 1, (M : Int), congrArg (fun z => [V.int 1, V.int z]) hp1, ⟨by decide, by decide, by omega, by omega⟩, ?_⟩
    have en : ((M : Int) - 1).toNat = M - 1 := by omega
    rw [en]
    refine for_range (fun i σ H' => Ex H H' ∧ (∃ y2 y3, σ = [some (.ref a), some (.ref fo), y2, y3, none]) ∧ ∃ ts Bs, H' fo = some (.lst (ts.map V.ref)) ∧ Tups H' ts Bs ∧ ts.length ≤ i ∧ (∀ B ∈ Bs, Rise n B ∧ IsBusy n adj B) ∧ ∀ m, 1 ≤ m → m < 1 + i → IsBusy n adj (setOf n m) → setOf n m ∈ Bs)
      ⟨e0, ⟨_, _, rfl⟩, [], [], upd_same, .nil, Nat.le_refl _, fun B hB => absurd hB (by simp), fun m h1 h2 => absurd h2 (by omega)⟩ (fun i σ H' hi hP => ?_) (fun σ H' hP => ?_)
    · obtain ⟨e1, ⟨y2, y3, rfl⟩, ts, Bs, hf, hT, htl, hB, hall⟩ := hP
      have em : (1 : Int) + (i : Int) = ((1 + i : Nat) : Int) := by omega
      rw [em]
      have hC : EvL (tLc (iRng1 (tCons (tCB (rLn K) (tCons (tVar 0) tNil)) tNil)) (gName 4) (tTest (tOp rEq (tOp (rI0 fun i j => .int (Builtin.bitAnd i j)) (tOp (rI (fun _ j => 0 ≤ j) fun i j => .int (i / 2 ^ j.toNat)) (tVar 2) (tVar 4)) (tC (.int 1))) (tC (.int 1)))) (tVar 4) [4])
          [some (.ref a), some (.ref fo), some (.int ((1 + i : Nat) : Int)), y3, none] H' (ns (setOf n (1 + i))) := by
        refine el_R n (fun v => Nat.testBit (1 + i) v) (fun v => .int (v : Int)) (m := ((rs.map V.ref).length : Int)) (ea_cons (ev_lnL (ev_var rfl) (.of (e1 _ _ g1))) ea_nil) (by rw [List.length_map, g2]) (by omega) (fun _ => rfl) (fun v hv => ?_) (fun v hv _ => ev_var rfl)
        refine et_is (et_test (ev_op (ev_op (ev_op (ev_var rfl) (ev_var rfl) (rv_I (by show (0 : Int) ≤ (v : Int); omega))) ev_c rv_I0) ev_c (rv_eq rfl))) (bit_val (1 + i) v)
      refine q_asgL hC fun pl H2 hpl e2 hpl2 => ?_
      have hrS : Rise n (setOf n (1 + i)) := Rise.range n _
      refine ⟨_, rfl, _, rfl, a, pl, n, adj, setOf n (1 + i), rfl, hN.mono (e1.trans e2), hw, .of hpl2, hrS, fun bo H3 e3 hbo => ⟨bo, rfl, ?_⟩⟩
      have hf3 := e3 _ _ (e2 _ _ hf)
      have hT3 := hT.mono (e2.trans e3)
      cases bo with
      | false =>
        refine iteF ⟨(e1.trans e2).trans e3, ⟨_, _, rfl⟩, ts, Bs, hf3, hT3, by omega, hB, fun m h1 h2 hb => ?_⟩
        by_cases hm : m = 1 + i
        · subst hm
          exact absurd (hbo.mpr hb) (by decide)
        · exact hall m h1 (by omega) hb
      | true =>
        refine iteT ?_
        refine ⟨_, rfl, .inl ⟨rfl, _, .of hf3⟩, _, rfl, pl, _, rfl, .inl ⟨.of (e3 _ _ hpl2), fun t ht => ?_⟩⟩
        have hft : fo ≠ t := ne_of_none hf3 ht
        refine ⟨fo, ts.map V.ref, _, rfl, rfl, by rw [upd_ne hft]; exact hf3, by rw [List.length_map]; exact small1000 (by omega), Ex.mut (((e1.trans e2).trans e3).trans (Ex.new ht)) hfo, ⟨_, _, rfl⟩, ts ++ [t], Bs ++ [setOf n (1 + i)], by rw [upd_same, List.map_append]; rfl, ?_, by rw [List.length_append]; show _ + 1 ≤ _; omega, fun B hBm => ?_, fun m h1 h2 hb => ?_⟩
        · exact tups_upd (tups_snoc (hT3.mono (Ex.new ht)) upd_same) (by rw [upd_ne hft]; exact hf3) no_tupL
        · rcases List.mem_append.mp hBm with hBm | hBm
          · exact hB B hBm
          · rw [List.mem_singleton.mp hBm]
            exact ⟨hrS, hbo.mp rfl⟩
        · by_cases hm : m = 1 + i
          · subst hm
            exact List.mem_append_right _ (by simp)
          · exact List.mem_append_left _ (hall m h1 (by omega) hb)
    · obtain ⟨e1, ⟨y2, y3, rfl⟩, ts, Bs, hf, hT, htl, hB, hall⟩ := hP
      refine ⟨_, rfl, q fo H' ts Bs hfo e1 hf hT fun B => ⟨hB B, fun ⟨hr, hb⟩ => ?_⟩⟩
      have h1 := numOf_lt B n
      rw [hM] at h1
      have h2 := setOf_num hr
      have h3 : 1 ≤ numOf B n := by
        cases h : numOf B n with
        | zero =>
          rw [h] at h2
          have : setOf n 0 = [] := List.filter_eq_nil_iff.mpr fun v _ => by rw [Nat.zero_testBit]; decide
          rw [this] at h2
          exact absurd h2.symm hb.conn.1
        | succ k => omega
      have := hall (numOf B n) h3 (by omega) (by rw [h2]; exact hb)
      rw [h2] at this
      exact this
/-! ### _law_is_lean -/
abbrev st_law_is_lean : Stmt := top 42
theorem sc_law_is_lean : FnScope ["_law_sets", "_law_busy", "_law_lesser", "_law_place", "_law_one", "_law_k"] ["_law_sets", "_law_busy"] (defScope st_law_is_lean) := ⟨rfl, rfl, rfl, by decide +kernel, rfl, by decide +kernel, by decide +kernel⟩
def sp_law_is_lean (K : PySem.W.Frag) : Sp := fun vs H Q _ => ∃ a b ts Bs L, vs = [.ref a, .ref b] ∧ SqL K H a (ts.map V.ref) ∧ Tups H ts Bs ∧ SqT K H b (ns L) ∧ L.length ≤ 100 ∧ ∀ bo H', Ex H H' → (bo = true ↔ ∀ p, p ∈ L → wop L p ∉ Bs) → Q (.bl bo) H'
theorem D_law_is_lean (L : Ld K mg "_law_is_lean" st_law_is_lean) (B : Bt mg) : Def P w K mg base "_law_is_lean" 1 ["_law_sets", "_law_busy"] (sp_law_is_lean K) := by
  refine L.ok (ps := ["_law_sets", "_law_busy"]) sc_law_is_lean (fun _ _ _ _ _ _ us hl => match us, hl with | [_, _], _ => rfl) (fun vs H Q E h => ?_) (fun f cdv A outer s H vs Q E hr h => ?_)
  · obtain ⟨a, b, ts, Bs, L, rfl, _⟩ := h
    rfl
  · obtain ⟨a, b, ts, Bs, L, rfl, hA, hT, hL, hz, q⟩ := h
    refine ⟨_, (pss_cons (ps_setLc (i := 2) (own := [("_law_place", 3)]) (g := gName 3) (tt := tYes) (by rfl) sc_law_is_lean.nd rfl rfl (sw_true rfl rfl rfl (by decide +kernel)) (pi_tupK K rfl (pv 1)) (blkOk_by (N := ["_law_sets", "_law_busy", "_law_lesser", "_law_place", "_law_one", "_law_k"]) (sc := defScope st_law_is_lean) (by decide +kernel)) (fun _ _ _ _ _ => (pg_name (i := 3) sc_law_is_lean.nd rfl (.inr rfl))) (fun _ _ _ _ _ => pts_nil) (fun _ _ _ _ _ => (pe_callTy (r := rTp K) call_tp (by rfl) B.tuple_ (by decide +kernel) (pa_cons (pe_lc (own := [("_law_k", 5)]) (g := gName 5) (by rfl) sc_law_is_lean.nd (pi_tupK K rfl (pv 1)) (blkOk_by (N := ["_law_sets", "_law_busy", "_law_lesser", "_law_place", "_law_one", "_law_k"]) (sc := relS _ (defScope st_law_is_lean)) (by decide +kernel)) (fun _ _ _ _ _ => (pg_name (i := 5) sc_law_is_lean.nd rfl (.inl rfl))) (fun _ _ _ _ _ => (pts_one (pt_cmpR op_ne (pv 5) (pv 3) (nomark _)))) (fun _ _ _ _ _ => (pv 5))) pa_nil))))
      (pss_one (ps_ret (pe_cmpR (r := rEqD K) (op_eqD hr.units) (pe_lc (own := [("_law_one", 4)]) (g := gName 4) (by rfl) sc_law_is_lean.nd (pi_listK K rfl (pv 2)) (blkOk_by (N := ["_law_sets", "_law_busy", "_law_lesser", "_law_place", "_law_one", "_law_k"]) (sc := defScope st_law_is_lean) (by decide +kernel)) (fun _ _ _ _ _ => (pg_name (i := 4) sc_law_is_lean.nd rfl (.inl rfl))) (fun _ _ _ _ _ => (pts_one (pt_cmpR (r := rInD K) (op_inD (hu65 hr)) (pv 4) (pv 0) (by rfl)))) (fun _ _ _ _ _ => (pv 4))) (pe_lst pa_nil) (nomark _))))), ?_⟩
    refine ⟨_, rfl, b, rfl, ⟨_, hL⟩, fun D hD => ?_⟩
    refine lc_tup (xs := ns L) (fun i H2 => ∃ ls : List Addr, Ex H H2 ∧ H2 D = some (.lst (ls.map V.ref)) ∧ Tups H2 ls ((L.take i).map (wop L))) ⟨[], Ex.new hD, upd_same, .nil⟩ (fun i H2 _ hP => ex_t hP.choose_spec.1 hL) (fun i x H2 hi hP => ?_) (fun H2 hP => ?_)
    · obtain ⟨ls, e2, hD2, hls⟩ := hP
      obtain ⟨v, hv, hvm, rfl⟩ := ns_got hi
      refine ⟨rfl, yes_go ?_⟩
      refine ⟨_, rfl, b, rfl, ⟨_, ex_t e2 hL⟩, fun D2 hD2' => ?_⟩
      refine lcT L (ex_t e2 hL) (by omega) (fun x => decide (x ≠ v)) (fun v => .int (v : Int)) (fun _ => ?_) (fun u hu => ?_) (fun u hu _ => ?_) hD2' fun H3 e3 hl3 => ?_
      · rfl
      · refine et_is (et_test (ev_op (ev_var rfl) (ev_var rfl) (rv_ne rfl))) ?_
        rw [dec_ns]
        exact decide_not.symm
      · exact ev_var rfl
      · refine ⟨D2, _, rfl, .inl ⟨.of hl3, fun t ht => ?_⟩⟩
        have hD3 := e3 _ _ hD2
        have hDt : D ≠ t := ne_of_none hD3 ht
        have ek : L.take (i + 1) = L.take i ++ [v] := by rw [List.take_add_one, hv]; rfl
        have hll := tups_len hls
        rw [List.length_map, List.length_take] at hll
        have := Nat.min_le_right i L.length
        refine ⟨ls.map V.ref, by rw [upd_ne hDt]; exact hD3, by rw [List.length_map]; exact small1000 (by omega), ls ++ [t], Ex.mut ((e2.trans e3).trans (Ex.new ht)) hD, by rw [upd_same, List.map_append]; rfl, ?_⟩
        rw [ek, List.map_append]
        exact tups_upd (tups_snoc ((hls.mono e3).mono (Ex.new ht)) upd_same) (by rw [upd_ne hDt]; exact hD3) no_tupL
    · obtain ⟨ls, e2, hD2, hls⟩ := hP
      rw [ns_len, List.take_length] at hls
      have hll := tups_len hls
      rw [List.length_map] at hll
      refine ⟨_, rfl, D, rfl, ⟨_, .of hD2⟩, fun D3 hD3 => ?_⟩
      refine lc_list (xs := ls.map V.ref) (fun i H3 => ∃ (as : List Addr) (As : List (List Nat)), Ex H2 H3 ∧ H3 D3 = some (.lst (as.map V.ref)) ∧ Tups H3 as As ∧ as.length ≤ i ∧ (As = [] ↔ ∀ (j p : Nat), j < i → L[j]? = some p → wop L p ∉ Bs)) ⟨[], [], Ex.new hD3, upd_same, .nil, Nat.le_refl _, fun _ j p hj => absurd hj (by omega), fun _ => rfl⟩ (fun i H3 _ hP => by obtain ⟨_, _, e3, _⟩ := hP; exact .of (e3 _ _ hD2)) (fun i x H3 hi hP => ?_) (fun H3 hP => ?_)
      · obtain ⟨as, As, e3, hD4, has, hal, hiff⟩ := hP
        rw [List.getElem?_map] at hi
        cases ht : ls[i]? with
        | none => rw [ht] at hi; cases hi
        | some t =>
          rw [ht] at hi
          have hx := (Option.some.inj hi).symm
          subst hx
          obtain ⟨B, hB, hBt⟩ := tups_at hls ht
          rw [List.getElem?_map] at hB
          cases hp : L[i]? with
          | none => rw [hp] at hB; cases hB
          | some p =>
            rw [hp] at hB
            have hBp := (Option.some.inj hB).symm
            subst hBp
            have hil := (List.getElem?_eq_some_iff.mp hp).1
            have hBt3 := e3 _ _ hBt
            refine ⟨rfl, ?_⟩
            refine ⟨_, rfl, _, rfl, .tuple (di (wop L p)), tD Bs, .tup (.of hBt3) (dp_ns _), .lst (ex_l (e2.trans e3) hA) (tups_dp (hT.mono (e2.trans e3))), di_shT _, tD_sh Bs, _, rfl, ?_⟩
            rw [tD_any]
            refine ite2 (fun hc => ?_) (fun hc => ?_)
            · refine ⟨_, rfl, as.map V.ref, hD4, by rw [List.length_map]; exact small1000 (by omega), as ++ [t], As ++ [wop L p], Ex.mut e3 hD3, by rw [upd_same, List.map_append]; rfl, ?_, by rw [List.length_append]; show _ + 1 ≤ _; omega, fun h => absurd h (by simp), fun h => absurd (of_decide_eq_true hc) (h i p (by omega) hp)⟩
              exact tups_upd (tups_snoc has hBt3) hD4 no_tupL
            · refine ⟨as, As, e3, hD4, has, by omega, hiff.trans ⟨fun h j p' hj hp' => ?_, fun h j p' hj hp' => h j p' (by omega) hp'⟩⟩
              by_cases hji : j = i
              · subst hji
                rw [hp] at hp'
                cases hp'
                exact fun hm => hc (decide_eq_true hm)
              · exact h j p' (by omega) hp'
      · obtain ⟨as, As, e3, hD4, has, hal, hiff⟩ := hP
        rw [List.length_map] at hiff
        refine ⟨Nat.zero_le _, fun l hl => ?_⟩
        have hDl : D3 ≠ l := ne_of_none hD4 hl
        refine ⟨.list (tD As), .list [], .lst (.of (by rw [upd_ne hDl]; exact hD4)) (tups_dp (has.mono (Ex.new hl))), .lst (.of upd_same) .nil, tD_sh As, di_shL [], ?_⟩
        refine q _ _ ((e2.trans e3).trans (Ex.new hl)) ?_
        rw [tD_nil, List.isEmpty_iff, hiff]
        constructor
        · intro h p hp
          obtain ⟨j, hj⟩ := List.getElem?_of_mem hp
          exact h j p (by have := (List.getElem?_eq_some_iff.mp hj).1; omega) hj
        · intro h j p hj hp
          exact h p (List.mem_of_getElem? hp)
end
end ML
set_option Elab.async false
set_option linter.all false
set_option maxRecDepth 100000
set_option maxHeartbeats 4000000
namespace ML
open PySem PySem.Spec PyProof.Rows L2 Evl
theorem upd_self' {H : Hp} {a : Addr} {o : HO} (h : H a = some o) : upd H a o = H := by
  funext b
  by_cases e : b = a
  · subst e
    rw [upd_same, h]
  · rw [upd_ne e]
/-- a deck: a list of ints -/
def Dk (d : Addr) (H : Hp) : Prop := ∃ ds : List Int, H d = some (.lst (ds.map V.int))
section
variable {P : Program} {w : World} {K : PySem.W.Frag} {mg : Str → Option Value} {base : Heap}
/-! ### _law_mixed -/
abbrev st_law_mixed : Stmt := top 27
theorem sc_law_mixed : FnScope ["_law_cell", "_law_k", "_law_number"] ["_law_cell", "_law_k"] (defScope st_law_mixed) := ⟨rfl, rfl, rfl, by decide +kernel, rfl, by decide +kernel, by decide +kernel⟩
def sp_law_mixed (K : PySem.W.Frag) : Sp := fun vs H Q _ => ∃ c k : Int, vs = [.int c, .int k] ∧ 0 ≤ k ∧ k ≤ 1000000 ∧ ∀ z, Q (.int z) H
theorem D_law_mixed (L : Ld K mg "_law_mixed" st_law_mixed) (B : Bt mg) : Def P w K mg base "_law_mixed" 1 ["_law_cell", "_law_k"] (sp_law_mixed K) := by
  refine L.ok (ps := ["_law_cell", "_law_k"]) sc_law_mixed (fun _ _ _ _ _ _ us hl => match us, hl with | [_, _], _ => rfl) (fun vs H Q E h => ?_) (fun f cdv A outer s H vs Q E hr h => ?_)
  · obtain ⟨c, k, rfl, _⟩ := h
    rfl
  · obtain ⟨c, k, rfl, h0, h1, q⟩ := h
    refine ⟨_, (pss_cons (ps_set (i := 2) sc_law_mixed.nd rfl (.inl rfl) (pe_op op_mod (pe_op op_add (pe_op op_add (pv 0) (pe_op op_mul (pe_op op_mul (pv 1) (pv 1)) pe_int)) pe_int) pe_int))
      (pss_cons (ps_set (i := 2) sc_law_mixed.nd rfl (.inl rfl) (pe_op op_mod (pe_op op_mul (pv 2) (pv 2)) pe_int))
      (pss_cons (ps_set (i := 2) sc_law_mixed.nd rfl (.inl rfl) (pe_op op_mod (pe_op op_mul (pe_op op_add (pe_op op_add (pv 2) (pe_op op_mul (pv 1) pe_int)) pe_int) pe_int) pe_int))
      (pss_one (ps_ret (pe_op op_fdiv (pe_op op_mod (pe_op op_mul (pv 2) (pv 2)) pe_int) pe_int)))))), ?_⟩
    have hM : (0 : Int) < 2305843009213693951 := by decide
    refine ⟨_, rfl, _, rfl, _, rfl, k, k, rfl, rfl, .inl ⟨by omega, by omega⟩, _, 40503, rfl, rfl, .inr ⟨by decide, by decide⟩, _, _, rfl, rfl, _, 12345, rfl, rfl, _, 2305843009213693951, rfl, rfl, hM, ?_⟩
    have b1 := Int.emod_nonneg (c + k * k * 40503 + 12345) (b := 2305843009213693951) (by decide)
    have b2 := Int.emod_lt_of_pos (c + k * k * 40503 + 12345) hM
    refine ⟨_, rfl, _, rfl, _, _, rfl, rfl, .inl ⟨by omega, by omega⟩, _, 2305843009213693951, rfl, rfl, hM, ?_⟩
    refine ⟨_, rfl, _, rfl, k, 7919, rfl, rfl, .inr ⟨by decide, by decide⟩, _, _, rfl, rfl, _, 1, rfl, rfl, _, 48271, rfl, rfl, .inr ⟨by decide, by decide⟩, _, 2305843009213693951, rfl, rfl, hM, ?_⟩
    have b3 := fun x : Int => Int.emod_nonneg (x * 48271) (b := 2305843009213693951) (by decide)
    have b4 := fun x : Int => Int.emod_lt_of_pos (x * 48271) hM
    refine ⟨_, rfl, _, rfl, _, _, rfl, rfl, .inl ⟨Int.lt_of_lt_of_le (by decide) (b3 _), Int.lt_trans (b4 _) (by decide)⟩, _, 2305843009213693951, rfl, rfl, hM, _, 1024, rfl, rfl, ⟨by decide, by decide⟩, q _⟩
/-! ### _law_next -/
abbrev st_law_next : Stmt := top 29
theorem sc_law_next : FnScope ["_law_deck_here"] ["_law_deck_here"] (defScope st_law_next) := ⟨rfl, rfl, rfl, by decide +kernel, rfl, by decide +kernel, by decide +kernel⟩
def sp_law_next (K : PySem.W.Frag) : Sp := fun vs H Q _ => ∃ d, vs = [.ref d] ∧ Dk d H ∧ ∀ (i : Int) (ds : List Int), Q (.int i) (upd H d (.lst (ds.map V.int)))
theorem D_law_next (L : Ld K mg "_law_next" st_law_next) (B : Bt mg) : Def P w K mg base "_law_next" 1 ["_law_deck_here"] (sp_law_next K) := by
  refine L.ok (ps := ["_law_deck_here"]) sc_law_next (fun _ _ _ _ _ _ us hl => match us, hl with | [_], _ => rfl) (fun vs H Q E h => ?_) (fun f cdv A outer s H vs Q E hr h => ?_)
  · obtain ⟨d, rfl, _⟩ := h
    rfl
  · obtain ⟨d, rfl, ⟨ds, hd⟩, q⟩ := h
    refine ⟨_, (pss_cons (ps_if (pt_cmpR op_gt (pe_callB (r := rLn K) call_ln (by rfl) B.len_ (by decide +kernel) (pa_cons (pv 0) pa_nil)) pe_int (nomark _)) (pss_one (ps_ret (pe_bm0 PySem.F.plainAttrs_list PySem.F.slot_list_pop PySem.F.type_list_pop mt_pop (pv 0)))) pss_nil)
      (pss_one (ps_ret pe_int))), ?_⟩
    refine ⟨_, rfl, d, _, rfl, .inl (.of hd), _, _, rfl, rfl, _, rfl, ite2 (fun hc => ?_) (fun hc => ?_)⟩
    · have hpos : 0 < ds.length := by
        have := of_decide_eq_true hc
        rw [List.length_map] at this
        omega
      have hne : ds ≠ [] := fun e => by rw [e] at hpos; exact absurd hpos (by decide)
      have hl : (ds.map V.int)[(ds.map V.int).length - 1]? = some (.int (ds.getLast hne)) := by
        rw [List.length_map, List.getElem?_map, ← List.getLast?_eq_getElem?, List.getLast?_eq_getLast hne]
        rfl
      refine ⟨_, rfl, .inl ⟨rfl, _, .of hd⟩, d, _, _, rfl, rfl, hd, hl, ?_⟩
      rw [← List.map_dropLast]
      exact q _ _
    · have := q 0 ds
      rw [upd_self' hd] at this
      exact this
/-! ### _law_deck -/
abbrev st_law_deck : Stmt := top 28
theorem sc_law_deck : FnScope ["_law_script", "_law_many", "_law_own", "_law_rest", "_law_deck_here", "_law_k", "_law_at", "_law_cell"] ["_law_script", "_law_many"] (defScope st_law_deck) := ⟨rfl, rfl, rfl, by decide +kernel, rfl, by decide +kernel, by decide +kernel⟩
def sp_law_deck (K : PySem.W.Frag) : Sp := fun vs H Q _ => ∃ (a : Addr) (xs : List Int) (n : Nat), vs = [.ref a, .int (n : Int)] ∧ SqL K H a (xs.map V.int) ∧ xs.length ≤ 63 ∧ n ≤ 900 ∧ ∀ r H' (ds : List Int), H r = none → Ex H H' → H' r = some (.lst (ds.map V.int)) → Q (.ref r) H'
theorem cut60 (xs : List Int) : cutV (xs.map V.int) none (some 60) = (xs.take 60).map V.int := by
  unfold cutV
  rw [HT.sIx_none, show HT.sIx (xs.map V.int).length (xs.map V.int).length (some 60) = min 60 (xs.map V.int).length from HT.sIx_nat (xs.map V.int).length (xs.map V.int).length 60, List.drop_zero, Nat.sub_zero, List.map_take]
  rw [List.length_map]
  by_cases h : 60 ≤ xs.length
  · rw [Nat.min_eq_left h]
  · rw [Nat.min_eq_right (by omega), List.take_of_length_le (by rw [List.length_map]; omega), List.take_of_length_le (by rw [List.length_map]; omega)]
theorem int_get {l : List Int} {i : Nat} {x : V} (h : (l.map V.int)[i]? = some x) : ∃ v, l[i]? = some v ∧ x = .int v := by
  rw [List.getElem?_map] at h
  cases e : l[i]? with
  | none => rw [e] at h; cases h
  | some v => rw [e] at h; exact ⟨v, rfl, (Option.some.inj h).symm⟩
theorem int_at {l : List Int} {i : Nat} (h : i < l.length) : ∃ v, atI (l.map V.int) (i : Int) = some (.int v) := ⟨l[i], atI_nat (by rw [List.getElem?_map, List.getElem?_eq_getElem h]; rfl)⟩
theorem D_law_deck (L : Ld K mg "_law_deck" st_law_deck) (B : Bt mg) (D_law_mixed : Def P w K mg base "_law_mixed" 1 ["_law_cell", "_law_k"] (sp_law_mixed K)) : Def P w K mg base "_law_deck" 2 ["_law_script", "_law_many"] (sp_law_deck K) := by
  refine L.ok (ps := ["_law_script", "_law_many"]) sc_law_deck (fun _ _ _ _ _ _ us hl => match us, hl with | [_, _], _ => rfl) (fun vs H Q E h => ?_) (fun f cdv A outer s H vs Q E hr h => ?_)
  · obtain ⟨a, xs, n, rfl, _⟩ := h
    rfl
  · obtain ⟨a, xs, n, rfl, hA, hx, hn, q⟩ := h
    refine ⟨_, (pss_cut (ps_set (i := 2) sc_law_deck.nd rfl (.inl rfl) (pe_op op_cat (pe_callTy (r := rLi K) call_li (by rfl) B.list_ (by decide +kernel) (pa_cons (pe_slice sl_list (pv 0) po_none (po_some pe_int)) pa_nil)) (pe_op op_rep (pe_lst (pa_cons pe_int pa_nil)) (pe_callTy call_int1 (by rfl) B.int_ (by decide +kernel) (pa_cons (pe_cmpR op_eq (pe_callB (r := rLn K) call_ln (by rfl) B.len_ (by decide +kernel) (pa_cons (pv 0) pa_nil)) pe_int (nomark _)) pa_nil)))))
      (pss_cut (ps_setLc (i := 3) (own := [("_law_cell", 7)]) (g := gName 7) (tt := tYes) (by rfl) sc_law_deck.nd rfl rfl (sw_true rfl rfl rfl (by decide +kernel)) (pi_listK K rfl (pv 2)) (blkOk_by (N := ["_law_script", "_law_many", "_law_own", "_law_rest", "_law_deck_here", "_law_k", "_law_at", "_law_cell"]) (sc := defScope st_law_deck) (by decide +kernel)) (fun _ _ _ _ _ => (pg_name (i := 7) sc_law_deck.nd rfl (.inl rfl))) (fun _ _ _ _ _ => pts_nil) (fun _ _ _ _ _ => (pe_ix (r := rIxL K) ix_list (pe_lst (pa_cons pe_int (pa_cons (pv 7) pa_nil))) (pe_callTy call_int1 (by rfl) B.int_ (by decide +kernel) (pa_cons (pe_cmpR op_ge (pv 7) (pe_op op_pow pe_int pe_int) (nomark _)) pa_nil)) (fun _ _ => rfl))))
      (pss_cons (ps_set (i := 4) sc_law_deck.nd rfl (.inl rfl) (pe_lst pa_nil))
      (pss_cons (ps_for PassesOwn.never rfl (pi_range1 (by rfl) B.range_ (pa_cons (pv 1) pa_nil)) (pg_name (i := 5) sc_law_deck.nd rfl (.inl rfl))
        (pss_cons (ps_set (i := 6) sc_law_deck.nd rfl (.inl rfl) (pe_op op_mod (pv 5) (pe_callB (r := rLn K) call_ln (by rfl) B.len_ (by decide +kernel) (pa_cons (pv 2) pa_nil))))
      (pss_one (ps_if (pt_cmpR op_gt (pe_ix (r := rIxL K) ix_list (pv 3) (pv 6) (fun _ _ => rfl)) pe_int (nomark _)) (pss_cons (ps_expr (pe_bm PySem.F.plainAttrs_list PySem.F.slot_list_append PySem.F.type_list_append mt_append (pv 4) (pa_cons (pe_op op_mod (pe_ix (r := rIxL K) ix_list (pv 3) (pv 6) (fun _ _ => rfl)) pe_int) pa_nil)))
      (pss_one (ps_asg (pe_op op_fdiv (pe_ix (r := rIxL K) ix_list (pv 3) (pv 6) (fun _ _ => rfl)) pe_int) (pg_sub (pv 3) (pv 6) set_list)))) (pss_one (ps_expr (pe_bm PySem.F.plainAttrs_list PySem.F.slot_list_append PySem.F.type_list_append mt_append (pv 4) (pa_cons (pe_op op_mod (pe_def D_law_mixed (hr.mono (by decide)) (by rfl) (pa_cons (pe_ix (r := rIxL K) ix_list (pv 2) (pv 6) (fun _ _ => rfl)) (pa_cons (pe_op op_add (pv 5) pe_int) pa_nil))) pe_int) pa_nil))))))))
      (pss_one (ps_ret (pe_lstRev rfl (by rfl) B.list_ (by rfl) B.reversed_ (pv 4)))))))), ?_⟩
    refine ⟨fun σ H' => ∃ (ow : Addr) (os : List Int), σ = [some (.ref a), some (.int (n : Int)), some (.ref ow), none, none, none, none, none] ∧ Ex H H' ∧ H' ow = some (.lst (os.map V.int)) ∧ 0 < os.length ∧ os.length ≤ 61, ?_, fun σ H1 hM => ?_⟩
    · refine ⟨_, rfl, 60, rfl, a, _, rfl, hA, fun c hc => ⟨c, _, rfl, .inl (.of upd_same), fun l hl => ?_⟩⟩
      rw [cut60] at hl ⊢
      have e1 : Ex H (upd (upd H c (.lst ((xs.take 60).map V.int))) l (.lst ((xs.take 60).map V.int))) := (Ex.new hc).trans (Ex.new hl)
      refine ⟨by show 1 ≤ sizeLine; decide, fun o ho => ?_⟩
      have e2 := e1.trans (Ex.new (o := .lst [V.int 0]) ho)
      have hlo : l ≠ o := ne_of_none upd_same ho
      have hk : ∃ k : Int, (if decide (V.int ((List.map V.int xs).length : Int) = V.int 0) = true then (1 : Int) else 0) = k ∧ (k = 0 ∨ k = 1) ∧ (xs = [] → k = 1) := by
        by_cases hxe : xs = []
        · subst hxe
          exact ⟨1, rfl, .inr rfl, fun _ => rfl⟩
        · refine ⟨0, if_neg fun h => ?_, .inl rfl, fun h => absurd h hxe⟩
          have := of_decide_eq_true h
          injection this with this
          rw [List.length_map] at this
          exact hxe (List.eq_nil_of_length_eq_zero (by omega))
      obtain ⟨k, hk1, hk2, hk3⟩ := hk
      refine ⟨_, rfl, a, _, rfl, .inl (ex_l e2 hA), rfl, .inr ⟨_, rfl, ?_⟩⟩
      rw [hk1]
      refine ⟨o, k, _, rfl, rfl, upd_same, by omega, by omega, ?_, fun p hp => ?_⟩
      · show 1 * k.toNat ≤ sizeLine
        have : (10 : Nat) ≤ sizeLine := by decide
        omega
      have hzs : ∃ zs : List Int, (List.replicate k.toNat [V.int 0]).flatten = zs.map V.int ∧ zs.length = k.toNat := by
        rcases hk2 with rfl | rfl
        · exact ⟨[], rfl, rfl⟩
        · exact ⟨[0], rfl, rfl⟩
      obtain ⟨zs, hz1, hz2⟩ := hzs
      rw [hz1]
      have e3 := e2.trans (Ex.new (o := .lst (zs.map V.int)) hp)
      have hlp : l ≠ p := ne_of_none (by rw [upd_ne hlo]; exact upd_same) hp
      have hmin := Nat.min_le_left 60 xs.length
      refine ⟨l, p, _, _, rfl, rfl, by rw [upd_ne hlp, upd_ne hlo]; exact upd_same, upd_same, ?_, fun ow how => ?_⟩
      · rw [List.length_map, List.length_map, List.length_take]
        exact Nat.le_of_lt (small1000 (by omega))
      · rw [← List.map_append]
        refine ⟨ow, _, rfl, e3.trans (Ex.new how), upd_same, ?_, ?_⟩
        · rw [List.length_append, List.length_take]
          by_cases hxe : xs = []
          · have := hk3 hxe
            omega
          · have := List.length_pos_iff.mpr hxe
            omega
        · rw [List.length_append, List.length_take]
          omega
    · obtain ⟨ow, os, rfl, e1, hOw, hol, hol2⟩ := hM
      refine ⟨fun σ H' => ∃ (re : Addr) (rs : List Int), σ = [some (.ref a), some (.int (n : Int)), some (.ref ow), some (.ref re), none, none, none, none] ∧ Ex H1 H' ∧ H1 re = none ∧ H' re = some (.lst (rs.map V.int)) ∧ rs.length = os.length, ?_, fun σ H2 hM2 => ?_⟩
      · refine ⟨_, rfl, ow, rfl, ⟨_, .of hOw⟩, fun D hD => ?_⟩
        refine lc_list (xs := os.map V.int) (fun i H' => ∃ rs : List Int, Ex H1 H' ∧ H' D = some (.lst (rs.map V.int)) ∧ rs.length = i) ⟨[], Ex.new hD, upd_same, rfl⟩ (fun i H' _ hP => .of (hP.choose_spec.1 _ _ hOw)) (fun i x H' hi hP => ?_) (fun H' hP => ?_)
        · obtain ⟨rs, e2, hD2, hl⟩ := hP
          obtain ⟨v, hv, rfl⟩ := int_get hi
          have hil : i < os.length := (List.getElem?_eq_some_iff.mp hv).1
          refine ⟨rfl, yes_go ?_⟩
          refine ⟨_, rfl, by show 2 ≤ sizeLine; decide, fun l hl2 => ?_⟩
          have hDl : D ≠ l := ne_of_none hD2 hl2
          refine ⟨_, rfl, 10, 18, rfl, rfl, ⟨by decide, by decide, by decide⟩, v, _, rfl, rfl, .inr ⟨_, rfl, ?_⟩⟩
          have hz : ∃ z : Int, atI [V.int 0, V.int v] (if decide ((10 : Int) ^ (18 : Int).toNat ≤ v) = true then (1 : Int) else 0) = some (.int z) := by
            by_cases h : decide ((10 : Int) ^ (18 : Int).toNat ≤ v) = true
            · rw [if_pos h]
              exact ⟨v, atI_nat (j := 1) rfl⟩
            · rw [if_neg h]
              exact ⟨0, atI_nat (j := 0) rfl⟩
          obtain ⟨z, hz⟩ := hz
          refine ⟨l, _, _, .int z, rfl, rfl, .of upd_same, hz, rs.map V.int, by rw [upd_ne hDl]; exact hD2, by rw [List.length_map]; exact small1000 (by omega), rs ++ [z], Ex.mut (e2.trans (Ex.new hl2)) hD, by rw [upd_same, List.map_append]; rfl, by rw [List.length_append, hl]; rfl⟩
        · obtain ⟨rs, e2, hD2, hl⟩ := hP
          rw [List.length_map] at hl
          exact ⟨D, rs, rfl, e2, hD, hD2, hl⟩
      · obtain ⟨re, rs, rfl, e2, hre0, hRe, hrl⟩ := hM2
        refine ⟨Nat.zero_le _, fun dk hdk => ?_⟩
        have hrd : re ≠ dk := ne_of_none hRe hdk
        have hH1dk : H1 dk = none := fresh_back e2 hdk
        refine ⟨_, rfl, (n : Int), rfl, by omega, by omega, ?_⟩
        have en : ((n : Int)).toNat = n := by omega
        rw [en]
        refine for_range (fun i σ H' => ∃ (rs ds : List Int) (y5 y6 : Option V), σ = [some (.ref a), some (.int (n : Int)), some (.ref ow), some (.ref re), some (.ref dk), y5, y6, none] ∧ Ex H1 H' ∧ H' re = some (.lst (rs.map V.int)) ∧ rs.length = os.length ∧ H' dk = some (.lst (ds.map V.int)) ∧ ds.length ≤ i)
          ⟨rs, [], _, _, rfl, e2.trans (Ex.new hdk), by rw [upd_ne hrd]; exact hRe, hrl, upd_same, Nat.le_refl _⟩ (fun i σ H' hi hP => ?_) (fun σ H' hP => ?_)
        · obtain ⟨rs2, ds, y5, y6, rfl, e3, hR, hl, hD, hdl⟩ := hP
          have e0 : (0 : Int) + (i : Int) = (i : Int) := Int.zero_add _
          rw [e0]
          refine ⟨_, rfl, _, rfl, ow, _, rfl, .inl (.of (e3 _ _ hOw)), (i : Int), _, rfl, rfl, by rw [List.length_map]; show (0 : Int) < (os.length : Int); omega, ?_⟩
          have ej : (i : Int) % ((os.map V.int).length : Int) = ((i % os.length : Nat) : Int) := by
            rw [List.length_map]
            exact (Int.natCast_emod i os.length).symm
          dsimp only
          rw [ej]
          have hj : i % os.length < os.length := Nat.mod_lt _ hol
          generalize i % os.length = j at hj
          obtain ⟨z, hz⟩ := int_at (l := rs2) (i := j) (by omega)
          obtain ⟨o1, ho1⟩ := int_at (l := os) (i := j) hj
          refine ⟨_, rfl, _, rfl, re, _, _, .int z, rfl, rfl, .of hR, hz, _, _, rfl, rfl, _, rfl, ite2 (fun hc => ?_) (fun hc => ?_)⟩
          · refine ⟨_, rfl, .inl ⟨rfl, _, .of hD⟩, _, rfl, _, rfl, re, _, _, .int z, rfl, rfl, .of hR, hz, z, 1000, rfl, rfl, by show (0 : Int) < 1000; decide, dk, _, _, rfl, rfl, hD, by rw [List.length_map]; exact small1000 (by omega), ?_⟩
            have hR2 : ∀ x, upd H' dk x re = some (.lst (rs2.map V.int)) := fun x => by rw [upd_ne hrd]; exact hR
            refine ⟨_, rfl, _, rfl, re, _, _, .int z, rfl, rfl, .of (hR2 _), hz, z, 1000, rfl, rfl, ⟨by decide, by decide⟩, _, rfl, _, rfl, re, _, _, j, rfl, rfl, hR2 _, ixN_nat (by rw [List.length_map]; omega), rs2.set j (z / 1000), ds ++ [z % 1000], _, _, rfl, Ex.mut (Ex.mut e3 hH1dk) hre0, ?_, by rw [List.length_set]; exact hl, ?_, by rw [List.length_append]; show _ + 1 ≤ _; omega⟩
            · rw [upd_same, List.map_set]
            · rw [upd_ne hrd.symm, upd_same, List.map_append]
              rfl
          · refine ⟨_, rfl, .inl ⟨rfl, _, .of hD⟩, _, rfl, _, rfl, ow, _, _, .int o1, rfl, rfl, .of (e3 _ _ hOw), ho1, _, rfl, (i : Int), 1, rfl, rfl, o1, (i : Int) + 1, rfl, by omega, by omega, fun m => ?_⟩
            refine ⟨m, 1000, rfl, rfl, by show (0 : Int) < 1000; decide, dk, _, _, rfl, rfl, hD, by rw [List.length_map]; exact small1000 (by omega), rs2, ds ++ [m % 1000], _, _, rfl, Ex.mut e3 hH1dk, by rw [upd_ne hrd]; exact hR, hl, ?_, by rw [List.length_append]; show _ + 1 ≤ _; omega⟩
            rw [upd_same, List.map_append]
            rfl
        · obtain ⟨rs2, ds, y5, y6, rfl, e3, hR, hl, hD, hdl⟩ := hP
          refine ⟨_, rfl, dk, _, rfl, .of hD, fun r hr => ?_⟩
          rw [← List.map_reverse]
          exact q r _ ds.reverse (fresh_back (e1.trans e3) hr) ((e1.trans e3).trans (Ex.new hr)) upd_same
end
end ML
set_option Elab.async false
set_option linter.all false
set_option maxRecDepth 100000
set_option maxHeartbeats 4000000
namespace ML
open PySem PySem.Spec PyProof.Rows L2 Evl
/-! ### pairs of an int and a place -/
def IPairs (H : Hp) (ts : List Addr) (zs : List (Int × Nat)) : Prop := Paired (fun t z => H t = some (.tup [.int z.1, .int ((z.2 : Nat) : Int)])) ts zs
theorem IPairs.mono {H H' : Hp} {ts : List Addr} {zs : List (Int × Nat)} (h : IPairs H ts zs) (e : Ex H H') : IPairs H' ts zs := Paired.mapP h fun _ _ q => e _ _ q
theorem ip_upd {H : Hp} {ts : List Addr} {zs : List (Int × Nat)} {o : Addr} {u x : HO} (h : IPairs H ts zs) (ho : H o = some u) (hu : ∀ xs, u ≠ .tup xs) : IPairs (upd H o x) ts zs := Paired.mapP h fun t e ht => by
  rw [upd_ne (ne_of ht ho fun c => hu _ c.symm)]
  exact ht
theorem ip_snoc {H : Hp} {ts : List Addr} {zs : List (Int × Nat)} {t : Addr} {z : Int × Nat} (h : IPairs H ts zs) (ht : H t = some (.tup [.int z.1, .int ((z.2 : Nat) : Int)])) : IPairs H (ts ++ [t]) (zs ++ [z]) := by
  unfold IPairs at h ⊢
  induction h with
  | nil => exact .cons ht .nil
  | cons a _ ih => exact .cons a ih
theorem ip_zip {H : Hp} {fs : List Addr} {T : List (Int × Nat)} (h : IPairs H fs T) : ∃ z : List (Addr × (Int × Nat)), z.map Prod.fst = fs ∧ z.map Prod.snd = T ∧ ∀ x ∈ z, H x.1 = some (.tup [.int x.2.1, .int ((x.2.2 : Nat) : Int)]) := by
  unfold IPairs at h
  induction h with
  | nil => exact ⟨[], rfl, rfl, fun x hx => absurd hx (by simp)⟩
  | @cons a b as bs h1 _ ih =>
    obtain ⟨z, e1, e2, e3⟩ := ih
    exact ⟨(a, b) :: z, by rw [List.map_cons, e1], by rw [List.map_cons, e2], fun x hx => by
      rcases List.mem_cons.mp hx with e | hx
      · subst e; exact h1
      · exact e3 x hx⟩
theorem ip_unzip {H : Hp} : ∀ {z : List (Addr × (Int × Nat))}, (∀ x ∈ z, H x.1 = some (.tup [.int x.2.1, .int ((x.2.2 : Nat) : Int)])) → IPairs H (z.map Prod.fst) (z.map Prod.snd)
  | [], _ => .nil
  | a :: z, h => .cons (h a List.mem_cons_self) (ip_unzip fun x hx => h x (List.mem_cons_of_mem _ hx))
theorem ip_perm {H : Hp} {fs : List Addr} {T : List (Int × Nat)} (h : IPairs H fs T) {ys : List V} (hp : ys.Perm (fs.map V.ref)) : ∃ fs' T', ys = fs'.map V.ref ∧ IPairs H fs' T' ∧ T'.Perm T := by
  obtain ⟨z, e1, e2, e3⟩ := ip_zip h
  have hp2 : ys.Perm (z.map fun x => V.ref x.1) := by
    rw [← e1, List.map_map] at hp
    exact hp
  obtain ⟨z', hp', ey⟩ := perm_lift hp2 rfl
  exact ⟨z'.map Prod.fst, z'.map Prod.snd, by rw [List.map_map]; exact ey, ip_unzip fun x hx => e3 x (hp'.mem_iff.mp hx), by rw [← e2]; exact hp'.map _⟩
theorem ip_all {H : Hp} {fs : List Addr} {T : List (Int × Nat)} (h : IPairs H fs T) : ∀ x ∈ fs.map V.ref, ∃ t i j, x = V.ref t ∧ H t = some (.tup [.int i, .int j]) := by
  obtain ⟨z, e1, e2, e3⟩ := ip_zip h
  intro x hx
  rw [← e1, List.map_map] at hx
  obtain ⟨y, hy, rfl⟩ := List.mem_map.mp hx
  exact ⟨y.1, _, _, rfl, e3 y hy⟩
theorem ip_at {H : Hp} : ∀ {ts : List Addr} {zs : List (Int × Nat)} {i : Nat} {t : Addr}, IPairs H ts zs → ts[i]? = some t → ∃ z, zs[i]? = some z ∧ H t = some (.tup [.int z.1, .int ((z.2 : Nat) : Int)])
  | _, _, _, _, .nil, h => by simp at h
  | _, _, 0, _, .cons a _, h => ⟨_, rfl, by have := Option.some.inj h; rw [← this]; exact a⟩
  | _, _, i + 1, _, .cons _ r, h => ip_at (i := i) r h
theorem ip_len {H : Hp} {ts : List Addr} {zs : List (Int × Nat)} (h : IPairs H ts zs) : ts.length = zs.length := Paired.length h
section
variable {P : Program} {w : World} {K : PySem.W.Frag} {mg : Str → Option Value} {base : Heap}
/-! ### _law_turn -/
abbrev st_law_turn : Stmt := top 30
theorem sc_law_turn : FnScope ["_law_deck_here", "_law_many", "_law_cell", "_law_at"] ["_law_deck_here", "_law_many"] (defScope st_law_turn) := ⟨rfl, rfl, rfl, by decide +kernel, rfl, by decide +kernel, by decide +kernel⟩
def sp_law_turn (K : PySem.W.Frag) : Sp := fun vs H Q _ => ∃ d n, vs = [.ref d, .int ((n : Nat) : Int)] ∧ Dk d H ∧ n ≤ 100 ∧ ∀ r H' P, Ex (wo d H) (wo d H') → Dk d H' → wo d H' r = some (.tup (ns P)) → P.Perm (List.range n) → Q (.ref r) H'
theorem D_law_turn (L : Ld K mg "_law_turn" st_law_turn) (B : Bt mg) (D_law_next : Def P w K mg base "_law_next" 1 ["_law_deck_here"] (sp_law_next K)) : Def P w K mg base "_law_turn" 2 ["_law_deck_here", "_law_many"] (sp_law_turn K) := by
  refine L.ok (ps := ["_law_deck_here", "_law_many"]) sc_law_turn (fun _ _ _ _ _ _ us hl => match us, hl with | [_, _], _ => rfl) (fun vs H Q E h => ?_) (fun f cdv A outer s H vs Q E hr h => ?_)
  · obtain ⟨d, n, rfl, _⟩ := h
    rfl
  · obtain ⟨d, n, rfl, hd, hn, q⟩ := h
    refine ⟨_, (pss_one (ps_ret (pe_callTy (r := rTp K) call_tp (by rfl) B.tuple_ (by decide +kernel) (pa_cons (pe_lc (own := [("_law_cell", 2), ("_law_at", 3)]) (g := gTup K 2 (gCons (gName 2) (gCons (gName 3) gNil))) (tt := tYes) (by rfl) sc_law_turn.nd (pi_listK K rfl (pe_callB (r := rSortedP K) cr_sortedP (by rfl) B.sorted_ (by decide +kernel) (pa_cons (pe_lc (own := [("_law_at", 3)]) (g := gName 3) (tt := tYes) (by rfl) sc_law_turn.nd (pi_range1 (by rfl) B.range_ (pa_cons (pv 1) pa_nil)) (blkOk_by (N := ["_law_deck_here", "_law_many", "_law_cell", "_law_at"]) (sc := defScope st_law_turn) (by decide +kernel)) (fun _ _ _ _ _ => (pg_name (i := 3) sc_law_turn.nd rfl (.inl rfl))) (fun _ _ _ _ _ => pts_nil) (fun _ _ _ _ _ => (pe_tup (pa_cons (pe_def D_law_next (hr.mono (by decide)) (by rfl) (pa_cons (pv 0) pa_nil)) (pa_cons (pv 3) pa_nil))))) pa_nil))) (blkOk_by (N := ["_law_deck_here", "_law_many", "_law_cell", "_law_at"]) (sc := defScope st_law_turn) (by decide +kernel)) (fun _ _ _ _ _ => (pg_tupK K rfl (by rfl) (pgs_cons (pg_name (i := 2) sc_law_turn.nd rfl (.inl rfl)) (pgs_cons (pg_name (i := 3) sc_law_turn.nd rfl (.inl rfl)) pgs_nil)))) (fun _ _ _ _ _ => pts_nil) (fun _ _ _ _ _ => (pv 3))) pa_nil)))), ?_⟩
    refine ⟨_, rfl, (n : Int), rfl, by omega, by omega, fun D hD => ?_⟩
    have en : ((n : Int)).toNat = n := by omega
    rw [en]
    have hDd : D ≠ d := fun e => by obtain ⟨ds, h⟩ := hd; rw [e, h] at hD; cases hD
    refine lc_range (fun i H' => ∃ ts zs, Ex (wo d H) (wo d H') ∧ Dk d H' ∧ H' D = some (.lst (ts.map V.ref)) ∧ IPairs H' ts zs ∧ zs.map Prod.snd = List.range i) ⟨[], [], ?_, ?_, upd_same, .nil, rfl⟩ (fun i H' hi hP => ?_) (fun H' hP => ?_)
    · exact wo_mono (Ex.new hD)
    · obtain ⟨ds, h⟩ := hd
      exact ⟨ds, by rw [upd_ne hDd.symm]; exact h⟩
    · obtain ⟨ts, zs, e1, hd1, hD1, hI, hz⟩ := hP
      have e0 : (0 : Int) + (i : Int) = (i : Int) := Int.zero_add _
      rw [e0]
      refine ⟨rfl, yes_go ?_⟩
      refine ⟨_, rfl, d, rfl, hd1, fun z ds => ?_⟩
      obtain ⟨ds1, hd1'⟩ := hd1
      refine ⟨_, rfl, by show 2 ≤ sizeLine; decide, fun t ht => ?_⟩
      have hD2 : upd H' d (.lst (ds.map V.int)) D = some (.lst (ts.map V.ref)) := by rw [upd_ne hDd]; exact hD1
      have hDt : D ≠ t := ne_of_none hD2 ht
      have hdt : d ≠ t := ne_of_none (H := upd H' d _) upd_same ht
      have hl := ip_len hI
      have hl2 : zs.length = i := by
        have := congrArg List.length hz
        rw [List.length_map, List.length_range] at this
        exact this
      refine ⟨ts.map V.ref, by rw [upd_ne hDt]; exact hD2, by rw [List.length_map]; exact small1000 (by omega), ts ++ [t], zs ++ [(z, i)], ?_, ⟨ds, ?_⟩, by rw [upd_same, List.map_append]; rfl, ?_, ?_⟩
      · have h1 : wo d (upd H' d (.lst (ds.map V.int))) = wo d H' := wo_upd
        have h2 : Ex (wo d H) (wo d (upd (upd H' d (.lst (ds.map V.int))) t (.tup [.int z, .int (i : Int)]))) := by
          refine e1.trans ?_
          rw [← h1]
          exact wo_mono (Ex.new ht)
        have hD0 : wo d H D = none := by rw [wo_ne hDd]; exact hD
        have h3 := Ex.mut (o := .lst (ts.map V.ref ++ [.ref t])) h2 hD0
        intro b u hb
        have h4 := h3 b u hb
        by_cases hbd : b = d
        · subst hbd
          rw [wo_at] at hb
          cases hb
        · rw [wo_ne hbd]
          by_cases hbD : b = D
          · subst hbD
            rw [upd_same] at h4 ⊢
            exact h4
          · rw [upd_ne hbD] at h4 ⊢
            rw [wo_ne hbd] at h4
            exact h4
      · rw [upd_ne hDd.symm, upd_ne hdt, upd_same]
      · exact ip_upd (ip_snoc ((ip_upd hI hd1' no_tupL).mono (Ex.new ht)) upd_same) (by rw [upd_ne hDt]; exact hD2) no_tupL
      · rw [List.map_append, hz, List.range_succ]
        rfl
    · obtain ⟨ts, zs, e1, hd1, hD1, hI, hz⟩ := hP
      obtain ⟨ds1, hd1'⟩ := id hd1
      refine ⟨D, _, rfl, .of hD1, ip_all hI, fun ys p hperm hp => ?_⟩
      obtain ⟨ts2, zs2, rfl, hI2, hzp⟩ := ip_perm hI hperm
      have hdp : d ≠ p := ne_of_none hd1' hp
      refine ⟨p, rfl, ⟨_, .of upd_same⟩, fun F hF => ?_⟩
      have e2 : Ex H' (upd H' p (.lst (ts2.map V.ref))) := Ex.new hp
      have hl := ip_len hI2
      have hl2 : zs2.length = n := by
        have := congrArg List.length hz
        rw [List.length_map, List.length_range] at this
        rw [hzp.length_eq]
        exact this
      refine lc_list (xs := ts2.map V.ref) (fun i H2 => Ex (upd H' p (.lst (ts2.map V.ref))) H2 ∧ H2 F = some (.lst (ns ((zs2.take i).map Prod.snd)))) ⟨Ex.new hF, upd_same⟩ (fun i H2 _ hP => .of (hP.1 _ _ upd_same)) (fun i x H2 hi hP => ?_) (fun H2 hP => ?_)
      · obtain ⟨e3, hF2⟩ := hP
        rw [List.getElem?_map] at hi
        cases ht : ts2[i]? with
        | none => rw [ht] at hi; cases hi
        | some t =>
          rw [ht] at hi
          have hx := (Option.some.inj hi).symm
          subst hx
          obtain ⟨z, hz1, hz2⟩ := ip_at hI2 ht
          have hit := (List.getElem?_eq_some_iff.mp ht).1
          refine ⟨t, _, rfl, .of (e3 _ _ (e2 _ _ hz2)), rfl, _, _, rfl, _, [], rfl, rfl, rfl, yes_go ?_⟩
          have ek : zs2.take (i + 1) = zs2.take i ++ [z] := by rw [List.take_add_one, hz1]; rfl
          refine ⟨_, rfl, ns ((zs2.take i).map Prod.snd), hF2, ?_, Ex.mut e3 hF, ?_⟩
          · rw [ns_len, List.length_map, List.length_take]
            have := Nat.min_le_left i zs2.length
            exact small1000 (by omega)
          · rw [upd_same, ek, List.map_append, ns_append]
            rfl
      · obtain ⟨e3, hF2⟩ := hP
        rw [List.length_map, hl, List.take_length] at hF2
        refine ⟨F, _, rfl, .inl ⟨.of hF2, fun r hr => ?_⟩⟩
        have e4 := (e2.trans e3).trans (Ex.new (o := .tup (ns (zs2.map Prod.snd))) hr)
        have hd4 := e4 _ _ hd1'
        have hrd : r ≠ d := fun e => by
          subst e
          rw [upd_same] at hd4
          cases hd4
        exact q r _ (zs2.map Prod.snd) (e1.trans (wo_mono e4)) ⟨ds1, hd4⟩ (by rw [wo_ne hrd, upd_same]) (by rw [← hz]; exact hzp.map _)
end
end ML
set_option Elab.async false
set_option linter.all false
set_option maxRecDepth 100000
set_option maxHeartbeats 4000000
namespace ML
open PySem PySem.Spec PyProof.Rows L2 Evl
/-! ### all but the deck -/
theorem exd_mut {d o : Addr} {H H' : Hp} {x : HO} (e : Ex (wo d H) (wo d H')) (h : wo d H o = none) : Ex (wo d H) (wo d (upd H' o x)) := fun b u hb => by
  have hbd : b ≠ d := fun c => by subst c; rw [wo_at] at hb; cases hb
  have hbo : b ≠ o := ne_of_none hb h
  rw [wo_ne hbd, upd_ne hbo]
  have := e b u hb
  rw [wo_ne hbd] at this
  exact this
theorem exd_new {d t : Addr} {H : Hp} {x : HO} (h : H t = none) : Ex (wo d H) (wo d (upd H t x)) := wo_mono (Ex.new h)
theorem dk_upd {d o : Addr} {H : Hp} {x : HO} (h : Dk d H) (ne : d ≠ o) : Dk d (upd H o x) := by
  obtain ⟨ds, h⟩ := h
  exact ⟨ds, by rw [upd_ne ne]; exact h⟩
theorem dk_ne {d t : Addr} {H : Hp} (h : Dk d H) (ht : H t = none) : d ≠ t := by
  obtain ⟨ds, h⟩ := h
  exact ne_of_none h ht
theorem dk_ex {d : Addr} {H H' : Hp} (h : Dk d H) (e : Ex H H') : Dk d H' := by
  obtain ⟨ds, h⟩ := h
  exact ⟨ds, e _ _ h⟩
theorem dk_tup {d t : Addr} {H : Hp} {xs : List V} (h : Dk d H) (ht : H t = some (.tup xs)) : t ≠ d := by
  obtain ⟨ds, h⟩ := h
  exact ne_of ht h (by intro c; cases c)
/-! ### a dict of ties -/
def keyT (e : Nat × Nat) : List L2.Key := [Sum.inl (e.1 : Int), Sum.inl (e.2 : Int)]
theorem keyT_inj {e f : Nat × Nat} (h : keyT e = keyT f) : e = f := by
  obtain ⟨a, b⟩ := e
  obtain ⟨c, g⟩ := f
  injection h with h1 h2
  injection h2 with h2 _
  injection h1 with h1
  injection h2 with h2
  have e1 : a = c := by simp only at h1; omega
  have e2 : b = g := by simp only at h2; omega
  rw [e1, e2]
def kt (E : List (Nat × Nat)) : List (List L2.Key × V) := E.map fun e => (keyT e, V.bl true)
def insT (E : List (Nat × Nat)) (e : Nat × Nat) : List (Nat × Nat) := if e ∈ E then E else E ++ [e]
theorem kt_any (E : List (Nat × Nat)) (e : Nat × Nat) : ((kt E).any fun kv => decide (kv.1 = keyT e)) = decide (e ∈ E) := by
  unfold kt
  rw [List.any_map]
  by_cases h : e ∈ E
  · rw [decide_eq_true h]
    exact List.any_eq_true.mpr ⟨e, h, decide_eq_true rfl⟩
  · rw [decide_eq_false h]
    exact List.any_eq_false.mpr fun f hf c => h (by
      have c' : keyT f = keyT e := of_decide_eq_true c
      rw [← keyT_inj c']
      exact hf)
theorem kt_put (E : List (Nat × Nat)) (e : Nat × Nat) : putK (kt E) (keyT e) (V.bl true) = kt (insT E e) := by
  unfold putK insT
  rw [kt_any]
  by_cases h : e ∈ E
  · rw [decide_eq_true h, if_pos rfl, if_pos h]
    have : ∀ kv ∈ kt E, (if kv.1 = keyT e then (kv.1, V.bl true) else kv) = kv := fun kv hkv => by
      obtain ⟨f, _, rfl⟩ := List.mem_map.mp hkv
      split <;> rfl
    rw [List.map_congr_left this, List.map_id']
  · rw [decide_eq_false h, if_neg (by decide), if_neg h]
    unfold kt
    rw [List.map_append]
    rfl
theorem kt_len (E : List (Nat × Nat)) : (kt E).length = E.length := List.length_map ..
structure WSt (d fd : Addr) (H H' : Hp) (E : List (Nat × Nat)) (n b : Nat) : Prop where
  ex : Ex (wo d H) (wo d H')
  dk : Dk d H'
  fnd : H' fd = some (.dT (kt E))
  nd : E.Nodup
  ok : ∀ e ∈ E, e.1 < e.2 ∧ e.2 < n
  len : E.length ≤ b
theorem WSt.deck {d fd : Addr} {H H' : Hp} {E : List (Nat × Nat)} {n b : Nat} (h : WSt d fd H H' E n b) (ne : fd ≠ d) (ds : List Int) : WSt d fd H (upd H' d (.lst (ds.map V.int))) E n b :=
  ⟨by rw [wo_upd]; exact h.ex, ⟨ds, upd_same⟩, by rw [upd_ne ne]; exact h.fnd, h.nd, h.ok, h.len⟩
theorem WSt.new {d fd t : Addr} {H H' : Hp} {E : List (Nat × Nat)} {n b : Nat} {x : HO} (h : WSt d fd H H' E n b) (ht : H' t = none) : WSt d fd H (upd H' t x) E n b :=
  ⟨h.ex.trans (exd_new ht), dk_upd h.dk (dk_ne h.dk ht), by rw [upd_ne (ne_of_none h.fnd ht)]; exact h.fnd, h.nd, h.ok, h.len⟩
theorem WSt.put {d fd : Addr} {H H' : Hp} {E : List (Nat × Nat)} {n b x y : Nat} (h : WSt d fd H H' E n b) (ne : fd ≠ d) (h0 : wo d H fd = none) (hxy : x < y) (hy : y < n) :
    WSt d fd H (upd H' fd (.dT (kt (insT E (x, y))))) (insT E (x, y)) n (b + 1) := by
  refine ⟨exd_mut h.ex h0, dk_upd h.dk ne.symm, upd_same, ?_, fun e he => ?_, ?_⟩
  · unfold insT
    split
    · exact h.nd
    · rename_i hn
      exact List.nodup_append.mpr ⟨h.nd, by simp, fun a ha b hb c => hn (by rw [← List.mem_singleton.mp hb, ← c]; exact ha)⟩
  · unfold insT at he
    split at he
    · exact h.ok e he
    · rcases List.mem_append.mp he with he | he
      · exact h.ok e he
      · rw [List.mem_singleton.mp he]
        exact ⟨hxy, hy⟩
  · have := h.len
    unfold insT
    split
    · omega
    · rw [List.length_append]
      show _ + 1 ≤ _
      omega
theorem wst_dput {d fd t : Addr} {H H' : Hp} {E : List (Nat × Nat)} {n b x y : Nat} (h : WSt d fd H H' E n b) (hb : b ≤ 500) (ht : H' t = none) :
    DPut (upd H' t (.tup [.int ((x : Nat) : Int), .int ((y : Nat) : Int)])) fd (.ref t) (.bl true) (upd (upd H' t (.tup [.int ((x : Nat) : Int), .int ((y : Nat) : Int)])) fd (.dT (kt (insT E (x, y))))) := by
  refine .inr ⟨kt E, keyT (x, y), t, ?_, rfl, upd_same, ?_, by rw [kt_put]⟩
  · rw [upd_ne (ne_of_none h.fnd ht)]
    exact h.fnd
  · rw [kt_len]
    have := h.len
    exact small1000 (by omega)
theorem keys_pairs {H : Hp} : ∀ {E : List (Nat × Nat)} {bs : List Addr}, IsKeys H (kt E) bs → Pairs H bs E
  | [], [], _ => .nil
  | e :: E, b :: bs, h => by
    have h' : Paired (fun (p : List L2.Key × V) b => H b = some (.tup (p.1.map kV))) ((keyT e, V.bl true) :: kt E) (b :: bs) := h
    cases h' with
    | cons a r => exact .cons a (keys_pairs r)
  | [], _ :: _, h => by
    have h' : Paired (fun (p : List L2.Key × V) b => H b = some (.tup (p.1.map kV))) [] (_ :: _) := h
    cases h'
  | e :: E, [], h => by
    have h' : Paired (fun (p : List L2.Key × V) b => H b = some (.tup (p.1.map kV))) ((keyT e, V.bl true) :: kt E) [] := h
    cases h'
/-- the eight ways to tie a place to one ahead -/
theorem ahead8 (k c : Int) (f : Nat) (hf : f < 8) (hk : 1 ≤ k) : ∃ u : Nat, atI [V.int (k - 1), V.int 0, V.int (c % k), V.int (if k - 1 - c % 3 > 0 then k - 1 - c % 3 else 0), V.int (k - 1), V.int (if k - 2 > 0 then k - 2 else 0), V.int ((k - 1) / 2), V.int (c % k)] (f : Int) = some (.int (u : Int)) ∧ (u : Int) < k := by
  have h1 := Int.emod_nonneg c (b := k) (by omega)
  have h2 := Int.emod_lt_of_pos c (b := k) (by omega)
  have hall : ∀ v ∈ [k - 1, 0, c % k, (if k - 1 - c % 3 > 0 then k - 1 - c % 3 else 0), k - 1, (if k - 2 > 0 then k - 2 else 0), (k - 1) / 2, c % k], 0 ≤ v ∧ v < k := by
    intro v hv
    simp only [List.mem_cons, List.not_mem_nil, or_false] at hv
    rcases hv with rfl | rfl | rfl | rfl | rfl | rfl | rfl | rfl
    · omega
    · omega
    · exact ⟨h1, h2⟩
    · split <;> omega
    · omega
    · split <;> omega
    · omega
    · exact ⟨h1, h2⟩
  obtain ⟨v, hv⟩ : ∃ v, ([k - 1, 0, c % k, (if k - 1 - c % 3 > 0 then k - 1 - c % 3 else 0), k - 1, (if k - 2 > 0 then k - 2 else 0), (k - 1) / 2, c % k] : List Int)[f]? = some v := ⟨_, List.getElem?_eq_getElem (show f < 8 from hf)⟩
  obtain ⟨h3, h4⟩ := hall v (List.mem_of_getElem? hv)
  refine ⟨v.toNat, ?_, by omega⟩
  have e : ((v.toNat : Nat) : Int) = v := by omega
  rw [e]
  have h5 : (([k - 1, 0, c % k, (if k - 1 - c % 3 > 0 then k - 1 - c % 3 else 0), k - 1, (if k - 2 > 0 then k - 2 else 0), (k - 1) / 2, c % k] : List Int).map V.int)[f]? = some (.int v) := by
    rw [List.getElem?_map, hv]
    rfl
  exact atI_nat h5
theorem more6 (n f : Nat) (hf : f < 6) (hn : n ≤ 6) : ∃ u : Nat, atI [V.int 0, V.int 1, V.int 3, V.int (n : Int), V.int (2 * (n : Int)), V.int 0] (f : Int) = some (.int (u : Int)) ∧ u ≤ 12 := by
  have hall : ∀ v ∈ [0, 1, 3, n, 2 * n, 0], v ≤ 12 := by
    intro v hv
    simp only [List.mem_cons, List.not_mem_nil, or_false] at hv
    omega
  obtain ⟨v, hv⟩ : ∃ v, ([0, 1, 3, n, 2 * n, 0] : List Nat)[f]? = some v := ⟨_, List.getElem?_eq_getElem (show f < 6 from hf)⟩
  refine ⟨v, ?_, hall v (List.mem_of_getElem? hv)⟩
  have h5 : (([0, 1, 3, n, 2 * n, 0] : List Nat).map fun k : Nat => V.int (k : Int))[f]? = some (.int (v : Int)) := by
    rw [List.getElem?_map, hv]
    rfl
  have e : (([0, 1, 3, n, 2 * n, 0] : List Nat).map fun k : Nat => V.int (k : Int)) = [V.int 0, V.int 1, V.int 3, V.int (n : Int), V.int (2 * (n : Int)), V.int 0] := by
    show [V.int 0, V.int 1, V.int 3, V.int (n : Int), V.int ((2 * n : Nat) : Int), V.int 0] = _
    rw [show ((2 * n : Nat) : Int) = 2 * (n : Int) by omega]
  rw [e] at h5
  exact atI_nat h5
/-! ### ties led over by a turn -/
def ledT (P : List Nat) (e : Nat × Nat) : Nat × Nat := nrm (P.getD e.1 0, P.getD e.2 0)
theorem turn_get {P : List Nat} {n : Nat} (hp : P.Perm (List.range n)) {a : Nat} (ha : a < n) : P[a]? = some (P.getD a 0) ∧ P.getD a 0 < n := by
  have hl : P.length = n := by rw [hp.length_eq, List.length_range]
  have h1 : P[a]? = some P[a] := List.getElem?_eq_getElem (by omega)
  have h2 : P.getD a 0 = P[a] := by rw [List.getD_eq_getElem?_getD, h1]; rfl
  rw [h2]
  exact ⟨h1, List.mem_range.mp (hp.mem_iff.mp (List.getElem_mem _))⟩
theorem turn_inj {P : List Nat} {n : Nat} (hp : P.Perm (List.range n)) {a b : Nat} (ha : a < n) (hb : b < n) (h : P.getD a 0 = P.getD b 0) : a = b := by
  have hnd : P.Nodup := hp.nodup_iff.mpr (strict_nodup (range_strict n))
  have h1 := (turn_get hp ha).1
  have h2 := (turn_get hp hb).1
  rw [h] at h1
  exact nd_ix hnd h1 h2
theorem led_ok {P : List Nat} {n : Nat} (hp : P.Perm (List.range n)) {e : Nat × Nat} (he : e.1 < e.2 ∧ e.2 < n) : (ledT P e).1 < (ledT P e).2 ∧ (ledT P e).2 < n := by
  have h1 := (turn_get hp (show e.1 < n by omega)).2
  have h2 := (turn_get hp he.2).2
  have h3 : P.getD e.1 0 ≠ P.getD e.2 0 := fun h => by
    have := turn_inj hp (show e.1 < n by omega) he.2 h
    omega
  unfold ledT nrm
  show min _ _ < max _ _ ∧ max _ _ < n
  simp only
  omega
theorem led_inj {P : List Nat} {n : Nat} (hp : P.Perm (List.range n)) {e f : Nat × Nat} (he : e.1 < e.2 ∧ e.2 < n) (hf : f.1 < f.2 ∧ f.2 < n) (h : ledT P e = ledT P f) : e = f := by
  obtain ⟨a, b⟩ := e
  obtain ⟨c, g⟩ := f
  unfold ledT nrm at h
  simp only at he hf h
  injection h with h1 h2
  have hab : a < n := by omega
  have hcg : c < n := by omega
  by_cases h3 : P.getD a 0 = P.getD c 0
  · have e1 := turn_inj hp hab hcg h3
    have h4 : P.getD b 0 = P.getD g 0 := by omega
    have e2 := turn_inj hp he.2 hf.2 h4
    rw [e1, e2]
  · have h4 : P.getD a 0 = P.getD g 0 := by omega
    have h5 : P.getD b 0 = P.getD c 0 := by omega
    have e1 := turn_inj hp hab hf.2 h4
    have e2 := turn_inj hp he.2 hcg h5
    omega
theorem nodup_map_on {α β : Type} {f : α → β} : ∀ {l : List α}, l.Nodup → (∀ a ∈ l, ∀ b ∈ l, f a = f b → a = b) → (l.map f).Nodup
  | [], _, _ => List.nodup_nil
  | a :: l, hn, h => by
    obtain ⟨h1, h2⟩ := List.nodup_cons.mp hn
    refine List.nodup_cons.mpr ⟨fun hm => ?_, nodup_map_on h2 fun x hx y hy => h x (List.mem_cons_of_mem _ hx) y (List.mem_cons_of_mem _ hy)⟩
    obtain ⟨b, hb, e⟩ := List.mem_map.mp hm
    have := h b (List.mem_cons_of_mem _ hb) a List.mem_cons_self e
    exact h1 (this ▸ hb)
theorem pairs_at {H : Hp} : ∀ {ts : List Addr} {E : List (Nat × Nat)} {i : Nat} {t : Addr}, Pairs H ts E → ts[i]? = some t → ∃ e, E[i]? = some e ∧ H t = some (.tup (tieV e))
  | _, _, _, _, .nil, h => by simp at h
  | _, _, 0, _, .cons a _, h => ⟨_, rfl, by have := Option.some.inj h; rw [← this]; exact a⟩
  | _, _, i + 1, _, .cons _ r, h => pairs_at (i := i) r h
end ML
set_option Elab.async false
set_option linter.all false
set_option maxRecDepth 100000
set_option maxHeartbeats 4000000
namespace ML
open PySem PySem.Spec PyProof.Rows L2 Evl
section
variable {P : Program} {w : World} {K : PySem.W.Frag} {mg : Str → Option Value} {base : Heap}
/-! ### _law_web -/
abbrev st_law_web : Stmt := top 31
theorem sc_law_web : FnScope ["_law_deck_here", "_law_least", "_law_most", "_law_places", "_law_form", "_law_found", "_law_k", "_law_cell", "_law_ahead", "_law_more", "_law_turn_here", "_law_one", "_law_other", "_law_names", "_law_ties"] ["_law_deck_here", "_law_least", "_law_most"] (defScope st_law_web) := ⟨rfl, rfl, rfl, by decide +kernel, rfl, by decide +kernel, by decide +kernel⟩
def sp_law_web (K : PySem.W.Frag) : Sp := fun vs H Q _ => ∃ d, vs = [.ref d, .int 3, .int 6] ∧ Dk d H ∧ ∀ r H' n adj, Web n adj → WebAt K (wo d H') r n adj → Ex (wo d H) (wo d H') → Dk d H' → Q (.ref r) H'
theorem D_law_web (L : Ld K mg "_law_web" st_law_web) (B : Bt mg) (D_law_next : Def P w K mg base "_law_next" 1 ["_law_deck_here"] (sp_law_next K)) (D_law_turn : Def P w K mg base "_law_turn" 2 ["_law_deck_here", "_law_many"] (sp_law_turn K)) : Def P w K mg base "_law_web" 3 ["_law_deck_here", "_law_least", "_law_most"] (sp_law_web K) := by
  refine L.ok (ps := ["_law_deck_here", "_law_least", "_law_most"]) sc_law_web (fun _ _ _ _ _ _ us hl => match us, hl with | [_, _, _], _ => rfl) (fun vs H Q E h => ?_) (fun f cdv A outer s H vs Q E hr h => ?_)
  · obtain ⟨d, rfl, _⟩ := h
    rfl
  · obtain ⟨d, rfl, hd, q⟩ := h
    refine ⟨_, (pss_cons (ps_set (i := 3) sc_law_web.nd rfl (.inl rfl) (pe_op op_add (pv 1) (pe_op op_mod (pe_def D_law_next (hr.mono (by decide)) (by rfl) (pa_cons (pv 0) pa_nil)) (pe_op op_add (pe_op op_sub (pv 2) (pv 1)) pe_int))))
      (pss_cons (ps_set (i := 4) sc_law_web.nd rfl (.inl rfl) (pe_op op_mod (pe_def D_law_next (hr.mono (by decide)) (by rfl) (pa_cons (pv 0) pa_nil)) pe_int))
      (pss_cons (ps_set (i := 5) sc_law_web.nd rfl (.inl rfl) pe_dnewT)
      (pss_cut (ps_for PassesOwn.never rfl (pi_range2 (by rfl) B.range_ (pa_cons pe_int (pa_cons (pv 3) pa_nil))) (pg_name (i := 6) sc_law_web.nd rfl (.inl rfl))
        (pss_cons (ps_set (i := 7) sc_law_web.nd rfl (.inl rfl) (pe_def D_law_next (hr.mono (by decide)) (by rfl) (pa_cons (pv 0) pa_nil)))
      (pss_cons (ps_set (i := 8) sc_law_web.nd rfl (.inl rfl) (pe_ix (r := rIxL K) ix_list (pe_lst (pa_cons (pe_op op_sub (pv 6) pe_int) (pa_cons pe_int (pa_cons (pe_op op_mod (pv 7) (pv 6)) (pa_cons (pe_callB (call_max2 rfl) (by rfl) B.max_ (by decide +kernel) (pa_cons pe_int (pa_cons (pe_op op_sub (pe_op op_sub (pv 6) pe_int) (pe_op op_mod (pv 7) pe_int)) pa_nil))) (pa_cons (pe_op op_sub (pv 6) pe_int) (pa_cons (pe_callB (call_max2 rfl) (by rfl) B.max_ (by decide +kernel) (pa_cons pe_int (pa_cons (pe_op op_sub (pv 6) pe_int) pa_nil))) (pa_cons (pe_op op_fdiv (pe_op op_sub (pv 6) pe_int) pe_int) (pa_cons (pe_op op_mod (pv 7) (pv 6)) pa_nil))))))))) (pv 4) (fun _ _ => rfl)))
      (pss_one (ps_dput (hu_of hr) (pv 5) (pe_tup (pa_cons (pv 8) (pa_cons (pv 6) pa_nil))) pe_bl rfl)))))
      (pss_cut (ps_if (pt_cmpR op_eq (pv 4) pe_int (nomark _)) (pss_one (ps_dput (hu_of hr) (pv 5) (pe_tup (pa_cons pe_int (pa_cons (pe_op op_sub (pv 3) pe_int) pa_nil))) pe_bl rfl)) pss_nil)
      (pss_cut (ps_set (i := 9) sc_law_web.nd rfl (.inl rfl) (pe_ix (r := rIxL K) ix_list (pe_lst (pa_cons pe_int (pa_cons pe_int (pa_cons pe_int (pa_cons (pv 3) (pa_cons (pe_op op_mul pe_int (pv 3)) (pa_cons pe_int pa_nil))))))) (pe_op op_mod (pe_def D_law_next (hr.mono (by decide)) (by rfl) (pa_cons (pv 0) pa_nil)) pe_int) (fun _ _ => rfl)))
      (pss_cut (ps_for PassesOwn.never rfl (pi_range1 (by rfl) B.range_ (pa_cons (pv 9) pa_nil)) (pg_name (i := 10) sc_law_web.nd rfl (.inl rfl))
        (pss_cons (ps_set (i := 11) sc_law_web.nd rfl (.inl rfl) (pe_op op_mod (pe_def D_law_next (hr.mono (by decide)) (by rfl) (pa_cons (pv 0) pa_nil)) (pv 3)))
      (pss_cons (ps_set (i := 12) sc_law_web.nd rfl (.inl rfl) (pe_op op_mod (pe_def D_law_next (hr.mono (by decide)) (by rfl) (pa_cons (pv 0) pa_nil)) (pv 3)))
      (pss_one (ps_if (PW.pt (pw_and (pt_cmpR op_ne (pv 11) (pv 12) (nomark _)) (pw_and1 (pt_cmpR op_lt (pe_callB call_len_dT (by rfl) B.len_ (by decide +kernel) (pa_cons (pv 5) pa_nil)) pe_int (nomark _))))) (pss_one (ps_dput (hu_of hr) (pv 5) (pe_tup (pa_cons (pe_callB (call_min2 rfl) (by rfl) B.min_ (by decide +kernel) (pa_cons (pv 11) (pa_cons (pv 12) pa_nil))) (pa_cons (pe_callB (call_max2 rfl) (by rfl) B.max_ (by decide +kernel) (pa_cons (pv 11) (pa_cons (pv 12) pa_nil))) pa_nil))) pe_bl rfl)) pss_nil)))))
      (pss_cut (ps_set (i := 13) sc_law_web.nd rfl (.inr rfl) (pe_def D_law_turn (hr.mono (by decide)) (by rfl) (pa_cons (pv 0) (pa_cons (pv 3) pa_nil))))
      (pss_cut (ps_setLc (i := 14) (own := [("_law_one", 11), ("_law_other", 12)]) (g := gTup K 2 (gCons (gName 11) (gCons (gName 12) gNil))) (tt := tYes) (by rfl) sc_law_web.nd rfl rfl (sw_true rfl rfl rfl (by decide +kernel)) (pi_listK K rfl (pe_callB (call_sortedDT rfl) (by rfl) B.sorted_ (by decide +kernel) (pa_cons (pv 5) pa_nil))) (blkOk_by (N := ["_law_deck_here", "_law_least", "_law_most", "_law_places", "_law_form", "_law_found", "_law_k", "_law_cell", "_law_ahead", "_law_more", "_law_turn_here", "_law_one", "_law_other", "_law_names", "_law_ties"]) (sc := defScope st_law_web) (by decide +kernel)) (fun _ _ _ _ _ => (pg_tupK K rfl (by rfl) (pgs_cons (pg_name (i := 11) sc_law_web.nd rfl (.inl rfl)) (pgs_cons (pg_name (i := 12) sc_law_web.nd rfl (.inl rfl)) pgs_nil)))) (fun _ _ _ _ _ => pts_nil) (fun _ _ _ _ _ => (pe_tup (pa_cons (pe_callB (call_min2 rfl) (by rfl) B.min_ (by decide +kernel) (pa_cons (pe_ix (r := rIxT K) ix_tup (pv 13) (pv 11) (fun _ _ => rfl)) (pa_cons (pe_ix (r := rIxT K) ix_tup (pv 13) (pv 12) (fun _ _ => rfl)) pa_nil))) (pa_cons (pe_callB (call_max2 rfl) (by rfl) B.max_ (by decide +kernel) (pa_cons (pe_ix (r := rIxT K) ix_tup (pv 13) (pv 11) (fun _ _ => rfl)) (pa_cons (pe_ix (r := rIxT K) ix_tup (pv 13) (pv 12) (fun _ _ => rfl)) pa_nil))) pa_nil)))))
      (pss_one (ps_ret (pe_tup (pa_cons (pv 3) (pa_cons (pe_callTy (r := rTp K) call_tp (by rfl) B.tuple_ (by decide +kernel) (pa_cons (pe_callB (r := rSortedP K) cr_sortedP (by rfl) B.sorted_ (by decide +kernel) (pa_cons (pv 14) pa_nil)) pa_nil)) pa_nil)))))))))))))), ?_⟩
    refine ⟨_, rfl, _, rfl, d, rfl, hd, fun z1 ds1 => ⟨_, rfl, _, rfl, _, _, rfl, rfl, _, 1, rfl, rfl, _, _, rfl, rfl, by show (0 : Int) < 6 - 3 + 1; decide, _, _, rfl, rfl, ?_⟩⟩
    obtain ⟨n, hn, hn3, hn6⟩ : ∃ n : Nat, (3 : Int) + z1 % (6 - 3 + 1) = (n : Int) ∧ 3 ≤ n ∧ n ≤ 6 := ⟨(3 + z1 % (6 - 3 + 1)).toNat, by omega, by omega, by omega⟩
    dsimp only
    rw [hn]
    refine ⟨_, rfl, d, rfl, ⟨ds1, upd_same⟩, fun z2 ds2 => ⟨_, 8, rfl, rfl, by show (0 : Int) < 8; decide, ?_⟩⟩
    obtain ⟨f, hf, hf8⟩ : ∃ f : Nat, z2 % 8 = (f : Int) ∧ f < 8 := ⟨(z2 % 8).toNat, by omega, by omega⟩
    dsimp only
    rw [hf, upd_upd]
    refine fun fd hfd => ?_
    have hfdd : fd ≠ d := fun e => by rw [e, upd_same] at hfd; cases hfd
    have h0 : wo d H fd = none := by
      rw [wo_ne hfdd]
      rw [upd_ne hfdd] at hfd
      exact hfd
    have W0 : WSt d fd H (upd (upd H d (.lst (ds2.map V.int))) fd (.dT (kt []))) [] n 0 :=
      ⟨exd_mut (by rw [wo_upd]; exact Ex.refl _) h0, ⟨ds2, by rw [upd_ne hfdd.symm]; exact upd_same⟩, upd_same, .nil, fun e he => absurd he (by simp), Nat.le_refl _⟩
    refine ⟨fun σ H' => ∃ E y6 y7 y8, σ = [some (.ref d), some (.int 3), some (.int 6), some (.int (n : Int)), some (.int (f : Int)), some (.ref fd), y6, y7, y8, none, none, none, none, none, none] ∧ WSt d fd H H' E n 20, ?_, fun σ1 H1 hM => ?_⟩
    · refine ⟨_, rfl, 1, (n : Int), rfl, ⟨by decide, by decide, by omega, by omega⟩, ?_⟩
      have en : ((n : Int) - 1).toNat = n - 1 := by omega
      rw [en]
      refine for_range (fun i σ H' => ∃ E y6 y7 y8, σ = [some (.ref d), some (.int 3), some (.int 6), some (.int (n : Int)), some (.int (f : Int)), some (.ref fd), y6, y7, y8, none, none, none, none, none, none] ∧ WSt d fd H H' E n i) ⟨[], _, _, _, rfl, W0⟩ (fun i σ H' hi hP => ?_) (fun σ H' hP => ?_)
      · obtain ⟨E, y6, y7, y8, rfl, hW⟩ := hP
        refine ⟨_, rfl, d, rfl, hW.dk, fun c ds => ?_⟩
        have hW2 := hW.deck hfdd ds
        obtain ⟨u, hu1, hu2⟩ := ahead8 (1 + (i : Int)) c f hf8 (by omega)
        refine ⟨_, rfl, _, 1, rfl, rfl, _, rfl, _, rfl, c, 1 + (i : Int), rfl, rfl, by show (0 : Int) < 1 + (i : Int); omega, _, rfl, _, 1, rfl, rfl, _, rfl, c, 3, rfl, rfl, by show (0 : Int) < 3; decide, _, _, rfl, rfl, 0, _, rfl, _, rfl, _, 1, rfl, rfl, _, rfl, _, 2, rfl, rfl, 0, _, rfl, _, rfl, _, 1, rfl, rfl, _, 2, rfl, rfl, ⟨by decide, by decide⟩, _, rfl, _, rfl, c, 1 + (i : Int), rfl, rfl, by show (0 : Int) < 1 + (i : Int); omega, by show 8 ≤ sizeLine; decide, fun l hl => ?_⟩
        refine ⟨_, rfl, l, _, (f : Int), .int (u : Int), rfl, rfl, .of upd_same, hu1, ?_⟩
        have hW3 := hW2.new (x := .lst [V.int (1 + (i : Int) - 1), V.int 0, V.int (c % (1 + (i : Int))), V.int (if 1 + (i : Int) - 1 - c % 3 > 0 then 1 + (i : Int) - 1 - c % 3 else 0), V.int (1 + (i : Int) - 1), V.int (if 1 + (i : Int) - 2 > 0 then 1 + (i : Int) - 2 else 0), V.int ((1 + (i : Int) - 1) / 2), V.int (c % (1 + (i : Int)))]) hl
        refine ⟨_, rfl, _, rfl, _, rfl, by show 2 ≤ sizeLine; decide, fun t ht => ?_⟩
        have ek : (1 : Int) + (i : Int) = ((i + 1 : Nat) : Int) := by omega
        have hW4 := (hW3.new (x := .tup [.int (u : Int), .int ((i + 1 : Nat) : Int)]) ht).put hfdd h0 (x := u) (y := i + 1) (by omega) (by omega)
        refine ⟨fd, _, rfl, ?_, insT E (u, i + 1), _, _, _, rfl, hW4⟩
        have hdp := wst_dput (x := u) (y := i + 1) hW3 (by omega) ht
        rw [← ek] at hdp
        rw [← ek]
        exact hdp
      · obtain ⟨E, y6, y7, y8, rfl, hW⟩ := hP
        exact ⟨E, y6, y7, y8, rfl, hW.ex, hW.dk, hW.fnd, hW.nd, hW.ok, by have := hW.len; omega⟩
    · obtain ⟨E, y6, y7, y8, rfl, hW⟩ := hM
      refine ⟨fun σ H' => ∃ E, σ = [some (.ref d), some (.int 3), some (.int 6), some (.int (n : Int)), some (.int (f : Int)), some (.ref fd), y6, y7, y8, none, none, none, none, none, none] ∧ WSt d fd H H' E n 21, ?_, fun σ2 H2 hM2 => ?_⟩
      · refine ⟨_, rfl, rfl, _, rfl, ite2 (fun hc => ?_) (fun hc => ?_)⟩
        · refine ⟨_, rfl, _, rfl, _, 1, rfl, rfl, by show 2 ≤ sizeLine; decide, fun t ht => ?_⟩
          have ek : (n : Int) - 1 = ((n - 1 : Nat) : Int) := by omega
          dsimp only
          rw [ek]
          have hW4 := (hW.new (x := .tup [.int ((0 : Nat) : Int), .int ((n - 1 : Nat) : Int)]) ht).put hfdd h0 (x := 0) (y := n - 1) (by omega) (by omega)
          exact ⟨fd, _, rfl, wst_dput (x := 0) (y := n - 1) hW (by omega) ht, insT E (0, n - 1), rfl, hW4⟩
        · exact ⟨E, rfl, hW.ex, hW.dk, hW.fnd, hW.nd, hW.ok, by have := hW.len; omega⟩
      · obtain ⟨E, rfl, hW⟩ := hM2
        refine ⟨fun σ H' => ∃ m : Nat, m ≤ 12 ∧ σ = [some (.ref d), some (.int 3), some (.int 6), some (.int (n : Int)), some (.int (f : Int)), some (.ref fd), y6, y7, y8, some (.int (m : Int)), none, none, none, none, none] ∧ WSt d fd H H' E n 21, ?_, fun σ3 H3 hM3 => ?_⟩
        · refine ⟨_, rfl, _, rfl, 2, _, rfl, rfl, .inl ⟨by decide, by decide⟩, by show 6 ≤ sizeLine; decide, fun l hl => ?_⟩
          have hW2 := hW.new (x := .lst [V.int 0, V.int 1, V.int 3, V.int (n : Int), V.int (2 * (n : Int)), V.int 0]) hl
          refine ⟨_, rfl, d, rfl, hW2.dk, fun z ds => ⟨z, 6, rfl, rfl, by show (0 : Int) < 6; decide, ?_⟩⟩
          obtain ⟨g, hg, hg6⟩ : ∃ g : Nat, z % 6 = (g : Int) ∧ g < 6 := ⟨(z % 6).toNat, by omega, by omega⟩
          obtain ⟨m, hm1, hm2⟩ := more6 n g hg6 hn6
          have hld : l ≠ d := (dk_ne hW.dk hl).symm
          refine ⟨l, _, _, .int (m : Int), rfl, rfl, .of (by rw [upd_ne hld]; exact upd_same), by rw [hg]; exact hm1, m, hm2, rfl, hW2.deck hfdd ds⟩
        · obtain ⟨m, hm12, rfl, hW3⟩ := hM3
          refine ⟨fun σ H' => ∃ E y10 y11 y12, σ = [some (.ref d), some (.int 3), some (.int 6), some (.int (n : Int)), some (.int (f : Int)), some (.ref fd), y6, y7, y8, some (.int (m : Int)), y10, y11, y12, none, none] ∧ WSt d fd H H' E n 33, ?_, fun σ4 H4 hM4 => ?_⟩
          · refine ⟨_, rfl, (m : Int), rfl, by omega, by omega, ?_⟩
            have em : ((m : Int)).toNat = m := by omega
            rw [em]
            refine for_range (fun i σ H' => ∃ E y10 y11 y12, σ = [some (.ref d), some (.int 3), some (.int 6), some (.int (n : Int)), some (.int (f : Int)), some (.ref fd), y6, y7, y8, some (.int (m : Int)), y10, y11, y12, none, none] ∧ WSt d fd H H' E n (21 + i)) ⟨E, _, _, _, rfl, hW3⟩ (fun i σ H' hi hP => ?_) (fun σ H' hP => ?_)
            · obtain ⟨E, y10, y11, y12, rfl, hW⟩ := hP
              refine ⟨_, rfl, d, rfl, hW.dk, fun z1 ds1 => ⟨_, rfl, z1, (n : Int), rfl, rfl, by show (0 : Int) < (n : Int); omega, ?_⟩⟩
              have hnz : (n : Int) ≠ 0 := by omega
              obtain ⟨a, ha, han⟩ : ∃ a : Nat, z1 % (n : Int) = (a : Int) ∧ a < n := by
                have h1 := Int.emod_nonneg z1 hnz
                have h2 := Int.emod_lt_of_pos z1 (show (0 : Int) < (n : Int) by omega)
                exact ⟨(z1 % (n : Int)).toNat, by omega, by omega⟩
              have hW1 := hW.deck hfdd ds1
              refine ⟨_, rfl, d, rfl, hW1.dk, fun z2 ds2 => ⟨_, rfl, z2, (n : Int), rfl, rfl, by show (0 : Int) < (n : Int); omega, ?_⟩⟩
              obtain ⟨b, hb, hbn⟩ : ∃ b : Nat, z2 % (n : Int) = (b : Int) ∧ b < n := by
                have h1 := Int.emod_nonneg z2 hnz
                have h2 := Int.emod_lt_of_pos z2 (show (0 : Int) < (n : Int) by omega)
                exact ⟨(z2 % (n : Int)).toNat, by omega, by omega⟩
              have hW2 := hW1.deck hfdd ds2
              dsimp only
              rw [ha, hb]
              refine ⟨_, rfl, _, rfl, rfl, _, rfl, ite2 (fun hc => ?_) (fun hc => ?_)⟩
              · have hab : a ≠ b := fun e => by
                  subst e
                  rw [decide_eq_true rfl] at hc
                  exact absurd hc (by decide)
                refine ⟨_, rfl, fd, kt E, rfl, hW2.fnd, _, 200, rfl, rfl, _, rfl, ite2 (fun hc2 => ?_) (fun hc2 => ?_)⟩
                · refine ⟨_, rfl, _, rfl, _, rfl, (a : Int), (b : Int), rfl, _, rfl, _, rfl, (a : Int), (b : Int), rfl, by show 2 ≤ sizeLine; decide, fun t ht => ?_⟩
                  rw [tie_minmax] at *
                  have hxy : min a b < max a b ∧ max a b < n := by omega
                  have hl := hW2.len
                  have hW4 := (hW2.new (x := .tup (tieV (nrm (a, b)))) ht).put hfdd h0 (x := min a b) (y := max a b) hxy.1 hxy.2
                  exact ⟨fd, _, rfl, wst_dput (x := min a b) (y := max a b) hW2 (by omega) ht, insT E (min a b, max a b), _, _, _, rfl, hW4⟩
                · exact ⟨E, _, _, _, rfl, hW2.ex, hW2.dk, hW2.fnd, hW2.nd, hW2.ok, by have := hW2.len; omega⟩
              · exact iteF ⟨E, _, _, _, rfl, hW2.ex, hW2.dk, hW2.fnd, hW2.nd, hW2.ok, by have := hW2.len; omega⟩
            · obtain ⟨E, y10, y11, y12, rfl, hW⟩ := hP
              exact ⟨E, _, _, _, rfl, hW.ex, hW.dk, hW.fnd, hW.nd, hW.ok, by have := hW.len; omega⟩
          · obtain ⟨E, y10, y11, y12, rfl, hW⟩ := hM4
            refine ⟨fun σ H' => ∃ (r : Addr) (PP : List Nat), σ = [some (.ref d), some (.int 3), some (.int 6), some (.int (n : Int)), some (.int (f : Int)), some (.ref fd), y6, y7, y8, some (.int (m : Int)), y10, y11, y12, some (.ref r), none] ∧ WSt d fd H H' E n 33 ∧ H' r = some (.tup (ns PP)) ∧ PP.Perm (List.range n), ?_, fun σ5 H5 hM5 => ?_⟩
            · refine ⟨_, rfl, _, rfl, d, n, rfl, hW.dk, by omega, fun r H' PP e2 hd2 hr2 hperm => ?_⟩
              refine ⟨r, PP, rfl, ⟨hW.ex.trans e2, hd2, ?_, hW.nd, hW.ok, hW.len⟩, wo_ex _ _ hr2, hperm⟩
              exact wo_ex _ _ (e2 fd _ (by rw [wo_ne hfdd]; exact hW.fnd))
            · obtain ⟨r, PP, rfl, hW, hr, hperm⟩ := hM5
              refine ⟨fun σ H' => ∃ (T : Addr) (ts : List Addr) (E2 : List (Nat × Nat)), σ = [some (.ref d), some (.int 3), some (.int 6), some (.int (n : Int)), some (.int (f : Int)), some (.ref fd), y6, y7, y8, some (.int (m : Int)), y10, y11, y12, some (.ref r), some (.ref T)] ∧ Ex H5 H' ∧ H' T = some (.lst (ts.map V.ref)) ∧ E2.Perm E ∧ Pairs H' ts (E2.map (ledT PP)), ?_, fun σ6 H6 hM6 => ?_⟩
              · refine ⟨_, rfl, fd, kt E, rfl, .of hW.fnd, fun p hp => ?_, fun p bs cs hp hk hcs => ?_⟩
                · obtain ⟨e, _, rfl⟩ := List.mem_map.mp hp
                  exact ⟨_, _, rfl⟩
                · have hP0 := keys_pairs hk
                  obtain ⟨fs, E2, ecs, hP1, hE2⟩ := pairs_perm hP0 (hcs.map V.ref)
                  rw [ecs]
                  rw [ecs] at *
                  have e1 : Ex H5 (upd H5 p (.lst (fs.map V.ref))) := Ex.new hp
                  have hfl := pairs_len hP1
                  have hEl : E2.length ≤ 33 := by rw [hE2.length_eq]; exact hW.len
                  refine ⟨p, rfl, ⟨_, .of upd_same⟩, fun D hD => ?_⟩
                  refine lc_list (xs := fs.map V.ref) (fun i H' => ∃ ts : List Addr, Ex (upd H5 p (.lst (fs.map V.ref))) H' ∧ H' D = some (.lst (ts.map V.ref)) ∧ Pairs H' ts ((E2.take i).map (ledT PP))) ⟨[], Ex.new hD, upd_same, .nil⟩ (fun i H' _ hP => .of (hP.choose_spec.1 _ _ upd_same)) (fun i x H' hi hP => ?_) (fun H' hP => ?_)
                  · obtain ⟨ts, e2, hD2, hP2⟩ := hP
                    rw [List.getElem?_map] at hi
                    cases ht : fs[i]? with
                    | none => rw [ht] at hi; cases hi
                    | some t =>
                      rw [ht] at hi
                      have hx := (Option.some.inj hi).symm
                      subst hx
                      obtain ⟨e, he1, he2⟩ := pairs_at hP1 ht
                      have hem : e ∈ E := hE2.mem_iff.mp (List.mem_of_getElem? he1)
                      obtain ⟨ho1, ho2⟩ := hW.ok e hem
                      obtain ⟨ga, gan⟩ := turn_get hperm (show e.1 < n by omega)
                      obtain ⟨gb, gbn⟩ := turn_get hperm ho2
                      have hrH := e2 _ _ (e1 _ _ hr)
                      have ek : E2.take (i + 1) = E2.take i ++ [e] := by rw [List.take_add_one, he1]; rfl
                      have hil := (List.getElem?_eq_some_iff.mp he1).1
                      have htl := pairs_len hP2
                      rw [List.length_map, List.length_take] at htl
                      have hmin := Nat.min_le_right i E2.length
                      refine ⟨t, _, rfl, .of (e2 _ _ (e1 _ _ he2)), rfl, _, _, rfl, _, [], rfl, rfl, rfl, yes_go ?_⟩
                      refine ⟨_, rfl, _, rfl, r, _, _, _, rfl, rfl, .of hrH, atI_nat (ns_get ga), _, rfl, _, rfl, r, _, _, _, rfl, rfl, .of hrH, atI_nat (ns_get gb), _, _, rfl, _, rfl, _, rfl, r, _, _, _, rfl, rfl, .of hrH, atI_nat (ns_get ga), _, rfl, _, rfl, r, _, _, _, rfl, rfl, .of hrH, atI_nat (ns_get gb), _, _, rfl, by show 2 ≤ sizeLine; decide, fun t2 ht2 => ?_⟩
                      rw [tie_minmax]
                      have hDt : D ≠ t2 := ne_of_none hD2 ht2
                      refine ⟨ts.map V.ref, by rw [upd_ne hDt]; exact hD2, by rw [List.length_map]; exact small1000 (by omega), ts ++ [t2], Ex.mut (e2.trans (Ex.new ht2)) hD, by rw [upd_same, List.map_append]; rfl, ?_⟩
                      rw [ek, List.map_append]
                      exact pairs_upd (pairs_snoc (hP2.mono (Ex.new ht2)) upd_same) (by rw [upd_ne hDt]; exact hD2) no_tupL
                  · obtain ⟨ts, e2, hD2, hP2⟩ := hP
                    rw [List.length_map, hfl, List.take_length] at hP2
                    exact ⟨D, ts, E2, rfl, e1.trans e2, hD2, hE2, hP2⟩
              · obtain ⟨T, ts, E2, rfl, e6, hT, hE2, hP⟩ := hM6
                refine ⟨_, rfl, _, rfl, T, _, rfl, .of hT, pairs_all hP, fun ys p hys hp => ?_⟩
                obtain ⟨fs, E3, rfl, hP3, hE3⟩ := pairs_perm hP hys
                refine ⟨p, _, rfl, .inl ⟨.of upd_same, fun l hl => ⟨by show 2 ≤ sizeLine; decide, fun rr hrr => ?_⟩⟩⟩
                have e7 : Ex H6 (upd (upd (upd H6 p (.lst (fs.map V.ref))) l (.tup (fs.map V.ref))) rr (.tup [.int (n : Int), .ref l])) := ((Ex.new hp).trans (Ex.new hl)).trans (Ex.new hrr)
                have hdk := dk_ex hW.dk (e6.trans e7)
                have hrl : l ≠ rr := ne_of_none (H := upd _ l _) upd_same hrr
                have hmem : ∀ e ∈ E3, ∃ e0 ∈ E, e = ledT PP e0 := fun e he => by
                  obtain ⟨e0, h1, h2⟩ := List.mem_map.mp (hE3.mem_iff.mp he)
                  exact ⟨e0, hE2.mem_iff.mp h1, h2.symm⟩
                have hok : ∀ e ∈ E3, e.1 < e.2 ∧ e.2 < n := fun e he => by
                  obtain ⟨e0, h1, rfl⟩ := hmem e he
                  exact led_ok hperm (hW.ok e0 h1)
                have hnd : E3.Nodup := hE3.nodup_iff.mpr (nodup_map_on (hE2.nodup_iff.mpr hW.nd) fun x hx y hy h => led_inj hperm (hW.ok x (hE2.mem_iff.mp hx)) (hW.ok y (hE2.mem_iff.mp hy)) h)
                have htr := hdk
                have hA : WebAt K (wo d (upd (upd (upd H6 p (.lst (fs.map V.ref))) l (.tup (fs.map V.ref))) rr (.tup [.int (n : Int), .ref l]))) rr n (adjOf E3) := by
                  have g1 : (upd (upd (upd H6 p (.lst (fs.map V.ref))) l (.tup (fs.map V.ref))) rr (.tup [.int (n : Int), .ref l])) l = some (.tup (fs.map V.ref)) := by rw [upd_ne hrl, upd_same]
                  refine ⟨l, fs, E3, .of (wo_row upd_same (dk_tup hdk upd_same)), .of (wo_row g1 (dk_tup hdk g1)), ?_, hok, hnd, fun _ _ => rfl⟩
                  exact Paired.mapP (hP3.mono e7) fun t e h => wo_row h (dk_tup hdk h)
                exact q rr _ n (adjOf E3) ⟨hn3, hn6, hA.sym, hA.irr⟩ hA (hW.ex.trans (wo_mono (e6.trans e7))) hdk
end
end ML
set_option Elab.async false
set_option linter.all false
set_option maxRecDepth 100000
set_option maxHeartbeats 4000000
namespace ML
open PySem PySem.Spec PyProof.Rows L2 Evl
/-! ### lists of needs -/
def NeedsL (H : Hp) (ss : List Addr) (es : List Need) : Prop := Paired (fun t e => NeedAt H t e) ss es
theorem NeedsL.mono {H H' : Hp} {ss : List Addr} {es : List Need} (h : NeedsL H ss es) (e : Ex H H') : NeedsL H' ss es := Paired.mapP h fun _ _ q => q.mono e
theorem needAt_upd {H : Hp} {r o : Addr} {u x : HO} (ho : H o = some u) (hu : ∀ xs, u ≠ .tup xs) : ∀ {e : Need}, NeedAt H r e → NeedAt (upd H o x) r e
  | .own y, h => by
    have h' : H r = some (.tup [.str "own", .int (y : Int)]) := h
    show upd H o x r = _
    rw [upd_ne (ne_of h' ho fun c => hu _ c.symm)]
    exact h'
  | .parts L, ⟨q, h1, h2⟩ => ⟨q, by rw [upd_ne (ne_of h1 ho fun c => hu _ c.symm)]; exact h1, by rw [upd_ne (ne_of h2 ho fun c => hu _ c.symm)]; exact h2⟩
theorem needs_upd {H : Hp} {ss : List Addr} {es : List Need} {o : Addr} {u x : HO} (h : NeedsL H ss es) (ho : H o = some u) (hu : ∀ xs, u ≠ .tup xs) : NeedsL (upd H o x) ss es := Paired.mapP h fun _ _ q => needAt_upd ho hu q
theorem needs_snoc {H : Hp} {ss : List Addr} {es : List Need} {t : Addr} {e : Need} (h : NeedsL H ss es) (ht : NeedAt H t e) : NeedsL H (ss ++ [t]) (es ++ [e]) := by
  unfold NeedsL at h ⊢
  induction h with
  | nil => exact .cons ht .nil
  | cons a _ ih => exact .cons a ih
theorem needs_len {H : Hp} {ss : List Addr} {es : List Need} (h : NeedsL H ss es) : ss.length = es.length := Paired.length h
theorem needs_at {H : Hp} : ∀ {ss : List Addr} {es : List Need} {i : Nat} {t : Addr}, NeedsL H ss es → ss[i]? = some t → ∃ e, es[i]? = some e ∧ NeedAt H t e
  | _, _, _, _, .nil, h => by simp at h
  | _, _, 0, _, .cons a _, h => ⟨_, rfl, by have := Option.some.inj h; rw [← this]; exact a⟩
  | _, _, i + 1, _, .cons _ r, h => needs_at (i := i) r h
theorem needs_dp {K : PySem.W.Frag} {H : Hp} : ∀ {ss : List Addr} {es : List Need}, NeedsL H ss es → DpAll K H (ss.map V.ref) (es.map needD)
  | _, _, .nil => .nil
  | _, _, .cons a r => .cons a.dp (needs_dp r)
theorem needAt_wo {d r : Addr} {H : Hp} (hd : Dk d H) : ∀ {e : Need}, NeedAt H r e → NeedAt (wo d H) r e
  | .own y, h => wo_row h (dk_tup hd h)
  | .parts L, ⟨q, h1, h2⟩ => ⟨q, wo_row h1 (dk_tup hd h1), wo_row h2 (dk_tup hd h2)⟩
theorem own_ok : PyData.strOk ("own" : Str) = true := by decide +kernel
theorem parts_ok : PyData.strOk ("parts" : Str) = true := by decide +kernel
theorem needD_lay (e : Need) : (needD e).canLay0 = true := by
  cases e with
  | own x => simp [needD, PyData.canLay0, PyData.canLayAll0, own_ok]
  | parts L => simp [needD, PyData.canLay0, PyData.canLayAll0, parts_ok, di_lay]
theorem needD_depth (e : Need) : (needD e).depth ≤ 2 := by
  cases e with
  | own x => simp [needD, PyData.depth, PyData.depthAll]
  | parts L =>
    have := di_depth L
    simp [needD, PyData.depth, PyData.depthAll]
    omega
theorem needs_lay : ∀ es : List Need, PyData.canLayAll0 (es.map needD) = true
  | [] => by simp [PyData.canLayAll0]
  | e :: es => by
    rw [List.map_cons]
    simp only [PyData.canLayAll0]
    rw [needD_lay e, needs_lay es]
    rfl
theorem needs_depth : ∀ es : List Need, PyData.depthAll (es.map needD) ≤ 2
  | [] => by simp [PyData.depthAll]
  | e :: es => by
    have h1 := needs_depth es
    have h2 := needD_depth e
    rw [List.map_cons]
    simp only [PyData.depthAll]
    omega
theorem needs_sh (es : List Need) : SeqAt.shaped (.list (es.map needD)) = true := by
  show (PyData.canLay0 (.list (es.map needD)) && decide (PyData.depth (.list (es.map needD)) ≤ 64)) = true
  have h1 := needs_lay es
  have h2 := needs_depth es
  rw [Bool.and_eq_true]
  exact ⟨by simp only [PyData.canLay0]; exact h1, decide_eq_true (by simp only [PyData.depth]; omega)⟩
theorem needs_nil (es : List Need) : PyData.eqv (.list (es.map needD)) (.list []) = es.isEmpty := by
  cases es <;> simp [PyData.eqv, PyData.eqvAll]
/-- its list is not long -/
def NeedSmall : Need → Prop
  | .own _ => True
  | .parts L => L.length ≤ 100
theorem needOk_small {n : Nat} {adj : Nat → Nat → Bool} {L : List Nat} {p : Nat} (hn : n ≤ 6) : ∀ {e : Need}, NeedOk n adj L p e → NeedSmall e
  | .own _, _ => trivial
  | .parts M, h => by
    have := h.1.len
    show M.length ≤ 100
    omega
theorem cut1n (l : List Nat) : cutV (ns l) none (some 1) = ns (l.take 1) := by
  unfold cutV
  rw [HT.sIx_none, show HT.sIx (ns l).length (ns l).length (some 1) = min 1 (ns l).length from HT.sIx_nat (ns l).length (ns l).length 1, List.drop_zero, Nat.sub_zero]
  cases l with
  | nil => rfl
  | cons a l =>
    rw [show min 1 (ns (a :: l)).length = 1 by rw [ns_len, List.length_cons]; omega]
    rfl
section
variable {P : Program} {w : World} {K : PySem.W.Frag} {mg : Str → Option Value} {base : Heap}
/-! ### _law_some_need -/
abbrev st_law_some_need : Stmt := top 39
theorem sc_law_some_need : FnScope ["_law_deck_here", "_law_near_here", "_law_busy", "_law_place", "_law_turn_here", "_law_own", "_law_rest", "_law_some", "_law_side", "_law_k", "_law_other"] ["_law_deck_here", "_law_near_here", "_law_busy", "_law_place"] (defScope st_law_some_need) := ⟨rfl, rfl, rfl, by decide +kernel, rfl, by decide +kernel, by decide +kernel⟩
def sp_law_some_need (K : PySem.W.Frag) : Sp := fun vs H Q _ => ∃ d a b n adj L p, vs = [.ref d, .ref a, .ref b, .int ((p : Nat) : Int)] ∧ Dk d H ∧ NearAt (wo d H) a n adj ∧ Web n adj ∧ SqT K (wo d H) b (ns L) ∧ Rise n L ∧ p ∈ L ∧
  ∀ r H' e, Ex (wo d H) (wo d H') → Dk d H' → NeedAt (wo d H') r e → NeedSmall e → (IsBusy n adj L → IsLean n adj L → NeedOk n adj L p e) → Q (.ref r) H'
theorem D_law_some_need (L : Ld K mg "_law_some_need" st_law_some_need) (B : Bt mg) (D_law_next : Def P w K mg base "_law_next" 1 ["_law_deck_here"] (sp_law_next K)) (D_law_lot : Def P w K mg base "_law_lot" 1 ["_law_near_here", "_law_p"] (sp_law_lot K)) (D_law_reach : Def P w K mg base "_law_reach" 1 ["_law_near_here", "_law_start", "_law_allowed"] (sp_law_reach K)) : Def P w K mg base "_law_some_need" 2 ["_law_deck_here", "_law_near_here", "_law_busy", "_law_place"] (sp_law_some_need K) := by
  refine L.ok (ps := ["_law_deck_here", "_law_near_here", "_law_busy", "_law_place"]) sc_law_some_need (fun _ _ _ _ _ _ us hl => match us, hl with | [_, _, _, _], _ => rfl) (fun vs H Q E h => ?_) (fun f cdv A outer s H vs Q E hr h => ?_)
  · obtain ⟨d, a, b, n, adj, L, p, rfl, _⟩ := h
    rfl
  · obtain ⟨d, a, b, n, adj, L, p, rfl, hd, hN, hw, hL, hr1, hp, q⟩ := h
    refine ⟨_, (pss_cons (ps_set (i := 4) sc_law_some_need.nd rfl (.inl rfl) (pe_def D_law_next (hr.mono (by decide)) (by rfl) (pa_cons (pv 0) pa_nil)))
      (pss_cons (ps_setLc (i := 5) (own := [("_law_k", 9)]) (g := gName 9) (by rfl) sc_law_some_need.nd rfl rfl (sw_true rfl rfl rfl (by decide +kernel)) (pi_range1 (by rfl) B.range_ (pa_cons (pe_callB (r := rLn K) call_ln (by rfl) B.len_ (by decide +kernel) (pa_cons (pv 1) pa_nil)) pa_nil)) (blkOk_by (N := ["_law_deck_here", "_law_near_here", "_law_busy", "_law_place", "_law_turn_here", "_law_own", "_law_rest", "_law_some", "_law_side", "_law_k", "_law_other"]) (sc := defScope st_law_some_need) (by decide +kernel)) (fun _ _ _ _ _ => (pg_name (i := 9) sc_law_some_need.nd rfl (.inl rfl))) (fun _ _ _ _ _ => (pts_one (pt_cmpR (r := rEqD K) (op_eqD hr.units) (pe_lc (own := [("_law_other", 10)]) (g := gName 10) (by rfl) sc_law_some_need.nd (pi_listK K rfl (pe_def D_law_lot (hr.mono (by decide)) (by rfl) (pa_cons (pv 1) (pa_cons (pv 9) pa_nil)))) (blkOk_by (N := ["_law_deck_here", "_law_near_here", "_law_busy", "_law_place", "_law_turn_here", "_law_own", "_law_rest", "_law_some", "_law_side", "_law_k", "_law_other"]) (sc := relS _ (defScope st_law_some_need)) (by decide +kernel)) (fun _ _ _ _ _ => (pg_name (i := 10) sc_law_some_need.nd rfl (.inl rfl))) (fun _ _ _ _ _ => (pts_one (pt_cmpR (r := rIn K false) op_in_seq (pv 10) (pv 2) (by rfl)))) (fun _ _ _ _ _ => (pv 10))) (pe_lst (pa_cons (pv 3) pa_nil)) (nomark _)))) (fun _ _ _ _ _ => (pv 9)))
      (pss_cons (ps_setLc (i := 6) (own := [("_law_k", 9)]) (g := gName 9) (by rfl) sc_law_some_need.nd rfl rfl (sw_true rfl rfl rfl (by decide +kernel)) (pi_tupK K rfl (pv 2)) (blkOk_by (N := ["_law_deck_here", "_law_near_here", "_law_busy", "_law_place", "_law_turn_here", "_law_own", "_law_rest", "_law_some", "_law_side", "_law_k", "_law_other"]) (sc := defScope st_law_some_need) (by decide +kernel)) (fun _ _ _ _ _ => (pg_name (i := 9) sc_law_some_need.nd rfl (.inl rfl))) (fun _ _ _ _ _ => (pts_one (pt_cmpR op_ne (pv 9) (pv 3) (nomark _)))) (fun _ _ _ _ _ => (pv 9)))
      (pss_cut (ps_setLc (i := 7) (own := [("_law_k", 9)]) (g := gName 9) (tt := tYes) (by rfl) sc_law_some_need.nd rfl rfl (sw_true rfl rfl rfl (by decide +kernel)) (pi_listK K rfl (pv 5)) (blkOk_by (N := ["_law_deck_here", "_law_near_here", "_law_busy", "_law_place", "_law_turn_here", "_law_own", "_law_rest", "_law_some", "_law_side", "_law_k", "_law_other"]) (sc := defScope st_law_some_need) (by decide +kernel)) (fun _ _ _ _ _ => (pg_name (i := 9) sc_law_some_need.nd rfl (.inl rfl))) (fun _ _ _ _ _ => pts_nil) (fun _ _ _ _ _ => (pe_tup (pa_cons pe_str (pa_cons (pv 9) pa_nil)))))
      (pss_cut (ps_if (pt_cmpR (r := rNeD K) (op_neD hr.units) (pv 6) (pe_lst pa_nil) (nomark _)) (pss_cons (ps_set (i := 8) sc_law_some_need.nd rfl (.inl rfl) (pe_def D_law_reach (hr.mono (by decide)) (by rfl) (pa_cons (pv 1) (pa_cons (pe_ix (r := rIxL K) ix_list (pv 6) (pe_op op_mod (pv 4) (pe_callB (r := rLn K) call_ln (by rfl) B.len_ (by decide +kernel) (pa_cons (pv 6) pa_nil))) (fun _ _ => rfl)) (pa_cons (pv 6) pa_nil)))))
      (pss_one (ps_if (pt_cmpR op_lt (pe_callB (r := rLn K) call_ln (by rfl) B.len_ (by decide +kernel) (pa_cons (pv 8) pa_nil)) (pe_callB (r := rLn K) call_ln (by rfl) B.len_ (by decide +kernel) (pa_cons (pv 6) pa_nil)) (nomark _)) (pss_one (ps_expr (pe_bm PySem.F.plainAttrs_list PySem.F.slot_list_append PySem.F.type_list_append mt_append (pv 7) (pa_cons (pe_tup (pa_cons pe_str (pa_cons (pe_callTy (r := rTp K) call_tp (by rfl) B.tuple_ (by decide +kernel) (pa_cons (pv 8) pa_nil)) pa_nil))) pa_nil)))) pss_nil))) pss_nil)
      (pss_cons (ps_if (pt_cmpR (r := rEqD K) (op_eqD hr.units) (pv 7) (pe_lst pa_nil) (nomark _)) (pss_one (ps_ret (pe_ix (r := rIxL K) ix_list (pe_lst (pa_cons (pe_tup (pa_cons pe_str (pa_cons (pv 3) pa_nil))) (pa_cons (pe_tup (pa_cons pe_str (pa_cons (pe_callTy (r := rTp K) call_tp (by rfl) B.tuple_ (by decide +kernel) (pa_cons (pe_slice sl_list (pv 6) po_none (po_some pe_int)) pa_nil)) pa_nil))) pa_nil))) (pe_op op_mod (pv 4) pe_int) (fun _ _ => rfl)))) pss_nil)
      (pss_one (ps_ret (pe_ix (r := rIxL K) ix_list (pv 7) (pe_op op_mod (pe_def D_law_next (hr.mono (by decide)) (by rfl) (pa_cons (pv 0) pa_nil)) (pe_callB (r := rLn K) call_ln (by rfl) B.len_ (by decide +kernel) (pa_cons (pv 7) pa_nil))) (fun _ _ => rfl)))))))))), ?_⟩
    have hhi := hw.hi
    have hlo := hw.lo
    have hll := hr1.len
    refine ⟨_, rfl, d, rfl, hd, fun z ds => ?_⟩
    have e1 : Ex (wo d H) (upd H d (.lst (ds.map V.int))) := by
      have : wo d (upd H d (.lst (ds.map V.int))) = wo d H := wo_upd
      rw [← this]
      exact wo_ex
    have hd1 : Dk d (upd H d (.lst (ds.map V.int))) := ⟨ds, upd_same⟩
    have ew : wo d (upd H d (.lst (ds.map V.int))) = wo d H := wo_upd
    generalize upd H d (.lst (ds.map V.int)) = H1 at e1 hd1 ew
    have hN1 := hN.mono e1
    have hL1 := ex_t e1 hL
    obtain ⟨rs, g1, g2, g3⟩ := hN1.ex
    have hO : EvL (tLc (iRng1 (tCons (tCB (rLn K) (tCons (tVar 1) tNil)) tNil)) (gName 9) (tTest (tOp (rEqD K) (tLc (iList K (tCall (sp_law_lot K) [] E0 (tCons (tVar 1) (tCons (tVar 9) tNil)))) (gName 10) (tTest (tOp (rIn K false) (tVar 10) (tVar 2))) (tVar 10) [10]) (tLst (tCons (tVar 3) tNil)))) (tVar 9) [9])
        [some (.ref d), some (.ref a), some (.ref b), some (.int (p : Int)), some (.int z), none, none, none, none, none, none] H1 (ns ((List.range n).filter fun k => decide (((lot n adj k).filter fun u => decide (u ∈ L)) = [p]))) := by
      refine el_R n (fun k => decide (((lot n adj k).filter fun u => decide (u ∈ L)) = [p])) (fun v => .int (v : Int)) (m := ((rs.map V.ref).length : Int)) (ea_cons (ev_lnL (ev_var rfl) (.of g1)) ea_nil) (by rw [List.length_map, g2]) (by omega) (fun _ => rfl) (fun k hk => ?_) (fun v hv _ => ev_var rfl)
      refine et_test ?_
      intro H2 e2 R hR
      refine ⟨_, rfl, _, rfl, a, n, adj, k, rfl, hN1.mono e2, hw.irr, hhi, hk, fun r H3 hr e3 k3 => ⟨r, rfl, ⟨_, .of k3⟩, fun D hD => ?_⟩⟩
      refine lcL (lot n adj k) (.of k3) (by have := lot_len n adj k; omega) (fun u => decide (u ∈ L)) (fun v => .int (v : Int)) (fun _ => ?_) (fun v hv => ?_) (fun v hv _ => ?_) hD fun H4 e4 hl4 => ?_
      · rfl
      · exact et_test (ev_inT L (ev_var rfl) (ev_var rfl) (ex_t (e2.trans e3) hL1))
      · exact ev_var rfl
      · refine ⟨_, rfl, by show 1 ≤ sizeLine; decide, fun l hl => ?_⟩
        have hDl : D ≠ l := ne_of_none hl4 hl
        exact rv_eqN (b := [p]) (.of (by rw [upd_ne hDl]; exact hl4)) (.of upd_same) _ (Ex.refl _) _ fun H5 e5 => hR H5 (((e3.trans e4).trans (Ex.new hl)).trans e5)
    refine q_asgL hO fun oo H2 hoo e2 ho2 => ?_
    have hRst : EvL (tLc (iTup K (tVar 2)) (gName 9) (tTest (tOp rNe (tVar 9) (tVar 3))) (tVar 9) [9]) [some (.ref d), some (.ref a), some (.ref b), some (.int (p : Int)), some (.int z), some (.ref oo), none, none, none, none, none] H2 (ns (wop L p)) := by
      refine el_T L (fun x => decide (x ≠ p)) (fun v => .int (v : Int)) (ev_var rfl) (ex_t e2 hL1) (by omega) (fun _ => rfl) (fun v hv => ?_) (fun v hv _ => ev_var rfl)
      refine et_is (et_test (ev_op (ev_var rfl) (ev_var rfl) (rv_ne rfl))) ?_
      rw [dec_ns]
      exact decide_not.symm
    refine q_asgL hRst fun rt H3 hrt e3 hr3 => ?_
    have e13 : Ex H1 H3 := e2.trans e3
    have ho3 := e3 _ _ ho2
    generalize hOdef : ((List.range n).filter fun k => decide (((lot n adj k).filter fun u => decide (u ∈ L)) = [p])) = O at ho3
    have hOm : ∀ k, k ∈ O ↔ k < n ∧ Own n adj L p k := fun k => by
      rw [← hOdef, List.mem_filter, List.mem_range, decide_eq_true_eq]
      rfl
    have hOl : O.length ≤ n := by
      rw [← hOdef]
      have := List.length_filter_le (fun k => decide (((lot n adj k).filter fun u => decide (u ∈ L)) = [p])) (List.range n)
      rw [List.length_range] at this
      exact this
    have hrw : Rise n (wop L p) := hr1.filter _
    have hrwl := hrw.len
    refine ⟨fun σ H' => ∃ (so : Addr) (ss : List Addr), σ = [some (.ref d), some (.ref a), some (.ref b), some (.int (p : Int)), some (.int z), some (.ref oo), some (.ref rt), some (.ref so), none, none, none] ∧ Ex H3 H' ∧ H3 so = none ∧ H' so = some (.lst (ss.map V.ref)) ∧ NeedsL H' ss (O.map Need.own), ?_, fun σ4 H4 hM4 => ?_⟩
    · refine ⟨_, rfl, oo, rfl, ⟨_, .of ho3⟩, fun D hD => ?_⟩
      refine lc_list (xs := ns O) (fun i H' => ∃ ss : List Addr, Ex H3 H' ∧ H' D = some (.lst (ss.map V.ref)) ∧ NeedsL H' ss ((O.take i).map Need.own)) ⟨[], Ex.new hD, upd_same, .nil⟩ (fun i H' _ hP => .of (hP.choose_spec.1 _ _ ho3)) (fun i x H' hi hP => ?_) (fun H' hP => ?_)
      · obtain ⟨ss, e4, hD4, hs4⟩ := hP
        obtain ⟨k, hk, hkm, rfl⟩ := ns_got hi
        refine ⟨rfl, yes_go ?_⟩
        refine ⟨_, rfl, by show 2 ≤ sizeLine; decide, fun t ht => ?_⟩
        have hDt : D ≠ t := ne_of_none hD4 ht
        have ek : O.take (i + 1) = O.take i ++ [k] := by rw [List.take_add_one, hk]; rfl
        have hsl := needs_len hs4
        rw [List.length_map, List.length_take] at hsl
        have hmin := Nat.min_le_right i O.length
        refine ⟨ss.map V.ref, by rw [upd_ne hDt]; exact hD4, by rw [List.length_map]; exact small1000 (by omega), ss ++ [t], Ex.mut (e4.trans (Ex.new ht)) hD, by rw [upd_same, List.map_append]; rfl, ?_⟩
        rw [ek, List.map_append]
        exact needs_upd (needs_snoc (hs4.mono (Ex.new ht)) (show NeedAt _ t (.own k) from upd_same)) (by rw [upd_ne hDt]; exact hD4) no_tupL
      · obtain ⟨ss, e4, hD4, hs4⟩ := hP
        rw [ns_len, List.take_length] at hs4
        exact ⟨D, ss, rfl, e4, hD, hD4, hs4⟩
    · obtain ⟨so, ss, rfl, e4, hso0, hso, hss⟩ := hM4
      refine ⟨fun σ H' => ∃ (y8 : Option V) (ss : List Addr) (es : List Need), σ = [some (.ref d), some (.ref a), some (.ref b), some (.int (p : Int)), some (.int z), some (.ref oo), some (.ref rt), some (.ref so), y8, none, none] ∧ Ex H3 H' ∧ H' so = some (.lst (ss.map V.ref)) ∧ NeedsL H' ss es ∧ (∀ e ∈ es, NeedOk n adj L p e) ∧ (IsBusy n adj L → IsLean n adj L → es ≠ []) ∧ es.length ≤ n + 1, ?_, fun σ5 H5 hM5 => ?_⟩
      · have hokO : ∀ e ∈ O.map Need.own, NeedOk n adj L p e := fun e he => by
          obtain ⟨k, hk, rfl⟩ := List.mem_map.mp he
          exact (hOm k).mp hk
        have hc : EvT (tTest (tOp (rNeD K) (tVar 6) (tLst tNil))) [some (.ref d), some (.ref a), some (.ref b), some (.int (p : Int)), some (.int z), some (.ref oo), some (.ref rt), some (.ref so), none, none, none] H4 (!decide (wop L p = [])) :=
          et_test (ev_opL (ev_var rfl) (el_lst ea_nil (Nat.zero_le _)) fun p1 H' hp1 e => rv_neN (b := []) (.of (e _ _ (e4 _ _ hr3))) (.of hp1))
        refine s_when hc (fun hb H5 e5 => ?_) (fun hb H5 e5 => ?_)
        · have hne : wop L p ≠ [] := by
            rw [Bool.not_eq_true', decide_eq_false_iff_not] at hb
            exact hb
          have hrt5 := e5 _ _ (e4 _ _ hr3)
          have hlen0 : 0 < (wop L p).length := List.length_pos_iff.mpr hne
          obtain ⟨j, hj, hjl⟩ : ∃ j : Nat, z % ((ns (wop L p)).length : Int) = (j : Int) ∧ j < (wop L p).length := by
            rw [ns_len]
            have h1 := Int.emod_nonneg z (show ((wop L p).length : Int) ≠ 0 by omega)
            have h2 := Int.emod_lt_of_pos z (show (0 : Int) < ((wop L p).length : Int) by omega)
            exact ⟨(z % ((wop L p).length : Int)).toNat, by omega, by omega⟩
          obtain ⟨s, hs⟩ : ∃ s, (wop L p)[j]? = some s := ⟨_, List.getElem?_eq_getElem hjl⟩
          have hsm := List.mem_of_getElem? hs
          refine ⟨_, rfl, _, rfl, _, rfl, _, rfl, rt, _, rfl, .inl (.of hrt5), z, _, rfl, rfl, by rw [ns_len]; omega, rt, _, _, .int (s : Int), rfl, rfl, .of hrt5, by rw [hj]; exact atI_nat (ns_get hs), _, rfl, a, rt, n, adj, s, wop L p, rfl, hN1.mono ((e13.trans e4).trans e5), hhi, .of hrt5, hrw.lt, hsm, fun r H6 R hR hr6 e6 k6 => ?_⟩
          have hrt6 := e6 _ _ hrt5
          have hso6 := e6 _ _ (e5 _ _ hso)
          have hss6 := hss.mono (e5.trans e6)
          refine ⟨_, rfl, r, _, rfl, .inl (.of k6), _, rfl, rt, _, rfl, .inl (.of hrt6), _, _, rfl, rfl, _, rfl, ite2 (fun hc2 => ?_) (fun hc2 => ?_)⟩
          · have hless : R.length < (wop L p).length := by
              have := of_decide_eq_true hc2
              rw [ns_len, ns_len] at this
              omega
            refine ⟨_, rfl, .inl ⟨rfl, _, .of hso6⟩, _, rfl, r, _, rfl, .inl ⟨.of k6, fun q1 hq1 => ⟨by show 2 ≤ sizeLine; decide, fun t ht => ?_⟩⟩⟩
            have hsq : so ≠ q1 := ne_of_none hso6 hq1
            have hst : so ≠ t := ne_of_none (H := upd H6 q1 _) (by rw [upd_ne hsq]; exact hso6) ht
            have hqt : q1 ≠ t := ne_of_none (H := upd H6 q1 _) upd_same ht
            have hsl := needs_len hss6
            rw [List.length_map] at hsl
            have e7 : Ex H6 (upd (upd H6 q1 (.tup (ns R))) t (.tup [.str "parts", .ref q1])) := (Ex.new hq1).trans (Ex.new ht)
            refine ⟨so, ss.map V.ref, _, rfl, rfl, by rw [upd_ne hst, upd_ne hsq]; exact hso6, by rw [List.length_map]; exact small1000 (by omega), _, ss ++ [t], O.map Need.own ++ [.parts R], rfl, Ex.mut (((e4.trans e5).trans e6).trans e7) hso0, by rw [upd_same, List.map_append]; rfl, ?_, fun e he => ?_, fun _ _ => by simp, by rw [List.length_append, List.length_map]; show _ + 1 ≤ _; omega⟩
            · exact needs_upd (needs_snoc (hss6.mono e7) (show NeedAt _ t (.parts R) from ⟨q1, upd_same, by rw [upd_ne hqt, upd_same]⟩)) (by rw [upd_ne hst, upd_ne hsq]; exact hso6) no_tupL
            · rcases List.mem_append.mp he with he | he
              · exact hokO e he
              · rw [List.mem_singleton.mp he]
                exact ⟨hR.rise, fun e => by have := hR.start; rw [e] at this; exact absurd this (by simp), hless, hR.inB hsm, fun x hx u hu ha => hR.closed x hx u (hrw.lt u hu) ha hu⟩
          · refine ⟨_, ss, O.map Need.own, rfl, (e4.trans e5).trans e6, hso6, hss6, hokO, fun hB hLe hnil => ?_, by rw [List.length_map]; omega⟩
            have hno : ∀ x, x < n → ¬ Own n adj L p x := fun x hx ho => by
              have : x ∈ O := (hOm x).mpr ⟨hx, ho⟩
              rw [List.map_eq_nil_iff.mp hnil] at this
              exact absurd this (by simp)
            have hside := (lean_need hw hr1 hB hLe hp hno).2 s R hsm hR
            refine hc2 (decide_eq_true ?_)
            rw [ns_len, ns_len]
            have := hside.less
            omega
        · have he0 : wop L p = [] := by
            rw [Bool.not_eq_false', decide_eq_true_eq] at hb
            exact hb
          refine ⟨none, ss, O.map Need.own, rfl, e4.trans e5, e5 _ _ hso, hss.mono e5, hokO, fun hB hLe hnil => ?_, by rw [List.length_map]; omega⟩
          have hno : ∀ x, x < n → ¬ Own n adj L p x := fun x hx ho => by
            have : x ∈ O := (hOm x).mpr ⟨hx, ho⟩
            rw [List.map_eq_nil_iff.mp hnil] at this
            exact absurd this (by simp)
          exact (lean_need hw hr1 hB hLe hp hno).1 he0
      · obtain ⟨y8, ss, es, rfl, e5, hso5, hss5, hok, hne, hel⟩ := hM5
        have hsl := needs_len hss5
        have hd5 := dk_ex hd1 (e13.trans e5)
        have hrt5 := e5 _ _ hr3
        have eW : ∀ {H6}, Ex H5 H6 → Ex (wo d H) (wo d H6) := fun {H6} e6 => by
          rw [← ew]
          exact wo_mono ((e13.trans e5).trans e6)
        refine ⟨_, rfl, Nat.zero_le _, fun l0 hl0 => ?_⟩
        have e6 : Ex H5 (upd H5 l0 (.lst [])) := Ex.new hl0
        refine ⟨.list (es.map needD), .list [], .lst (.of (e6 _ _ hso5)) (needs_dp (hss5.mono e6)), .lst (.of upd_same) .nil, needs_sh es, di_shL [], _, rfl, ?_⟩
        rw [needs_nil]
        refine ite2 (fun hc => ?_) (fun hc => ?_)
        · -- made up
          have hes : es = [] := List.isEmpty_iff.mp hc
          have hnl : IsBusy n adj L → IsLean n adj L → False := fun h1 h2 => hne h1 h2 hes
          refine ⟨_, rfl, by show 2 ≤ sizeLine; decide, fun t1 ht1 => ⟨_, rfl, 1, rfl, rt, _, rfl, .of (Ex.new ht1 _ _ (e6 _ _ hrt5)), fun c hc1 => ⟨c, _, rfl, .inl ⟨.of upd_same, fun q1 hq1 => ⟨by show 2 ≤ sizeLine; decide, fun t2 ht2 => ⟨by show 2 ≤ sizeLine; decide, fun l hl => ?_⟩⟩⟩⟩⟩⟩
          rw [cut1n] at *
          have e7 := (((e6.trans (Ex.new ht1)).trans (Ex.new hc1)).trans (Ex.new hq1)).trans (Ex.new (o := .tup [.str ("parts" : Str), .ref q1]) ht2)
          have e8 := e7.trans (Ex.new (o := .lst [.ref t1, .ref t2]) hl)
          have hd8 := dk_ex hd5 e8
          rcases (show z % 2 = 0 ∨ z % 2 = 1 by omega) with hz | hz
          · refine ⟨_, rfl, z, 2, rfl, rfl, by show (0 : Int) < 2; decide, l, _, _, .ref t1, rfl, rfl, .of upd_same, by rw [hz]; exact atI_nat (j := 0) rfl, ?_⟩
            refine q t1 _ (.own p) (eW e8) hd8 (needAt_wo hd8 (e := .own p) ?_) trivial fun h1 h2 => (hnl h1 h2).elim
            exact Ex.new hl _ _ (Ex.new ht2 _ _ (Ex.new hq1 _ _ (Ex.new hc1 _ _ upd_same)))
          · refine ⟨_, rfl, z, 2, rfl, rfl, by show (0 : Int) < 2; decide, l, _, _, .ref t2, rfl, rfl, .of upd_same, by rw [hz]; exact atI_nat (j := 1) rfl, ?_⟩
            refine q t2 _ (.parts ((wop L p).take 1)) (eW e8) hd8 (needAt_wo hd8 (e := .parts ((wop L p).take 1)) ?_) (by show ((wop L p).take 1).length ≤ 100; rw [List.length_take]; have := Nat.min_le_left 1 (wop L p).length; omega) fun h1 h2 => (hnl h1 h2).elim
            exact ⟨q1, Ex.new hl _ _ upd_same, Ex.new hl _ _ (Ex.new ht2 _ _ upd_same)⟩
        · -- some[next(deck) % len(some)]
          have hes : es ≠ [] := fun e => hc (by rw [e]; rfl)
          have hl0 : 0 < ss.length := by rw [hsl]; exact List.length_pos_iff.mpr hes
          have hd6 := dk_ex hd5 e6
          have hso6 := e6 _ _ hso5
          have hsod : so ≠ d := fun e => by
            subst e
            have hd3 := dk_ex hd1 e13
            obtain ⟨ds3, h⟩ := hd3
            rw [hso0] at h
            cases h
          refine ⟨_, rfl, _, rfl, d, rfl, hd6, fun z2 ds2 => ?_⟩
          have hso7 : ∀ x, upd (upd H5 l0 (.lst [])) d x so = some (.lst (ss.map V.ref)) := fun x => by rw [upd_ne hsod]; exact hso6
          obtain ⟨j, hj, hjl⟩ : ∃ j : Nat, z2 % ((ss.map V.ref).length : Int) = (j : Int) ∧ j < ss.length := by
            rw [List.length_map]
            have h1 := Int.emod_nonneg z2 (show (ss.length : Int) ≠ 0 by omega)
            have h2 := Int.emod_lt_of_pos z2 (show (0 : Int) < (ss.length : Int) by omega)
            exact ⟨(z2 % (ss.length : Int)).toNat, by omega, by omega⟩
          obtain ⟨t, ht⟩ : ∃ t, ss[j]? = some t := ⟨_, List.getElem?_eq_getElem hjl⟩
          obtain ⟨e, he1, he2⟩ := needs_at hss5 ht
          refine ⟨_, rfl, so, _, rfl, .inl (.of (hso7 _)), z2, _, rfl, rfl, by rw [List.length_map]; show (0 : Int) < (ss.length : Int); omega, so, _, _, .ref t, rfl, rfl, .of (hso7 _), by rw [hj]; exact atI_nat (by rw [List.getElem?_map, ht]; rfl), ?_⟩
          have ewd : wo d (upd (upd H5 l0 (.lst [])) d (.lst (ds2.map V.int))) = wo d (upd H5 l0 (.lst [])) := wo_upd
          refine q t _ e (by rw [ewd]; exact eW e6) ⟨ds2, upd_same⟩ (by rw [ewd]; exact needAt_wo hd6 (he2.mono e6)) (needOk_small hhi (hok e (List.mem_of_getElem? he1))) fun _ _ => hok e (List.mem_of_getElem? he1)
end
end ML
set_option Elab.async false
set_option linter.all false
set_option maxRecDepth 100000
set_option maxHeartbeats 4000000
namespace ML
open PySem PySem.Spec PyProof.Rows L2 Evl
theorem sh1_two {a b : PyData} (ha : SeqAt.shaped a = true) (hb : SeqAt.shaped b = true) : Sh1 (.tuple [a, b]) := fun ds h e he => by
  injection h with h
  subst h
  rcases List.mem_cons.mp he with c | he
  · subst c; exact ha
  · rw [List.mem_singleton.mp he]; exact hb
theorem sh1_three {a b c : PyData} (ha : SeqAt.shaped a = true) (hb : SeqAt.shaped b = true) (hc : SeqAt.shaped c = true) : Sh1 (.tuple [a, b, c]) := fun ds h e he => by
  injection h with h
  subst h
  rcases List.mem_cons.mp he with c | he
  · subst c; exact ha
  · rcases List.mem_cons.mp he with c | he
    · subst c; exact hb
    · rw [List.mem_singleton.mp he]; exact hc
theorem sh1_list (ds : List PyData) : Sh1 (.list ds) := fun _ h => by cases h
theorem sh1_none : Sh1 .none := fun _ h => by cases h
/-- a need's two items -/
theorem need_items {K : PySem.W.Frag} {H : Hp} {r : Addr} : ∀ {e : Need}, NeedAt H r e → ∃ (s : Str) (v0 : V) (d0 : PyData), H r = some (.tup [.str s, v0]) ∧ Dp K H v0 d0 ∧ SeqAt.shaped (.str s) = true ∧ SeqAt.shaped d0 = true ∧ (∀ M, e = .parts M → isTupD d0 = true)
  | .own x, h => ⟨"own", .int (x : Int), .int (x : Int), h, .int _, sh_own, sh_int _, fun _ h => by cases h⟩
  | .parts L, ⟨q, h1, h2⟩ => ⟨"parts", .ref q, .tuple (di L), h1, .tup (.of h2) (dp_ns L), sh_parts, di_shT L, fun _ _ => rfl⟩
theorem cut_ns (l : List Nat) (lo hi : Option Int) : ∃ S, cutV (ns l) lo hi = ns S ∧ S.length ≤ l.length := by
  refine ⟨(l.drop (HT.sIx (ns l).length 0 lo)).take (HT.sIx (ns l).length (ns l).length hi - HT.sIx (ns l).length 0 lo), ?_, ?_⟩
  · unfold cutV ns
    rw [← List.map_drop, ← List.map_take]
  · rw [List.length_take, List.length_drop]
    omega
section
variable {K : PySem.W.Frag} {H : Hp} {Q : VK}
theorem sl_any {q : Addr} {l : List Nat} {lo hi : Option Int} (h : H q = some (.tup (ns l))) (k : ∀ p H' S, Ex H H' → H' p = some (.tup (ns S)) → S.length ≤ l.length → Q (.ref p) H') : rSlA K (.ref q) lo hi H Q := by
  obtain ⟨S, hS, hl⟩ := cut_ns l lo hi
  exact ⟨q, ns l, rfl, .of h, fun _ => k q H l (Ex.refl _) h (Nat.le_refl _), fun _ p hp => k p _ S (Ex.new hp) (by rw [hS, upd_same]) hl⟩
theorem cat_any {a b : Addr} {l m : List Nat} (ha : H a = some (.tup (ns l))) (hb : H b = some (.tup (ns m))) (hz : l.length + m.length ≤ 1000) (k : ∀ p H' S, Ex H H' → H' p = some (.tup (ns S)) → Q (.ref p) H') : rCatA K (.ref a) (.ref b) H Q :=
  ⟨a, b, ns l, ns m, rfl, rfl, .of ha, .of hb, by rw [ns_len, ns_len]; exact Nat.le_of_lt (small1000 hz), fun _ => k b H m (Ex.refl _) hb, fun _ _ => k a H l (Ex.refl _) ha, fun _ _ p hp => k p _ (l ++ m) (Ex.new hp) (by rw [upd_same, ns_append])⟩
end
theorem dpt_wo {K : PySem.W.Frag} {d a : Addr} {H : Hp} {xs : List V} {ds : List PyData} (hd : Dk d H) (h : H a = some (.tup xs)) (hx : DpAll K (wo d H) xs ds) : Dp K (wo d H) (.ref a) (.tuple ds) := .tup (.of (wo_row h (dk_tup hd h))) hx
theorem dpl_wo {K : PySem.W.Frag} {d a : Addr} {H : Hp} {xs : List V} {ds : List PyData} (ne : a ≠ d) (h : H a = some (.lst xs)) (hx : DpAll K (wo d H) xs ds) : Dp K (wo d H) (.ref a) (.list ds) := .lst (.of (wo_row h ne)) hx
section
variable {P : Program} {w : World} {K : PySem.W.Frag} {mg : Str → Option Value} {base : Heap}
/-! ### _law_bent_need -/
abbrev st_law_bent_need : Stmt := top 40
theorem sc_law_bent_need : FnScope ["_law_deck_here", "_law_many", "_law_busy", "_law_need", "_law_kind", "_law_cell", "_law_side", "_law_place"] ["_law_deck_here", "_law_many", "_law_busy", "_law_need"] (defScope st_law_bent_need) := ⟨rfl, rfl, rfl, by decide +kernel, rfl, by decide +kernel, by decide +kernel⟩
def sp_law_bent_need (K : PySem.W.Frag) : Sp := fun vs H Q _ => ∃ d n b L r e, vs = [.ref d, .int ((n : Nat) : Int), .ref b, .ref r] ∧ Dk d H ∧ 0 < n ∧ SqT K (wo d H) b (ns L) ∧ L.length ≤ 100 ∧ NeedAt (wo d H) r e ∧ NeedSmall e ∧
  ∀ x H' dd, Ex (wo d H) (wo d H') → Dk d H' → Dp K (wo d H') x dd → Sh1 dd → Q x H'
theorem D_law_bent_need (L : Ld K mg "_law_bent_need" st_law_bent_need) (B : Bt mg) (D_law_next : Def P w K mg base "_law_next" 1 ["_law_deck_here"] (sp_law_next K)) : Def P w K mg base "_law_bent_need" 2 ["_law_deck_here", "_law_many", "_law_busy", "_law_need"] (sp_law_bent_need K) := by
  refine L.ok (ps := ["_law_deck_here", "_law_many", "_law_busy", "_law_need"]) sc_law_bent_need (fun _ _ _ _ _ _ us hl => match us, hl with | [_, _, _, _], _ => rfl) (fun vs H Q E h => ?_) (fun f cdv A outer s H vs Q E hr h => ?_)
  · obtain ⟨d, n, b, L, r, e, rfl, _⟩ := h
    rfl
  · obtain ⟨d, n, b, L, r, e, rfl, hd, hn0, hL, hll, hR, hsm, q⟩ := h
    refine ⟨_, (pss_cons (ps_set (i := 4) sc_law_bent_need.nd rfl (.inl rfl) (pe_op op_mod (pe_def D_law_next (hr.mono (by decide)) (by rfl) (pa_cons (pv 0) pa_nil)) pe_int))
      (pss_cons (ps_set (i := 5) sc_law_bent_need.nd rfl (.inl rfl) (pe_def D_law_next (hr.mono (by decide)) (by rfl) (pa_cons (pv 0) pa_nil)))
      (pss_cons (ps_if (pt_cmpR op_lt (pv 4) pe_int (nomark _)) (pss_one (ps_ret (pe_tup (pa_cons pe_str (pa_cons (pe_ix (r := rIxL K) ix_list (pe_lst (pa_cons (pe_op op_mod (pv 5) (pv 1)) (pa_cons (pv 1) (pa_cons pe_bl pa_nil)))) (pv 4) (fun _ _ => rfl)) pa_nil))))) pss_nil)
      (pss_cons (ps_if (pt_cmpR op_lt (pv 4) pe_int (nomark _)) (pss_cons (ps_set (i := 6) sc_law_bent_need.nd rfl (.inl rfl) (pe_callTy (r := rTp K) call_tp (by rfl) B.tuple_ (by decide +kernel) (pa_cons (pe_lc (own := [("_law_place", 7)]) (g := gName 7) (by rfl) sc_law_bent_need.nd (pi_tupK K rfl (pv 2)) (blkOk_by (N := ["_law_deck_here", "_law_many", "_law_busy", "_law_need", "_law_kind", "_law_cell", "_law_side", "_law_place"]) (sc := defScope st_law_bent_need) (by decide +kernel)) (fun _ _ _ _ _ => (pg_name (i := 7) sc_law_bent_need.nd rfl (.inl rfl))) (fun _ _ _ _ _ => (pts_one (pt_cmpR op_eq (pe_op op_mod (pe_def D_law_next (hr.mono (by decide)) (by rfl) (pa_cons (pv 0) pa_nil)) pe_int) pe_int (nomark _)))) (fun _ _ _ _ _ => (pv 7))) pa_nil)))
      (pss_one (ps_ret (pe_tup (pa_cons pe_str (pa_cons (pe_ix (r := rIxL K) ix_list (pe_lst (pa_cons (pv 6) (pa_cons (pe_revT (pv 6)) (pa_cons (pe_callTy (r := rLi K) call_li (by rfl) B.list_ (by decide +kernel) (pa_cons (pv 6) pa_nil)) pa_nil)))) (pe_op op_sub (pv 4) pe_int) (fun _ _ => rfl)) pa_nil)))))) pss_nil)
      (pss_cons (ps_if (pt_cmpR op_lt (pv 4) pe_int (nomark _)) (pss_one (ps_ret (pe_ix (r := rIxL K) ix_list (pe_lst (pa_cons (pe_revT (pv 3)) (pa_cons (pe_op op_catA (pv 3) (pe_tup (pa_cons pe_int pa_nil))) (pa_cons (pe_callTy (r := rLi K) call_li (by rfl) B.list_ (by decide +kernel) (pa_cons (pv 3) pa_nil)) (pa_cons pe_non pa_nil))))) (pe_op op_sub (pv 4) pe_int) (fun _ _ => rfl)))) pss_nil)
      (pss_cons (ps_if (pt_val (pe_callB (r := rIsi K) call_isi (by rfl) B.isinstance_ (by decide +kernel) (pa_cons (pe_ix (r := rIxT K) ix_tup (pv 3) pe_int (fun _ _ => rfl)) (pa_cons (pe_bltn (v := .ty "tuple") (by rfl) B.tuple_ (by decide +kernel) rfl) pa_nil)))) (pss_one (ps_ret (pe_tup (pa_cons (pe_ix (r := rIxT K) ix_tup (pv 3) pe_int (fun _ _ => rfl)) (pa_cons (pe_ix (r := rIxL K) ix_list (pe_lst (pa_cons (pe_slice sl_tupA (pe_ix (r := rIxT K) ix_tup (pv 3) pe_int (fun _ _ => rfl)) (po_some pe_int) po_none) (pa_cons (pe_op op_catA (pe_ix (r := rIxT K) ix_tup (pv 3) pe_int (fun _ _ => rfl)) (pe_slice sl_tupA (pe_ix (r := rIxT K) ix_tup (pv 3) pe_int (fun _ _ => rfl)) (po_some (pe_un un_neg pe_int)) po_none)) pa_nil))) (pe_op op_sub (pv 4) pe_int) (fun _ _ => rfl)) pa_nil))))) pss_nil)
      (pss_one (ps_ret (pe_ix (r := rIxL K) ix_list (pe_lst (pa_cons (pe_tup (pa_cons pe_str (pa_cons (pe_tup (pa_cons (pe_ix (r := rIxT K) ix_tup (pv 3) pe_int (fun _ _ => rfl)) pa_nil)) pa_nil))) (pa_cons (pe_tup (pa_cons pe_str (pa_cons (pe_ix (r := rIxT K) ix_tup (pv 3) pe_int (fun _ _ => rfl)) pa_nil))) pa_nil))) (pe_op op_sub (pv 4) pe_int) (fun _ _ => rfl)))))))))), ?_⟩
    refine ⟨_, rfl, d, rfl, hd, fun z ds => ⟨z, 12, rfl, rfl, by show (0 : Int) < 12; decide, ?_⟩⟩
    obtain ⟨κ, hκ, hκ12⟩ : ∃ κ : Nat, z % 12 = (κ : Int) ∧ κ < 12 := ⟨(z % 12).toNat, by omega, by omega⟩
    dsimp only
    rw [hκ]
    refine ⟨_, rfl, d, rfl, ⟨ds, upd_same⟩, fun c ds2 => ?_⟩
    rw [upd_upd]
    have ew : wo d (upd H d (.lst (ds2.map V.int))) = wo d H := wo_upd
    have hd1 : Dk d (upd H d (.lst (ds2.map V.int))) := ⟨ds2, upd_same⟩
    generalize upd H d (.lst (ds2.map V.int)) = H1 at ew hd1
    have hR1 : NeedAt (wo d H1) r e := by rw [ew]; exact hR
    have hL1 : SqT K (wo d H1) b (ns L) := by rw [ew]; exact hL
    have eW : ∀ {H6}, Ex (wo d H1) (wo d H6) → Ex (wo d H) (wo d H6) := fun {H6} e6 => by rw [← ew]; exact e6
    have hRH : NeedAt H1 r e := hR1.mono wo_ex
    obtain ⟨s, v0, d0, hr, hv0, ss, sd0, hdt⟩ := need_items (K := K) hR1
    have hrH := wo_ex _ _ hr
    refine ⟨_, rfl, _, 3, rfl, rfl, _, rfl, ite2 (fun hc => ?_) (fun hc3 => ?_)⟩
    · have hk3 : κ < 3 := by
        have := of_decide_eq_true hc
        omega
      refine ⟨_, rfl, _, rfl, c, (n : Int), rfl, rfl, by show (0 : Int) < (n : Int); omega, _, rfl, by show 3 ≤ sizeLine; decide, fun l hl => ?_⟩
      have hv : ∃ v dv, atI [V.int (c % (n : Int)), V.int (n : Int), V.bl true] (κ : Int) = some v ∧ (∀ H', Dp K H' v dv) ∧ SeqAt.shaped dv = true := by
        rcases (show κ = 0 ∨ κ = 1 ∨ κ = 2 by omega) with rfl | rfl | rfl
        · exact ⟨_, _, atI_nat (j := 0) rfl, fun _ => .int _, sh_int _⟩
        · exact ⟨_, _, atI_nat (j := 1) rfl, fun _ => .int _, sh_int _⟩
        · exact ⟨_, _, atI_nat (j := 2) rfl, fun _ => .bl true, by decide⟩
      obtain ⟨v, dv, hv1, hv2, hv3⟩ := hv
      refine ⟨_, rfl, l, _, _, v, rfl, rfl, .of upd_same, hv1, by show 2 ≤ sizeLine; decide, fun t ht => ?_⟩
      have e3 : Ex H1 (upd (upd H1 l _) t (.tup [.str ("own" : Str), v])) := (Ex.new hl).trans (Ex.new ht)
      have hd3 := dk_ex hd1 e3
      exact q (.ref t) _ (.tuple [.str "own", dv]) (eW (wo_mono e3)) hd3 (dpt_wo hd3 upd_same (.cons (.str _) (.cons (hv2 _) .nil))) (sh1_two sh_own hv3)
    · -- elif kind < 6
      refine ⟨_, rfl, _, 6, rfl, rfl, _, rfl, ite2 (fun hc => ?_) (fun hc6 => ?_)⟩
      · have hk6 : 3 ≤ κ ∧ κ < 6 := by
          have h1 := of_decide_eq_true hc
          have h2 : ¬ ((κ : Int) < 3) := fun h => hc3 (decide_eq_true h)
          omega
        refine ⟨_, rfl, b, rfl, ⟨_, ex_t wo_ex hL1⟩, fun D hD => ?_⟩
        have hDd : D ≠ d := (dk_ne hd1 hD).symm
        have hD0 : wo d H1 D = none := by rw [wo_ne hDd]; exact hD
        refine lc_tup (xs := ns L) (fun i H' => Ex (wo d H1) (wo d H') ∧ Dk d H' ∧ ∃ S, H' D = some (.lst (ns S)) ∧ S.length ≤ i) ⟨exd_mut (Ex.refl _) hD0, dk_upd hd1 hDd.symm, [], upd_same, Nat.le_refl _⟩ (fun i H' _ hP => ex_t (hP.1.trans wo_ex) hL1) (fun i x H' hi hP => ?_) (fun H' hP => ?_)
        · obtain ⟨e1, hd', S, hS, hSl⟩ := hP
          obtain ⟨v, hv, hvm, rfl⟩ := ns_got hi
          have hil := (List.getElem?_eq_some_iff.mp hv).1
          refine ⟨rfl, _, rfl, d, rfl, hd', fun z ds => ⟨z, 2, rfl, rfl, by show (0 : Int) < 2; decide, rfl, _, rfl, ite2 (fun hc => ?_) (fun hc => ?_)⟩⟩
          · have hS2 : ∀ x, upd H' d x D = some (.lst (ns S)) := fun x => by rw [upd_ne hDd]; exact hS
            refine ⟨_, rfl, ns S, hS2 _, by rw [ns_len]; exact small1000 (by omega), exd_mut (by rw [wo_upd]; exact e1) hD0, dk_upd ⟨ds, upd_same⟩ hDd.symm, S ++ [v], by rw [upd_same, ns_append]; rfl, by rw [List.length_append]; show _ + 1 ≤ _; omega⟩
          · exact ⟨by rw [wo_upd]; exact e1, ⟨ds, upd_same⟩, S, by rw [upd_ne hDd]; exact hS, by omega⟩
        · obtain ⟨e1, hd', S, hS, hSl⟩ := hP
          refine ⟨D, _, rfl, .inl ⟨.of hS, fun sd hsd => ?_⟩⟩
          have hd2 := dk_ex hd' (Ex.new (o := .tup (ns S)) hsd)
          refine ⟨_, rfl, _, rfl, sd, _, rfl, .of upd_same, fun rv hrv => ?_⟩
          have k1 : (upd (upd H' sd (.tup (ns S))) rv (.tup (ns S).reverse)) sd = some (.tup (ns S)) := Ex.new hrv _ _ upd_same
          refine ⟨_, rfl, sd, _, rfl, .inr (.of k1), fun li hli => ⟨by show 3 ≤ sizeLine; decide, fun l hl => ?_⟩⟩
          have hd3 := dk_ex hd2 (Ex.new (o := .tup (ns S).reverse) hrv)
          have hlid : li ≠ d := (dk_ne hd3 hli).symm
          have e5 : Ex H' (upd (upd (upd (upd H' sd (.tup (ns S))) rv (.tup (ns S).reverse)) li (.lst (ns S))) l (.lst [.ref sd, .ref rv, .ref li])) := (((Ex.new hsd).trans (Ex.new hrv)).trans (Ex.new hli)).trans (Ex.new hl)
          have m1 : (upd (upd (upd (upd H' sd (.tup (ns S))) rv (.tup (ns S).reverse)) li (.lst (ns S))) l (.lst [.ref sd, .ref rv, .ref li])) sd = some (.tup (ns S)) := Ex.new hl _ _ (Ex.new hli _ _ k1)
          have m2 : (upd (upd (upd (upd H' sd (.tup (ns S))) rv (.tup (ns S).reverse)) li (.lst (ns S))) l (.lst [.ref sd, .ref rv, .ref li])) rv = some (.tup (ns S.reverse)) := by
            have : (ns S).reverse = ns S.reverse := List.map_reverse.symm
            rw [← this]
            exact Ex.new hl _ _ (Ex.new hli _ _ upd_same)
          have m3 : (upd (upd (upd (upd H' sd (.tup (ns S))) rv (.tup (ns S).reverse)) li (.lst (ns S))) l (.lst [.ref sd, .ref rv, .ref li])) li = some (.lst (ns S)) := Ex.new hl _ _ upd_same
          have m4 : (upd (upd (upd (upd H' sd (.tup (ns S))) rv (.tup (ns S).reverse)) li (.lst (ns S))) l (.lst [.ref sd, .ref rv, .ref li])) l = some (.lst [.ref sd, .ref rv, .ref li]) := upd_same
          generalize upd (upd (upd (upd H' sd (.tup (ns S))) rv (.tup (ns S).reverse)) li (.lst (ns S))) l (.lst [.ref sd, .ref rv, .ref li]) = H6 at e5 m1 m2 m3 m4
          have hd6 := dk_ex hd' e5
          have hv : ∃ v dv, atI [V.ref sd, V.ref rv, V.ref li] ((κ : Int) - 3) = some v ∧ Dp K (wo d H6) v dv ∧ SeqAt.shaped dv = true := by
            rcases (show κ = 3 ∨ κ = 4 ∨ κ = 5 by omega) with rfl | rfl | rfl
            · exact ⟨_, _, atI_nat (j := 0) rfl, dpt_wo hd6 m1 (dp_ns S), di_shT S⟩
            · exact ⟨_, _, atI_nat (j := 1) rfl, dpt_wo hd6 m2 (dp_ns S.reverse), di_shT _⟩
            · exact ⟨_, _, atI_nat (j := 2) rfl, dpl_wo hlid m3 (dp_ns S), di_shL S⟩
          obtain ⟨v, dv, hv1, hv2, hv3⟩ := hv
          refine ⟨_, rfl, _, 3, rfl, rfl, l, _, _, v, rfl, rfl, .of m4, hv1, by show 2 ≤ sizeLine; decide, fun t ht => ?_⟩
          have e7 : Ex H6 (upd H6 t (.tup [.str ("parts" : Str), v])) := Ex.new ht
          have hd7 := dk_ex hd6 e7
          exact q (.ref t) _ (.tuple [.str "parts", dv]) (eW (e1.trans (wo_mono (e5.trans e7)))) hd7 (dpt_wo hd7 upd_same (.cons (.str _) (.cons (dp_mono (wo_mono e7) hv2) .nil))) (sh1_two sh_parts hv3)
      · -- elif kind < 10
        refine ⟨_, rfl, _, 10, rfl, rfl, _, rfl, ite2 (fun hc => ?_) (fun hc10 => ?_)⟩
        · have hk10 : 6 ≤ κ ∧ κ < 10 := by
            have h1 := of_decide_eq_true hc
            have h2 : ¬ ((κ : Int) < 6) := fun h => hc6 (decide_eq_true h)
            omega
          refine ⟨_, rfl, r, _, rfl, .of hrH, fun rv hrv => ?_⟩
          have r1 := Ex.new (o := .tup [V.str s, v0].reverse) hrv _ _ hrH
          refine ⟨_, rfl, by show 1 ≤ sizeLine; decide, fun o ho => ?_⟩
          have r2 := Ex.new (o := .tup [V.int 0]) ho _ _ r1
          refine ⟨r, o, [V.str s, v0], [V.int 0], rfl, rfl, .of r2, .of upd_same, by show 3 ≤ sizeLine; decide, fun h => absurd h (by simp), fun _ h => absurd h (by simp), fun _ _ ct hct => ?_⟩
          have r3 := Ex.new (o := .tup ([V.str s, v0] ++ [V.int 0])) hct _ _ r2
          refine ⟨_, rfl, r, _, rfl, .inr (.of r3), fun li hli => ⟨by show 4 ≤ sizeLine; decide, fun l hl => ?_⟩⟩
          have eA : Ex H1 (upd (upd (upd H1 rv (.tup [V.str s, v0].reverse)) o (.tup [V.int 0])) ct (.tup ([V.str s, v0] ++ [V.int 0]))) := ((Ex.new hrv).trans (Ex.new ho)).trans (Ex.new hct)
          have hlid : li ≠ d := (dk_ne (dk_ex hd1 eA) hli).symm
          have e5 := (eA.trans (Ex.new (o := .lst [V.str s, v0]) hli)).trans (Ex.new (o := .lst [.ref rv, .ref ct, .ref li, .non]) hl)
          have hn5 : Ex _ _ := (Ex.new (o := .lst [V.str s, v0]) hli).trans (Ex.new (o := .lst [.ref rv, .ref ct, .ref li, .non]) hl)
          have m1 := hn5 _ _ (Ex.new (o := .tup ([V.str s, v0] ++ [V.int 0])) hct _ _ (Ex.new (o := .tup [V.int 0]) ho _ _ (upd_same (H := H1) (a := rv) (o := .tup [V.str s, v0].reverse))))
          have m2 := hn5 ct _ upd_same
          have m3 := Ex.new (o := .lst [.ref rv, .ref ct, .ref li, .non]) hl li _ upd_same
          have m4 := upd_same (H := upd (upd (upd (upd H1 rv (.tup [V.str s, v0].reverse)) o (.tup [V.int 0])) ct (.tup ([V.str s, v0] ++ [V.int 0]))) li (.lst [V.str s, v0])) (a := l) (o := .lst [.ref rv, .ref ct, .ref li, .non])
          generalize upd (upd (upd (upd (upd H1 rv (.tup [V.str s, v0].reverse)) o (.tup [V.int 0])) ct (.tup ([V.str s, v0] ++ [V.int 0]))) li (.lst [V.str s, v0])) l (.lst [.ref rv, .ref ct, .ref li, .non]) = H6 at e5 m1 m2 m3 m4
          have hd6 := dk_ex hd1 e5
          have hv6 : Dp K (wo d H6) v0 d0 := dp_mono (wo_mono e5) hv0
          have hv : ∃ v dv, atI [V.ref rv, V.ref ct, V.ref li, V.non] ((κ : Int) - 6) = some v ∧ Dp K (wo d H6) v dv ∧ Sh1 dv := by
            rcases (show κ = 6 ∨ κ = 7 ∨ κ = 8 ∨ κ = 9 by omega) with rfl | rfl | rfl | rfl
            · exact ⟨_, .tuple [d0, .str s], atI_nat (j := 0) rfl, dpt_wo hd6 m1 (.cons hv6 (.cons (.str _) .nil)), sh1_two sd0 ss⟩
            · exact ⟨_, .tuple [.str s, d0, .int 0], atI_nat (j := 1) rfl, dpt_wo hd6 m2 (.cons (.str _) (.cons hv6 (.cons (.int _) .nil))), sh1_three ss sd0 (sh_int 0)⟩
            · exact ⟨_, .list [.str s, d0], atI_nat (j := 2) rfl, dpl_wo hlid m3 (.cons (.str _) (.cons hv6 .nil)), sh1_list _⟩
            · exact ⟨_, .none, atI_nat (j := 3) rfl, .non, sh1_none⟩
          obtain ⟨v, dv, hv1, hv2, hv3⟩ := hv
          exact ⟨_, rfl, _, 6, rfl, rfl, l, _, _, v, rfl, rfl, .of m4, hv1, q v H6 dv (eW (wo_mono e5)) hd6 hv2 hv3⟩
        · -- the last two
          have hk12 : 10 ≤ κ ∧ κ < 12 := by
            have h2 : ¬ ((κ : Int) < 10) := fun h => hc10 (decide_eq_true h)
            omega
          have hv0H : Dp K H1 v0 d0 := dp_mono wo_ex hv0
          refine ⟨_, rfl, r, _, _, v0, rfl, rfl, .of hrH, atI_nat (j := 1) rfl, v0, _, _, _, _, rfl, .ty "tuple", dp_ty hv0H, kit_tup d0, _, rfl, ?_⟩
          cases e with
          | own x =>
            have hr' : H1 r = some (.tup [.str "own", .int (x : Int)]) := hRH
            rw [hr'] at hrH
            injection hrH with hrH
            injection hrH with hrH
            injection hrH with h1 h2
            injection h2 with h2 _
            subst h2
            cases hv0
            refine iteF ?_
            have rr := hr'
            refine ⟨_, rfl, r, _, _, .int (x : Int), rfl, rfl, .of rr, atI_nat (j := 1) rfl, by show 1 ≤ sizeLine; decide, fun t0 ht0 => ⟨by show 2 ≤ sizeLine; decide, fun t1 ht1 => ?_⟩⟩
            have rr2 := Ex.new (o := .tup [.str ("parts" : Str), .ref t0]) ht1 _ _ (Ex.new (o := .tup [.int (x : Int)]) ht0 _ _ rr)
            refine ⟨_, rfl, r, _, _, .int (x : Int), rfl, rfl, .of rr2, atI_nat (j := 1) rfl, by show 2 ≤ sizeLine; decide, fun t2 ht2 => ⟨by show 2 ≤ sizeLine; decide, fun l hl => ?_⟩⟩
            have e5 : Ex H1 (upd (upd (upd (upd H1 t0 (.tup [.int (x : Int)])) t1 (.tup [.str ("parts" : Str), .ref t0])) t2 (.tup [.str ("Own" : Str), .int (x : Int)])) l (.lst [.ref t1, .ref t2])) := (((Ex.new ht0).trans (Ex.new ht1)).trans (Ex.new ht2)).trans (Ex.new hl)
            have m0 := Ex.new (o := .lst [.ref t1, .ref t2]) hl _ _ (Ex.new (o := .tup [.str ("Own" : Str), .int (x : Int)]) ht2 _ _ (Ex.new (o := .tup [.str ("parts" : Str), .ref t0]) ht1 _ _ (upd_same (H := H1) (a := t0) (o := .tup [.int (x : Int)]))))
            have m1 := Ex.new (o := .lst [.ref t1, .ref t2]) hl _ _ (Ex.new (o := .tup [.str ("Own" : Str), .int (x : Int)]) ht2 _ _ (upd_same (H := upd H1 t0 (.tup [.int (x : Int)])) (a := t1) (o := .tup [.str ("parts" : Str), .ref t0])))
            have m2 := Ex.new (o := .lst [.ref t1, .ref t2]) hl t2 _ upd_same
            have m4 := upd_same (H := upd (upd (upd H1 t0 (.tup [.int (x : Int)])) t1 (.tup [.str ("parts" : Str), .ref t0])) t2 (.tup [.str ("Own" : Str), .int (x : Int)])) (a := l) (o := .lst [.ref t1, .ref t2])
            generalize upd (upd (upd (upd H1 t0 (.tup [.int (x : Int)])) t1 (.tup [.str ("parts" : Str), .ref t0])) t2 (.tup [.str ("Own" : Str), .int (x : Int)])) l (.lst [.ref t1, .ref t2]) = H6 at e5 m0 m1 m2 m4
            have hd6 := dk_ex hd1 e5
            have hv : ∃ v dv, atI [V.ref t1, V.ref t2] ((κ : Int) - 10) = some v ∧ Dp K (wo d H6) v dv ∧ Sh1 dv := by
              rcases (show κ = 10 ∨ κ = 11 by omega) with rfl | rfl
              · exact ⟨_, .tuple [.str "parts", .tuple (di [x])], atI_nat (j := 0) rfl, dpt_wo hd6 m1 (.cons (.str _) (.cons (dpt_wo hd6 m0 (dp_ns [x])) .nil)), sh1_two sh_parts (di_shT [x])⟩
              · exact ⟨_, .tuple [.str "Own", .int (x : Int)], atI_nat (j := 1) rfl, dpt_wo hd6 m2 (.cons (.str _) (.cons (.int _) .nil)), sh1_two sh_Own (sh_int _)⟩
            obtain ⟨v, dv, hv1, hv2, hv3⟩ := hv
            exact ⟨_, rfl, _, 10, rfl, rfl, l, _, _, v, rfl, rfl, .of m4, hv1, q v H6 dv (eW (wo_mono e5)) hd6 hv2 hv3⟩
          | parts M =>
            obtain ⟨qm, hq1, hq2⟩ := hRH
            rw [hq1] at hrH
            injection hrH with hrH
            injection hrH with hrH
            injection hrH with h1 h2
            injection h2 with h2 _
            subst h2
            have hMl : M.length ≤ 100 := hsm
            have hd0 : isTupD d0 = true := hdt M rfl
            rw [hd0]
            refine iteT ?_
            refine ⟨_, rfl, r, _, _, .str "parts", rfl, rfl, .of hq1, atI_nat (j := 0) rfl, _, rfl, r, _, _, .ref qm, rfl, rfl, .of hq1, atI_nat (j := 1) rfl, 1, rfl, ?_⟩
            dsimp only [tNoPart]
            refine sl_any hq2 fun p1 H2 S1 e2 k1 hS1 => ?_
            have hq1' := e2 _ _ hq1
            refine ⟨_, rfl, r, _, _, .ref qm, rfl, rfl, .of hq1', atI_nat (j := 1) rfl, _, rfl, r, _, _, .ref qm, rfl, rfl, .of hq1', atI_nat (j := 1) rfl, 1, rfl, -1, rfl, ?_⟩
            dsimp only [tNoPart]
            refine sl_any (e2 _ _ hq2) fun p2 H3 S2 e3 k2 hS2 => ?_
            refine cat_any (e3 _ _ (e2 _ _ hq2)) k2 (by omega) fun p3 H4 S3 e4 k3 => ⟨by show 2 ≤ sizeLine; decide, fun l hl => ?_⟩
            have e14 : Ex H1 H4 := (e2.trans e3).trans e4
            have e5 : Ex H1 (upd H4 l (.lst [.ref p1, .ref p3])) := e14.trans (Ex.new hl)
            have m1 := Ex.new (o := .lst [.ref p1, .ref p3]) hl _ _ (e4 _ _ (e3 _ _ k1))
            have m3 := Ex.new (o := .lst [.ref p1, .ref p3]) hl _ _ k3
            have m4 := upd_same (H := H4) (a := l) (o := .lst [.ref p1, .ref p3])
            generalize upd H4 l (.lst [.ref p1, .ref p3]) = H6 at e5 m1 m3 m4
            have hd6 := dk_ex hd1 e5
            have hv : ∃ v dv, atI [V.ref p1, V.ref p3] ((κ : Int) - 10) = some v ∧ Dp K (wo d H6) v dv ∧ SeqAt.shaped dv = true := by
              rcases (show κ = 10 ∨ κ = 11 by omega) with rfl | rfl
              · exact ⟨_, _, atI_nat (j := 0) rfl, dpt_wo hd6 m1 (dp_ns S1), di_shT S1⟩
              · exact ⟨_, _, atI_nat (j := 1) rfl, dpt_wo hd6 m3 (dp_ns S3), di_shT S3⟩
            obtain ⟨v, dv, hv1, hv2, hv3⟩ := hv
            refine ⟨_, rfl, _, 10, rfl, rfl, l, _, _, v, rfl, rfl, .of m4, hv1, by show 2 ≤ sizeLine; decide, fun t ht => ?_⟩
            have e7 : Ex H6 (upd H6 t (.tup [.str ("parts" : Str), v])) := Ex.new ht
            have hd7 := dk_ex hd6 e7
            exact q (.ref t) _ (.tuple [.str "parts", dv]) (eW (wo_mono (e5.trans e7))) hd7 (dpt_wo hd7 upd_same (.cons (.str _) (.cons (dp_mono (wo_mono e7) hv2) .nil))) (sh1_two sh_parts hv3)
end
end ML
set_option Elab.async false
set_option linter.all false
set_option maxRecDepth 100000
set_option maxHeartbeats 4000000
namespace ML
open PySem PySem.Spec PyProof.Rows L2 Evl
theorem mod_nat (z : Int) {n : Nat} (h : 0 < n) : ∃ j : Nat, z % (n : Int) = (j : Int) ∧ j < n := by
  have h1 := Int.emod_nonneg z (show (n : Int) ≠ 0 by omega)
  have h2 := Int.emod_lt_of_pos z (show (0 : Int) < (n : Int) by omega)
  exact ⟨(z % (n : Int)).toNat, by omega, by omega⟩
theorem nodup_sub_len : ∀ {l m : List Nat}, l.Nodup → (∀ x ∈ l, x ∈ m) → l.length ≤ m.length
  | [], _, _, _ => Nat.zero_le _
  | a :: l, m, hn, h => by
    obtain ⟨h1, h2⟩ := List.nodup_cons.mp hn
    have ha : a ∈ m := h a List.mem_cons_self
    have h3 := nodup_sub_len (m := m.erase a) h2 fun x hx => (List.mem_erase_of_ne (show x ≠ a from fun e => h1 (e ▸ hx))).mpr (h x (List.mem_cons_of_mem _ hx))
    rw [List.length_erase_of_mem ha] at h3
    have := List.length_pos_of_mem ha
    rw [List.length_cons]
    omega
theorem pairs_app {H : Hp} {ps qs : List Addr} {P R : List (Nat × Nat)} (h : Pairs H ps P) (g : Pairs H qs R) : Pairs H (ps ++ qs) (P ++ R) := by
  unfold Pairs at h g ⊢
  induction h with
  | nil => exact g
  | cons a _ ih => exact .cons a ih
theorem pairs_wo {d : Addr} {H : Hp} {fs : List Addr} {T : List (Nat × Nat)} (hd : Dk d H) (h : Pairs H fs T) : Pairs (wo d H) fs T := Paired.mapP h fun _ _ q => wo_row q (dk_tup hd q)
structure TSt (d io fo : Addr) (H H' : Hp) (F : List Nat) (T : List (Nat × Nat)) : Prop where
  ex : Ex (wo d H) (wo d H')
  dk : Dk d H'
  ins : H' io = some (.lst (ns F))
  tie : ∃ fs : List Addr, H' fo = some (.lst (fs.map V.ref)) ∧ Pairs H' fs T
section
variable {d io fo : Addr} {H H' H2 : Hp} {F : List Nat} {T : List (Nat × Nat)}
theorem TSt.mono (h : TSt d io fo H H' F T) (e : Ex H' H2) : TSt d io fo H H2 F T :=
  ⟨h.ex.trans (wo_mono e), dk_ex h.dk e, e _ _ h.ins, let ⟨fs, a, b⟩ := h.tie; ⟨fs, e _ _ a, b.mono e⟩⟩
theorem TSt.deck (h : TSt d io fo H H' F T) (ni : io ≠ d) (nf : fo ≠ d) (ds : List Int) : TSt d io fo H (upd H' d (.lst (ds.map V.int))) F T := by
  obtain ⟨ds0, hd0⟩ := h.dk
  obtain ⟨fs, a, b⟩ := h.tie
  exact ⟨by rw [wo_upd]; exact h.ex, ⟨ds, upd_same⟩, by rw [upd_ne ni]; exact h.ins, fs, by rw [upd_ne nf]; exact a, pairs_upd b hd0 no_tupL⟩
theorem TSt.app (h : TSt d io fo H H' F T) (h0 : wo d H io = none) (ni : io ≠ d) (ne : io ≠ fo) (q : Nat) : TSt d io fo H (upd H' io (.lst (ns F ++ [.int (q : Int)]))) (F ++ [q]) T := by
  obtain ⟨fs, a, b⟩ := h.tie
  exact ⟨exd_mut h.ex h0, dk_upd h.dk ni.symm, by rw [upd_same, ns_append]; rfl, fs, by rw [upd_ne ne.symm]; exact a, pairs_upd b h.ins no_tupL⟩
theorem TSt.put (h : TSt d io fo H H' F T) (h0 : wo d H fo = none) (nf : fo ≠ d) (ne : io ≠ fo) {t : Addr} (ht : H' t = none) {e : Nat × Nat} {fs : List Addr} (hf : H' fo = some (.lst (fs.map V.ref))) (hp : Pairs H' fs T) :
    TSt d io fo H (upd (upd H' t (.tup (tieV e))) fo (.lst (fs.map V.ref ++ [.ref t]))) F (T ++ [e]) := by
  have hft : fo ≠ t := ne_of_none hf ht
  have e1 : Ex H' (upd H' t (.tup (tieV e))) := Ex.new ht
  refine ⟨exd_mut (h.ex.trans (wo_mono e1)) h0, dk_upd (dk_ex h.dk e1) nf.symm, by rw [upd_ne ne]; exact e1 _ _ h.ins, fs ++ [t], by rw [upd_same, List.map_append]; rfl, ?_⟩
  exact pairs_upd (pairs_snoc (hp.mono e1) upd_same) (by rw [upd_ne hft]; exact hf) no_tupL
end
section
variable {P : Program} {w : World} {K : PySem.W.Frag} {mg : Str → Option Value} {base : Heap}
/-! ### _law_tree_of -/
abbrev st_law_tree_of : Stmt := top 41
theorem sc_law_tree_of : FnScope ["_law_deck_here", "_law_near_here", "_law_busy", "_law_start", "_law_inside", "_law_ties", "_law_other", "_law_left", "_law_ready", "_law_k", "_law_place", "_law_some"] ["_law_deck_here", "_law_near_here", "_law_busy"] (defScope st_law_tree_of) := ⟨rfl, rfl, rfl, by decide +kernel, rfl, by decide +kernel, by decide +kernel⟩
def sp_law_tree_of (K : PySem.W.Frag) : Sp := fun vs H Q _ => ∃ d a b n adj L, vs = [.ref d, .ref a, .ref b] ∧ Dk d H ∧ NearAt (wo d H) a n adj ∧ Web n adj ∧ SqT K (wo d H) b (ns L) ∧ Rise n L ∧ IsBusy n adj L ∧
  ∀ r H' ts T, TreeOk n adj L T → Pairs (wo d H') ts T → Ex (wo d H) (wo d H') → Dk d H' → wo d H' r = some (.tup (ts.map V.ref)) → Q (.ref r) H'
theorem D_law_tree_of (L : Ld K mg "_law_tree_of" st_law_tree_of) (B : Bt mg) (D_law_next : Def P w K mg base "_law_next" 1 ["_law_deck_here"] (sp_law_next K)) : Def P w K mg base "_law_tree_of" 2 ["_law_deck_here", "_law_near_here", "_law_busy"] (sp_law_tree_of K) := by
  refine L.ok (ps := ["_law_deck_here", "_law_near_here", "_law_busy"]) sc_law_tree_of (fun _ _ _ _ _ _ us hl => match us, hl with | [_, _, _], _ => rfl) (fun vs H Q E h => ?_) (fun f cdv A outer s H vs Q E hr h => ?_)
  · obtain ⟨d, a, b, n, adj, L, rfl, _⟩ := h
    rfl
  · obtain ⟨d, a, b, n, adj, L, rfl, hd, hN, hw, hL, hr1, hB, q⟩ := h
    refine ⟨_, (pss_cons (ps_set (i := 3) sc_law_tree_of.nd rfl (.inl rfl) (pe_ix (r := rIxT K) ix_tup (pv 2) (pe_op op_mod (pe_def D_law_next (hr.mono (by decide)) (by rfl) (pa_cons (pv 0) pa_nil)) (pe_callB (r := rLn K) call_ln (by rfl) B.len_ (by decide +kernel) (pa_cons (pv 2) pa_nil))) (fun _ _ => rfl)))
      (pss_cons (ps_set (i := 4) sc_law_tree_of.nd rfl (.inr rfl) (pe_lst (pa_cons (pv 3) pa_nil)))
      (pss_cons (ps_set (i := 5) sc_law_tree_of.nd rfl (.inl rfl) (pe_lst pa_nil))
      (pss_cons (ps_while PassesOwn.never (pt_cmpR op_lt (pe_callB (r := rLn K) call_ln (by rfl) B.len_ (by decide +kernel) (pa_cons (pv 4) pa_nil)) (pe_callB (r := rLn K) call_ln (by rfl) B.len_ (by decide +kernel) (pa_cons (pv 2) pa_nil)) (nomark _)) (pss_cons (ps_set (i := 7) sc_law_tree_of.nd rfl (.inr rfl) (pe_lc (own := [("_law_other", 6)]) (g := gName 6) (by rfl) sc_law_tree_of.nd (pi_tupK K rfl (pv 2)) (blkOk_by (N := ["_law_deck_here", "_law_near_here", "_law_busy", "_law_start", "_law_inside", "_law_ties", "_law_other", "_law_left", "_law_ready", "_law_k", "_law_place", "_law_some"]) (sc := defScope st_law_tree_of) (by decide +kernel)) (fun _ _ _ _ _ => (pg_name (i := 6) sc_law_tree_of.nd rfl (.inl rfl))) (fun _ _ _ _ _ => (pts_one (pt_cmpR (r := rIn K true) op_notIn_seq (pv 6) (pv 4) (by rfl)))) (fun _ _ _ _ _ => (pv 6))))
      (pss_cons (ps_set (i := 8) sc_law_tree_of.nd rfl (.inl rfl) (pe_lst pa_nil))
      (pss_cons (ps_for PassesOwn.never rfl (pi_listK K rfl (pv 4)) (pg_name (i := 9) sc_law_tree_of.nd rfl (.inr rfl))
        (pss_one (ps_set (i := 8) sc_law_tree_of.nd rfl (.inl rfl) (pe_op op_cat (pv 8) (pe_lc (own := [("_law_other", 6)]) (g := gName 6) (by rfl) sc_law_tree_of.nd (pi_listK K rfl (pe_ix (r := rIxL K) ix_list (pv 1) (pv 9) (fun _ _ => rfl))) (blkOk_by (N := ["_law_deck_here", "_law_near_here", "_law_busy", "_law_start", "_law_inside", "_law_ties", "_law_other", "_law_left", "_law_ready", "_law_k", "_law_place", "_law_some"]) (sc := defScope st_law_tree_of) (by decide +kernel)) (fun _ _ _ _ _ => (pg_name (i := 6) sc_law_tree_of.nd rfl (.inl rfl))) (fun _ _ _ _ _ => (pts_one (pt_cmpR (r := rIn K false) op_in_seq (pv 6) (pv 7) (by rfl)))) (fun _ _ _ _ _ => (pe_tup (pa_cons (pv 9) (pa_cons (pv 6) pa_nil)))))))))
      (pss_cons (ps_asg (pe_ix (r := rIxL K) ix_list (pv 8) (pe_op op_mod (pe_def D_law_next (hr.mono (by decide)) (by rfl) (pa_cons (pv 0) pa_nil)) (pe_callB (r := rLn K) call_ln (by rfl) B.len_ (by decide +kernel) (pa_cons (pv 8) pa_nil))) (fun _ _ => rfl)) (pg_tupK K rfl (by rfl) (pgs_cons (pg_name (i := 10) sc_law_tree_of.nd rfl (.inl rfl)) (pgs_cons (pg_name (i := 6) sc_law_tree_of.nd rfl (.inl rfl)) pgs_nil))))
      (pss_cons (ps_expr (pe_bm PySem.F.plainAttrs_list PySem.F.slot_list_append PySem.F.type_list_append mt_append (pv 4) (pa_cons (pv 6) pa_nil)))
      (pss_one (ps_expr (pe_bm PySem.F.plainAttrs_list PySem.F.slot_list_append PySem.F.type_list_append mt_append (pv 5) (pa_cons (pe_tup (pa_cons (pe_callB (call_min2 rfl) (by rfl) B.min_ (by decide +kernel) (pa_cons (pv 10) (pa_cons (pv 6) pa_nil))) (pa_cons (pe_callB (call_max2 rfl) (by rfl) B.max_ (by decide +kernel) (pa_cons (pv 10) (pa_cons (pv 6) pa_nil))) pa_nil))) pa_nil))))))))))
      (pss_cons (ps_for PassesOwn.never rfl (pi_range1 (by rfl) B.range_ (pa_cons (pe_callB (r := rLn K) call_ln (by rfl) B.len_ (by decide +kernel) (pa_cons (pv 1) pa_nil)) pa_nil)) (pg_name (i := 10) sc_law_tree_of.nd rfl (.inl rfl))
        (pss_one (ps_if (pt_cmpR (r := rIn K true) op_notIn_seq (pv 10) (pv 2) (by rfl)) (pss_cons (ps_setLc (i := 11) (own := [("_law_other", 6)]) (g := gName 6) (by rfl) sc_law_tree_of.nd rfl rfl (sw_true rfl rfl rfl (by decide +kernel)) (pi_listK K rfl (pe_ix (r := rIxL K) ix_list (pv 1) (pv 10) (fun _ _ => rfl))) (blkOk_by (N := ["_law_deck_here", "_law_near_here", "_law_busy", "_law_start", "_law_inside", "_law_ties", "_law_other", "_law_left", "_law_ready", "_law_k", "_law_place", "_law_some"]) (sc := defScope st_law_tree_of) (by decide +kernel)) (fun _ _ _ _ _ => (pg_name (i := 6) sc_law_tree_of.nd rfl (.inl rfl))) (fun _ _ _ _ _ => (pts_one (pt_cmpR (r := rIn K false) op_in_seq (pv 6) (pv 2) (by rfl)))) (fun _ _ _ _ _ => (pv 6)))
      (pss_cons (ps_set (i := 6) sc_law_tree_of.nd rfl (.inl rfl) (pe_ix (r := rIxL K) ix_list (pv 11) (pe_op op_mod (pe_def D_law_next (hr.mono (by decide)) (by rfl) (pa_cons (pv 0) pa_nil)) (pe_callB (r := rLn K) call_ln (by rfl) B.len_ (by decide +kernel) (pa_cons (pv 11) pa_nil))) (fun _ _ => rfl)))
      (pss_one (ps_expr (pe_bm PySem.F.plainAttrs_list PySem.F.slot_list_append PySem.F.type_list_append mt_append (pv 5) (pa_cons (pe_tup (pa_cons (pe_callB (call_min2 rfl) (by rfl) B.min_ (by decide +kernel) (pa_cons (pv 10) (pa_cons (pv 6) pa_nil))) (pa_cons (pe_callB (call_max2 rfl) (by rfl) B.max_ (by decide +kernel) (pa_cons (pv 10) (pa_cons (pv 6) pa_nil))) pa_nil))) pa_nil)))))) pss_nil)))
      (pss_one (ps_ret (pe_callTy (r := rTp K) call_tp (by rfl) B.tuple_ (by decide +kernel) (pa_cons (pe_callB (r := rSortedP K) cr_sortedP (by rfl) B.sorted_ (by decide +kernel) (pa_cons (pv 5) pa_nil)) pa_nil))))))))), ?_⟩
    have hhi := hw.hi
    have hll := hr1.len
    have hLne : 0 < L.length := List.length_pos_iff.mpr hB.conn.1
    obtain ⟨rs, g1, g2, g3⟩ := hN.ex
    refine ⟨_, rfl, _, rfl, d, rfl, hd, fun z ds => ?_⟩
    obtain ⟨j, hj, hjl⟩ := mod_nat z hLne
    obtain ⟨s0, hs0⟩ : ∃ s, L[j]? = some s := ⟨_, List.getElem?_eq_getElem hjl⟩
    have hs0m := List.mem_of_getElem? hs0
    have ew : wo d (upd H d (.lst (ds.map V.int))) = wo d H := wo_upd
    have hd1 : Dk d (upd H d (.lst (ds.map V.int))) := ⟨ds, upd_same⟩
    generalize upd H d (.lst (ds.map V.int)) = H1 at ew hd1
    have hL1 : SqT K H1 b (ns L) := ex_t wo_ex (by rw [ew]; exact hL)
    refine ⟨_, rfl, b, _, rfl, .inr hL1, z, _, rfl, rfl, by rw [ns_len]; omega, b, _, _, .int (s0 : Int), rfl, rfl, hL1, by rw [ns_len, hj]; exact atI_nat (ns_get hs0), ?_⟩
    refine ⟨_, rfl, by show 1 ≤ sizeLine; decide, fun io hio => ?_⟩
    refine ⟨Nat.zero_le _, fun fo hfo => ?_⟩
    have hio_d : io ≠ d := (dk_ne hd1 hio).symm
    have hif : io ≠ fo := ne_of_none upd_same hfo
    have hd2 := dk_ex hd1 (Ex.new (o := .lst [.int (s0 : Int)]) hio)
    have hfo_d : fo ≠ d := (dk_ne hd2 hfo).symm
    have i0 : wo d H io = none := by rw [← ew, wo_ne hio_d]; exact hio
    have f0 : wo d H fo = none := by rw [← ew, wo_ne hfo_d]; exact fresh_back (Ex.new hio) hfo
    have hS0 : TSt d io fo H (upd (upd H1 io (.lst [.int (s0 : Int)])) fo (.lst [])) [s0] [] :=
      ⟨by rw [← ew]; exact wo_mono ((Ex.new hio).trans (Ex.new hfo)), dk_upd hd2 hfo_d.symm, by rw [upd_ne hif]; exact upd_same, [], upd_same, .nil⟩
    refine ⟨fun μ σ H' => ∃ F ts y6 y7 y8 y9 y10, σ = [some (.ref d), some (.ref a), some (.ref b), some (.int (s0 : Int)), some (.ref io), some (.ref fo), y6, y7, y8, y9, y10, none] ∧ μ = L.length - F.length ∧ Grow adj F ts ∧ (∀ x ∈ F, x ∈ L) ∧ TSt d io fo H H' F (ts.map nrm),
      ⟨_, [s0], [], none, none, none, none, none, rfl, rfl, .one s0, fun x hx => by rw [List.mem_singleton.mp hx]; exact hs0m, hS0⟩, fun μ σ H' hW2 => ?_⟩
    obtain ⟨F, ts, y6, y7, y8, y9, y10, rfl, rfl, hG, hFL, hS⟩ := hW2
    have hLx : SqT K H' b (ns L) := ex_t (hS.ex.trans wo_ex) hL
    have hFl : F.length ≤ n := by
      have h1 := hG.nodup
      refine Classical.byContradiction fun h => ?_
      have := nodup_sub_len h1 hFL
      omega
    have htsl := hG.len
    have hFn : ∀ x ∈ F, x < n := fun x hx => hr1.lt x (hFL x hx)
    refine ⟨_, rfl, io, _, rfl, .inl (.of hS.ins), _, rfl, b, _, rfl, .inr hLx, _, _, rfl, rfl, _, rfl, ite2 (fun hc => ?_) (fun hc => ?_)⟩
    · have hlt : F.length < L.length := by
        have := of_decide_eq_true hc
        rw [ns_len, ns_len] at this
        omega
      refine ⟨fun σ2 H2 => ∃ F2 ts2 y6 y7 y8 y9 y10, σ2 = [some (.ref d), some (.ref a), some (.ref b), some (.int (s0 : Int)), some (.ref io), some (.ref fo), y6, y7, y8, y9, y10, none] ∧ F2.length = F.length + 1 ∧ Grow adj F2 ts2 ∧ (∀ x ∈ F2, x ∈ L) ∧ TSt d io fo H H2 F2 (ts2.map nrm), fun σ2 H2 hN2 => ?_, ?_⟩
      · obtain ⟨F2, ts2, x6, x7, x8, x9, x10, h1, h2, h3, h4, h5⟩ := hN2
        exact ⟨L.length - F2.length, by omega, F2, ts2, x6, x7, x8, x9, x10, h1, rfl, h3, h4, h5⟩
      · -- left
        have hLf : EvL (tLc (iTup K (tVar 2)) (gName 6) (tTest (tOp (rIn K true) (tVar 6) (tVar 4))) (tVar 6) [6]) [some (.ref d), some (.ref a), some (.ref b), some (.int (s0 : Int)), some (.ref io), some (.ref fo), y6, y7, y8, y9, y10, none] H' (ns (L.filter fun v => !decide (v ∈ F))) := by
          refine el_T L (fun v => !decide (v ∈ F)) (fun v => .int (v : Int)) (ev_var rfl) hLx (by omega) (fun _ => rfl) (fun v hv => ?_) (fun v hv _ => ev_var rfl)
          exact et_test (ev_niL F (ev_var rfl) (ev_var rfl) (.of hS.ins))
        refine q_asgL hLf fun lf H2 hlf e2 hl2 => ?_
        generalize hLfd : (L.filter fun v => !decide (v ∈ F)) = Lf at hl2
        have hLfm : ∀ v, v ∈ Lf ↔ v ∈ L ∧ v ∉ F := fun v => by
          rw [← hLfd, List.mem_filter, Bool.not_eq_true', decide_eq_false_iff_not]
        refine ⟨Nat.zero_le _, fun ry hry => ?_⟩
        have eR : Ex H' (upd H2 ry (.lst [])) := e2.trans (Ex.new hry)
        have hS3 := hS.mono eR
        have hl3 := Ex.new (o := .lst []) hry _ _ hl2
        have hry3 : upd H2 ry (.lst []) ry = some (.lst (([] : List Addr).map V.ref)) := upd_same
        generalize upd H2 ry (.lst []) = H3 at eR hS3 hl3 hry3
        have hN3 := hS3.ex.trans (wo_ex (H := H3))
        refine ⟨_, rfl, io, rfl, ⟨_, .of hS3.ins⟩, ?_⟩
        refine for_list (xs := ns F) (fun i σ2 H4 => ∃ (ro : Addr) (ps : List Addr) (P : List (Nat × Nat)) (y9 : Option V), σ2 = [some (.ref d), some (.ref a), some (.ref b), some (.int (s0 : Int)), some (.ref io), some (.ref fo), y6, some (.ref lf), some (.ref ro), y9, y10, none] ∧ Ex H3 H4 ∧ H4 ro = some (.lst (ps.map V.ref)) ∧ Pairs H4 ps P ∧
            (∀ e ∈ P, e.1 ∈ F ∧ e.2 ∈ Lf ∧ adj e.1 e.2 = true) ∧ (∀ k ∈ F.take i, ∀ u ∈ nb n adj k, u ∈ Lf → (k, u) ∈ P) ∧ P.length ≤ 6 * i)
          ⟨ry, [], [], _, rfl, Ex.refl _, hry3, .nil, fun e he => absurd he (by simp), fun k hk => absurd hk (by simp), Nat.zero_le _⟩ (fun i σ2 H4 _ hP => by obtain ⟨_, _, _, _, _, e4, _⟩ := hP; exact .of (e4 _ _ hS3.ins)) (fun i x σ2 H4 hi hP => ?_) (fun σ2 H4 hP => ?_)
        · obtain ⟨ro, ps, P, z9, rfl, e4, hro, hps, hP1, hP2, hPl⟩ := hP
          obtain ⟨k, hk, hkm, rfl⟩ := ns_got hi
          have hil := (List.getElem?_eq_some_iff.mp hk).1
          have hkn := hFn k hkm
          obtain ⟨r1, k1, k2⟩ := g3 k hkn
          have k2' := e4 _ _ (hN3 _ _ k2)
          refine ⟨_, rfl, _, rfl, _, rfl, a, _, _, .ref r1, rfl, rfl, .of (e4 _ _ (hN3 _ _ g1)), atI_nat (by rw [List.getElem?_map, k1]; rfl), r1, rfl, ⟨_, .of k2'⟩, fun D hD => ?_⟩
          refine lc_list (xs := ns (nb n adj k)) (fun j H5 => ∃ qs : List Addr, Ex H4 H5 ∧ H5 D = some (.lst (qs.map V.ref)) ∧ Pairs H5 qs ((((nb n adj k).take j).filter fun u => decide (u ∈ Lf)).map fun u => (k, u))) ⟨[], Ex.new hD, upd_same, .nil⟩ (fun j H5 _ hP => .of (hP.choose_spec.1 _ _ k2')) (fun j x H5 hj hP => ?_) (fun H5 hP => ?_)
          · obtain ⟨qs, e5, hD5, hq5⟩ := hP
            obtain ⟨u, hu, hum, rfl⟩ := ns_got hj
            have ek : (nb n adj k).take (j + 1) = (nb n adj k).take j ++ [u] := by rw [List.take_add_one, hu]; rfl
            have hql := pairs_len hq5
            rw [List.length_map] at hql
            have h1 := List.length_filter_le (fun u => decide (u ∈ Lf)) ((nb n adj k).take j)
            rw [List.length_take] at h1
            have h2 := nb_len n adj k
            refine ⟨rfl, ?_⟩
            refine (et_test (ev_inL Lf (ev_var rfl) (ev_var rfl) (.of (e5 _ _ (e4 _ _ hl3))))) _ (Ex.refl _) _ fun H6 e6 => ite2 (fun hb => ?_) (fun hb => ?_)
            · refine ⟨_, rfl, _, rfl, by show 2 ≤ sizeLine; decide, fun t ht => ?_⟩
              have hD6 := e6 _ _ hD5
              have hDt : D ≠ t := ne_of_none hD6 ht
              refine ⟨qs.map V.ref, by rw [upd_ne hDt]; exact hD6, by rw [List.length_map]; exact small1000 (by omega), qs ++ [t], Ex.mut ((e5.trans e6).trans (Ex.new ht)) hD, by rw [upd_same, List.map_append]; rfl, ?_⟩
              rw [ek, List.filter_append, List.map_append, show List.filter (fun u => decide (u ∈ Lf)) [u] = [u] by rw [List.filter_cons, if_pos hb]; rfl]
              exact pairs_upd (pairs_snoc ((hq5.mono e6).mono (Ex.new ht)) upd_same) (by rw [upd_ne hDt]; exact hD6) no_tupL
            · refine ⟨qs, e5.trans e6, e6 _ _ hD5, ?_⟩
              rw [ek, List.filter_append, show List.filter (fun u => decide (u ∈ Lf)) [u] = [] by rw [List.filter_cons, if_neg hb]; rfl, List.append_nil]
              exact hq5.mono e6
          · obtain ⟨qs, e5, hD5, hq5⟩ := hP
            rw [ns_len, List.take_length] at hq5
            have hro5 := e5 _ _ hro
            have hql := pairs_len hq5
            rw [List.length_map] at hql
            have h1 := List.length_filter_le (fun u => decide (u ∈ Lf)) (nb n adj k)
            have h2 := nb_len n adj k
            have hpl := pairs_len hps
            refine ⟨ro, D, _, _, rfl, rfl, hro5, hD5, by rw [List.length_map, List.length_map]; exact Nat.le_of_lt (small1000 (by omega)), fun p hp => ?_⟩
            refine ⟨p, ps ++ qs, P ++ (((nb n adj k).filter fun u => decide (u ∈ Lf)).map fun u => (k, u)), _, rfl, (e4.trans e5).trans (Ex.new hp), by rw [upd_same, List.map_append], (pairs_app (hps.mono e5) hq5).mono (Ex.new hp), fun e he => ?_, fun k' hk' u hu huL => ?_, ?_⟩
            · rcases List.mem_append.mp he with he | he
              · exact hP1 e he
              · obtain ⟨u, hu, rfl⟩ := List.mem_map.mp he
                obtain ⟨hu1, hu2⟩ := List.mem_filter.mp hu
                exact ⟨hkm, of_decide_eq_true hu2, (mem_nb.mp hu1).2⟩
            · rw [List.take_add_one, hk] at hk'
              rcases List.mem_append.mp hk' with hk' | hk'
              · exact List.mem_append_left _ (hP2 k' hk' u hu huL)
              · have e := List.mem_singleton.mp hk'
                subst e
                exact List.mem_append_right _ (List.mem_map.mpr ⟨u, List.mem_filter.mpr ⟨hu, decide_eq_true huL⟩, rfl⟩)
            · rw [List.length_append, List.length_map]
              omega
        · obtain ⟨ro, ps, P, z9, rfl, e4, hro, hps, hP1, hP2, hPl⟩ := hP
          rw [ns_len, List.take_length] at hP2
          rw [ns_len] at hPl
          have hPne : 0 < P.length := by
            refine Nat.pos_of_ne_zero fun h0 => ?_
            have hPn : P = [] := List.length_eq_zero_iff.mp h0
            have hall : ∀ x ∈ L, x ∈ F := by
              cases hG' : F with
              | nil => rw [hG'] at htsl; simp at htsl
              | cons f F' =>
                rw [← hG']
                have hf : f ∈ F := by rw [hG']; exact List.mem_cons_self
                refine hB.conn.2 (fun y => y ∈ F) ⟨f, hFL f hf, hf⟩ fun y _ hyF zz hz ha => Classical.byContradiction fun hn => ?_
                have := hP2 y hyF zz (mem_nb.mpr ⟨hr1.lt zz hz, ha⟩) ((hLfm zz).mpr ⟨hz, hn⟩)
                rw [hPn] at this
                exact absurd this (by simp)
            have := nodup_sub_len hr1.nd hall
            omega
          have hS4 := hS3.mono e4
          have hpl := pairs_len hps
          have hro_d : ro ≠ d := fun c => by
            obtain ⟨ds0, hd0⟩ := hS4.dk
            rw [c, hd0] at hro
            injection hro with hro
            injection hro with hro
            cases ps with
            | nil => simp at hpl; omega
            | cons p ps => cases ds0 <;> simp at hro
          refine ⟨_, rfl, _, rfl, d, rfl, hS4.dk, fun z2 ds2 => ?_⟩
          have hS5 := hS4.deck hio_d hfo_d ds2
          have hro5 : upd H4 d (.lst (ds2.map V.int)) ro = some (.lst (ps.map V.ref)) := by rw [upd_ne hro_d]; exact hro
          have hps5 : Pairs (upd H4 d (.lst (ds2.map V.int))) ps P := by
            obtain ⟨ds0, hd0⟩ := hS4.dk
            exact pairs_upd hps hd0 no_tupL
          generalize upd H4 d (.lst (ds2.map V.int)) = H5 at hS5 hro5 hps5
          obtain ⟨j2, hj2, hjl2⟩ := mod_nat z2 hPne
          have hlen2 : ((ps.map V.ref).length : Int) = (P.length : Int) := by rw [List.length_map, hpl]
          obtain ⟨t, ht⟩ : ∃ t, ps[j2]? = some t := ⟨_, List.getElem?_eq_getElem (by omega)⟩
          obtain ⟨⟨p, u⟩, he, hte⟩ := pairs_at hps5 ht
          obtain ⟨hpF, huLf, hpu⟩ := hP1 _ (List.mem_of_getElem? he)
          obtain ⟨huL, huF⟩ := (hLfm u).mp huLf
          refine ⟨_, rfl, ro, _, rfl, .inl (.of hro5), z2, _, rfl, rfl, by rw [hlen2]; omega, ro, _, _, .ref t, rfl, rfl, .of hro5, by rw [hlen2, hj2]; exact atI_nat (by rw [List.getElem?_map, ht]; rfl), ?_⟩
          refine ⟨t, _, rfl, .of hte, rfl, _, _, rfl, _, _, rfl, rfl, ?_⟩
          refine ⟨_, rfl, .inl ⟨rfl, _, .of hS5.ins⟩, _, rfl, io, _, _, rfl, rfl, hS5.ins, by rw [ns_len]; exact small1000 (by omega), ?_⟩
          have hS6 := hS5.app i0 hio_d hif u
          obtain ⟨fs, hf6, hp6⟩ := hS6.tie
          have hfl := pairs_len hp6
          rw [List.length_map] at hfl
          refine ⟨_, rfl, .inl ⟨rfl, _, .of hf6⟩, _, rfl, _, rfl, (p : Int), (u : Int), rfl, _, rfl, _, rfl, (p : Int), (u : Int), rfl, by show 2 ≤ sizeLine; decide, fun t2 ht2 => ?_⟩
          rw [tie_minmax]
          have hft : fo ≠ t2 := ne_of_none hf6 ht2
          refine ⟨fo, fs.map V.ref, _, rfl, rfl, by rw [upd_ne hft]; exact hf6, by rw [List.length_map]; exact small1000 (by omega), F ++ [u], ts ++ [(p, u)], _, _, _, _, _, rfl, by rw [List.length_append]; rfl, hG.add hpF huF hpu, fun x hx => ?_, ?_⟩
          · rcases List.mem_append.mp hx with hx | hx
            · exact hFL x hx
            · rw [List.mem_singleton.mp hx]; exact huL
          · rw [List.map_append]
            exact hS6.put f0 hfo_d hif ht2 hf6 hp6
    · -- all of the set is joined
      have hkl : L.length ≤ F.length := by
        refine Classical.byContradiction fun h => hc (decide_eq_true ?_)
        rw [ns_len, ns_len]
        omega
      have hFL2 : ∀ x, x ∈ F ↔ x ∈ L := fun x => ⟨hFL x, fun hx => Classical.byContradiction fun hn => by
        have := nodup_len_lt hG.nodup hFL hx hn
        omega⟩
      have hlen3 : ((rs.map V.ref).length : Int) = (n : Int) := by rw [List.length_map, g2]
      have hNx := hS.ex.trans (wo_ex (H := H'))
      refine ⟨_, rfl, a, _, rfl, .inl (.of (hNx _ _ g1)), _, rfl, by rw [hlen3]; omega, by rw [hlen3]; omega, ?_⟩
      rw [hlen3]
      have en : ((n : Int)).toNat = n := by omega
      rw [en]
      refine for_range (fun i σ2 H2 => ∃ os y6 y10 y11, σ2 = [some (.ref d), some (.ref a), some (.ref b), some (.int (s0 : Int)), some (.ref io), some (.ref fo), y6, y7, y8, y9, y10, y11] ∧ os.map Prod.fst = (List.range i).filter (fun v => decide (v ∉ L)) ∧ (∀ e ∈ os, e.2 ∈ L ∧ adj e.1 e.2 = true) ∧ TSt d io fo H H2 F ((ts ++ os).map nrm))
        ⟨[], _, _, _, rfl, rfl, fun e he => absurd he (by simp), by rw [List.append_nil]; exact hS⟩ (fun i σ2 H2 hi hP => ?_) (fun σ2 H2 hP => ?_)
      · obtain ⟨os, z6, z10, z11, rfl, ho1, ho2, hS2⟩ := hP
        have e0 : (0 : Int) + (i : Int) = (i : Int) := Int.zero_add _
        rw [e0]
        have hol : os.length ≤ i := by
          have h1 : (os.map Prod.fst).length = ((List.range i).filter (fun v => decide (v ∉ L))).length := by rw [ho1]
          have h2 := List.length_filter_le (fun v => decide (v ∉ L)) (List.range i)
          rw [List.length_range] at h2
          rw [List.length_map] at h1
          omega
        have hL2 : SqT K H2 b (ns L) := ex_t (hS2.ex.trans wo_ex) hL
        have hcc : EvT (tTest (tOp (rIn K true) (tVar 10) (tVar 2))) [some (.ref d), some (.ref a), some (.ref b), some (.int (s0 : Int)), some (.ref io), some (.ref fo), z6, y7, y8, y9, some (.int (i : Int)), z11] H2 (!decide (i ∈ L)) :=
          et_test (ev_niT L (ev_var rfl) (ev_var rfl) hL2)
        refine s_when hcc (fun hb H3 e3 => ?_) (fun hb H3 e3 => ?_)
        · have hiL : i ∉ L := by
            rw [Bool.not_eq_true', decide_eq_false_iff_not] at hb
            exact hb
          obtain ⟨r1, k1, k2⟩ := g3 i hi
          have hS3 := hS2.mono e3
          have hN3 := hS3.ex.trans (wo_ex (H := H3))
          have hSm : EvL (tLc (iList K (tOp (rIxL K) (tVar 1) (tVar 10))) (gName 6) (tTest (tOp (rIn K false) (tVar 6) (tVar 2))) (tVar 6) [6]) [some (.ref d), some (.ref a), some (.ref b), some (.int (s0 : Int)), some (.ref io), some (.ref fo), z6, y7, y8, y9, some (.int (i : Int)), z11] H3 (ns ((nb n adj i).filter fun u => decide (u ∈ L))) := by
            refine el_L (nb n adj i) (fun u => decide (u ∈ L)) (fun v => .int (v : Int)) (a := r1) (ev_op (ev_var rfl) (ev_var rfl) (rv_ixL (.of (hN3 _ _ g1)) (atI_nat (by rw [List.getElem?_map, k1]; rfl)))) (.of (hN3 _ _ k2)) (by have := nb_len n adj i; omega) (fun _ => rfl) (fun u hu => ?_) (fun u hu _ => ev_var rfl)
            exact et_test (ev_inT L (ev_var rfl) (ev_var rfl) (ex_t e3 hL2))
          refine q_asgL hSm fun so H4 hso e4 hl4 => ?_
          have hS4 := hS3.mono e4
          have hso_d : so ≠ d := (dk_ne hS3.dk hso).symm
          obtain ⟨u0, hu0, ha0⟩ := hB.dom i hi hiL
          generalize hMd : ((nb n adj i).filter fun u => decide (u ∈ L)) = M at hl4
          have hMm : ∀ u, u ∈ M ↔ (u < n ∧ adj i u = true) ∧ u ∈ L := fun u => by
            rw [← hMd, List.mem_filter, mem_nb, decide_eq_true_eq]
          have hMne : 0 < M.length := List.length_pos_of_mem ((hMm u0).mpr ⟨⟨hr1.lt u0 hu0, ha0⟩, hu0⟩)
          refine ⟨_, rfl, _, rfl, d, rfl, hS4.dk, fun z2 ds2 => ?_⟩
          have hS5 := hS4.deck hio_d hfo_d ds2
          have hl5 : upd H4 d (.lst (ds2.map V.int)) so = some (.lst (ns M)) := by rw [upd_ne hso_d]; exact hl4
          generalize upd H4 d (.lst (ds2.map V.int)) = H5 at hS5 hl5
          obtain ⟨j2, hj2, hjl2⟩ := mod_nat z2 hMne
          obtain ⟨u, hu⟩ : ∃ u, M[j2]? = some u := ⟨_, List.getElem?_eq_getElem hjl2⟩
          obtain ⟨⟨hun, hiu⟩, huL⟩ := (hMm u).mp (List.mem_of_getElem? hu)
          refine ⟨_, rfl, so, _, rfl, .inl (.of hl5), z2, _, rfl, rfl, by rw [ns_len]; omega, so, _, _, .int (u : Int), rfl, rfl, .of hl5, by rw [ns_len, hj2]; exact atI_nat (ns_get hu), ?_⟩
          obtain ⟨fs, hf5, hp5⟩ := hS5.tie
          have hfl := pairs_len hp5
          rw [List.length_map, List.length_append] at hfl
          refine ⟨_, rfl, .inl ⟨rfl, _, .of hf5⟩, _, rfl, _, rfl, (i : Int), (u : Int), rfl, _, rfl, _, rfl, (i : Int), (u : Int), rfl, by show 2 ≤ sizeLine; decide, fun t ht => ?_⟩
          rw [tie_minmax]
          have hft : fo ≠ t := ne_of_none hf5 ht
          refine ⟨fo, fs.map V.ref, _, rfl, rfl, by rw [upd_ne hft]; exact hf5, by rw [List.length_map]; exact small1000 (by omega), os ++ [(i, u)], _, _, _, rfl, ?_, fun e he => ?_, ?_⟩
          · rw [List.map_append, ho1, range_snoc_filter, if_pos (decide_eq_true hiL)]
            rfl
          · rcases List.mem_append.mp he with he | he
            · exact ho2 e he
            · rw [List.mem_singleton.mp he]
              exact ⟨huL, hiu⟩
          · rw [← List.append_assoc, List.map_append]
            exact hS5.put f0 hfo_d hif ht hf5 hp5
        · have hiL : i ∈ L := by
            rw [Bool.not_eq_false', decide_eq_true_eq] at hb
            exact hb
          refine ⟨os, _, _, _, rfl, ?_, ho2, hS2.mono e3⟩
          rw [ho1, range_snoc_filter, if_neg (by simp [hiL]), List.append_nil]
      · obtain ⟨os, z6, z10, z11, rfl, ho1, ho2, hS2⟩ := hP
        obtain ⟨fs, hf2, hP2⟩ := hS2.tie
        refine ⟨_, rfl, fo, fs.map V.ref, rfl, .of hf2, pairs_all hP2, fun ys p hperm hp => ?_⟩
        obtain ⟨fs3, T, rfl, hP3, hT⟩ := pairs_perm hP2 hperm
        refine ⟨p, _, rfl, .inl ⟨.of upd_same, fun l hl => ?_⟩⟩
        have e9 := (Ex.new (o := .lst (fs3.map V.ref)) hp).trans (Ex.new (o := .tup (fs3.map V.ref)) hl)
        have hS9 := hS2.mono e9
        exact q l _ fs3 T ⟨F, ts, os, hG, hFL2, ho1, ho2, hT⟩ (pairs_wo hS9.dk (hP3.mono e9)) hS9.ex hS9.dk (wo_row upd_same (dk_ne (dk_ex hS2.dk (Ex.new hp)) hl).symm)
end
end ML
set_option Elab.async false
set_option linter.all false
set_option maxRecDepth 100000
set_option maxHeartbeats 4000000
namespace ML
open PySem PySem.Spec PyProof.Rows L2 Evl
theorem wo_upd_ne {d o : Addr} {H : Hp} {x : HO} (h : o ≠ d) : wo d (upd H o x) = upd (wo d H) o x := by
  funext b
  by_cases e : b = d
  · subst e
    rw [wo_at, upd_ne h.symm, wo_at]
  · rw [wo_ne e]
    by_cases e2 : b = o
    · subst e2
      rw [upd_same, upd_same]
    · rw [upd_ne e2, upd_ne e2, wo_ne e]
theorem dpa_take {K : PySem.W.Frag} {H : Hp} : ∀ {xs : List V} {ds : List PyData} (i : Nat), DpAll K H xs ds → DpAll K H (xs.take i) (ds.take i)
  | _, _, 0, _ => .nil
  | _, _, _ + 1, .nil => .nil
  | _, _, i + 1, .cons a r => .cons a (dpa_take i r)
theorem dpa_drop {K : PySem.W.Frag} {H : Hp} : ∀ {xs : List V} {ds : List PyData} (i : Nat), DpAll K H xs ds → DpAll K H (xs.drop i) (ds.drop i)
  | _, _, 0, h => h
  | _, _, _ + 1, .nil => .nil
  | _, _, i + 1, .cons _ r => dpa_drop i r
theorem dpa_app {K : PySem.W.Frag} {H : Hp} : ∀ {xs ys : List V} {ds es : List PyData}, DpAll K H xs ds → DpAll K H ys es → DpAll K H (xs ++ ys) (ds ++ es)
  | _, _, _, _, .nil, h => h
  | _, _, _, _, .cons a r, h => .cons a (dpa_app r h)
section
variable {K : PySem.W.Frag} {H H0 : Hp} {Q : VK}
theorem sl_dp {q : Addr} {xs : List V} {ds : List PyData} {lo hi : Option Int} (h : SqT K H q xs) (hx : DpAll K H0 xs ds) (hs : ∀ e ∈ ds, Sh1 e)
    (k : ∀ p H' ys es, Ex H H' → SqT K H' p ys → DpAll K H0 ys es → (∀ e ∈ es, Sh1 e) → ys.length ≤ xs.length → Q (.ref p) H') : rSlA K (.ref q) lo hi H Q := by
  refine ⟨q, xs, rfl, h, fun _ => k q H xs ds (Ex.refl _) h hx hs (Nat.le_refl _), fun _ p hp => ?_⟩
  refine k p _ (cutV xs lo hi) ((ds.drop (HT.sIx xs.length 0 lo)).take (HT.sIx xs.length xs.length hi - HT.sIx xs.length 0 lo)) (Ex.new hp) (.of upd_same) (dpa_take _ (dpa_drop _ hx)) (fun e he => hs e (List.mem_of_mem_drop (List.mem_of_mem_take he))) ?_
  unfold cutV
  rw [List.length_take, List.length_drop]
  omega
theorem cat_dp {a b : Addr} {xs ys : List V} {dx dy : List PyData} (ha : SqT K H a xs) (hb : SqT K H b ys) (hx : DpAll K H0 xs dx) (hy : DpAll K H0 ys dy) (sx : ∀ e ∈ dx, Sh1 e) (sy : ∀ e ∈ dy, Sh1 e) (hz : xs.length + ys.length ≤ 1000)
    (k : ∀ p H' zs es, Ex H H' → SqT K H' p zs → DpAll K H0 zs es → (∀ e ∈ es, Sh1 e) → zs.length ≤ xs.length + ys.length → Q (.ref p) H') : rCatA K (.ref a) (.ref b) H Q :=
  ⟨a, b, xs, ys, rfl, rfl, ha, hb, Nat.le_of_lt (small1000 hz), fun _ => k b H ys dy (Ex.refl _) hb hy sy (by omega), fun _ _ => k a H xs dx (Ex.refl _) ha hx sx (by omega), fun _ _ p hp => k p _ (xs ++ ys) (dx ++ dy) (Ex.new hp) (.of upd_same) (dpa_app hx hy)
    (fun e he => (List.mem_append.mp he).elim (sx e) (sy e)) (by rw [List.length_append]; omega)⟩
end
/-- right needs, as data -/
theorem needsD_of {n : Nat} {adj : Nat → Nat → Bool} {L : List Nat} {es : List Need} (hl : es.length = L.length) (h : ∀ (i p : Nat) e, L[i]? = some p → es[i]? = some e → NeedOk n adj L p e) : NeedsD n adj L (.tuple (es.map needD)) := by
  refine ⟨_, rfl, by rw [List.length_map, hl], fun i p e hp he => ?_⟩
  rw [List.getElem?_map] at he
  cases hq : es[i]? with
  | none => rw [hq] at he; cases he
  | some e0 =>
    rw [hq] at he
    exact ⟨e0, (Option.some.inj he).symm, h i p e0 hp hq⟩
theorem needs_sh2 (es : List Need) : Sh2 (.tuple (es.map needD)) := fun ds h e he => by
  injection h with h
  subst h
  obtain ⟨n, _, rfl⟩ := List.mem_map.mp he
  exact needD_sh n
theorem needs_of {n : Nat} {adj : Nat → Nat → Bool} {B : List Nat} {H : Hp} : ∀ {rs : List Addr} {L : List Nat}, rs.length = L.length → (∀ (i p : Nat), L[i]? = some p → ∃ rr e, rs[i]? = some rr ∧ NeedAt H rr e ∧ NeedOk n adj B p e) →
    ∃ es : List Need, NeedsL H rs es ∧ es.length = L.length ∧ ∀ (i p : Nat) e, L[i]? = some p → es[i]? = some e → NeedOk n adj B p e
  | [], [], _, _ => ⟨[], .nil, rfl, fun i p e h => by simp at h⟩
  | [], _ :: _, h, _ => by simp at h
  | _ :: _, [], h, _ => by simp at h
  | r :: rs, p :: L, h, g => by
    obtain ⟨es, h1, h2, h3⟩ := needs_of (rs := rs) (L := L) (by simpa using h) (fun i q hq => g (i + 1) q hq)
    obtain ⟨rr, e, g1, g2, g3⟩ := g 0 p rfl
    have : r = rr := Option.some.inj g1
    subst this
    refine ⟨e :: es, .cons g2 h1, by rw [List.length_cons, h2, List.length_cons], fun i q f hq hf => ?_⟩
    cases i with
    | zero =>
      have a : p = q := Option.some.inj hq
      have b : e = f := Option.some.inj hf
      subst a b
      exact g3
    | succ i => exact h3 i q f hq hf
/-- a tree at r -/
def TreeAt (n : Nat) (adj : Nat → Nat → Bool) (L : List Nat) (H : Hp) (r : Addr) : Prop := ∃ ts T, TreeOk n adj L T ∧ Pairs H ts T ∧ H r = some (.tup (ts.map V.ref))
theorem TreeAt.mono {n : Nat} {adj : Nat → Nat → Bool} {L : List Nat} {H H' : Hp} {r : Addr} (h : TreeAt n adj L H r) (e : Ex H H') : TreeAt n adj L H' r := by
  obtain ⟨ts, T, h1, h2, h3⟩ := h
  exact ⟨ts, T, h1, h2.mono e, e _ _ h3⟩
theorem TreeAt.upd {n : Nat} {adj : Nat → Nat → Bool} {L : List Nat} {H : Hp} {r o : Addr} {xs : List V} {x : HO} (h : TreeAt n adj L H r) (ho : H o = some (.lst xs)) : TreeAt n adj L (upd H o x) r := by
  obtain ⟨ts, T, h1, h2, h3⟩ := h
  exact ⟨ts, T, h1, pairs_upd h2 ho no_tupL, by rw [upd_ne (ne_of h3 ho (by intro c; cases c))]; exact h3⟩
section
variable {P : Program} {w : World} {K : PySem.W.Frag} {mg : Str → Option Value} {base : Heap}
/-! ### _law_good -/
abbrev st_law_good : Stmt := top 43
theorem sc_law_good : FnScope ["_law_deck_here", "_law_web_here", "_law_near_here", "_law_busy", "_law_is_lean_here", "_law_needs", "_law_at", "_law_one", "_law_bent", "_law_thing", "_law_told", "_law_trees", "_law_turn_here", "_law_tree", "_law_place"] ["_law_deck_here", "_law_web_here", "_law_near_here", "_law_busy", "_law_is_lean_here"] (defScope st_law_good) := ⟨rfl, rfl, rfl, by decide +kernel, rfl, by decide +kernel, by decide +kernel⟩
def sp_law_good (K : PySem.W.Frag) : Sp := fun vs H Q _ => ∃ d wa na b n adj L bl, vs = [.ref d, .ref wa, .ref na, .ref b, .bl bl] ∧ Dk d H ∧ WebAt K (wo d H) wa n adj ∧ Web n adj ∧ NearAt (wo d H) na n adj ∧ SqT K (wo d H) b (ns L) ∧ Rise n L ∧ IsBusy n adj L ∧ (bl = true ↔ IsLean n adj L) ∧
  ∀ H', Ex (wo d H) (wo d H') → Dk d H' → Q (.bl true) H'
theorem D_law_good (L : Ld K mg "_law_good" st_law_good) (B : Bt mg) (D_law_some_need : Def P w K mg base "_law_some_need" 2 ["_law_deck_here", "_law_near_here", "_law_busy", "_law_place"] (sp_law_some_need K)) (D_law_next : Def P w K mg base "_law_next" 1 ["_law_deck_here"] (sp_law_next K)) (D_law_bent_need : Def P w K mg base "_law_bent_need" 2 ["_law_deck_here", "_law_many", "_law_busy", "_law_need"] (sp_law_bent_need K)) (D_right_needs : Def P w K mg base "right_needs" 5 ["web", "busy", "thing"] (sp_right_needs K)) (D_lean_of : Def P w K mg base "lean_of" 5 ["web", "busy", "order"] (sp_lean_of K)) (D_tree_by : Def P w K mg base "tree_by" 2 ["web", "busy"] (sp_tree_by K)) (D_law_tree_of : Def P w K mg base "_law_tree_of" 2 ["_law_deck_here", "_law_near_here", "_law_busy"] (sp_law_tree_of K)) (D_leaves_of : Def P w K mg base "leaves_of" 3 ["tree"] (sp_leaves_of K)) : Def P w K mg base "_law_good" 6 ["_law_deck_here", "_law_web_here", "_law_near_here", "_law_busy", "_law_is_lean_here"] (sp_law_good K) := by
  refine L.ok (ps := ["_law_deck_here", "_law_web_here", "_law_near_here", "_law_busy", "_law_is_lean_here"]) sc_law_good (fun _ _ _ _ _ _ us hl => match us, hl with | [_, _, _, _, _], _ => rfl) (fun vs H Q E h => ?_) (fun f cdv A outer s H vs Q E hr h => ?_)
  · obtain ⟨d, wa, na, b, n, adj, L, bl, rfl, _⟩ := h
    rfl
  · obtain ⟨d, wa, na, b, n, adj, L, bl, rfl, hd, hW, hw, hN, hL, hr1, hB, hbl, q⟩ := h
    refine ⟨_, (pss_cons (ps_set (i := 5) sc_law_good.nd rfl (.inl rfl) (pe_callTy (r := rTp K) call_tp (by rfl) B.tuple_ (by decide +kernel) (pa_cons (pe_lc (own := [("_law_place", 14)]) (g := gName 14) (tt := tYes) (by rfl) sc_law_good.nd (pi_tupK K rfl (pv 3)) (blkOk_by (N := ["_law_deck_here", "_law_web_here", "_law_near_here", "_law_busy", "_law_is_lean_here", "_law_needs", "_law_at", "_law_one", "_law_bent", "_law_thing", "_law_told", "_law_trees", "_law_turn_here", "_law_tree", "_law_place"]) (sc := defScope st_law_good) (by decide +kernel)) (fun _ _ _ _ _ => (pg_name (i := 14) sc_law_good.nd rfl (.inl rfl))) (fun _ _ _ _ _ => pts_nil) (fun _ _ _ _ _ => (pe_def D_law_some_need (hr.mono (by decide)) (by rfl) (pa_cons (pv 0) (pa_cons (pv 2) (pa_cons (pv 3) (pa_cons (pv 14) pa_nil))))))) pa_nil)))
      (pss_cons (ps_set (i := 6) sc_law_good.nd rfl (.inl rfl) (pe_op op_mod (pe_def D_law_next (hr.mono (by decide)) (by rfl) (pa_cons (pv 0) pa_nil)) (pe_callB (r := rLn K) call_ln (by rfl) B.len_ (by decide +kernel) (pa_cons (pv 5) pa_nil))))
      (pss_cons (ps_set (i := 7) sc_law_good.nd rfl (.inl rfl) (pe_def D_law_bent_need (hr.mono (by decide)) (by rfl) (pa_cons (pv 0) (pa_cons (pe_callB (r := rLn K) call_ln (by rfl) B.len_ (by decide +kernel) (pa_cons (pv 2) pa_nil)) (pa_cons (pv 3) (pa_cons (pe_ix (r := rIxT K) ix_tup (pv 5) (pv 6) (fun _ _ => rfl)) pa_nil))))))
      (pss_cons (ps_set (i := 8) sc_law_good.nd rfl (.inl rfl) (pe_op op_catA (pe_op op_catA (pe_slice sl_tupA (pv 5) po_none (po_some (pv 6))) (pe_tup (pa_cons (pv 7) pa_nil))) (pe_slice sl_tupA (pv 5) (po_some (pe_op op_add (pv 6) pe_int)) po_none)))
      (pss_cons (ps_for PassesOwn.never rfl (pi_listK K rfl (pe_lst (pa_cons (pv 5) (pa_cons (pv 8) pa_nil)))) (pg_name (i := 9) sc_law_good.nd rfl (.inl rfl))
        (pss_one (ps_if (PW.pt (pw_and (pt_cmpR op_notBl (pe_def D_right_needs (hr.mono (by decide)) (by rfl) (pa_cons (pv 1) (pa_cons (pv 3) (pa_cons (pv 9) pa_nil)))) pe_bl (nomark _)) (pw_and1 (pt_not (pt_val (pv 4)))))) (pss_one (ps_ret pe_bl)) pss_nil)))
      (pss_cons (ps_if (pt_not (pt_val (pv 4))) (pss_one (ps_ret pe_bl)) pss_nil)
      (pss_cons (ps_set (i := 10) sc_law_good.nd rfl (.inl rfl) (pe_def D_lean_of (hr.mono (by decide)) (by rfl) (pa_cons (pv 1) (pa_cons (pv 3) (pa_cons (pv 3) pa_nil)))))
      (pss_cons (ps_if (pt_cmpR (r := rNeD K) (op_neD hr.units) (pe_ix (r := rIxT K) ix_tup (pv 10) pe_int (fun _ _ => rfl)) (pv 3) (nomark _)) (pss_one (ps_ret pe_bl)) pss_nil)
      (pss_cons (ps_for PassesOwn.never rfl (pi_listK K rfl (pe_lst (pa_cons (pv 5) (pa_cons (pe_ix (r := rIxT K) ix_tup (pv 10) pe_int (fun _ _ => rfl)) pa_nil)))) (pg_name (i := 9) sc_law_good.nd rfl (.inl rfl))
        (pss_one (ps_if (pt_cmpR op_notBl (pe_def D_right_needs (hr.mono (by decide)) (by rfl) (pa_cons (pv 1) (pa_cons (pv 3) (pa_cons (pv 9) pa_nil)))) pe_bl (nomark _)) (pss_one (ps_ret pe_bl)) pss_nil)))
      (pss_cons (ps_set (i := 11) sc_law_good.nd rfl (.inl rfl) (pe_lst (pa_cons (pe_def D_tree_by (hr.mono (by decide)) (by rfl) (pa_cons (pv 1) (pa_cons (pv 3) pa_nil))) pa_nil)))
      (pss_cons (ps_for PassesOwn.never rfl (pi_range1 (by rfl) B.range_ (pa_cons pe_int pa_nil)) (pg_name (i := 12) sc_law_good.nd rfl (.inl rfl))
        (pss_one (ps_expr (pe_bm PySem.F.plainAttrs_list PySem.F.slot_list_append PySem.F.type_list_append mt_append (pv 11) (pa_cons (pe_def D_law_tree_of (hr.mono (by decide)) (by rfl) (pa_cons (pv 0) (pa_cons (pv 2) (pa_cons (pv 3) pa_nil)))) pa_nil)))))
      (pss_cons (ps_for PassesOwn.never rfl (pi_listK K rfl (pv 11)) (pg_name (i := 13) sc_law_good.nd rfl (.inl rfl))
        (pss_one (ps_if (pt_cmpR op_ne (pe_callB (r := rLn K) call_ln (by rfl) B.len_ (by decide +kernel) (pa_cons (pe_def D_leaves_of (hr.mono (by decide)) (by rfl) (pa_cons (pv 13) pa_nil)) pa_nil)) (pe_op op_sub (pe_ix (r := rIxT K) ix_tup (pv 1) pe_int (fun _ _ => rfl)) (pe_callB (r := rLn K) call_ln (by rfl) B.len_ (by decide +kernel) (pa_cons (pv 3) pa_nil))) (nomark _)) (pss_one (ps_ret pe_bl)) pss_nil)))
      (pss_one (ps_ret pe_bl)))))))))))))), ?_⟩
    have hhi := hw.hi
    have hlo := hw.lo
    have hll := hr1.len
    have hLne : 0 < L.length := List.length_pos_iff.mpr hB.conn.1
    obtain ⟨rs, g1, g2, g3⟩ := hN.ex
    refine ⟨_, rfl, b, rfl, ⟨_, ex_t wo_ex hL⟩, fun D hD => ?_⟩
    have hDd : D ≠ d := (dk_ne hd hD).symm
    have hD0 : wo d H D = none := by rw [wo_ne hDd]; exact hD
    refine lc_tup (xs := ns L) (fun i H' => Ex (wo d H) (wo d H') ∧ Dk d H' ∧ ∃ (ss : List Addr) (es : List Need), H' D = some (.lst (ss.map V.ref)) ∧ NeedsL (wo d H') ss es ∧ es.length = i ∧ (∀ e ∈ es, NeedSmall e) ∧ (IsLean n adj L → ∀ (j p : Nat) e, L[j]? = some p → es[j]? = some e → NeedOk n adj L p e))
      ⟨exd_mut (Ex.refl _) hD0, dk_upd hd hDd.symm, [], [], upd_same, .nil, rfl, fun e he => absurd he (by simp), fun _ j p e _ he => by simp at he⟩ (fun i H' _ hP => ex_t (hP.1.trans wo_ex) hL) (fun i x H' hi hP => ?_) (fun H' hP => ?_)
    · obtain ⟨e1, hd1, ss, es, hD1, hs1, hl1, hsm1, hok1⟩ := hP
      obtain ⟨p, hp, hpm, rfl⟩ := ns_got hi
      have hil := (List.getElem?_eq_some_iff.mp hp).1
      have hsl := needs_len hs1
      refine ⟨rfl, yes_go ?_⟩
      refine ⟨_, rfl, _, rfl, _, rfl, _, rfl, d, na, b, n, adj, L, p, rfl, hd1, hN.mono e1, hw, ex_t e1 hL, hr1, hpm, fun r H2 e e2 hd2 hr2 hs2 hok2 => ?_⟩
      have hD2w : wo d H2 D = some (.lst (ss.map V.ref)) := e2 _ _ (wo_row hD1 hDd)
      have hD2 : H2 D = some (.lst (ss.map V.ref)) := wo_ex _ _ hD2w
      refine ⟨ss.map V.ref, hD2, by rw [List.length_map]; exact small1000 (by omega), exd_mut (e1.trans e2) hD0, dk_upd hd2 hDd.symm, ss ++ [r], es ++ [e], by rw [upd_same, List.map_append]; rfl, ?_, by rw [List.length_append, hl1]; rfl, fun f hf => ?_, fun hlean j p' f hp' hf => ?_⟩
      · rw [wo_upd_ne hDd]
        exact needs_upd (needs_snoc (hs1.mono e2) hr2) hD2w no_tupL
      · rcases List.mem_append.mp hf with hf | hf
        · exact hsm1 f hf
        · rw [List.mem_singleton.mp hf]; exact hs2
      · rcases Nat.lt_or_ge j es.length with hj | hj
        · rw [List.getElem?_append_left hj] at hf
          exact hok1 hlean j p' f hp' hf
        · rw [List.getElem?_append_right hj] at hf
          have hj0 : j = i := by
            have := (List.getElem?_eq_some_iff.mp hf).1
            simp at this
            omega
          subst hj0
          rw [hp] at hp'
          have e3 := Option.some.inj hp'
          subst e3
          rw [show j - es.length = 0 by omega] at hf
          have e4 : e = f := Option.some.inj hf
          subst e4
          exact hok2 hB hlean
    · obtain ⟨e1, hd1, ss, es, hD1, hs1, hl1, hsm1, hok1⟩ := hP
      rw [ns_len] at hl1
      have hsl := needs_len hs1
      refine ⟨D, _, rfl, .inl ⟨.of hD1, fun tp htp => ?_⟩⟩
      have e3 : Ex H' (upd H' tp (.tup (ss.map V.ref))) := Ex.new htp
      have hd3 := dk_ex hd1 e3
      have ht3 : upd H' tp (.tup (ss.map V.ref)) tp = some (.tup (ss.map V.ref)) := upd_same
      have hs3 := hs1.mono (wo_mono e3)
      have e13 := e1.trans (wo_mono e3)
      generalize upd H' tp (.tup (ss.map V.ref)) = H3 at hd3 ht3 hs3 e13
      have htd := dk_tup hd3 ht3
      refine ⟨_, rfl, d, rfl, hd3, fun z ds => ?_⟩
      have ew : wo d (upd H3 d (.lst (ds.map V.int))) = wo d H3 := wo_upd
      have hd4 : Dk d (upd H3 d (.lst (ds.map V.int))) := ⟨ds, upd_same⟩
      have ht4 : upd H3 d (.lst (ds.map V.int)) tp = some (.tup (ss.map V.ref)) := by rw [upd_ne htd]; exact ht3
      generalize upd H3 d (.lst (ds.map V.int)) = H4 at ew hd4 ht4
      have hs4 : NeedsL (wo d H4) ss es := by rw [ew]; exact hs3
      have e14 : Ex (wo d H) (wo d H4) := by rw [ew]; exact e13
      have hssn : 0 < ss.length := by omega
      obtain ⟨j, hj, hjl⟩ := mod_nat z hssn
      obtain ⟨r0, hr0⟩ : ∃ r, ss[j]? = some r := ⟨_, List.getElem?_eq_getElem hjl⟩
      obtain ⟨e0, he0, hr0e⟩ := needs_at hs4 hr0
      refine ⟨_, rfl, tp, _, rfl, .inr (.of ht4), z, _, rfl, rfl, by rw [List.length_map]; omega, ?_⟩
      have hjv : z % (((ss.map V.ref).length : Nat) : Int) = (j : Int) := by rw [List.length_map]; exact hj
      dsimp only
      rw [hjv]
      have h1n := (e14.trans (wo_ex (H := H4))) _ _ g1
      refine ⟨_, rfl, _, rfl, na, _, rfl, .inl (.of h1n), _, rfl, _, rfl, _, rfl, tp, _, _, .ref r0, rfl, rfl, .of ht4, atI_nat (by rw [List.getElem?_map, hr0]; rfl), d, n, b, L, r0, e0, by rw [List.length_map, g2]; rfl, hd4, by omega, ex_t e14 hL, by omega, hr0e, hsm1 e0 (List.mem_of_getElem? he0), fun x H5 dd e45 hd5 hx5 hsh5 => ?_⟩
      have e15 := e14.trans e45
      have ht5 : H5 tp = some (.tup (ss.map V.ref)) := wo_ex _ _ (e45 _ _ (wo_row ht4 (dk_tup hd4 ht4)))
      have hs5 := hs4.mono e45
      refine ⟨_, rfl, ?_⟩
      dsimp only [tNoPart]
      refine ⟨_, rfl, _, rfl, ?_⟩
      refine sl_dp (.of ht5) (needs_dp hs5) (fun f hf => needs_sh2 es _ rfl f hf) fun p1 H6 ys1 es1 e6 k6 a6 s6 l6 => ?_
      refine ⟨_, rfl, by show 1 ≤ sizeLine; decide, fun o ho => ?_⟩
      have e7 := Ex.new (o := .tup [x]) ho
      rw [List.length_map] at l6
      refine cat_dp (ex_t e7 k6) (.of upd_same) a6 (.cons hx5 .nil) s6 (fun f hf => by rw [List.mem_singleton.mp hf]; exact hsh5) (by show _ + 1 ≤ _; omega) fun p2 H8 ys2 es2 e8 k8 a8 s8 l8 => ?_
      have e58 := (e6.trans e7).trans e8
      refine ⟨_, rfl, _, rfl, _, _, rfl, rfl, _, rfl, ?_⟩
      dsimp only [tNoPart]
      refine sl_dp (.of (e58 _ _ ht5)) (needs_dp hs5) (fun f hf => needs_sh2 es _ rfl f hf) fun p3 H9 ys3 es3 e9 k9 a9 s9 l9 => ?_
      rw [List.length_map] at l9
      have l8' : ys2.length ≤ ys1.length + 1 := l8
      refine cat_dp (ex_t e9 k8) k9 a8 a9 s8 s9 (by omega) fun bp HA ysA esA eA kA aA sA lA => ?_
      have e5A : Ex H5 HA := (e58.trans e9).trans eA
      have hdA := dk_ex hd5 e5A
      have eHA : Ex (wo d H) HA := (e15.trans (wo_ex (H := H5))).trans e5A
      have hWA := hW.mono eHA
      have hLA : SqT K HA b (ns L) := ex_t eHA hL
      have dpN : Dp K HA (.ref tp) (.tuple (es.map needD)) := .tup (.of (e5A _ _ ht5)) (needs_dp (hs5.mono ((wo_ex (H := H5)).trans e5A)))
      have dpB : Dp K HA (.ref bp) (.tuple esA) := .tup kA (dpa_mono ((wo_ex (H := H5)).trans e5A) aA)
      have shB : Sh2 (.tuple esA) := fun ds h f hf => by
        injection h with h
        subst h
        exact sA f hf
      have both : ∀ {i : Nat} {v : V}, [V.ref tp, V.ref bp][i]? = some v → ∃ dv, Dp K HA v dv ∧ Sh2 dv := fun {i v} hi => by
        rcases List.mem_cons.mp (List.mem_of_getElem? hi) with e | hm
        · subst e; exact ⟨_, dpN, needs_sh2 es⟩
        · rw [List.mem_singleton.mp hm]; exact ⟨_, dpB, shB⟩
      refine ⟨_, rfl, _, rfl, by show 2 ≤ sizeLine; decide, fun l hl => ⟨l, rfl, ⟨_, .of upd_same⟩, ?_⟩⟩
      have eB := Ex.new (o := .lst [.ref tp, .ref bp]) hl
      refine for_list (xs := [.ref tp, .ref bp]) (fun i σ2 H2 => ∃ y9, σ2 = [some (.ref d), some (.ref wa), some (.ref na), some (.ref b), some (.bl bl), some (.ref tp), some (.int (j : Int)), some x, some (.ref bp), y9, none, none, none, none, none] ∧ Ex (upd HA l (.lst [.ref tp, .ref bp])) H2) ⟨_, rfl, Ex.refl _⟩ (fun i σ2 H2 _ hP => .of (hP.choose_spec.2 _ _ upd_same)) (fun i v σ2 H2 hi hP => ?_) (fun σ2 H2 hP => ?_)
      · obtain ⟨y9, rfl, eC⟩ := hP
        obtain ⟨dv, hdv, hsv⟩ := both hi
        have eAC := eB.trans eC
        refine s_when (b := false) (fun H3 e3 R hR => ?_) (fun hb => absurd hb (by decide)) (fun _ H3 e3 => ⟨_, rfl, eC.trans e3⟩)
        have eA3 := eAC.trans e3
        refine ⟨_, rfl, _, rfl, _, rfl, wa, b, n, adj, L, v, dv, rfl, hWA.mono eA3, hw, ex_t eA3 hLA, hr1, dp_mono eA3 hdv, hsv, fun bo H4 e4 hbo => ⟨bo, false, rfl, rfl, _, rfl, ite2 (fun hc => ?_) (fun hc => hR H4 e4)⟩⟩
        have hbo1 : bo = true := by cases bo <;> simp_all
        have hbl1 := hbl.mpr (needs_lean hr1 (hbo.mp hbo1))
        refine ⟨_, rfl, bl, rfl, ?_⟩
        rw [hbl1]
        exact hR H4 e4
      · obtain ⟨y9, rfl, eC⟩ := hP
        have eAC := eB.trans eC
        have eHC := eHA.trans eAC
        have ewC : Ex (wo d H) (wo d H2) := e15.trans (wo_mono (e5A.trans eAC))
        have hdC := dk_ex hdA eAC
        refine ⟨_, rfl, bl, rfl, ite2 (fun hc => ?_) (fun hc => ?_)⟩
        · exact q H2 ewC hdC
        · have hbl1 : bl = true := by cases bl <;> simp_all
          have hlean := hbl.mp hbl1
          refine ⟨_, rfl, _, rfl, _, rfl, wa, b, n, adj, L, rfl, hW.mono eHC, hw, ex_t eHC hL, hr1, hB, hlean, fun r t H3 rs3 e3 hr3 ht3 hl3 hok3 => ?_⟩
          obtain ⟨es3, k3, k4, k5⟩ := needs_of hl3 hok3
          have eH3 := eHC.trans e3
          have hL3 := ex_t eH3 hL
          refine ⟨_, rfl, r, _, _, .ref b, rfl, rfl, .of hr3, atI_nat (j := 0) rfl, _, rfl, .tuple (di L), .tuple (di L), .tup hL3 (dp_ns L), .tup hL3 (dp_ns L), di_shT L, di_shT L, _, rfl, ?_⟩
          rw [di_eqT, decide_eq_true rfl]
          refine iteF ?_
          have dpT : Dp K H3 (.ref t) (.tuple (es3.map needD)) := .tup (.of ht3) (needs_dp k3)
          have oks : ∀ {i : Nat} {v : V}, [V.ref tp, V.ref t][i]? = some v → ∃ dv, Dp K H3 v dv ∧ Sh2 dv ∧ NeedsD n adj L dv := fun {i v} hi => by
            rcases List.mem_cons.mp (List.mem_of_getElem? hi) with e | hm
            · subst e; exact ⟨_, dp_mono (eAC.trans e3) dpN, needs_sh2 es, needsD_of hl1 (hok1 hlean)⟩
            · rw [List.mem_singleton.mp hm]; exact ⟨_, dpT, needs_sh2 es3, needsD_of k4 k5⟩
          refine ⟨_, rfl, _, rfl, r, _, _, .ref t, rfl, rfl, .of hr3, atI_nat (j := 1) rfl, by show 2 ≤ sizeLine; decide, fun l2 hl2 => ⟨l2, rfl, ⟨_, .of upd_same⟩, ?_⟩⟩
          have eD := Ex.new (o := .lst [.ref tp, .ref t]) hl2
          refine for_list (xs := [.ref tp, .ref t]) (fun i σ2 H2 => ∃ y9, σ2 = [some (.ref d), some (.ref wa), some (.ref na), some (.ref b), some (.bl bl), some (.ref tp), some (.int (j : Int)), some x, some (.ref bp), y9, some (.ref r), none, none, none, none] ∧ Ex (upd H3 l2 (.lst [.ref tp, .ref t])) H2) ⟨_, rfl, Ex.refl _⟩ (fun i σ2 H2 _ hP => .of (hP.choose_spec.2 _ _ upd_same)) (fun i v σ2 H4 hi hP => ?_) (fun σ2 H4 hP => ?_)
          · obtain ⟨z9, rfl, eE⟩ := hP
            obtain ⟨dv, hdv, hsv, hnv⟩ := oks hi
            have e34 := eD.trans eE
            refine s_when (b := false) (fun H5 e5 R hR => ?_) (fun hb => absurd hb (by decide)) (fun _ H5 e5 => ⟨_, rfl, eE.trans e5⟩)
            have e35 := e34.trans e5
            refine ⟨_, rfl, _, rfl, _, rfl, wa, b, n, adj, L, v, dv, rfl, hW.mono (eH3.trans e35), hw, ex_t e35 hL3, hr1, dp_mono e35 hdv, hsv, fun bo H6 e6 hbo => ⟨bo, true, rfl, rfl, _, rfl, ?_⟩⟩
            rw [hbo.mpr hnv]
            exact hR H6 e6
          · obtain ⟨z9, rfl, eE⟩ := hP
            have e34 := eD.trans eE
            have eH4 := eH3.trans e34
            have ew4 : Ex (wo d H) (wo d H4) := ewC.trans (wo_mono (e3.trans e34))
            have hd4 := dk_ex hdC (e3.trans e34)
            refine ⟨_, rfl, _, rfl, wa, b, n, adj, L, rfl, hW.mono eH4, hw, ex_t eH4 hL, hr1, hB, fun tr H5 ts T hT hp5 e5 htr => ?_⟩
            refine ⟨by show 1 ≤ sizeLine; decide, fun lt hlt => ?_⟩
            have e6 := e5.trans (Ex.new (o := .lst [.ref tr]) hlt)
            have hd5 := dk_ex hd4 e5
            have hlt_d : lt ≠ d := (dk_ne hd5 hlt).symm
            have hlt0 : wo d H lt = none := by
              have h0 := fresh_back (eH4.trans e5) hlt
              exact h0
            have ew6 := ew4.trans (wo_mono e6)
            have hd6 := dk_ex hd4 e6
            have hT6 : TreeAt n adj L (wo d (upd H5 lt (.lst [.ref tr]))) tr := ⟨ts, T, hT, pairs_wo hd6 (hp5.mono (Ex.new hlt)), by have h7 := Ex.new (o := .lst [.ref tr]) hlt _ _ htr; exact wo_row h7 (dk_tup hd6 h7)⟩
            have hl6 : upd H5 lt (.lst [.ref tr]) lt = some (.lst (([tr] : List Addr).map V.ref)) := upd_same
            generalize upd H5 lt (.lst [.ref tr]) = H6 at e6 ew6 hd6 hT6 hl6
            refine ⟨3, rfl, by decide, by decide, ?_⟩
            refine for_range (fun i σ2 H2 => ∃ y12 trs, σ2 = [some (.ref d), some (.ref wa), some (.ref na), some (.ref b), some (.bl bl), some (.ref tp), some (.int (j : Int)), some x, some (.ref bp), z9, some (.ref r), some (.ref lt), y12, none, none] ∧ Ex (wo d H) (wo d H2) ∧ Dk d H2 ∧ H2 lt = some (.lst (trs.map V.ref)) ∧ (∀ t ∈ trs, TreeAt n adj L (wo d H2) t) ∧ trs.length ≤ i + 1)
              ⟨_, [tr], rfl, ew6, hd6, hl6, fun t ht => by rw [List.mem_singleton.mp ht]; exact hT6, Nat.le_refl _⟩ (fun i σ2 H7 hi hP => ?_) (fun σ2 H7 hP => ?_)
            · obtain ⟨y12, trs, rfl, ew7, hd7, hl7, hT7, hn7⟩ := hP
              have hi3 : i < 3 := hi
              refine ⟨_, rfl, .inl ⟨rfl, _, .of hl7⟩, _, rfl, _, rfl, _, rfl, d, na, b, n, adj, L, rfl, hd7, hN.mono ew7, hw, ex_t ew7 hL, hr1, hB, fun t2 H8 ts2 T2 hT2 hp8 e8 hd8 ht8 => ?_⟩
              have hl8w := e8 _ _ (wo_row hl7 hlt_d)
              have hl8 := wo_ex _ _ hl8w
              refine ⟨lt, trs.map V.ref, _, rfl, rfl, hl8, by rw [List.length_map]; exact small1000 (by omega), _, trs ++ [t2], rfl, exd_mut (ew7.trans e8) hlt0, dk_upd hd8 hlt_d.symm, by rw [upd_same, List.map_append]; rfl, fun t ht => ?_, by rw [List.length_append]; show _ + 1 ≤ _; omega⟩
              rw [wo_upd_ne hlt_d]
              rcases List.mem_append.mp ht with ht | ht
              · exact ((hT7 t ht).mono e8).upd hl8w
              · rw [List.mem_singleton.mp ht]
                exact TreeAt.upd ⟨ts2, T2, hT2, hp8, ht8⟩ hl8w
            · obtain ⟨y12, trs, rfl, ew7, hd7, hl7, hT7, hn7⟩ := hP
              refine ⟨_, rfl, lt, rfl, ⟨_, .of hl7⟩, ?_⟩
              refine for_list (xs := trs.map V.ref) (fun i σ2 H2 => ∃ y13, σ2 = [some (.ref d), some (.ref wa), some (.ref na), some (.ref b), some (.bl bl), some (.ref tp), some (.int (j : Int)), some x, some (.ref bp), z9, some (.ref r), some (.ref lt), y12, y13, none] ∧ Ex H7 H2) ⟨_, rfl, Ex.refl _⟩ (fun i σ2 H2 _ hP => .of (hP.choose_spec.2 _ _ hl7)) (fun i v σ2 H8 hi hP => ?_) (fun σ2 H8 hP => ?_)
              · obtain ⟨y13, rfl, e8⟩ := hP
                obtain ⟨t8, ht8, rfl⟩ := List.mem_map.mp (List.mem_of_getElem? hi)
                obtain ⟨ts8, T8, hT8, hp8, hr8⟩ := hT7 t8 ht8
                obtain ⟨f1, f2⟩ := hT8.facts hw hr1
                have f3 := hT8.leaves hw hr1 hB hlean
                refine s_when (b := false) (fun H9 e9 R hR => ?_) (fun hb => absurd hb (by decide)) (fun _ H9 e9 => ⟨_, rfl, e8.trans e9⟩)
                have e79 := (wo_ex (o := d) (H := H7)).trans (e8.trans e9)
                have hW9 := hW.mono (ew7.trans e79)
                obtain ⟨t0, ts0, E0, w1, _⟩ := hW9.ex
                have hL9 : SqT K H9 b (ns L) := ex_t (ew7.trans e79) hL
                refine ⟨_, rfl, t8, ts8, T8, rfl, .of (e79 _ _ hr8), hp8.mono e79, fun e he => by rw [f1]; exact f2 e he, by omega, fun lv HA _ eA kA => ?_⟩
                refine ⟨lv, _, rfl, .inr (.of kA), _, rfl, wa, _, _, .int (n : Int), rfl, rfl, ex_t eA w1, atI_nat (j := 0) rfl, _, rfl, b, _, rfl, .inr (ex_t eA hL9), _, _, rfl, rfl, ?_⟩
                rw [f1]
                dsimp only
                have eLn : ((n : Int) - ((ns L).length : Int)) = ((ns (List.filter (fun v => deg T8 v == 1) (List.range n))).length : Int) := by
                  rw [ns_len, ns_len, f3]
                  omega
                rw [eLn]
                refine (rv_ne (H := HA) (x := .int ((ns (List.filter (fun v => deg T8 v == 1) (List.range n))).length : Int)) rfl) HA (Ex.refl _) _ fun H' e' => ⟨_, rfl, ?_⟩
                rw [decide_eq_true rfl]
                exact hR H' (eA.trans e')
              · obtain ⟨y13, rfl, e8⟩ := hP
                exact q H8 (ew7.trans (wo_mono e8)) (dk_ex hd7 e8)
end
end ML
set_option Elab.async false
set_option linter.all false
set_option maxRecDepth 100000
set_option maxHeartbeats 4000000
namespace ML
open PySem PySem.Spec PyProof.Rows L2 Evl
theorem tups_wo {d : Addr} {H : Hp} {ts : List Addr} {Bs : List (List Nat)} (hd : Dk d H) (h : Tups H ts Bs) : Tups (wo d H) ts Bs := Paired.mapP h fun _ _ q => wo_row q (dk_tup hd q)
section
variable {P : Program} {w : World} {K : PySem.W.Frag} {mg : Str → Option Value} {base : Heap}
/-! ### law -/
abbrev st_law : Stmt := top 44
theorem sc_law : FnScope ["_law_script", "_law_deck_here", "_law_web_here", "_law_near_here", "_law_sets", "_law_busy"] ["_law_script"] (defScope st_law) := ⟨rfl, rfl, rfl, by decide +kernel, rfl, by decide +kernel, by decide +kernel⟩
def sp_law (K : PySem.W.Frag) : Sp := fun vs H Q _ => ∃ (a : Addr) (xs : List Int), vs = [.ref a] ∧ SqL K H a (xs.map V.int) ∧ xs.length ≤ 63 ∧ ∀ H', Q (.bl true) H'
theorem ok_law {fa : Addr} {fd : FuncData} (F : Fun K "law" "law" st_law fa fd) (B : Bt mg) (D_law_deck : Def P w K mg base "_law_deck" 2 ["_law_script", "_law_many"] (sp_law_deck K)) (D_law_web : Def P w K mg base "_law_web" 3 ["_law_deck_here", "_law_least", "_law_most"] (sp_law_web K)) (D_law_near : Def P w K mg base "_law_near" 1 ["_law_web_here"] (sp_law_near K)) (D_law_all_sets : Def P w K mg base "_law_all_sets" 4 ["_law_near_here"] (sp_law_all_sets K)) (D_law_good : Def P w K mg base "_law_good" 6 ["_law_deck_here", "_law_web_here", "_law_near_here", "_law_busy", "_law_is_lean_here"] (sp_law_good K)) (D_law_is_lean : Def P w K mg base "_law_is_lean" 1 ["_law_sets", "_law_busy"] (sp_law_is_lean K)) : FnOk P w K mg base CX0 7 fa fd ["_law_script"] (sp_law K) := by
  refine F.ok (ps := ["_law_script"]) sc_law (fun vs H Q E h => ?_) (fun cdv A outer s H vs Q E hr h => ?_)
  · obtain ⟨a, xs, rfl, _⟩ := h
    rfl
  · obtain ⟨a, xs, rfl, hA, hxl, q⟩ := h
    refine ⟨_, (pss_cons (ps_set (i := 1) sc_law.nd rfl (.inl rfl) (pe_def D_law_deck (hr.mono (by decide)) (by rfl) (pa_cons (pv 0) (pa_cons pe_int pa_nil))))
      (pss_cons (ps_set (i := 2) sc_law.nd rfl (.inl rfl) (pe_def D_law_web (hr.mono (by decide)) (by rfl) (pa_cons (pv 1) (pa_cons pe_int (pa_cons pe_int pa_nil)))))
      (pss_cons (ps_set (i := 3) sc_law.nd rfl (.inl rfl) (pe_def D_law_near (hr.mono (by decide)) (by rfl) (pa_cons (pv 2) pa_nil)))
      (pss_cons (ps_set (i := 4) sc_law.nd rfl (.inl rfl) (pe_def D_law_all_sets (hr.mono (by decide)) (by rfl) (pa_cons (pv 3) pa_nil)))
      (pss_cons (ps_for PassesOwn.never rfl (pi_listK K rfl (pv 4)) (pg_name (i := 5) sc_law.nd rfl (.inl rfl))
        (pss_one (ps_if (pt_not (pt_val (pe_def D_law_good (hr.mono (by decide)) (by rfl) (pa_cons (pv 1) (pa_cons (pv 2) (pa_cons (pv 3) (pa_cons (pv 5) (pa_cons (pe_def D_law_is_lean (hr.mono (by decide)) (by rfl) (pa_cons (pv 4) (pa_cons (pv 5) pa_nil))) pa_nil)))))))) (pss_one (ps_ret pe_bl)) pss_nil)))
      (pss_one (ps_ret pe_bl))))))), ?_⟩
    refine ⟨_, rfl, a, xs, 900, rfl, hA, hxl, Nat.le_refl _, fun d H1 ds _ _ hd1 => ?_⟩
    refine ⟨_, rfl, d, rfl, ⟨ds, hd1⟩, fun wa H2 n adj hw hW2 e2 hd2 => ?_⟩
    refine ⟨_, rfl, wa, n, adj, rfl, hW2.mono wo_ex, hw.hi, fun na H3 e3 hN3 => ?_⟩
    have hd3 := dk_ex hd2 e3
    have hNw : NearAt (wo d H3) na n adj := by
      obtain ⟨ds2, h2⟩ := hd2
      exact hN3.wo h2
    refine ⟨_, rfl, na, n, adj, rfl, hN3.near, hw, fun sr H4 ts Bs hsr e4 hs4 hT4 hB => ?_⟩
    have hd4 := dk_ex hd3 e4
    have hsd : sr ≠ d := (dk_ne hd3 hsr).symm
    have hW4 : WebAt K (wo d H4) wa n adj := hW2.mono (wo_mono (e3.trans e4))
    have hN4 : NearAt (wo d H4) na n adj := hNw.mono (wo_mono e4)
    have hs4w : wo d H4 sr = some (.lst (ts.map V.ref)) := wo_row hs4 hsd
    have hT4w := tups_wo hd4 hT4
    refine ⟨_, rfl, sr, rfl, ⟨_, .of hs4⟩, ?_⟩
    refine for_list (xs := ts.map V.ref) (fun i σ2 H5 => ∃ y5, σ2 = [some (.ref a), some (.ref d), some (.ref wa), some (.ref na), some (.ref sr), y5] ∧ Ex (wo d H4) (wo d H5) ∧ Dk d H5) ⟨_, rfl, Ex.refl _, hd4⟩ (fun i σ2 H5 _ hP => .of (wo_ex _ _ (hP.choose_spec.2.1 _ _ hs4w))) (fun i x σ2 H5 hi hP => ?_) (fun σ2 H5 hP => ?_)
    · obtain ⟨y5, rfl, e5, hd5⟩ := hP
      obtain ⟨t, ht, rfl⟩ : ∃ t, ts[i]? = some t ∧ x = .ref t := by
        rw [List.getElem?_map] at hi
        cases h : ts[i]? with
        | none => rw [h] at hi; cases hi
        | some t => rw [h] at hi; exact ⟨t, rfl, (Option.some.inj hi).symm⟩
      obtain ⟨L, hLB, hLt⟩ := tups_at hT4w ht
      obtain ⟨hr1, hbusy⟩ := (hB L).mp (List.mem_of_getElem? hLB)
      have e45 := e5.trans (wo_ex (H := H5))
      have hll := hr1.len
      have hhi := hw.hi
      refine ⟨_, rfl, _, rfl, _, rfl, _, rfl, _, rfl, _, rfl, sr, t, ts, Bs, L, rfl, .of (e45 _ _ hs4w), Paired.mapP hT4w fun _ _ q => e45 _ _ q, .of (e45 _ _ hLt), by omega, fun bo H6 e6 hbo => ?_⟩
      have hd6 := dk_ex hd5 e6
      have ew6 := e5.trans (wo_mono e6)
      refine ⟨d, wa, na, t, n, adj, L, bo, rfl, hd6, hW4.mono ew6, hw, hN4.mono ew6, .of (ew6 _ _ hLt), hr1, hbusy, hbo.trans ?_, fun H7 e7 hd7 => ⟨true, rfl, ?_⟩⟩
      · constructor
        · intro h p hp c
          exact h p hp ((hB _).mpr ⟨hr1.filter _, c⟩)
        · intro h p hp c
          exact h p hp ((hB _).mp c).2
      · refine iteF ?_
        exact ⟨_, rfl, ew6.trans e7, hd7⟩
    · exact q H5
/-! ### all of it -/
theorem ld_mk {h : Heap} {x : Str} {st : Stmt} {f : Addr} {oc : Value} {od an : Option Addr} {osl : Array (Option Value)} {kV doc pm cdv ct : Value} (X : K.In h) (G : h.Ns mainGlobals mg) (a : PySem.W.nsIn K mainGlobals x = some (some (.ref f)))
    (l : K.lookup f = some ⟨oc, od, .func (PySem.W.fnOf x x (defArgs st) (defBody st) (defScope st) .none kV doc pm an cdv ct), osl⟩) (c : PySem.W.codeIn K cdv x = true) (k : PySem.W.keepIn K (.ref f) = true) : Ld K mg x st :=
  ⟨f, _, fun_mk (st := st) l c k, PySem.W.mg_of X G a⟩
theorem fin {fa : Addr} {fd : FuncData} (F : Fun K "law" "law" st_law fa fd) (B : Bt mg) (L_is_int : Ld K mg "is_int" st_is_int) (L_is_tuple : Ld K mg "is_tuple" st_is_tuple) (L_neighbours_by : Ld K mg "neighbours_by" st_neighbours_by) (L_marks_of : Ld K mg "marks_of" st_marks_of) (L_piece_of : Ld K mg "piece_of" st_piece_of) (L_all_others : Ld K mg "all_others" st_all_others) (L_places_of : Ld K mg "places_of" st_places_of) (L_law_mixed : Ld K mg "_law_mixed" st_law_mixed) (L_law_next : Ld K mg "_law_next" st_law_next) (L_law_near : Ld K mg "_law_near" st_law_near) (L_law_reach : Ld K mg "_law_reach" st_law_reach) (L_law_touched : Ld K mg "_law_touched" st_law_touched) (L_law_lot : Ld K mg "_law_lot" st_law_lot) (L_law_is_lean : Ld K mg "_law_is_lean" st_law_is_lean) (L_is_rising : Ld K mg "is_rising" st_is_rising) (L_lot_of : Ld K mg "lot_of" st_lot_of) (L_touched : Ld K mg "touched" st_touched) (L_pieces : Ld K mg "pieces" st_pieces) (L_tree_by : Ld K mg "tree_by" st_tree_by) (L_is_side : Ld K mg "is_side" st_is_side) (L_ties_by : Ld K mg "ties_by" st_ties_by) (L_law_deck : Ld K mg "_law_deck" st_law_deck) (L_law_turn : Ld K mg "_law_turn" st_law_turn) (L_law_hang : Ld K mg "_law_hang" st_law_hang) (L_law_some_need : Ld K mg "_law_some_need" st_law_some_need) (L_law_bent_need : Ld K mg "_law_bent_need" st_law_bent_need) (L_law_tree_of : Ld K mg "_law_tree_of" st_law_tree_of) (L_right_set : Ld K mg "right_set" st_right_set) (L_is_own : Ld K mg "is_own" st_is_own) (L_leaves_of : Ld K mg "leaves_of" st_leaves_of) (L_law_web : Ld K mg "_law_web" st_law_web) (L_law_is_set : Ld K mg "_law_is_set" st_law_is_set) (L_is_need : Ld K mg "is_need" st_is_need) (L_need_of : Ld K mg "need_of" st_need_of) (L_law_all_sets : Ld K mg "_law_all_sets" st_law_all_sets) (L_right_needs : Ld K mg "right_needs" st_right_needs) (L_lean_of : Ld K mg "lean_of" st_lean_of) (L_law_good : Ld K mg "_law_good" st_law_good) : FnOk P w K mg base CX0 7 fa fd ["_law_script"] (sp_law K) := by
  have d_is_int := D_is_int (P := P) (w := w) (base := base) L_is_int B
  have d_is_tuple := D_is_tuple (P := P) (w := w) (base := base) L_is_tuple B
  have d_neighbours_by := D_neighbours_by (P := P) (w := w) (base := base) L_neighbours_by B
  have d_marks_of := D_marks_of (P := P) (w := w) (base := base) L_marks_of B
  have d_piece_of := D_piece_of (P := P) (w := w) (base := base) L_piece_of B
  have d_all_others := D_all_others (P := P) (w := w) (base := base) L_all_others B
  have d_places_of := D_places_of (P := P) (w := w) (base := base) L_places_of B
  have d_law_mixed := D_law_mixed (P := P) (w := w) (base := base) L_law_mixed B
  have d_law_next := D_law_next (P := P) (w := w) (base := base) L_law_next B
  have d_law_near := D_law_near (P := P) (w := w) (base := base) L_law_near B
  have d_law_reach := D_law_reach (P := P) (w := w) (base := base) L_law_reach B
  have d_law_touched := D_law_touched (P := P) (w := w) (base := base) L_law_touched B
  have d_law_lot := D_law_lot (P := P) (w := w) (base := base) L_law_lot B
  have d_law_is_lean := D_law_is_lean (P := P) (w := w) (base := base) L_law_is_lean B
  have d_is_rising := D_is_rising (P := P) (w := w) (base := base) L_is_rising B d_is_tuple d_is_int
  have d_lot_of := D_lot_of (P := P) (w := w) (base := base) L_lot_of B d_neighbours_by
  have d_touched := D_touched (P := P) (w := w) (base := base) L_touched B d_marks_of d_neighbours_by
  have d_pieces := D_pieces (P := P) (w := w) (base := base) L_pieces B d_neighbours_by d_marks_of d_piece_of
  have d_tree_by := D_tree_by (P := P) (w := w) (base := base) L_tree_by B d_neighbours_by
  have d_is_side := D_is_side (P := P) (w := w) (base := base) L_is_side B d_neighbours_by
  have d_ties_by := D_ties_by (P := P) (w := w) (base := base) L_ties_by B d_places_of
  have d_law_deck := D_law_deck (P := P) (w := w) (base := base) L_law_deck B d_law_mixed
  have d_law_turn := D_law_turn (P := P) (w := w) (base := base) L_law_turn B d_law_next
  have d_law_hang := D_law_hang (P := P) (w := w) (base := base) L_law_hang B d_law_reach
  have d_law_some_need := D_law_some_need (P := P) (w := w) (base := base) L_law_some_need B d_law_next d_law_lot d_law_reach
  have d_law_bent_need := D_law_bent_need (P := P) (w := w) (base := base) L_law_bent_need B d_law_next
  have d_law_tree_of := D_law_tree_of (P := P) (w := w) (base := base) L_law_tree_of B d_law_next
  have d_right_set := D_right_set (P := P) (w := w) (base := base) L_right_set B d_is_rising d_pieces d_touched
  have d_is_own := D_is_own (P := P) (w := w) (base := base) L_is_own B d_lot_of
  have d_leaves_of := D_leaves_of (P := P) (w := w) (base := base) L_leaves_of B d_ties_by
  have d_law_web := D_law_web (P := P) (w := w) (base := base) L_law_web B d_law_next d_law_turn
  have d_law_is_set := D_law_is_set (P := P) (w := w) (base := base) L_law_is_set B d_law_hang d_law_touched
  have d_is_need := D_is_need (P := P) (w := w) (base := base) L_is_need B d_is_tuple d_is_int d_is_own d_is_rising d_is_side d_all_others
  have d_need_of := D_need_of (P := P) (w := w) (base := base) L_need_of B d_is_own d_pieces d_all_others
  have d_law_all_sets := D_law_all_sets (P := P) (w := w) (base := base) L_law_all_sets B d_law_is_set
  have d_right_needs := D_right_needs (P := P) (w := w) (base := base) L_right_needs B d_is_tuple d_is_need
  have d_lean_of := D_lean_of (P := P) (w := w) (base := base) L_lean_of B d_all_others d_right_set d_need_of
  have d_law_good := D_law_good (P := P) (w := w) (base := base) L_law_good B d_law_some_need d_law_next d_law_bent_need d_right_needs d_lean_of d_tree_by d_law_tree_of d_leaves_of
  exact ok_law F B d_law_deck d_law_web d_law_near d_law_all_sets d_law_good d_law_is_lean
theorem ld_go {C : Prop} {h : Heap} {x : Str} {st : Stmt} {f : Addr} {oc : Value} {od an : Option Addr} {osl : Array (Option Value)} {kV doc pm cdv ct : Value} (X : K.In h) (G : h.Ns mainGlobals mg) (a : PySem.W.nsIn K mainGlobals x = some (some (.ref f)))
    (l : K.lookup f = some ⟨oc, od, .func (PySem.W.fnOf x x (defArgs st) (defBody st) (defScope st) .none kV doc pm an cdv ct), osl⟩) (c : PySem.W.codeIn K cdv x = true) (k : PySem.W.keepIn K (.ref f) = true) (go : Ld K mg x st → C) : C := go (ld_mk X G a l c k)
theorem law_go {C : Prop} {h : Heap} {fa f : Addr} {oc : Value} {od an : Option Addr} {osl : Array (Option Value)} {kV doc pm cdv ct : Value} (hfa : mg "law" = some (.ref fa)) (X : K.In h) (G : h.Ns mainGlobals mg) (a : PySem.W.nsIn K mainGlobals "law" = some (some (.ref f)))
    (l : K.lookup f = some ⟨oc, od, .func (PySem.W.fnOf "law" "law" (defArgs st_law) (defBody st_law) (defScope st_law) .none kV doc pm an cdv ct), osl⟩) (c : PySem.W.codeIn K cdv "law" = true) (k : PySem.W.keepIn K (.ref f) = true)
    (go : ∀ fd : FuncData, Fun K "law" "law" st_law fa fd → (∀ (s : Shared) (v : Value), BindsTo s fd ⟨[v], []⟩ [("_law_script", v)]) → C) : C := by
  have e := hfa.symm.trans (PySem.W.mg_of X G a)
  cases e
  exact go _ (fun_mk (st := st_law) l c k) fun s v => .of_eq rfl
end
end ML
set_option Elab.async false
set_option linter.all false
set_option maxRecDepth 100000
open PySem PySem.W PyProof.Rows
set_option maxRecDepth 100000 in
set_option maxHeartbeats 0 in
theorem PySem.Challenge.cw_manyleaves_k36_whole_lean_sets_holds : PySem.Challenge.rw_manyleaves_k36_whole_lean_sets.Holds := by
  w_on; o_law; k_head; (case hw => w_witness2)
  k_fill
  refine L2.walk_ofK (l := PySem.Challenge.rw_manyleaves_k36_whole_lean_sets) (n := 63) (k := 7) (x := "_law_script") (CX := L2.CX0) (sp := ML.sp_law) rfl (by decide) rfl ⟨rfl, by decide, by decide⟩ (fun w h Y => PySem.W.kIn_of Y) ?F (fun K H a xs hl _ hS => ⟨a, xs, rfl, hS, hl, fun _ => rfl⟩) fun _ _ _ _ z => z
  case F =>
    intro w mg fa h KX G hmg0
    have hmg : mg ("law" : PySem.Str) = some (.ref fa) := hmg0
    clear hmg0
    refine' ML.ld_go (x := "is_int") (st := ML.st_is_int) KX G ?a ?l ?c ?k ?_
    (case a => k_is); (case l => k_is); (case c => k_is); (case k => k_is)
    intro L_is_int
    refine' ML.ld_go (x := "is_tuple") (st := ML.st_is_tuple) KX G ?a ?l ?c ?k ?_
    (case a => k_is); (case l => k_is); (case c => k_is); (case k => k_is)
    intro L_is_tuple
    refine' ML.ld_go (x := "neighbours_by") (st := ML.st_neighbours_by) KX G ?a ?l ?c ?k ?_
    (case a => k_is); (case l => k_is); (case c => k_is); (case k => k_is)
    intro L_neighbours_by
    refine' ML.ld_go (x := "marks_of") (st := ML.st_marks_of) KX G ?a ?l ?c ?k ?_
    (case a => k_is); (case l => k_is); (case c => k_is); (case k => k_is)
    intro L_marks_of
    refine' ML.ld_go (x := "piece_of") (st := ML.st_piece_of) KX G ?a ?l ?c ?k ?_
    (case a => k_is); (case l => k_is); (case c => k_is); (case k => k_is)
    intro L_piece_of
    refine' ML.ld_go (x := "all_others") (st := ML.st_all_others) KX G ?a ?l ?c ?k ?_
    (case a => k_is); (case l => k_is); (case c => k_is); (case k => k_is)
    intro L_all_others
    refine' ML.ld_go (x := "places_of") (st := ML.st_places_of) KX G ?a ?l ?c ?k ?_
    (case a => k_is); (case l => k_is); (case c => k_is); (case k => k_is)
    intro L_places_of
    refine' ML.ld_go (x := "_law_mixed") (st := ML.st_law_mixed) KX G ?a ?l ?c ?k ?_
    (case a => k_is); (case l => k_is); (case c => k_is); (case k => k_is)
    intro L_law_mixed
    refine' ML.ld_go (x := "_law_next") (st := ML.st_law_next) KX G ?a ?l ?c ?k ?_
    (case a => k_is); (case l => k_is); (case c => k_is); (case k => k_is)
    intro L_law_next
    refine' ML.ld_go (x := "_law_near") (st := ML.st_law_near) KX G ?a ?l ?c ?k ?_
    (case a => k_is); (case l => k_is); (case c => k_is); (case k => k_is)
    intro L_law_near
    refine' ML.ld_go (x := "_law_reach") (st := ML.st_law_reach) KX G ?a ?l ?c ?k ?_
    (case a => k_is); (case l => k_is); (case c => k_is); (case k => k_is)
    intro L_law_reach
    refine' ML.ld_go (x := "_law_touched") (st := ML.st_law_touched) KX G ?a ?l ?c ?k ?_
    (case a => k_is); (case l => k_is); (case c => k_is); (case k => k_is)
    intro L_law_touched
    refine' ML.ld_go (x := "_law_lot") (st := ML.st_law_lot) KX G ?a ?l ?c ?k ?_
    (case a => k_is); (case l => k_is); (case c => k_is); (case k => k_is)
    intro L_law_lot
    refine' ML.ld_go (x := "_law_is_lean") (st := ML.st_law_is_lean) KX G ?a ?l ?c ?k ?_
    (case a => k_is); (case l => k_is); (case c => k_is); (case k => k_is)
    intro L_law_is_lean
    refine' ML.ld_go (x := "is_rising") (st := ML.st_is_rising) KX G ?a ?l ?c ?k ?_
    (case a => k_is); (case l => k_is); (case c => k_is); (case k => k_is)
    intro L_is_rising
    refine' ML.ld_go (x := "lot_of") (st := ML.st_lot_of) KX G ?a ?l ?c ?k ?_
    (case a => k_is); (case l => k_is); (case c => k_is); (case k => k_is)
    intro L_lot_of
    refine' ML.ld_go (x := "touched") (st := ML.st_touched) KX G ?a ?l ?c ?k ?_
    (case a => k_is); (case l => k_is); (case c => k_is); (case k => k_is)
    intro L_touched
    refine' ML.ld_go (x := "pieces") (st := ML.st_pieces) KX G ?a ?l ?c ?k ?_
    (case a => k_is); (case l => k_is); (case c => k_is); (case k => k_is)
    intro L_pieces
    refine' ML.ld_go (x := "tree_by") (st := ML.st_tree_by) KX G ?a ?l ?c ?k ?_
    (case a => k_is); (case l => k_is); (case c => k_is); (case k => k_is)
    intro L_tree_by
    refine' ML.ld_go (x := "is_side") (st := ML.st_is_side) KX G ?a ?l ?c ?k ?_
    (case a => k_is); (case l => k_is); (case c => k_is); (case k => k_is)
    intro L_is_side
    refine' ML.ld_go (x := "ties_by") (st := ML.st_ties_by) KX G ?a ?l ?c ?k ?_
    (case a => k_is); (case l => k_is); (case c => k_is); (case k => k_is)
    intro L_ties_by
    refine' ML.ld_go (x := "_law_deck") (st := ML.st_law_deck) KX G ?a ?l ?c ?k ?_
    (case a => k_is); (case l => k_is); (case c => k_is); (case k => k_is)
    intro L_law_deck
    refine' ML.ld_go (x := "_law_turn") (st := ML.st_law_turn) KX G ?a ?l ?c ?k ?_
    (case a => k_is); (case l => k_is); (case c => k_is); (case k => k_is)
    intro L_law_turn
    refine' ML.ld_go (x := "_law_hang") (st := ML.st_law_hang) KX G ?a ?l ?c ?k ?_
    (case a => k_is); (case l => k_is); (case c => k_is); (case k => k_is)
    intro L_law_hang
    refine' ML.ld_go (x := "_law_some_need") (st := ML.st_law_some_need) KX G ?a ?l ?c ?k ?_
    (case a => k_is); (case l => k_is); (case c => k_is); (case k => k_is)
    intro L_law_some_need
    refine' ML.ld_go (x := "_law_bent_need") (st := ML.st_law_bent_need) KX G ?a ?l ?c ?k ?_
    (case a => k_is); (case l => k_is); (case c => k_is); (case k => k_is)
    intro L_law_bent_need
    refine' ML.ld_go (x := "_law_tree_of") (st := ML.st_law_tree_of) KX G ?a ?l ?c ?k ?_
    (case a => k_is); (case l => k_is); (case c => k_is); (case k => k_is)
    intro L_law_tree_of
    refine' ML.ld_go (x := "right_set") (st := ML.st_right_set) KX G ?a ?l ?c ?k ?_
    (case a => k_is); (case l => k_is); (case c => k_is); (case k => k_is)
    intro L_right_set
    refine' ML.ld_go (x := "is_own") (st := ML.st_is_own) KX G ?a ?l ?c ?k ?_
    (case a => k_is); (case l => k_is); (case c => k_is); (case k => k_is)
    intro L_is_own
    refine' ML.ld_go (x := "leaves_of") (st := ML.st_leaves_of) KX G ?a ?l ?c ?k ?_
    (case a => k_is); (case l => k_is); (case c => k_is); (case k => k_is)
    intro L_leaves_of
    refine' ML.ld_go (x := "_law_web") (st := ML.st_law_web) KX G ?a ?l ?c ?k ?_
    (case a => k_is); (case l => k_is); (case c => k_is); (case k => k_is)
    intro L_law_web
    refine' ML.ld_go (x := "_law_is_set") (st := ML.st_law_is_set) KX G ?a ?l ?c ?k ?_
    (case a => k_is); (case l => k_is); (case c => k_is); (case k => k_is)
    intro L_law_is_set
    refine' ML.ld_go (x := "is_need") (st := ML.st_is_need) KX G ?a ?l ?c ?k ?_
    (case a => k_is); (case l => k_is); (case c => k_is); (case k => k_is)
    intro L_is_need
    refine' ML.ld_go (x := "need_of") (st := ML.st_need_of) KX G ?a ?l ?c ?k ?_
    (case a => k_is); (case l => k_is); (case c => k_is); (case k => k_is)
    intro L_need_of
    refine' ML.ld_go (x := "_law_all_sets") (st := ML.st_law_all_sets) KX G ?a ?l ?c ?k ?_
    (case a => k_is); (case l => k_is); (case c => k_is); (case k => k_is)
    intro L_law_all_sets
    refine' ML.ld_go (x := "right_needs") (st := ML.st_right_needs) KX G ?a ?l ?c ?k ?_
    (case a => k_is); (case l => k_is); (case c => k_is); (case k => k_is)
    intro L_right_needs
    refine' ML.ld_go (x := "lean_of") (st := ML.st_lean_of) KX G ?a ?l ?c ?k ?_
    (case a => k_is); (case l => k_is); (case c => k_is); (case k => k_is)
    intro L_lean_of
    refine' ML.ld_go (x := "_law_good") (st := ML.st_law_good) KX G ?a ?l ?c ?k ?_
    (case a => k_is); (case l => k_is); (case c => k_is); (case k => k_is)
    intro L_law_good
    have B : ML.Bt mg := by
      refine' ⟨PySem.W.mg_none_of KX G ?b1, PySem.W.mg_none_of KX G ?b2, PySem.W.mg_none_of KX G ?b3, PySem.W.mg_none_of KX G ?b4, PySem.W.mg_none_of KX G ?b5, PySem.W.mg_none_of KX G ?b6, PySem.W.mg_none_of KX G ?b7, PySem.W.mg_none_of KX G ?b8, PySem.W.mg_none_of KX G ?b9, PySem.W.mg_none_of KX G ?b10, PySem.W.mg_none_of KX G ?b11, PySem.W.mg_none_of KX G ?b12, PySem.W.mg_none_of KX G ?b13⟩
      all_goals k_is
    refine' ML.law_go hmg KX G ?a ?l ?c ?k ?_
    (case a => k_is); (case l => k_is); (case c => k_is); (case k => k_is)
    intro fd F hb
    exact ⟨fd, hb, fun base _ _ => ML.fin F B L_is_int L_is_tuple L_neighbours_by L_marks_of L_piece_of L_all_others L_places_of L_law_mixed L_law_next L_law_near L_law_reach L_law_touched L_law_lot L_law_is_lean L_is_rising L_lot_of L_touched L_pieces L_tree_by L_is_side L_ties_by L_law_deck L_law_turn L_law_hang L_law_some_need L_law_bent_need L_law_tree_of L_right_set L_is_own L_leaves_of L_law_web L_law_is_set L_is_need L_need_of L_law_all_sets L_right_needs L_lean_of L_law_good⟩
