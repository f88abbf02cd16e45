import PyProof.Rows.All
import HandS.AnyAll
import HandS.CallRecv
import HandS.Comp
import HandS.DeepEq
import HandS.EndTab
import HandS.ExcIs
import HandS.ExcOwn
import HandS.Flow
import HandS.ForMost
import HandS.IsInst
import HandS.Lambda
import HandS.More
import HandS.Set
import HandS.SetFor
import HandS.SlotsOwn
import HandS.Star
import HandS.Strs
import HandS.Style
import HandS.Text
import HandS.TupAny
import HandS.WordsExc
import KE.GoesEnum
import KE.GoesMore
import KE.GoesZip
import KE.KDictLaws
import KE.KDictZip
import OpenK.AllK
import PyProof.DictCopy
import PyProof.DictUpdate
import PyProof.NeKinds
import PySem.Challenge.RW_loginstacks_k09_whole_stacks_compared
import Wide.All
import Wide.FinOn
section
set_option Elab.async false
set_option linter.all false
set_option maxRecDepth 100000
set_option maxHeartbeats 4000000
/-! set(xs) of texts (a list or a tuple), and sorted of it: what a set of texts holds, whatever its order. -/
namespace K9
open PySem PySem.Spec PyProof.Rows L2
def keyS (e : Int × Value) : Str := match e.2 with | .str x _ => x | _ => Str.empty
def GoodS (w : World) (e : Int × Value) : Prop := ∃ k tk, e.2 = Value.str k tk ∧ e.1 = hashStr w k
/-- the set of texts at a: S its members, n their number -/
def SetSR (w : World) (h : Heap) (a : Addr) (S : Str → Bool) (n : Nat) : Prop :=
  ∃ o es ep t, h.get? a = some o ∧ o.ExactSet ∧ o.data = .set es ep t ∧ (∀ e ∈ es.toList, GoodS w e) ∧ (es.toList.map keyS).Nodup ∧ (∀ k, S k = true ↔ k ∈ es.toList.map keyS) ∧
    es.size < scanBound ∧ t.fits es.size = true ∧ es.size = n ∧ Ris t.place.toList ∧ (w.params.followText "set-order" = true ∨ t.led = true)
section
variable {P : Program} {w : World} {h h' : Heap} {a : Addr} {S : Str → Bool} {n : Nat}
theorem SetSR.at (R : SetSR w h a S n) (k : ∀ o, h.get? a = some o → h'.get? a = some o) : SetSR w h' a S n := by
  obtain ⟨o, es, ep, t, ho, r⟩ := R
  exact ⟨o, es, ep, t, k o ho, r⟩
theorem SetSR.congr {S' : Str → Bool} {n' : Nat} (R : SetSR w h a S n) (e : ∀ k, S' k = S k) (en : n' = n) : SetSR w h a S' n' := by
  have q : S' = S := funext e
  rw [q, en]; exact R
theorem strK_is (k : Str) (u : Tok) : (PySem.strKind P w).is k (.str k u) = true := by
  show Value.isStrOf k (.str k u) = true
  simp [Value.isStrOf]
theorem goodS_elems {l : List (Int × Value)} (g : ∀ e ∈ l, GoodS w e) : ElemsOf (PySem.strKind P w) l := fun e he => by
  obtain ⟨k, tk, h1, h2⟩ := g e he
  exact ⟨⟨k, by rw [h1]; exact strK_is k tk, h2⟩, by rw [h1] <;> rfl⟩
theorem goodS_is {e : Int × Value} (g : GoodS w e) (k : Str) : (PySem.strKind P w).is k e.2 = true ↔ keyS e = k := by
  obtain ⟨k0, tk, h1, _⟩ := g
  unfold keyS
  rw [h1]
  constructor
  · intro z
    exact (PySem.strKind P w).inj (.str k0 tk) k0 k (strK_is k0 tk) z
  · intro z
    have z' : k0 = k := z
    rw [z']
    exact strK_is k tk
theorem goodS_mem {l : List (Int × Value)} (g : ∀ e ∈ l, GoodS w e) (k : Str) : k ∈ l.map keyS ↔ ∃ e ∈ l, (PySem.strKind P w).is k e.2 = true := by
  rw [List.mem_map]
  constructor
  · rintro ⟨e, he, q⟩
    exact ⟨e, he, (goodS_is (g e he) k).2 q⟩
  · rintro ⟨e, he, q⟩
    exact ⟨e, he, (goodS_is (g e he) k).1 q⟩
end
section
variable {P : Program} {w : World} {A : Around} {E : Value → Shared → Prop} {s : Shared} {a : Addr} {S : Str → Bool} {n : Nat}
theorem setSR_add_tail {g : Bool → Sem Unit} (hg : ∀ (b : Bool) (s₁ : Shared) (Q' : Unit → Shared → Prop), Q' () s₁ → wpAny (model P w) A (g b) Q' E s₁)
    {o : Obj} {es : Array (Int × Value)} {ep : Nat} {t : SetTable} (ho : s.heap.get? a = some o) (hex : o.ExactSet) (hd : o.data = .set es ep t)
    {es1 : Array (Int × Value)} {t2 : SetTable} {S' : Str → Bool} (g1 : ∀ e ∈ es1.toList, GoodS w e) (nd1 : (es1.toList.map keyS).Nodup) (m1 : ∀ k, S' k = true ↔ k ∈ es1.toList.map keyS)
    (hb1 : es1.size < scanBound) (hf2 : t2.fits es1.size = true) (hr : Ris t2.place.toList) (hl : w.params.followText "set-order" = true ∨ t2.led = true) {wasDummy : Bool} {R : Option Bool → Shared → Prop}
    (hR : ∀ h', Heap.SameBut a s.heap h' → SetSR w h' a S' es1.size → R (some true) { s with heap := h' }) :
    wpAny (model P w) A (do
        storeSet a es1 t2
        if (!wasDummy && t2.tooFull) = true then do
            g (relayAll t2 es1 (SetTable.grown es1.size)).2.2
            storeSet a (relayAll t2 es1 (SetTable.grown es1.size)).1 (relayAll t2 es1 (SetTable.grown es1.size)).2.1
            pure (some true)
          else pure (some true)) R E s := by
  refine wpAny_bind (wpAny_storeSet_of ho hd ?_ (fits_of_scanBound hb1))
  have ho1 := store_at (es' := es1) (t' := t2) ho hd
  have sb1 := Heap.SameBut.update s.heap a (Obj.putSet es1 t2)
  split
  · have pm := relayAll_perm t2 es1 (SetTable.grown es1.size)
    have hf3 := relayAll_fits t2 es1 (SetTable.grown es1.size)
    have hr3 := relayAll_ris t2 es1 (SetTable.grown es1.size)
    have hl3 := relayAll_led t2 es1 (SetTable.grown es1.size)
    generalize relayAll t2 es1 (SetTable.grown es1.size) = Z at pm hf3 hr3 hl3 ⊢
    obtain ⟨es2, t3, gave⟩ := Z
    dsimp only at pm hf3 hr3 hl3 ⊢
    have hsz : es2.size = es1.size := by rw [← Array.length_toList, pm.length_eq, Array.length_toList]
    have hb2 : es2.size < scanBound := by rw [hsz]; exact hb1
    refine wpAny_bind (hg _ _ _ ?_)
    refine wpAny_bind (wpAny_storeSet_of ho1 rfl ?_ (fits_of_scanBound hb2))
    have ho2 := store_at (es' := es2) (t' := t3) ho1 rfl
    refine wpAny_pure (hR _ (sb1.trans (Heap.SameBut.update _ a _)) ?_)
    exact ⟨_, es2, _, t3, ho2, hex, rfl, fun e he => g1 e (pm.mem_iff.mp he), (pm.map keyS).nodup_iff.mpr nd1, fun k => (m1 k).trans (pm.map keyS).mem_iff.symm, hb2, hf3, hsz, hr3,
      hl.imp id fun z => by rw [hl3]; exact z⟩
  · exact wpAny_pure (hR _ sb1 ⟨_, es1, _, t2, ho1, hex, rfl, g1, nd1, m1, hb1, hf2, rfl, hr, hl⟩)
theorem setSR_add_hashed {k : Str} {tk : Tok} {Q : Bool → Shared → Prop} (R : SetSR w s.heap a S n) (room : n + 1 < scanBound)
    (hQ : ∀ h', Heap.SameBut a s.heap h' → SetSR w h' a (fun j => S j || decide (j = k)) (if S k = true then n else n + 1) → Q (!S k) { s with heap := h' }) :
    wpAny (model P w) A (setAddHashed a (.str k tk) ((PySem.strKind P w).hash k)) Q E s := by
  obtain ⟨o, es, ep, t, ho, hex, hd, g, nd, hm, hb, hf, hn, hr, hl⟩ := R
  have hkey : (PySem.strKind P w).is k (.str k tk) = true := strK_is k tk
  have hsc : (Value.str k tk).scannable = true := rfl
  have hel : ElemsOf (PySem.strKind P w) es.toList := goodS_elems g
  unfold setAddHashed setAddHashedIn
  refine wpAny_holding (wpAny_bind (wpAny_setState_of ho hd hf ?_))
  dsimp only
  rw [byScan_of hsc hb hel]
  simp only [↓reduceIte]
  unfold setAddByScan
  refine wpAny_bind ?_
  refine wpAny_bind (wpAny_rule ?_)
  refine wpAny_bind (wpAny_setScan_of hkey ho hd hf hel ?_)
  cases hfi : List.findIdx? (fun e => (PySem.strKind P w).is k e.2) es.toList with
  | some j =>
    dsimp only
    obtain ⟨hj, pj, _⟩ := List.findIdx?_eq_some_iff_getElem.mp hfi
    have hSk : S k = true := (hm k).2 ((goodS_mem (P := P) (w := w) g k).2 ⟨es.toList[j], List.getElem_mem hj, pj⟩)
    refine wpAny_pure (wpAny_pure ?_)
    have q := hQ s.heap (Heap.SameBut.refl a s.heap) ⟨o, es, ep, t, ho, hex, hd, g, nd, fun i => by
      rw [Bool.or_eq_true, decide_eq_true_eq, ← hm i]
      exact ⟨fun z => z.elim id (fun e => e ▸ hSk), .inl⟩, hb, hf, by rw [if_pos hSk]; exact hn, hr, hl⟩
    rw [hSk] at q
    exact q
  | none =>
    dsimp only
    have hnk : k ∉ es.toList.map keyS := fun z => by
      obtain ⟨e, he, q⟩ := (goodS_mem (P := P) (w := w) g k).1 z
      have c := List.findIdx?_eq_none_iff.mp hfi e he
      rw [q] at c
      cases c
    have hSk : S k = false := by
      cases q : S k with
      | false => rfl
      | true => exact absurd ((hm k).1 q) hnk
    have hgw : ∀ (b : Bool) {s₁ : Shared} {Q' : Unit → Shared → Prop}, Q' () s₁ → wpAny (model P w) A (match b with | true => rule "set.scan.the-table-gave-way" | false => pure ()) Q' E s₁ :=
      fun b s₁ Q' q => by cases b <;> first | exact wpAny_pure q | exact wpAny_rule q
    have pm := layNew_perm t es ((PySem.strKind P w).hash k) (.str k tk)
    have hf1 := layNew_fits t es ((PySem.strKind P w).hash k) (.str k tk)
    have hr1 := layNew_ris t es ((PySem.strKind P w).hash k) (.str k tk) hr
    have hl1 := layNew_led t es ((PySem.strKind P w).hash k) (.str k tk)
    generalize layNew t es ((PySem.strKind P w).hash k) (.str k tk) = Z at pm hf1 hr1 hl1 ⊢
    obtain ⟨es1, t1, wasDummy, gave⟩ := Z
    dsimp only at pm hf1 hr1 hl1 ⊢
    rw [Array.toList_push] at pm
    have pc : es1.toList.Perm (((PySem.strKind P w).hash k, Value.str k tk) :: es.toList) := pm.trans (List.perm_append_singleton _ _)
    have pk : (es1.toList.map keyS).Perm (k :: es.toList.map keyS) := pc.map keyS
    have g1 : ∀ e ∈ es1.toList, GoodS w e := fun e he => by
      rcases List.mem_cons.mp (pc.mem_iff.mp he) with z | z
      · rw [z]; exact ⟨k, tk, rfl, rfl⟩
      · exact g e z
    have nd1 : (es1.toList.map keyS).Nodup := pk.nodup_iff.mpr (List.nodup_cons.mpr ⟨hnk, nd⟩)
    have m1 : ∀ i, (S i || decide (i = k)) = true ↔ i ∈ es1.toList.map keyS := fun i => by
      rw [Bool.or_eq_true, decide_eq_true_eq, hm i, pk.mem_iff, List.mem_cons]
      exact Or.comm
    have hsz : es1.size = n + 1 := by rw [← Array.length_toList, pc.length_eq, List.length_cons, Array.length_toList, hn]
    have hb1 : es1.size < scanBound := by rw [hsz]; exact room
    have hled : w.params.followText "set-order" = true ∨ t1.led = true := hl.imp id fun z => by rw [hl1]; exact z
    have fin : ∀ h', Heap.SameBut a s.heap h' → SetSR w h' a (fun j => S j || decide (j = k)) es1.size → Q true { s with heap := h' } := fun h' sb r => by
      have q := hQ h' sb
      rw [hSk] at q
      rw [hsz] at r
      exact q r
    refine wpAny_bind (hgw _ ?_)
    split
    · refine wpAny_bind ?_
      rw [hashByValue_scannable 8 hsc]
      refine wpAny_pure ?_
      refine setSR_add_tail ?_ ho hex hd g1 nd1 m1 hb1 ?_ ?_ ?_ ?_
      · intro b s₁ Q' q; cases b <;> first | exact wpAny_pure q | exact wpAny_rule q
      · first | (split <;> first | exact hf1 | exact SetTable.fits_plain_off hf1) | exact hf1
      · first | (split <;> exact hr1) | exact hr1
      · first | (split <;> exact hled) | exact hled
      · intro h' sb r; dsimp only; exact wpAny_pure (fin h' sb r)
    · refine wpAny_bind (wpAny_pure ?_)
      simp only [↓reduceIte]
      refine setSR_add_tail ?_ ho hex hd g1 nd1 m1 hb1 hf1 hr1 hled ?_
      · intro b s₁ Q' q; cases b <;> first | exact wpAny_pure q | exact wpAny_rule q
      · intro h' sb r; dsimp only; exact wpAny_pure (fin h' sb r)
theorem setSR_fresh {h : Heap} {a : Addr} (ho : h.get? a = some { cls := .type "set", dict := none, data := .set #[] 0 (.fresh 0 0 (!w.params.followText "set-order")) }) : SetSR w h a (fun _ => false) 0 :=
  ⟨_, #[], 0, _, ho, ⟨rfl, rfl, rfl⟩, rfl, (fun e he => by simp at he), (by simp), (fun k => by simp), (by decide), (by rfl), rfl, List.Pairwise.nil, by
    show _ ∨ (!w.params.followText "set-order") = true
    cases w.params.followText "set-order"
    · exact .inr rfl
    · exact .inl rfl⟩
theorem take_snoc {α : Type} {l : List α} {i : Nat} {x : α} (h : l[i]? = some x) : l.take (i + 1) = l.take i ++ [x] := by
  obtain ⟨hi, e⟩ := List.getElem?_eq_some_iff.mp h
  rw [List.take_add_one, h]
  rfl
/-- the loop of set.update over texts -/
theorem set_update_strs {I : Addr} {fp wr : List Addr} {G : Array GenState → Array GenState → Prop} {n : Nat} {Pv : Nat → Value → Prop} {St : Nat → Shared → Prop} {R : Result → Shared → Prop}
    (W : WalksS P w A.in1 I fp wr G n Pv St) (S : Addr) (hSf : S ∉ fp) (ks : List Str) (hn : n = ks.length) (hfew : ks.length + 1 < scanBound) (hval : ∀ i v, Pv i v → ∃ p t, ks[i]? = some p ∧ v = .str p t) :
    ∀ (k i : Nat) (s : Shared), n - i = k → i ≤ n → St i s → (∃ m, m ≤ i ∧ SetSR w s.heap S (fun k => decide (k ∈ ks.take i)) m) →
      (∀ s' m, Moved (S :: wr) G s s' → m ≤ n → SetSR w s'.heap S (fun k => decide (k ∈ ks)) m → R (.ok (.ret .none)) s') →
      codeAny (model P w) A (.builtin "set.update.loop" ⟨[.ref S, .ref I], []⟩) R s := by
  have hSw : S ∉ wr := fun h => hSf (W.sub _ h)
  have hsub : ∀ b ∈ wr, b ∈ S :: wr := fun b hb => List.mem_cons_of_mem _ hb
  intro k
  induction k with
  | zero =>
    intro i s hk' hi hst ⟨m, hmi, hS⟩ hR
    have hin : i = n := by omega
    subst hin
    refine codeAny_builtin PyProof.Rows.F.entry_set_update_loop ?_
    rw [Around.under_plainId PyProof.Rows.F.plain_set_update_loop _]
    show wpAny _ A.in1 (pyNext (.ref I) >>= _) _ _ s
    refine wpAny_bind (W.done s _ _ hst fun s' hm => ?_)
    show wpAny _ A.in1 (ret Value.none) _ _ s'
    refine wpAny_pure (hR s' m (hm.mono hsub) hmi ?_)
    rw [hn, List.take_length] at hS
    exact hS.at fun o e => hm.heap S o hSw e
  | succ k ih =>
    intro i s hk' hi hst ⟨m, hmi, hS⟩ hR
    have hlt : i < n := by omega
    refine codeAny_builtin PyProof.Rows.F.entry_set_update_loop ?_
    rw [Around.under_plainId PyProof.Rows.F.plain_set_update_loop _]
    show wpAny _ A.in1 (pyNext (.ref I) >>= _) _ _ s
    refine wpAny_bind (W.item i s _ _ hlt hst fun v s' hP hst' hm => ?_)
    obtain ⟨p, t, hp, rfl⟩ := hval i v hP
    have hS' : SetSR w s'.heap S (fun k => decide (k ∈ ks.take i)) m := hS.at fun o e => hm.heap S o hSw e
    show wpAny _ A.in1 (holding [Value.str p t] (setAdd S (.str p t)) >>= _) _ _ s'
    refine wpAny_bind (wpAny_holding ?_)
    unfold setAdd
    refine wpAny_holding ?_
    refine wpAny_bind ((PySem.strKind P w).pyHash (strK_is p t) ?_)
    refine setSR_add_hashed (s := { s' with toks := s'.toks + 1 }) hS' (by omega) fun h' hsb hS2 => ?_
    have hS3 : ∃ m', m' ≤ i + 1 ∧ SetSR w h' S (fun k => decide (k ∈ ks.take (i + 1))) m' := by
      refine ⟨_, ?_, hS2.congr (fun j => ?_) rfl⟩
      · split <;> omega
      · rw [take_snoc hp]
        by_cases e1 : j ∈ ks.take i <;> by_cases e2 : j = p <;> simp [e1, e2]
    refine wpAny_pure ⟨plainId_quiet PyProof.Rows.F.plain_set_update_loop _, ih (i + 1) _ (by omega) hlt (W.frame _ s' _ _ hst' (Nat.le_add_right _ _) fun b hb o e => ?_) hS3 fun s'' m2 hm'' hm2 hS'' => ?_⟩
    · rw [hsb.2 b (fun h : b = S => hSf (by rw [← h]; exact hb))]; exact e
    · refine hR s'' m2 (Moved.trans W.gtrans ((hm.mono hsub).then_heap (Nat.le_add_right _ _) fun b o hb e => ?_) hm'') hm2 hS''
      rw [hsb.2 b (fun h : b = S => hb (by rw [h]; exact List.mem_cons_self))]; exact e
end
end K9
end
section
set_option Elab.async false
set_option linter.all false
set_option maxRecDepth 100000
set_option maxHeartbeats 4000000
/-! set(xs) of texts: the call; sorted of it; both as rules by values. -/
namespace K9
open PySem PySem.Spec PyProof.Rows L2
theorem strsAre_get : ∀ {l : List Value} {ss : List Str}, PyProof.Rows.StrsAre l ss → ∀ (i : Nat) (v : Value), l[i]? = some v → ∃ p t, ss[i]? = some p ∧ v = .str p t
  | _, _, .nil, i, v, h => by simp at h
  | _, _, .cons k tk r, 0, v, h => by simp at h; exact ⟨k, tk, rfl, h.symm⟩
  | _, _, .cons k tk r, i + 1, v, h => by
    simp only [List.getElem?_cons_succ] at h ⊢
    exact strsAre_get r i v h
section
variable {P : Program} {w : World} {A : Around} {E : Value → Shared → Prop} {s : Shared}
set_option maxHeartbeats 6400000 in
/-- set(xs), xs a list of texts -/
theorem call_set_listS {l : Addr} {items : Array Value} {xs : List Str} {Q : Value → Shared → Prop} (hh : A.handled = none) (hl : s.heap.IsList l items) (hi : PyProof.Rows.StrsAre items.toList xs) (hfew : xs.length + 1 < scanBound)
    (h : ∀ (h' : Heap) (tk m : Nat), m ≤ xs.length → SetSR w h' s.heap.objs.size (fun k => decide (k ∈ xs)) m → (∀ b o, s.heap.get? b = some o → h'.get? b = some o) → Q (.ref s.heap.objs.size) { s with heap := h', toks := tk }) :
    wpAny (model P w) A (call (.type "set") [.ref l]) Q E s := by
  obtain ⟨c, tl, hmro⟩ := PySem.F.called_set.mro
  have hmade := PySem.F.called_set.made
  have hsub := PySem.F.called_set.sub
  refine wpAny_call (codeAny_of_tree ?_)
  show wpAny _ _ (callAny (.type "set") _) _ _ _
  refine wpAny_pure ⟨Code.quiet_builtin _ (by decide +kernel), codeAny_builtin PySem.F.entry_type_call ?_⟩
  rw [Around.under_plain (weight_type_call_type "set" [.ref l] []) rfl]
  have h1 := PySem.F.called_set.notType
  have h2 := PySem.F.called_set.canCreate
  have hct := PySem.F.typeCall_set_1 (.ref l)
  repeat (any_goals (first | assumption | wp_step))
  refine codeAny_mono (code_set_led1 (.ref l) (E := E) (Q₁ := fun obj s₁ => obj = .ref s.heap.objs.size ∧ s₁ = { s with heap := s.heap.push { cls := .type "set", dict := none, data := .set #[] 0 (.fresh 0 0 (!w.params.followText "set-order")) } }) ⟨rfl, rfl⟩) fun r s₁ hr => ?_
  cases r with
  | error e => exact hr
  | ok fl =>
    cases fl with
    | ret obj =>
      obtain ⟨rfl, rfl⟩ := hr
      have hS : (s.heap.push { cls := .type "set", dict := none, data := .set #[] 0 (.fresh 0 0 (!w.params.followText "set-order")) }).get? s.heap.objs.size = some { cls := .type "set", dict := none, data := .set #[] 0 (.fresh 0 0 (!w.params.followText "set-order")) } := Heap.get?_push_size _ rfl
      have hT : Shared.TypeIs { s with heap := s.heap.push { cls := .type "set", dict := none, data := .set #[] 0 (.fresh 0 0 (!w.params.followText "set-order")) } } (.ref s.heap.objs.size) "set" := ⟨_, hS, rfl⟩
      have hli := PySem.F.called_set.init.lookup
      have hbi := PySem.F.called_set.init.bind (.ref s.heap.objs.size)
      repeat (any_goals (first | assumption | wp_step))
      refine codeAny_mono (codeAny_call_builtin (R := wants (fun r s₂ => r = .none ∧ ∃ h' tk m, s₂ = { s with heap := h', toks := tk } ∧ m ≤ xs.length ∧ SetSR w h' s.heap.objs.size (fun k => decide (k ∈ xs)) m ∧
          (∀ b o, s.heap.get? b = some o → h'.get? b = some o)) E) PySem.F.called_set.init.plain PySem.F.entry_set_init (check_set_init_1 hT ?_)) fun r₂ s₂ hr₂ => ?_
      · obtain ⟨ol, hol, hcl, nl, hdl⟩ := hl
        obtain ⟨ocls, odict, odata, oslots⟩ := ol
        simp only at hcl hdl
        subst hcl; subst hdl
        have hol' : (s.heap.push { cls := .type "set", dict := none, data := .set #[] 0 (.fresh 0 0 (!w.params.followText "set-order")) }).get? l = some { cls := .type "list", dict := odict, data := .seq items nl, slots := oslots } := Heap.get?_push_of_some _ hol
        have hsls := PySem.F.sub_list_set
        have hslf := PySem.F.sub_list_frozenset
        have hne : (Value.type "list" == Value.type "dict") = false := by decide
        have hl1 : (s.heap.push { cls := .type "set", dict := none, data := .set #[] 0 (.fresh 0 0 (!w.params.followText "set-order")) }).IsList l items := ⟨_, hol', rfl, nl, rfl⟩
        unfold Builtin.«set.__init__» noKeywords Builtin.Frozenset.updateFrom
        generalize hPI : pyIter = PI
        wp_walk
        subst hPI
        refine wpAny_pyIter_list hl1 ?_
        refine wpAny_bind (wpAny_runValue ?_)
        have hlS : l < s.heap.objs.size := Heap.lt_size hol
        have hh3 : A.in1.in1.in1.handled = none := by simp [hh]
        have hneI : l ≠ (s.heap.push { cls := .type "set", dict := none, data := .set #[] 0 (.fresh 0 0 (!w.params.followText "set-order")) }).objs.size := by
          rw [Heap.size_push]; exact Nat.ne_of_lt (Nat.lt_succ_of_lt hlS)
        have hSf : s.heap.objs.size ∉ [(s.heap.push { cls := .type "set", dict := none, data := .set #[] 0 (.fresh 0 0 (!w.params.followText "set-order")) }).objs.size, l] := by
          rw [Heap.size_push]; simp only [List.mem_cons, List.mem_singleton, List.not_mem_nil, or_false, not_or]
          exact ⟨Nat.ne_of_lt (Nat.lt_succ_self _), Nat.ne_of_gt hlS⟩
        have hsz : xs.length = items.size := by rw [← StrsAre.len_eq hi, Array.length_toList]
        have hval : ∀ (i : Nat) (v : Value), items[i]? = some v → ∃ p t, xs[i]? = some p ∧ v = .str p t := fun i v hv => by
          exact strsAre_get hi i v (by rw [Array.getElem?_toList]; exact hv)
        refine set_update_strs ((Walks.list hh3 _ l hneI items).toS) s.heap.objs.size
          hSf xs hsz.symm hfew hval (items.size - 0) 0 _ (by omega) (Nat.zero_le _)
          ⟨⟨_, Heap.get?_push_size _ rfl, rfl, rfl⟩, (hl1.push _)⟩ ?hS0 ?hR
        case hS0 =>
          have hget : ((s.heap.push { cls := .type "set", dict := none, data := .set #[] 0 (.fresh 0 0 (!w.params.followText "set-order")) }).push { cls := .type "list_iterator", data := .fields #[.ref l, .int 0 0] }).get? s.heap.objs.size
              = some { cls := .type "set", dict := none, data := .set #[] 0 (.fresh 0 0 (!w.params.followText "set-order")) } := Heap.get?_push_of_some _ hS
          exact ⟨0, Nat.le_refl _, (setSR_fresh hget).congr (fun k => by simp) rfl⟩
        case hR =>
          intro s' m hm hm2 hS'
          obtain ⟨h', g2, d', tk', os'⟩ := s'
          have eg : g2 = s.gens := hm.gens
          have ed : d' = s.drawn := hm.drawn
          have eo : os' = s.os := hm.os
          subst eg; subst ed; subst eo
          show wpAny _ _ _ _ _ _
          refine wpAny_pure ?_
          show wpAny _ _ (ret Value.none) _ _ _
          refine wpAny_pure ⟨rfl, h', tk', m, rfl, by rw [hsz]; exact hm2, hS', fun b o e => ?_⟩
          have hb : b < s.heap.objs.size := Heap.lt_size e
          have hb1 : b ≠ s.heap.objs.size := Nat.ne_of_lt hb
          have hb2 : b ≠ (s.heap.push { cls := .type "set", dict := none, data := .set #[] 0 (.fresh 0 0 (!w.params.followText "set-order")) }).objs.size := by
            rw [Heap.size_push]; exact Nat.ne_of_lt (Nat.lt_succ_of_lt hb)
          exact hm.heap b o (by simp only [List.mem_cons, List.mem_singleton, List.not_mem_nil, or_false, not_or]; exact ⟨hb1, hb2⟩) (Heap.get?_push_of_some _ (Heap.get?_push_of_some _ e))
      · cases r₂ with
        | error e => exact hr₂
        | ok fl₂ =>
          cases fl₂ with
          | ret r =>
            obtain ⟨rfl, h', tk, m, rfl, hm, hS', hk'⟩ := hr₂
            repeat (any_goals (first | assumption | wp_step))
            exact h _ _ _ hm hS' hk'
          | _ => exact hr₂.elim
    | _ => exact hr.elim
set_option maxHeartbeats 6400000 in
/-- set(xs), xs a tuple of texts -/
theorem call_set_tupleS {l : Addr} {items : Array Value} {xs : List Str} {Q : Value → Shared → Prop} (hh : A.handled = none) (hl : s.heap.IsTuple l items) (hi : PyProof.Rows.StrsAre items.toList xs) (hfew : xs.length + 1 < scanBound)
    (h : ∀ (h' : Heap) (tk m : Nat), m ≤ xs.length → SetSR w h' s.heap.objs.size (fun k => decide (k ∈ xs)) m → (∀ b o, s.heap.get? b = some o → h'.get? b = some o) → Q (.ref s.heap.objs.size) { s with heap := h', toks := tk }) :
    wpAny (model P w) A (call (.type "set") [.ref l]) Q E s := by
  obtain ⟨c, tl, hmro⟩ := PySem.F.called_set.mro
  have hmade := PySem.F.called_set.made
  have hsub := PySem.F.called_set.sub
  refine wpAny_call (codeAny_of_tree ?_)
  show wpAny _ _ (callAny (.type "set") _) _ _ _
  refine wpAny_pure ⟨Code.quiet_builtin _ (by decide +kernel), codeAny_builtin PySem.F.entry_type_call ?_⟩
  rw [Around.under_plain (weight_type_call_type "set" [.ref l] []) rfl]
  have h1 := PySem.F.called_set.notType
  have h2 := PySem.F.called_set.canCreate
  have hct := PySem.F.typeCall_set_1 (.ref l)
  repeat (any_goals (first | assumption | wp_step))
  refine codeAny_mono (code_set_led1 (.ref l) (E := E) (Q₁ := fun obj s₁ => obj = .ref s.heap.objs.size ∧ s₁ = { s with heap := s.heap.push { cls := .type "set", dict := none, data := .set #[] 0 (.fresh 0 0 (!w.params.followText "set-order")) } }) ⟨rfl, rfl⟩) fun r s₁ hr => ?_
  cases r with
  | error e => exact hr
  | ok fl =>
    cases fl with
    | ret obj =>
      obtain ⟨rfl, rfl⟩ := hr
      have hS : (s.heap.push { cls := .type "set", dict := none, data := .set #[] 0 (.fresh 0 0 (!w.params.followText "set-order")) }).get? s.heap.objs.size = some { cls := .type "set", dict := none, data := .set #[] 0 (.fresh 0 0 (!w.params.followText "set-order")) } := Heap.get?_push_size _ rfl
      have hT : Shared.TypeIs { s with heap := s.heap.push { cls := .type "set", dict := none, data := .set #[] 0 (.fresh 0 0 (!w.params.followText "set-order")) } } (.ref s.heap.objs.size) "set" := ⟨_, hS, rfl⟩
      have hli := PySem.F.called_set.init.lookup
      have hbi := PySem.F.called_set.init.bind (.ref s.heap.objs.size)
      repeat (any_goals (first | assumption | wp_step))
      refine codeAny_mono (codeAny_call_builtin (R := wants (fun r s₂ => r = .none ∧ ∃ h' tk m, s₂ = { s with heap := h', toks := tk } ∧ m ≤ xs.length ∧ SetSR w h' s.heap.objs.size (fun k => decide (k ∈ xs)) m ∧
          (∀ b o, s.heap.get? b = some o → h'.get? b = some o)) E) PySem.F.called_set.init.plain PySem.F.entry_set_init (check_set_init_1 hT ?_)) fun r₂ s₂ hr₂ => ?_
      · obtain ⟨ol, hol, hcl, nl, hdl⟩ := hl
        obtain ⟨ocls, odict, odata, oslots⟩ := ol
        simp only at hcl hdl
        subst hcl; subst hdl
        have hol' : (s.heap.push { cls := .type "set", dict := none, data := .set #[] 0 (.fresh 0 0 (!w.params.followText "set-order")) }).get? l = some { cls := .type "tuple", dict := odict, data := .seq items nl, slots := oslots } := Heap.get?_push_of_some _ hol
        have hsls := PySem.F.sub_tuple_set
        have hslf := PySem.F.sub_tuple_frozenset
        have hne : (Value.type "tuple" == Value.type "dict") = false := by decide
        have hl1 : (s.heap.push { cls := .type "set", dict := none, data := .set #[] 0 (.fresh 0 0 (!w.params.followText "set-order")) }).IsTuple l items := ⟨_, hol', rfl, nl, rfl⟩
        unfold Builtin.«set.__init__» noKeywords Builtin.Frozenset.updateFrom
        generalize hPI : pyIter = PI
        wp_walk
        subst hPI
        refine wpAny_pyIter_tuple hl1 ?_
        refine wpAny_bind (wpAny_runValue ?_)
        have hlS : l < s.heap.objs.size := Heap.lt_size hol
        have hh3 : A.in1.in1.in1.handled = none := by simp [hh]
        have hneI : l ≠ (s.heap.push { cls := .type "set", dict := none, data := .set #[] 0 (.fresh 0 0 (!w.params.followText "set-order")) }).objs.size := by
          rw [Heap.size_push]; exact Nat.ne_of_lt (Nat.lt_succ_of_lt hlS)
        have hSf : s.heap.objs.size ∉ [(s.heap.push { cls := .type "set", dict := none, data := .set #[] 0 (.fresh 0 0 (!w.params.followText "set-order")) }).objs.size, l] := by
          rw [Heap.size_push]; simp only [List.mem_cons, List.mem_singleton, List.not_mem_nil, or_false, not_or]
          exact ⟨Nat.ne_of_lt (Nat.lt_succ_self _), Nat.ne_of_gt hlS⟩
        have hsz : xs.length = items.size := by rw [← StrsAre.len_eq hi, Array.length_toList]
        have hval : ∀ (i : Nat) (v : Value), items[i]? = some v → ∃ p t, xs[i]? = some p ∧ v = .str p t := fun i v hv => by
          exact strsAre_get hi i v (by rw [Array.getElem?_toList]; exact hv)
        refine set_update_strs ((Walks.tuple hh3 _ l hneI items).toS) s.heap.objs.size
          hSf xs hsz.symm hfew hval (items.size - 0) 0 _ (by omega) (Nat.zero_le _)
          ⟨⟨_, Heap.get?_push_size _ rfl, rfl, rfl⟩, (hl1.push _)⟩ ?hS0 ?hR
        case hS0 =>
          have hget : ((s.heap.push { cls := .type "set", dict := none, data := .set #[] 0 (.fresh 0 0 (!w.params.followText "set-order")) }).push { cls := .type "tuple_iterator", data := .fields #[.ref l, .int 0 0] }).get? s.heap.objs.size
              = some { cls := .type "set", dict := none, data := .set #[] 0 (.fresh 0 0 (!w.params.followText "set-order")) } := Heap.get?_push_of_some _ hS
          exact ⟨0, Nat.le_refl _, (setSR_fresh hget).congr (fun k => by simp) rfl⟩
        case hR =>
          intro s' m hm hm2 hS'
          obtain ⟨h', g2, d', tk', os'⟩ := s'
          have eg : g2 = s.gens := hm.gens
          have ed : d' = s.drawn := hm.drawn
          have eo : os' = s.os := hm.os
          subst eg; subst ed; subst eo
          show wpAny _ _ _ _ _ _
          refine wpAny_pure ?_
          show wpAny _ _ (ret Value.none) _ _ _
          refine wpAny_pure ⟨rfl, h', tk', m, rfl, by rw [hsz]; exact hm2, hS', fun b o e => ?_⟩
          have hb : b < s.heap.objs.size := Heap.lt_size e
          have hb1 : b ≠ s.heap.objs.size := Nat.ne_of_lt hb
          have hb2 : b ≠ (s.heap.push { cls := .type "set", dict := none, data := .set #[] 0 (.fresh 0 0 (!w.params.followText "set-order")) }).objs.size := by
            rw [Heap.size_push]; exact Nat.ne_of_lt (Nat.lt_succ_of_lt hb)
          exact hm.heap b o (by simp only [List.mem_cons, List.mem_singleton, List.not_mem_nil, or_false, not_or]; exact ⟨hb1, hb2⟩) (Heap.get?_push_of_some _ (Heap.get?_push_of_some _ e))
      · cases r₂ with
        | error e => exact hr₂
        | ok fl₂ =>
          cases fl₂ with
          | ret r =>
            obtain ⟨rfl, h', tk, m, rfl, hm, hS', hk'⟩ := hr₂
            repeat (any_goals (first | assumption | wp_step))
            exact h _ _ _ hm hS' hk'
          | _ => exact hr₂.elim
    | _ => exact hr.elim
theorem strs_of : ∀ (l : List Value), (∀ v ∈ l, ∃ k tk, v = Value.str k tk) → ∃ ss, PyProof.Rows.StrsAre l ss
  | [], _ => ⟨[], .nil⟩
  | v :: l, h => by
    obtain ⟨k, tk, rfl⟩ := h v List.mem_cons_self
    obtain ⟨ss, r⟩ := strs_of l fun u hu => h u (List.mem_cons_of_mem _ hu)
    exact ⟨k :: ss, .cons k tk r⟩
theorem strs_map : ∀ {l : List Value} {ss : List Str}, PyProof.Rows.StrsAre l ss → l.map (fun v => keyS (0, v)) = ss
  | _, _, .nil => rfl
  | _, _, .cons k tk r => by
    rw [List.map_cons, strs_map r]
    rfl
/-- sorted(a), a set of texts -/
theorem sorted_setS {a : Addr} {S : Str → Bool} {n : Nat} {Q : Value → Shared → Prop} (R : SetSR w s.heap a S n) (hh : A.handled = none) (h64 : n < 64)
    (hQ : ∀ s' p (out : Array Value) (c : Nat) (ns : List Str), (∀ b o, s.heap.get? b = some o → s'.heap.get? b = some o) → s'.gens = s.gens → s'.os = s.os → s.heap.objs.size ≤ p →
      s'.heap.get? p = some (seqObj "list" out c) → PyProof.Rows.StrsAre out.toList ns → sortedS ns = true → ns.Nodup → (∀ k, k ∈ ns ↔ S k = true) → ns.length = n → Q (.ref p) s') :
    wpAny (model P w) A (call (.builtin "sorted") [.ref a]) Q E s := by
  obtain ⟨o, es, ep, t, ho, hex, hd, g, nd, hm, hb, hf, hn, hr, hl⟩ := R
  refine Calls.call_function_entry kind_sorted plain_sorted entry_sorted (args_sorted1 _) ?_
  unfold Builtin.«sorted»
  refine wpAny_bind (m := checkCount "sorted" 1 1 _) (wpAny_pure ?_)
  refine wpAny_bind (collect_set (A := A.in1) hh ⟨o, ho, hex.1, hd⟩ hf hb hr hl fun s1 vs k1 hz g1 o1 pm => ?_)
  have hvl : vs.length = n := by rw [pm.length_eq, List.length_map, Array.length_toList]; exact hn
  obtain ⟨ss, hS⟩ := strs_of vs fun v hv => by
    obtain ⟨e, he, q⟩ := List.mem_map.mp (pm.mem_iff.mp hv)
    obtain ⟨k, tk, h1, _⟩ := g e he
    exact ⟨k, tk, by rw [← q]; exact h1⟩
  have pk : ss.Perm (es.toList.map keyS) := by
    have q := pm.map (fun v => keyS (0, v))
    rw [List.map_map, strs_map hS] at q
    exact q
  refine wpAny_bind (wpAny_newList ?_ (by rw [hvl, sizeLine_eq]; omega))
  have hoL : (s1.heap.push (seqObj "list" vs.toArray 0)).get? s1.heap.objs.size = some (seqObj "list" vs.toArray 0) := Heap.get?_push_size _ rfl
  refine wpAny_bind (wpAny_holding (wpAny_call_entry slot_list_sort ⟨_, hoL, rfl⟩ entry_list_sort
    (list_sort_treeK strKind_oneLt hoL hS.keysOf (fun v₁ v₂ rest e => keyKind_strs (by rw [← e]; exact hS)) (by rw [hvl]; exact h64) fun st' hp hs => ?_) (args_list_sort _)))
  obtain ⟨ns', a1, a2, a3⟩ := sorted_out_str hS hp hs
  obtain ⟨c, hc⟩ := sortedHeap_at (vs := vs) (out := (arrOf st').map (·.2)) hoL
  have pn : ns'.Perm (es.toList.map keyS) := a2.trans pk
  refine ⟨_, rfl, wpAny_pure ⟨_, rfl, hQ _ s1.heap.objs.size ((arrOf st').map (·.2)) c ns' (fun b u e => ?_) g1 o1 hz hc a1 a3 (pn.nodup_iff.mpr nd) (fun k => by rw [pn.mem_iff, ← hm k]) ?_⟩⟩
  · have q := k1 b u e
    have hlt := Heap.lt_size q
    show (sortedHeap (s1.heap.push (seqObj "list" vs.toArray 0)) s1.heap.objs.size vs ((arrOf st').map (·.2))).get? b = some u
    rw [sortedHeap_old (Nat.ne_of_lt hlt) (by rw [size_push']; exact Nat.lt_succ_of_lt hlt)]
    exact Heap.get?_push_of_some _ q
  · rw [pn.length_eq, List.length_map, Array.length_toList]; exact hn
end
/-! ### rules by values -/
/-- the set of texts at a, in the abstract heap -/
def SetSO (w : World) (a : Addr) (S : Str → Bool) (n : Nat) : HO := .ext fun h => SetSR w h a S n
theorem setSO_new {P : Program} {w : World} {H : Hp} {h : Heap} {a : Addr} {S : Str → Bool} {n : Nat} (R : SetSR w h a S n) : ObjOk P w H h a (SetSO w a S n) := by
  have ⟨o, _, _, _, ho, _⟩ := R
  exact ⟨R, ⟨o, ho⟩, fun h1 h2 p k => p.at k⟩
section
variable {X : Cx}
/-- set(xs), a list or a tuple of texts -/
def rSetS (K : PySem.W.Frag) (w : World) : List V → Hp → VK → Prop := fun xs H Q => ∃ (l : Addr) (ks : List Str), xs = [V.ref l] ∧ (SqL K H l (ks.map V.str) ∨ SqT K H l (ks.map V.str)) ∧ ks.length < 64 ∧
  ∀ a n, H a = none → n ≤ ks.length → Q (.ref a) (upd H a (SetSO w a (fun k => decide (k ∈ ks)) n))
theorem cr_setS (hc : X.calm = true) : CallR X (.type "set") (rSetS X.K X.w) := by
  intro pins s σ H xs us Q I r h
  obtain ⟨l, ks, rfl, hs, h64, q⟩ := h
  have hh := I.ok.hd hc
  rw [Vals.ref1 r]
  have fin : ∀ (h' : Heap) (tk m : Nat), m ≤ ks.length → SetSR X.w h' s.heap.objs.size (fun k => decide (k ∈ ks)) m → (∀ b o, s.heap.get? b = some o → h'.get? b = some o) →
      EP X pins σ Q (.ref s.heap.objs.size) { s with heap := h', toks := tk } := fun h' tk m hm R kp =>
    ⟨.ref s.heap.objs.size, upd H s.heap.objs.size (SetSO X.w s.heap.objs.size (fun k => decide (k ∈ ks)) m), I.laid (t' := tk) kp (Nat.le_refl _) (setSO_new R), rfl, q _ m (I.hok.fresh (Nat.le_refl _)) hm⟩
  have hb : ks.length + 1 < scanBound := Nat.lt_trans (Nat.succ_lt_succ h64) (by decide)
  rcases hs with hs | hs
  · obtain ⟨its, rv, pl, _⟩ := I.list hs
    exact call_set_listS hh pl.isList (by simpa using rv.strs) hb fin
  · obtain ⟨its, rv, pl, _⟩ := I.tuple hs
    exact call_set_tupleS hh (show s.heap.IsTuple l its.toArray from pl) (by simpa using rv.strs) hb fin
/-- sorted(a), a set of texts -/
def rSortSetS (w : World) : List V → Hp → VK → Prop := fun vs H Q => ∃ (a : Addr) (S : Str → Bool) (n : Nat), vs = [V.ref a] ∧ H a = some (SetSO w a S n) ∧ n < 64 ∧
  ∀ (ns : List Str) (p : Addr), sortedS ns = true → ns.Nodup → (∀ k, k ∈ ns ↔ S k = true) → ns.length = n → H p = none → Q (.ref p) (upd H p (.lst (ns.map V.str)))
theorem cr_sortSetS (hc : X.calm = true) : CallR X (.builtin "sorted") (rSortSetS X.w) := by
  intro pins s σ H vs us Q I r h
  obtain ⟨a, S, n, rfl, ha, h64, q⟩ := h
  rw [Vals.ref1 r]
  have R : SetSR X.w s.heap a S n := (I.hok a _ ha).1
  refine sorted_setS R (I.ok.hd hc) h64 fun s' p out c ns kp hg ho hp hob hi hst hnd hm hl => ?_
  obtain ⟨h', g', d', t', o'⟩ := s'
  have eg : g' = s.gens := hg
  have eo : o' = s.os := ho
  subst eg eo
  have hlen : (ns.map V.str).length ≤ sizeLine := by rw [List.length_map, hl]; exact small64 h64
  have new : ObjOk X.prog X.w (upd H p (.lst (ns.map V.str))) h' p (.lst (ns.map V.str)) := ⟨hlen, out.toList, c, vals_of_strs hi, by rw [Array.toArray_toList]; exact hob⟩
  have J : Inv X pins σ (upd H p (.lst (ns.map V.str))) { s with heap := h', gens := s.gens, drawn := d', toks := t' } :=
    I.call' (s' := { s with heap := h', gens := s.gens, drawn := d', toks := t' }) (ch := []) rfl (Un.laid kp hp (I.hok.fresh hp)) (I.hok.laid kp hp new) I.bare (fun b hb => nomatch hb)
  exact ⟨.ref p, upd H p (.lst (ns.map V.str)), J, rfl, q ns p hst hnd hm hl (I.hok.fresh hp)⟩
end
end K9
end
section
set_option Elab.async false
set_option linter.all false
set_option maxRecDepth 100000
set_option maxHeartbeats 4000000
/-! dict(zip(xs, t)), xs a list and t a tuple: zip's next over two iterators of any kind while the tuple that it gave out is still held, the argument of dict, the rule by values. -/
namespace K9
open PySem PySem.Spec PyProof.Rows L2
section
variable {prog : Program} {w : World} {A : Around} {E : Value → Shared → Prop} {s : Shared} {z TI TO i1 i2 T : Addr} {fp1 fp2 : List Addr} {n1 n2 i : Nat} {P1 P2 : Nat → Value → Prop} {St1 St2 : Nat → Heap → Prop} {f : Bool} {oT : Obj}
theorem held_item {Q : Value → Shared → Prop} (S : ZipSep2 z TI TO i1 i2 fp1 fp2) (D1 : Draws prog w A i1 fp1 n1 P1 St1) (D2 : Draws prog w A i2 fp2 n2 P2 St2)
    (hz : IsZipHeld s.heap z TI TO T f) (hT : s.heap.get? T = some oT) (hTI : IsTupOf2 s.heap TI (.ref i1) (.ref i2)) (st1 : St1 i s.heap) (st2 : St2 i s.heap) (hlt1 : i < n1) (hlt2 : i < n2)
    (hQ : ∀ x1 x2 h' tk, P1 i x1 → P2 i x2 → IsZipHeld h' z TI TO T true → St1 (i + 1) h' → St2 (i + 1) h' → IsTupOf2 h' s.heap.objs.size x1 x2 →
      (∀ c o, c ≠ z → c ≠ i1 → c ≠ i2 → s.heap.get? c = some o → h'.get? c = some o) → Q (.ref s.heap.objs.size) { s with heap := h', toks := tk }) :
    wpAny (model prog w) A (Builtin.«zip.__next__» ⟨[.ref z], []⟩) (fun fin s' => ∃ v, fin = .done (.ret v) ∧ Q v s') E s := by
  obtain ⟨hp, g, d, tk0, os⟩ := s
  show wpAny _ _ (field (.ref z) 2 >>= _) _ _ _
  refine wpAny_bind (wpAny_field hz rfl (x := .bool false) rfl ?_)
  show wpAny _ _ (field (.ref z) 3 >>= _) _ _ _
  refine wpAny_bind (wpAny_field hz rfl (x := .ref TI) rfl (wpAny_bind (wpAny_seqItems hTI rfl ?_)))
  show wpAny _ _ (Builtin.SmallTypes.ownedTupleIsFree (.ref z) >>= _) _ _ _
  refine wpAny_bind (wpAny_tupleHeld_zip hz hT fun g0 hz0 hs0 => ?_)
  replace hs0 : Heap.SameBut z hp g0 := hs0
  simp only [Bool.false_eq_true, if_false]
  refine wpAny_bind ?_
  rw [← Array.forIn_toList]
  simp only [List.forIn_cons, List.forIn_nil]
  refine wpAny_bind (wpAny_bind (wpAny_holding ?_))
  show wpAny _ _ (Builtin.SmallTypes.nextOf (.ref i1) >>= _) _ _ ⟨g0, g, d, tk0, os⟩
  refine wpAny_bind (D1.item i _ _ _ hlt1 (D1.over st1 hs0 S.zf1) fun x1 p1 tk1 hx1 sn1 hp1 => wpAny_pure (wpAny_pure ?_))
  replace hp1 : Heap.SameBut i1 g0 p1 := hp1
  refine wpAny_bind (wpAny_bind (wpAny_holding ?_))
  show wpAny _ _ (Builtin.SmallTypes.nextOf (.ref i2) >>= _) _ _ ⟨p1, g, d, tk1, os⟩
  refine wpAny_bind (D2.item i _ _ _ hlt2 (D2.over (D2.over st2 hs0 S.zf2) hp1 S.sep1_2) fun x2 p2 tk2 hx2 sn2 hp2 => wpAny_pure (wpAny_pure (wpAny_pure ?_)))
  replace hp2 : Heap.SameBut i2 p1 p2 := hp2
  show wpAny _ _ (newTuple [x1, x2] >>= _) _ _ ⟨p2, g, d, tk2, os⟩
  refine wpAny_bind (wpAny_newTuple ?_)
  have hsz : p2.objs.size = hp.objs.size := by rw [hp2.1, hp1.1, hs0.1]
  have hk : ∀ c o, c ≠ z → c ≠ i1 → c ≠ i2 → hp.get? c = some o → p2.get? c = some o := fun c o c1 c2 c3 e => hp2.extBut _ _ c3 (hp1.extBut _ _ c2 (hs0.extBut _ _ c1 e))
  have hzz : IsZipHeld p2 z TI TO T true := hp2.extBut _ _ S.zi2 (hp1.extBut _ _ S.zi1 hz0)
  have j1 := D1.over sn1 hp2 S.sep2_1
  refine wpAny_pure ⟨_, rfl, ?_⟩
  show Q (.ref p2.objs.size) ⟨p2.push { cls := .type "tuple", data := .seq #[x1, x2] }, g, d, tk2, os⟩
  have hnew : IsTupOf2 (p2.push { cls := .type "tuple", data := .seq #[x1, x2] }) p2.objs.size x1 x2 := Heap.get?_push_size _ rfl
  rw [hsz] at hnew ⊢
  exact hQ x1 x2 _ tk2 hx1 hx2 (Heap.get?_push_of_some _ hzz) (D1.frame _ _ _ j1 fun b _ o e => Heap.get?_push_of_some _ e) (D2.frame _ _ _ sn2 fun b _ o e => Heap.get?_push_of_some _ e) hnew
    fun c o c1 c2 c3 e => Heap.get?_push_of_some _ (hk c o c1 c2 c3 e)
theorem held_end {Q : Fin → Shared → Prop} (S : ZipSep2 z TI TO i1 i2 fp1 fp2) (D1 : Draws prog w A i1 fp1 n1 P1 St1) (D2 : Draws prog w A i2 fp2 n2 P2 St2)
    (hz : IsZipHeld s.heap z TI TO T f) (hT : s.heap.get? T = some oT) (hTI : IsTupOf2 s.heap TI (.ref i1) (.ref i2)) (st1 : St1 i s.heap) (hend : i = n1)
    (hE : ∀ h' e, (∀ c o, c ≠ z → c ≠ i1 → c ≠ i2 → s.heap.get? c = some o → h'.get? c = some o) → (∃ o, h'.get? e = some o ∧ o.cls = .type "StopIteration") → E (.ref e) { s with heap := h' }) :
    wpAny (model prog w) A (Builtin.«zip.__next__» ⟨[.ref z], []⟩) Q E s := by
  obtain ⟨hp, g, d, tk0, os⟩ := s
  show wpAny _ _ (field (.ref z) 2 >>= _) _ _ _
  refine wpAny_bind (wpAny_field hz rfl (x := .bool false) rfl ?_)
  show wpAny _ _ (field (.ref z) 3 >>= _) _ _ _
  refine wpAny_bind (wpAny_field hz rfl (x := .ref TI) rfl (wpAny_bind (wpAny_seqItems hTI rfl ?_)))
  show wpAny _ _ (Builtin.SmallTypes.ownedTupleIsFree (.ref z) >>= _) _ _ _
  refine wpAny_bind (wpAny_tupleHeld_zip hz hT fun g0 hz0 hs0 => ?_)
  replace hs0 : Heap.SameBut z hp g0 := hs0
  simp only [Bool.false_eq_true, if_false]
  refine wpAny_bind ?_
  rw [← Array.forIn_toList]
  simp only [List.forIn_cons, List.forIn_nil]
  refine wpAny_bind (wpAny_bind (wpAny_holding ?_))
  show wpAny _ _ (Builtin.SmallTypes.nextOf (.ref i1) >>= _) _ _ ⟨g0, g, d, tk0, os⟩
  refine wpAny_bind (D1.done ⟨g0, g, d, tk0, os⟩ _ _ (by rw [← hend]; exact D1.over st1 hs0 S.zf1) fun q e hq he => ?_)
  replace hq : Heap.ExtBut i1 g0 q := hq
  exact hE q e (fun c o cz c1 _ x => hq _ _ c1 (hs0.extBut _ _ cz x)) he
theorem next_held_item {Q : Option Value → Shared → Prop} (S : ZipSep2 z TI TO i1 i2 fp1 fp2) (D1 : Draws prog w A.in1 i1 fp1 n1 P1 St1) (D2 : Draws prog w A.in1 i2 fp2 n2 P2 St2)
    (hz : IsZipHeld s.heap z TI TO T f) (hT : s.heap.get? T = some oT) (hTI : IsTupOf2 s.heap TI (.ref i1) (.ref i2)) (st1 : St1 i s.heap) (st2 : St2 i s.heap) (hlt1 : i < n1) (hlt2 : i < n2)
    (hQ : ∀ x1 x2 h' tk, P1 i x1 → P2 i x2 → IsZipHeld h' z TI TO T true → St1 (i + 1) h' → St2 (i + 1) h' → IsTupOf2 h' s.heap.objs.size x1 x2 →
      (∀ c o, c ≠ z → c ≠ i1 → c ≠ i2 → s.heap.get? c = some o → h'.get? c = some o) → Q (some (.ref s.heap.objs.size)) { s with heap := h', toks := tk }) :
    wpAny (model prog w) A (pyNext (.ref z)) Q E s := by
  have hTy : s.TypeIs (.ref z) "zip" := ⟨_, hz, rfl⟩
  unfold pyNext
  exact wpAny_bind (wpAny_attempt (wpAny_callSpecial?_slot (name := Str.ofString "__next__") hTy PySem.F.slot_zip_next
    (wpAny_call_entry PySem.F.slot_zip_next hTy PySem.F.entry_zip_next
      (held_item S D1 D2 hz hT hTI st1 st2 hlt1 hlt2 fun x1 x2 h' tk a1 a2 a3 a4 a5 a6 a7 => wpAny_pure (hQ x1 x2 h' tk a1 a2 a3 a4 a5 a6 a7)) (PySem.F.args_zip_next_1 _))))
theorem next_held_end {Q : Option Value → Shared → Prop} (S : ZipSep2 z TI TO i1 i2 fp1 fp2) (D1 : Draws prog w A.in1 i1 fp1 n1 P1 St1) (D2 : Draws prog w A.in1 i2 fp2 n2 P2 St2)
    (hz : IsZipHeld s.heap z TI TO T f) (hT : s.heap.get? T = some oT) (hTI : IsTupOf2 s.heap TI (.ref i1) (.ref i2)) (st1 : St1 i s.heap) (hend : i = n1)
    (hQ : ∀ h', (∀ c o, c ≠ z → c ≠ i1 → c ≠ i2 → s.heap.get? c = some o → h'.get? c = some o) → Q none { s with heap := h' }) : wpAny (model prog w) A (pyNext (.ref z)) Q E s := by
  have hTy : s.TypeIs (.ref z) "zip" := ⟨_, hz, rfl⟩
  unfold pyNext
  refine wpAny_bind (wpAny_attempt (wpAny_callSpecial?_slot (name := Str.ofString "__next__") hTy PySem.F.slot_zip_next
    (wpAny_call_entry PySem.F.slot_zip_next hTy PySem.F.entry_zip_next (held_end S D1 D2 hz hT hTI st1 hend fun h' e hk he => ?_) (PySem.F.args_zip_next_1 _))))
  obtain ⟨o, ho, hc⟩ := he
  refine wpAny_bind (wpAny_isInstance (T := "StopIteration") (b := true) ⟨o, ho, hc⟩ isSubtype_stop ?_)
  exact wpAny_pure (hQ _ hk)
end
section
variable {prog : Program} {w : World} {z TI TO i1 i2 : Addr} {fp1 fp2 : List Addr} {n : Nat} {P1 P2 : Nat → Value → Prop} {St1 St2 : Nat → Heap → Prop}
/-- a zip over two iterators of n items each, as the argument of dict -/
theorem pairArg_zip2 (S : ZipSep2 z TI TO i1 i2 fp1 fp2) (hTf1 : TI ∉ fp1) (hTf2 : TI ∉ fp2) (D1 : ∀ A : Around, A.handled = none → Draws prog w A i1 fp1 n P1 St1) (D2 : ∀ A : Around, A.handled = none → Draws prog w A i2 fp2 n P2 St2)
    (al1 : ∀ i h, St1 i h → ∀ b ∈ fp1, ∃ o, h.get? b = some o) (al2 : ∀ i h, St2 i h → ∀ b ∈ fp2, ∃ o, h.get? b = some o) :
    PairArg prog w "zip" z (z :: TI :: TO :: (fp1 ++ fp2)) [z, TO, i1, i2] n (fun i k v => P1 i k ∧ P2 i v)
      (fun h => IsZip h z TI TO .none ∧ IsTupOf2 h TI (.ref i1) (.ref i2) ∧ (∃ a b, IsTupOf2 h TO a b) ∧ St1 0 h ∧ St2 0 h) where
  type := fun s ok => ⟨_, ok.1, rfl⟩
  notDict := by decide
  keep := fun h h' ok hk => by
    obtain ⟨hz, hTI, ⟨a, b, hTO⟩, h1, h2⟩ := ok
    exact ⟨hk _ _ hz, hk _ _ hTI, ⟨a, b, hk _ _ hTO⟩, (D1 callerA rfl).frame _ _ _ h1 fun b _ o e => hk b o e, (D2 callerA rfl).frame _ _ _ h2 fun b _ o e => hk b o e⟩
  there := fun h ok b hb => by
    obtain ⟨hz, hTI, ⟨a, c, hTO⟩, h1, h2⟩ := ok
    rcases List.mem_cons.mp hb with rfl | hb
    · exact ⟨_, hz⟩
    rcases List.mem_cons.mp hb with rfl | hb
    · exact ⟨_, hTI⟩
    rcases List.mem_cons.mp hb with rfl | hb
    · exact ⟨_, hTO⟩
    rcases List.mem_append.mp hb with hb | hb
    · exact al1 0 h h1 b hb
    · exact al2 0 h h2 b hb
  sub := fun b hb => by
    have m1 := S.mem1
    have m2 := S.mem2
    simp only [List.mem_cons, List.not_mem_nil, or_false, List.mem_append] at hb ⊢
    rcases hb with rfl | rfl | rfl | rfl
    · exact .inl rfl
    · exact .inr (.inr (.inl rfl))
    · exact .inr (.inr (.inr (.inl m1)))
    · exact .inr (.inr (.inr (.inr m2)))
  noKeys := fun A s Q E hA ok h => getAttrOr_miss_zip ok.1 rfl rfl rfl zip_no_keys (by decide +kernel) hA h
  iter := fun A s d Q E hA ok hd hdf h => by
    obtain ⟨hz, hTI, ⟨a, b, hTO⟩, h1, h2⟩ := ok
    simp only [List.mem_cons, List.mem_append, not_or] at hdf
    obtain ⟨dz, dTI, dTO, df1, df2⟩ := hdf
    have di1 : d ≠ i1 := fun e => df1 (e ▸ S.mem1)
    have di2 : d ≠ i2 := fun e => df2 (e ▸ S.mem2)
    have hA1 : A.in1.handled = none := by simp [hA]
    have B1 := D1 A.in1 hA1
    have B2 := D2 A.in1 hA1
    refine wpAny_pyIter_zip hz (h z [z, TO, i1, i2] (fun i h => IsTupOf2 h TI (.ref i1) (.ref i2) ∧ St1 i h ∧ St2 i h ∧
      ((IsZip h z TI TO .none ∧ ∃ a b, IsTupOf2 h TO a b) ∨ ∃ T f oT, IsZipHeld h z TI TO T f ∧ h.get? T = some oT ∧ T ≠ z ∧ T ≠ i1 ∧ T ≠ i2 ∧ T ≠ d)) s.heap s.toks ?_
      ⟨hTI, h1, h2, .inl ⟨hz, a, b, hTO⟩⟩ (fun _ _ e => e) fun b hb => .inl hb)
    exact {
      off := fun hm => by
        simp only [List.mem_cons, List.not_mem_nil, or_false] at hm
        rcases hm with e | e | e | e
        · exact dz e
        · exact dTO e
        · exact di1 e
        · exact di2 e
      frame := fun i h₁ h₂ st hk => by
        obtain ⟨hTI, h1, h2, hz⟩ := st
        refine ⟨hk _ _ (Ne.symm dTI) hTI, B1.frame _ _ _ h1 fun b hb o e => hk b o (fun q => df1 (q ▸ hb)) e, B2.frame _ _ _ h2 fun b hb o e => hk b o (fun q => df2 (q ▸ hb)) e, ?_⟩
        rcases hz with ⟨hz, a, b, hTO⟩ | ⟨T, f, oT, hz, hT, r1, r2, r3, r4⟩
        · exact .inl ⟨hk _ _ (Ne.symm dz) hz, a, b, hk _ _ (Ne.symm dTO) hTO⟩
        · exact .inr ⟨T, f, oT, hk _ _ (Ne.symm dz) hz, hk _ _ r4 hT, r1, r2, r3, r4⟩
      item := fun i s₁ Q₁ E₁ hi st hds hQ => by
        obtain ⟨hTI, h1, h2, hz⟩ := st
        have lt : ∀ {c o}, s₁.heap.get? c = some o → s₁.heap.objs.size ≠ c := fun e => Nat.ne_of_gt (Heap.lt_size e)
        have n1 : s₁.heap.objs.size ≠ i1 := let ⟨_, e⟩ := B1.live _ _ h1; lt e
        have n2 : s₁.heap.objs.size ≠ i2 := let ⟨_, e⟩ := B2.live _ _ h2; lt e
        rcases hz with ⟨hz, a, b, hTO⟩ | ⟨T, f, oT, hz, hT, r1, r2, r3, r4⟩
        · refine wpAny_pyNext_zipD2_item S B1 B2 hz hTI hTO h1 h2 hi hi fun x1 x2 h' tk y1 y2 b1 b2 d1 d2 b5 b6 hk => ?_
          exact hQ s₁.heap.objs.size x1 x2 h' tk ⟨y1, y2⟩ (.inl ⟨_, b5, rfl, _, rfl⟩) ⟨hk _ _ S.TIz S.TITO S.TIi1 S.TIi2 hTI, d1, d2, .inr ⟨s₁.heap.objs.size, false, _, b1, b5, lt hz, n1, n2, Nat.ne_of_gt hds⟩⟩
            fun c o hc e => hk c o (fun x => hc (by simp [x])) (fun x => hc (by simp [x])) (fun x => hc (by simp [x])) (fun x => hc (by simp [x])) e
        · refine next_held_item S B1 B2 hz hT hTI h1 h2 hi hi fun x1 x2 h' tk y1 y2 b1 d1 d2 b5 hk => ?_
          exact hQ s₁.heap.objs.size x1 x2 h' tk ⟨y1, y2⟩ (.inl ⟨_, b5, rfl, _, rfl⟩) ⟨hk _ _ S.TIz S.TIi1 S.TIi2 hTI, d1, d2, .inr ⟨T, true, oT, b1, hk _ _ r1 r2 r3 hT, r1, r2, r3, r4⟩⟩
            fun c o hc e => hk c o (fun x => hc (by simp [x])) (fun x => hc (by simp [x])) (fun x => hc (by simp [x])) e
      done := fun s₁ Q₁ E₁ st hQ => by
        obtain ⟨hTI, h1, h2, hz⟩ := st
        rcases hz with ⟨hz, a, b, hTO⟩ | ⟨T, f, oT, hz, hT, r1, r2, r3, r4⟩
        · exact wpAny_pyNext_zipD2_end S B1 B2 hz hTI hTO h1 h2 (Nat.le_refl _) (Nat.le_refl _) (.inl rfl) fun h' tk hk => hQ h' tk fun c o hc e => hk c o (fun x => hc (by simp [x])) (fun x => hc (by simp [x])) (fun x => hc (by simp [x])) (fun x => hc (by simp [x])) e
        · exact next_held_end S B1 B2 hz hT hTI h1 rfl fun h' hk => hQ h' s₁.toks fun c o hc e => hk c o (fun x => hc (by simp [x])) (fun x => hc (by simp [x])) (fun x => hc (by simp [x])) e }
end
end K9
end
section
set_option Elab.async false
set_option linter.all false
set_option maxRecDepth 100000
set_option maxHeartbeats 4000000
/-! dict(zip(xs, t)) as an expression. -/
namespace K9
open PySem PySem.Spec PyProof.Rows L2
theorem vals_strs_at : ∀ {ks : List Str} {us : List Value}, Vals (ks.map V.str) us → ∀ (i : Nat) (v : Value), us[i]? = some v → ∃ k t, ks[i]? = some k ∧ v = .str k t
  | [], us, r, i, v, h => by cases r; simp at h
  | k :: ks, us, r, i, v, h => by
    rw [List.map_cons] at r
    cases r with
    | cons a b =>
      obtain ⟨t, rfl⟩ := a
      cases i with
      | zero => simp at h; exact ⟨k, t, rfl, h.symm⟩
      | succ i =>
        simp only [List.getElem?_cons_succ] at h ⊢
        exact vals_strs_at b i v h
theorem kv_zip : ∀ {ks : List Str} {vs : List V} {us : List Value}, Vals vs us → KV ((ks.map (Sum.inr : Str → Key)).zip vs) ((ks.map (Sum.inr : Str → Key)).zip us)
  | [], _, _, _ => .nil
  | _ :: _, _, _, .nil => .nil
  | k :: ks, _, _, .cons a b => .cons ⟨rfl, a⟩ (kv_zip b)
theorem big_new {X : Cx} {pins : List (Addr × Obj)} {σ : L2.St} {H : Hp} {s : Shared} {b : Addr} (I : Inv X pins σ H s) (h : s.heap.objs.size ≤ b) : (b == sysModules) = false := beq_eq_false_iff_ne.mpr (Nat.ne_of_gt (Nat.lt_of_lt_of_le I.big h))
/-- dict(zip(a, b)), a a list of texts, b a tuple of as many values -/
def tDictZip (K : PySem.W.Frag) (ta tb : TE) : TE := fun σ H Q => ta σ H fun x H1 => tb σ H1 fun y H2 => ∃ (l t : Addr) (ks : List Str) (vs : List V), x = .ref l ∧ y = .ref t ∧ SqL K H2 l (ks.map V.str) ∧ SqT K H2 t vs ∧ ks.length = vs.length ∧
  ∀ p, H2 p = none → Q (.ref p) (upd H2 p (.dK (mergeK [] ((ks.map Sum.inr).zip vs))))
theorem offT {N a : Nat} (h : a < N) : N + 2 ∉ ([N, a] : List Nat) := by
  intro hm
  simp only [List.mem_cons, List.not_mem_nil, or_false] at hm
  omega
theorem offT2 {N a : Nat} (h : a < N) : N + 2 ∉ ([N + 1, a] : List Nat) := by
  intro hm
  simp only [List.mem_cons, List.not_mem_nil, or_false] at hm
  omega
theorem wrNew {N b : Nat} (h : b < N) : b ∉ ([N + 4, N + 3, N, N + 1] : List Nat) := by
  intro hm
  simp only [List.mem_cons, List.not_mem_nil, or_false] at hm
  omega
theorem le5 {n m : Nat} (h : m = n + 5) : n ≤ m := by omega
theorem pe_dictZip {X : Cx} {a b : Expr} {ta tb : TE} {p p2 q pos : Pos} (ha : PE X a ta) (hb : PE X b tb) (hm : X.mg "dict" = none) (hm2 : X.mg "zip" = none) (hg : Gl X "dict" := by rfl) (hg2 : Gl X "zip" := by rfl) (hc : X.calm = true := by rfl)
    (hz1 : starEach [a, b] X.env = (false, eval a X.env) :: starEach [b] X.env := by rfl) (hz2 : (backTo q (starEach [b] X.env)).any (·.1) = false := by rfl) (hz3 : starEach [b] X.env = (false, eval b X.env) :: starEach [] X.env := by rfl) :
    PE X (.Call (.Name "dict" p) [.Call (.Name "zip" p2) [a, b] [] q] [] pos) (tDictZip X.K ta tb) := by
  refine ⟨fun pins s σ H Q I h => ?_⟩
  have hh := I.ok.hd hc
  refine Call_ (ld_blt I hg hm (u := Value.type "dict") (by decide +kernel) ?_)
  refine PyProof.Rows.callWith_type1 (PyProof.Rows.args_cons ?_ rfl) rfl rfl
  refine Call_ (ld_blt I hg2 hm2 (u := Value.type "zip") (by decide +kernel) ?_)
  refine PyProof.Rows.callWith_type1 (rest := [b]) ?_ hz1 hz2
  refine PyProof.Rows.args_cons (thn (ha.run pins s σ H _ I h) fun v s1 ⟨x, H1, I1, r1, q1⟩ => ?_) hz1
  refine PyProof.Rows.args_cons (thn (hb.run pins s1 σ H1 _ I1 q1) fun u s2 ⟨y, H2, I2, r2, q2⟩ => PyProof.Rows.args_nil ?_) hz3
  obtain ⟨l, t, ks, vs, rfl, rfl, hl, ht, hlen, k⟩ := q2
  cases (show v = Value.ref l from r1)
  cases (show u = Value.ref t from r2)
  have hh2 := I2.ok.hd hc
  obtain ⟨its, rv, pl, zl⟩ := I2.list hl
  obtain ⟨us, rw', pt, zt⟩ := I2.tuple ht
  have hL := pl.isList
  have hTt : s2.heap.IsTuple t us.toArray := pt
  have ltl : l < s2.heap.objs.size := let ⟨o, ho, _⟩ := hL; Heap.lt_size ho
  have ltt : t < s2.heap.objs.size := let ⟨o, ho, _⟩ := hTt; Heap.lt_size ho
  have el : its.length = ks.length := by rw [← rv.length, List.length_map]
  have et : us.length = ks.length := by rw [← rw'.length, hlen]
  have es1 : its.toArray.size = ks.length := by rw [List.size_toArray]; exact el
  have es2 : us.toArray.size = ks.length := by rw [List.size_toArray]; exact et
  refine zip_begins2 (begins_list l its.toArray) (begins_tuple t us.toArray) hL hTt fun h' hz hTI hTO g1 g2 hsz kp => ?_
  refine PyProof.Rows.args_nil ?_
  have S := zip_sep2 (N := s2.heap.objs.size) (fp1 := [l]) (fp2 := [t]) (fun b hb => by rw [List.mem_singleton.mp hb]; exact ltl) (fun b hb => by rw [List.mem_singleton.mp hb]; exact ltt)
  have P := pairArg_zip2 (prog := X.prog) (w := X.w) (n := ks.length) S (offT ltl) (offT2 ltt)
    (fun A hA => by have D := Draws.list (prog := X.prog) (w := X.w) hA s2.heap.objs.size l (Nat.ne_of_lt ltl) its.toArray; rw [es1] at D; exact D)
    (fun A hA => by have D := Draws.tuple (prog := X.prog) (w := X.w) hA (s2.heap.objs.size + 1) t (Nat.ne_of_lt (Nat.lt_succ_of_lt ltt)) us.toArray; rw [es2] at D; exact D)
    (fun i h st b hb => by
      simp only [List.mem_cons, List.not_mem_nil, or_false] at hb
      rcases hb with rfl | rfl
      · obtain ⟨o, ho, _⟩ := st.1; exact ⟨o, ho⟩
      · obtain ⟨o, ho, _⟩ := st.2; exact ⟨o, ho⟩)
    (fun i h st b hb => by
      simp only [List.mem_cons, List.not_mem_nil, or_false] at hb
      rcases hb with rfl | rfl
      · obtain ⟨o, ho, _⟩ := st.1; exact ⟨o, ho⟩
      · obtain ⟨o, ho, _⟩ := st.2; exact ⟨o, ho⟩)
  have hn : ks.length ≤ sizeLine := by rw [List.length_map] at zl; exact zl
  refine PySem.call_dict_pairs (knd := mixKind X.prog X.w) (kvs := (ks.map (Sum.inr : Str → Key)).zip us) P hh2
    ⟨hz, hTI, ⟨_, _, hTO⟩, ⟨⟨_, g1, rfl, rfl⟩, hL.at fun o e => kp _ o e⟩, ⟨⟨_, g2, rfl, rfl⟩, hTt.at fun o e => kp _ o e⟩⟩
    ⟨by rw [List.length_zip, List.length_map, et, Nat.min_self], fun i key v hr => ?_⟩ hn fun h'' tk hd hk => ?_
  · obtain ⟨e1, e2⟩ := hr
    obtain ⟨k0, tk0, ek, rfl⟩ := vals_strs_at rv i key (by simpa using e1)
    refine ⟨Sum.inr k0, ?_, keyIs_str k0 tk0⟩
    rw [List.getElem?_zip_eq_some, List.getElem?_map, ek]
    exact ⟨rfl, by simpa using e2⟩
  · have old : ∀ b o, s2.heap.get? b = some o → h''.get? b = some o := fun b o e => hk b o (wrNew (Heap.lt_size e)) (kp b o e)
    have ge : s2.heap.objs.size ≤ h'.objs.size := le5 hsz
    have rel : KV (mergeK [] ((ks.map (Sum.inr : Str → Key)).zip vs)) (merged [] ((ks.map (Sum.inr : Str → Key)).zip us)) := KV.merge (kv_zip rw') .nil
    have hsz2 : (mergeK [] ((ks.map (Sum.inr : Str → Key)).zip vs)).length ≤ sizeLine := by
      refine Nat.le_trans (length_mergeK _ []) ?_
      rw [List.length_nil, Nat.zero_add, List.length_zip, List.length_map, ← hlen, Nat.min_self]
      exact hn
    exact ⟨.ref h'.objs.size, upd H2 h'.objs.size (.dK (mergeK [] ((ks.map Sum.inr).zip vs))), I2.laid (t' := tk) old ge (dk_new hsz2 (big_new I2 ge) rel hd), rfl, k _ (I2.hok.fresh ge)⟩
end K9
end
section
set_option Elab.async false
set_option linter.all false
set_option maxRecDepth 100000
set_option maxHeartbeats 4000000
/-! Rules that the layer lacks: an own __add__; a dict or'ed with a dict; tuples of data compared by !=; a list with [] ; count of True. -/
namespace K9
open PySem PySem.Spec PyProof.Rows L2
/-! ### x + y by an own __add__ -/
theorem cmpbackV {P : Value → Shared → Prop} {z : V} {v : Value} {s' : Shared} (r : RelV z v) (h : P v s') : PySem.W.CmpBack P v s' := by
  cases z with
  | non => cases (show v = Value.none from r); exact h
  | bl b => cases (show v = Value.bool b from r); exact h
  | int i => obtain ⟨t, e⟩ := (show ∃ t, v = Value.int i t from r); subst e; exact h
  | str x => obtain ⟨t, e⟩ := (show ∃ t, v = Value.str x t from r); subst e; exact h
  | byt b => obtain ⟨t, e⟩ := (show ∃ t, v = Value.bytes b t from r); subst e; exact h
  | flt b => obtain ⟨t, e⟩ := (show ∃ t, v = Value.float b t from r); subst e; exact h
  | ref a => cases (show v = Value.ref a from r); exact h
  | ty n => cases (show v = Value.type n from r); exact h
section
variable {X : Cx}
def rAddOwn (C : Addr) (sp : Sp) (E : XK) : R2 := fun x y H Q => ∃ a dx fs b dy gs, x = .ref a ∧ y = .ref b ∧ H a = some (.ins C dx fs) ∧ H b = some (.ins C dy gs) ∧ sp [x, y] H Q E
theorem op_addOwn {CX : CXT} {n : Nat} {C g : Addr} {sp : Sp} {E : XK} (hc : PySem.W.selfFirst X.K C = true) (hs : PySem.W.findIn X.K (.ref C) "__add__" = some (some (.ref g))) (hf : PySem.W.isFn X.K (.ref g) = true)
    (F : FnR X.prog X.w X.K X.mg X.base CX n g sp) (hr : Room n X.A) (hx : Passes CX X E) : OpR X (binaryOp .Add) (rAddOwn C sp E) := by
  intro pins s σ H x y v u Q I rx ry h
  obtain ⟨a, dx, fs, b, dy, gs, rfl, rfl, ha, hb, q⟩ := h
  cases (show v = Value.ref a from rx)
  cases (show u = Value.ref b from ry)
  obtain ⟨mA, O, _⟩ := ins_get I.hok ha
  obtain ⟨od, J, _⟩ := O.look
  obtain ⟨mB, O2, _⟩ := ins_get I.hok hb
  obtain ⟨od2, J2, _⟩ := O2.look
  obtain ⟨m, hF⟩ := I.fr
  refine PySem.W.binop_K (op := .Add) hF I.ok.mod.kin J J2.type hc hs hf ?_
  refine wpAny_mono (wpAny_call (run_fnR (us := [.ref a, .ref b]) (vs := [.ref a, .ref b]) F hr hx I (.cons rfl (.cons rfl .nil)) q)) (fun w s' z => ?_) fun _ _ x => x
  obtain ⟨z', H', I', rz, qz⟩ := z
  exact cmpbackV rz ⟨z', H', I', rz, qz⟩
end
/-! ### d | e -/
section
variable {prog : Program} {w : World} {K : Type} [DecidableEq K] {knd : KeyKind prog w K} {A : Around} {E : Value → Shared → Prop} {s : Shared}
theorem copyOf_at (knd : KeyKind prog w K) {nm : String} {d : Addr} {kvs : List (K × Value)} {Q : Value → Shared → Prop} (hd : (d == sysModules) = false) (hm : s.heap.DictOf knd d kvs) (hsz : kvs.length ≤ sizeLine)
    (h : ∀ h', h'.DictOf knd s.heap.objs.size kvs → (∀ b o, s.heap.get? b = some o → h'.get? b = some o) → Q (.ref s.heap.objs.size) { s with heap := h' }) :
    wpAny (model prog w) A (Builtin.Dict.copyOf nm (.ref d)) Q E s := by
  obtain ⟨o, es, ep, ho, hc, hdat, hk, hp, hn⟩ := id hm
  have hes : es.size ≤ sizeLine + 1 := by have e1 := hp.length; have e2 : es.toList.length = es.size := by simp
                                          omega
  unfold Builtin.Dict.copyOf
  refine wpAny_bind (wpAny_pure ?_)
  unfold Builtin.Dict.showsAll
  rw [if_neg (by rw [hd]; exact Bool.false_ne_true)]
  refine wpAny_bind (wpAny_pure ?_)
  refine wpAny_bind (wpAny_dictEntries ho hdat ?_)
  have fin : ∀ es' : Array DictEntry, es' = es → Q (.ref s.heap.objs.size) { s with heap := s.heap.push { cls := .type "dict", data := .dict es' } } := by
    rintro es' rfl
    exact h _ ⟨_, es', 0, Heap.get?_push_size _ rfl, ⟨rfl, rfl, rfl⟩, rfl, hk, hp, hn⟩ fun b o' e => Heap.get?_push_of_some _ e
  by_cases hemp : es.isEmpty = true
  · rw [if_pos hemp]
    refine wpAny_bind (wpAny_rule (wpAny_newObj_type ?_))
    exact fin #[] (Array.isEmpty_iff.mp hemp).symm
  · rw [if_neg hemp]
    refine wpAny_bind ?_
    · unfold Builtin.Dict.readDirectly
      refine wpAny_bind (wpAny_isInstance hm.typeIs isSubtype_dict_dict ?_)
      simp only [Bool.not_true, Bool.false_eq_true, if_false]
      refine wpAny_bind (wpAny_specialOf hm.typeIs PySem.F.slot_dict_iter.lookup (wpAny_pure ?_))
      simp only [beq_self_eq_true, if_true]
      refine wpAny_bind (wpAny_entriesForEmpty (knd := knd) ho hdat hk (wpAny_newObj_type ?_ hes))
      exact fin es rfl
end
section
variable {prog : Program} {w : World} {K : Type} [DecidableEq K] {A : Around} {E : Value → Shared → Prop} {s : Shared}
theorem meets_dict_or (knd : KeyKind prog w K) (a b : Addr) (ha : (a == sysModules) = false) (hb : (b == sysModules) = false) :
    MeetsIn prog w (Builtin.«dict.__or__» ⟨[.ref a, .ref b], []⟩) (fun _ R s => ∃ kvs more, s.heap.DictOf knd a kvs ∧ s.heap.DictOf knd b more ∧ kvs.length + more.length ≤ sizeLine ∧
      ∀ h', h'.DictOf knd s.heap.objs.size (merged kvs more) → (∀ c o, s.heap.get? c = some o → h'.get? c = some o) → R (.ok (.ret (.ref s.heap.objs.size))) { s with heap := h' }) :=
  .of_wp fun A R s ⟨kvs, more, hd, ho, hsz, h⟩ => by
    unfold Builtin.«dict.__or__»
    refine wpAny_bind ?_
    unfold Builtin.Dict.dictSlotArgs
    refine wpAny_bind (wpAny_notOrdered_dict hd.typeIs ?_)
    refine wpAny_bind (wpAny_of_eq (a := ((Value.ref a : Value), [Value.ref b])) (by first | rfl | (simp only [slotArgs]; rfl)) ?_)
    refine wpAny_pure ?_
    show wpAny _ _ (do
      if !(← isInstance (.ref a) (.type "dict") <&&> isInstance (.ref b) (.type "dict")) then rule s!"{"dict.__or__"}.not-a-dict"; return ← ret .notImplemented
      let new ← Builtin.Dict.copyOf "dict.__or__" (.ref a)
      holding [new] (Builtin.Dict.updateFrom "dict.__or__" (← Builtin.Dict.addrOf new) (.ref b) [] new)) _ _ _
    refine wpAny_bind ?_
    refine wpAny_bind (wpAny_isInstance hd.typeIs isSubtype_dict_dict ?_)
    show wpAny _ _ (isInstance (.ref b) (.type "dict")) _ _ _
    refine wpAny_isInstance ho.typeIs isSubtype_dict_dict ?_
    show wpAny _ _ (Builtin.Dict.copyOf "dict.__or__" (.ref a) >>= _) _ _ _
    refine wpAny_bind (copyOf_at knd ha hd (by omega) fun h1 d1 k1 => ?_)
    refine wpAny_bind (wpAny_pure ?_)
    refine wpAny_holding ?_
    show wpAny _ _ (Builtin.Dict.updateFrom "dict.__or__" s.heap.objs.size (.ref b) [] (.ref s.heap.objs.size)) _ _ _
    have ho1 : h1.DictOf knd b more := let ⟨o, es, ep, e, r⟩ := ho; ⟨o, es, ep, k1 _ _ e, r⟩
    have hne : s.heap.objs.size ≠ b := let ⟨_, _, _, e, _⟩ := ho; Nat.ne_of_gt (Heap.lt_size e)
    unfold Builtin.Dict.updateFrom
    refine wpAny_bind (wpAny_typeOf (s := { s with heap := h1 }) ho1.typeIs ?_)
    rw [if_neg (by decide)]
    refine wpAny_bind ?_
    unfold Builtin.Dict.merge
    refine wpAny_bind ?_
    unfold Builtin.Dict.readDirectly
    refine wpAny_bind (wpAny_isInstance (s := { s with heap := h1 }) ho1.typeIs isSubtype_dict_dict ?_)
    simp only [Bool.not_true, Bool.false_eq_true, if_false]
    refine wpAny_bind (wpAny_specialOf (s := { s with heap := h1 }) ho1.typeIs PySem.F.slot_dict_iter.lookup (wpAny_pure ?_))
    simp only [beq_self_eq_true, if_true]
    refine wpAny_bind (wpAny_pure ?_)
    refine wpAny_mergeDict (s := { s with heap := h1 }) (hsz := hsz) hne hb d1 ho1 fun h2 d2 _ s2 => ?_
    show wpAny _ _ (Builtin.Dict.addKeywords _ [] >>= _) _ _ _
    exact wpAny_bind (wpAny_pure (wpAny_pure ⟨_, rfl, h h2 d2 fun c o e => s2.extBut c o (Nat.ne_of_lt (Heap.lt_size e)) (k1 c o e)⟩))
end
end K9
end
section
set_option Elab.async false
set_option linter.all false
set_option maxRecDepth 100000
set_option maxHeartbeats 4000000
/-! Rules: d | e; unlike tuples; a list against []; count of flat items. -/
namespace K9
open PySem PySem.Spec PyProof.Rows L2
section
variable {X : Cx}
/-- d | e, two tracked dicts -/
def rOrD : R2 := fun x y H Q => ∃ a b ks ls, x = .ref a ∧ y = .ref b ∧ H a = some (.dK ks) ∧ H b = some (.dK ls) ∧ ks.length + ls.length ≤ sizeLine ∧ ∀ p, H p = none → Q (.ref p) (upd H p (.dK (mergeK ks ls)))
theorem op_orD : OpR X (binaryOp .BitOr) rOrD := by
  intro pins s σ H x y v u Q I rx ry h
  obtain ⟨a, b, ks, ls, rfl, rfl, ha, hb, hz, q⟩ := h
  cases (show v = Value.ref a from rx)
  cases (show u = Value.ref b from ry)
  obtain ⟨_, ya, va, ra, da⟩ := dk_of I.hok ha
  obtain ⟨_, yb, vb, rb, db⟩ := dk_of I.hok hb
  have hz' : va.length + vb.length ≤ sizeLine := by rw [← ra.length, ← rb.length]; exact hz
  refine wpAny_binaryOp_same (T := "dict") da.typeIs db.typeIs PySem.F.fills_dict_or PySem.F.slot_dict_or
    (call_meetsIn PySem.F.slot_dict_or da.typeIs PySem.F.entry_dict_or (PySem.F.args_dict_or_2 _ _) (meets_dict_or (mixKind X.prog X.w) a b ya yb) ⟨va, vb, da, db, hz', fun h' d' k' => ?_⟩)
  have rel : KV (mergeK ks ls) (merged va vb) := KV.merge rb ra
  have hsz : (mergeK ks ls).length ≤ sizeLine := Nat.le_trans (length_mergeK _ _) (by omega)
  exact ⟨(fun z => nomatch z), .ref s.heap.objs.size, upd H s.heap.objs.size (.dK (mergeK ks ls)), I.laid (t' := s.toks) k' (Nat.le_refl _) (dk_new hsz (big_new I (Nat.le_refl _)) rel d'), rfl, q _ (I.hok.fresh (Nat.le_refl _))⟩
end
end K9
namespace PySem.SeqAt
open AutoSeq1 (wpAny_loadPart')
open MeetsSeq MeetsSeq2 MeetsSeq3
section
variable {prog : Program} {w : World}
theorem k9_tuple_ne (l b : Addr) (items items2 : Array Value) (n n2 : Nat) (dd dd2 : Option Addr) (sl sl2 : Array (Option Value)) (e : Nat → Bool) :
    MeetsIn prog w (Builtin.«tuple.__ne__» ⟨[.ref l, .ref b], []⟩)
      (fun A R s => s.heap.get? l = some { cls := .type "tuple", dict := dd, data := .seq items n, slots := sl } ∧ s.heap.get? b = some { cls := .type "tuple", dict := dd2, data := .seq items2 n2, slots := sl2 } ∧
        (∀ j (h1 : j < items.size) (h2 : j < items2.size), EqP prog w A.in1 s items[j] items2[j] (e j)) ∧
        R (.ok (.ret (.bool (!((List.range (min items.size items2.size)).all e && items.size == items2.size))))) s) :=
  .of_wp fun A R s h => by
    obtain ⟨hp, g, d, tk, os⟩ := s; obtain ⟨hl, hb, he, h⟩ := h
    have f2 := AutoSeq1.sub_tuple_tuple
    have hZ : (items.toList.zip items2.toList).length = min items.size items2.size := by simp
    wp_walk using wpAny_loadPart' hl, wpAny_loadPart' hb, wpAny_forIn_list _ (fun rest b s' => b.1 = none ∧ s' = ⟨hp, g, d, tk, os⟩ ∧ ∃ i, rest = (items.toList.zip items2.toList).drop i ∧
      R (.ok (.ret (.bool (!(((List.range (min items.size items2.size)).drop i).all e && items.size == items2.size))))) ⟨hp, g, d, tk, os⟩) _
    case turn =>
      rintro ⟨y, x⟩ rest b s' ⟨hb', rfl, i, hz, hR⟩
      have hlt : i < (items.toList.zip items2.toList).length := by
        rcases Nat.lt_or_ge i (items.toList.zip items2.toList).length with h' | h'
        · exact h'
        · rw [List.drop_of_length_le h'] at hz; cases hz
      have hm : i < min items.size items2.size := hZ ▸ hlt
      have h1 : i < items.size := Nat.lt_of_lt_of_le hm (Nat.min_le_left _ _)
      have h2 : i < items2.size := Nat.lt_of_lt_of_le hm (Nat.min_le_right _ _)
      rw [List.drop_eq_getElem_cons hlt] at hz
      injection hz with hyx hrest
      have hy : y = items[i] := by have := congrArg Prod.fst hyx; simpa using this
      have hx : x = items2[i] := by have := congrArg Prod.snd hyx; simpa using this
      subst hy hx
      have hd : (List.range (min items.size items2.size)).drop i = i :: (List.range (min items.size items2.size)).drop (i + 1) := by simp [List.drop_eq_getElem_cons, hm]
      rw [hd, List.all_cons] at hR
      refine wpAny_bind (he i h1 h2 _ _ ?_)
      cases hy : e i with
      | true =>
        rw [hy] at hR
        wp_walk
        exact ⟨rfl, rfl, i + 1, hrest, by simpa using hR⟩
      | false =>
        rw [hy] at hR
        wp_walk
        exact ⟨_, rfl, by simpa using hR⟩
    case fin =>
      rintro ⟨b1, b2⟩ s' ⟨hb', rfl, i, hz, hR⟩
      simp only at hb'
      subst hb'
      have hge : min items.size items2.size ≤ i := by
        rcases Nat.lt_or_ge i (items.toList.zip items2.toList).length with h' | h'
        · rw [List.drop_eq_getElem_cons h'] at hz; cases hz
        · exact hZ ▸ h'
      rw [List.drop_of_length_le (by simpa using hge)] at hR
      wp_walk
      exact ⟨_, rfl, by simpa [Builtin.Tuple.tupleCompareSizes, bne] using hR⟩
    case h =>
      exact ⟨rfl, rfl, 0, rfl, by simpa using h⟩
theorem k9_rcNe_tuples {A : Around} {s : Shared} {l b : Addr} {items items2 : Array Value} {e : Nat → Bool} (hl : s.heap.IsTuple l items) (hb : s.heap.IsTuple b items2) (hu : A.units < cLine)
    (he : ∀ j (h1 : j < items.size) (h2 : j < items2.size), EqP prog w A.in1 s items[j] items2[j] (e j)) (E Q : Value → Shared → Prop) (h : Q (.bool (!((List.range (min items.size items2.size)).all e && items.size == items2.size))) s) :
    wpAny (model prog w) A (richCompare .NotEq (.ref l) (.ref b)) Q E s := by
  obtain ⟨⟨cls, dd, data, sl⟩, ho, hc, n, hd⟩ := id hl
  obtain ⟨⟨cls2, dd2, data2, sl2⟩, ho2, hc2, n2, hd2⟩ := id hb
  simp only at hc hd hc2 hd2
  subst hc hd hc2 hd2
  have ta : s.TypeIs (.ref l) "tuple" := ⟨_, ho, rfl⟩
  have tb : s.TypeIs (.ref b) "tuple" := ⟨_, ho2, rfl⟩
  exact wpAny_richCompare_same_room (op := .NotEq) ta tb F.slot_tuple_ne (call_meetsIn F.slot_tuple_ne ta F.entry_tuple_ne (F.args_tuple_ne_2 _ _) (k9_tuple_ne l b items items2 n n2 dd dd2 sl sl2 e)
    ⟨ho, ho2, he, show Value.bool _ ≠ Value.notImplemented ∧ Q _ s from ⟨(fun x => nomatch x), h⟩⟩) hu
end
end PySem.SeqAt
namespace K9
open PySem PySem.Spec PyProof.Rows L2
section
variable {X : Cx}
/-- t != u, two tuples of equal items: False -/
def rNeTup (K : PySem.W.Frag) : R2 := fun x y H Q => ∃ n a b xs ys, n ≤ 60 ∧ x = .ref a ∧ y = .ref b ∧ SqT K H a xs ∧ SqT K H b ys ∧ Paired (EqV K H n) xs ys ∧ Q (.bl false) H
theorem op_neTup (hu : X.A.units + 64 < cLine) : OpR X (compareOp .NotEq) (rNeTup X.K) := by
  intro pins s σ H x y v u Q I rx ry h
  obtain ⟨n, a, b, xs, ys, hn, rfl, rfl, ha, hb, hp, q⟩ := h
  cases (show v = Value.ref a from rx)
  cases (show u = Value.ref b from ry)
  obtain ⟨us, r1, p1, _⟩ := I.tuple ha
  obtain ⟨ws, r2, p2, _⟩ := I.tuple hb
  have hsz : us.toArray.size = ws.toArray.size := by
    rw [List.size_toArray, List.size_toArray, ← r1.length, ← r2.length]
    exact Paired.length hp
  refine SeqAt.k9_rcNe_tuples (A := X.A) (e := fun _ => true) (show s.heap.IsTuple a us.toArray from p1) (show s.heap.IsTuple b ws.toArray from p2) (by omega) (fun j h1 h2 => ?_) _ _ ?_
  · have k := items_run (A := X.A.in1) (eqV_run I n X.A.in1 (by show X.A.units + 1 + n < cLine; omega)) hp r1 r2 j (by simpa using h1) (by simpa using h2)
    simpa using k
  · have e1 : (!((List.range (min us.toArray.size ws.toArray.size)).all (fun _ => true) && us.toArray.size == ws.toArray.size)) = false := by
      rw [hsz]; simp
    rw [e1]
    exact ⟨.bl false, H, I, rfl, q⟩
/-- None or such a tuple -/
theorem op_neLaw (hu : X.A.units + 64 < cLine) : OpR X (compareOp .NotEq) (fun x y H Q => rNe x y H Q ∨ rNeTup X.K x y H Q) := OpR.or op_ne (op_neTup hu)
/-- xs == [] -/
def rEqNil (K : PySem.W.Frag) : R2 := fun x y H Q => ∃ a b xs, x = .ref a ∧ y = .ref b ∧ SqL K H a xs ∧ SqL K H b [] ∧ Q (.bl xs.isEmpty) H
theorem op_eqNil (hu : X.A.units + 2 < cLine) : OpR X (compareOp .Eq) (rEqNil X.K) := by
  intro pins s σ H x y v u Q I rx ry h
  obtain ⟨a, b, xs, rfl, rfl, ha, hb, q⟩ := h
  cases (show v = Value.ref a from rx)
  cases (show u = Value.ref b from ry)
  obtain ⟨us, r1, p1, _⟩ := I.list ha
  obtain ⟨ws, r2, p2, _⟩ := I.list hb
  cases r2
  cases r1 with
  | nil =>
    refine SeqAt.rcP_lists (A := X.A) (e := fun _ => true) p1.isList p2.isList rfl (by omega) (fun j h1 h2 => absurd h1 (Nat.not_lt_zero j)) _ _ ?_
    exact ⟨.bl true, H, I, rfl, q⟩
  | cons r rr =>
    refine SeqAt.RcAt.lists_lengths p1.isList p2.isList rfl (by omega) _ _ _ _ ?_
    exact ⟨.bl false, H, I, rfl, q⟩
theorem countP_eqU {x : V} : ∀ {xs : List V} {us : List Value}, Vals xs us → xs.all flatV = true → us.countP (eqU x) = xs.countP fun y => eqV y x
  | _, _, .nil, _ => rfl
  | y :: xs, u :: us, .cons r t, f => by
    rw [List.all_cons, Bool.and_eq_true] at f
    rw [List.countP_cons, List.countP_cons, eqU_of r f.1, countP_eqU t f.2]
/-- xs.count(y), flat items -/
def rCntF (K : PySem.W.Frag) : V → List V → Hp → VK → Prop := fun x xs H Q => ∃ (p : Addr) (ys : List V) (y : V), x = .ref p ∧ xs = [y] ∧ SqL K H p ys ∧ flatV y = true ∧ ys.all flatV = true ∧ Q (.int ((ys.countP fun z => eqV z y : Nat) : Int)) H
theorem mt_countF : MtR X "list.count" (rCntF X.K) := by
  intro pins s σ H x xs v us Q I rx rxs h
  obtain ⟨p, ys, y, rfl, rfl, hs, fy, fys, q⟩ := h
  cases rx
  obtain ⟨u, rfl, ru⟩ := rxs.one
  obtain ⟨its, rv, ⟨⟨cls, dd, data, sl⟩, n, ho, hc, hdn, hd⟩, hlen⟩ := I.list hs
  simp only at hc hd
  subst hc hd
  refine call_meets PySem.F.slot_list_count ⟨_, ho, rfl⟩ PySem.F.entry_list_count (PySem.F.args_list_count_2 _ _)
    (SeqAt.list_countAt p its.toArray n dd sl u (eqU y)) ⟨ho, fun u' hu' => mem_eqAt ru fy rv fys u' (by simpa using hu'), ?_⟩
  have ec : its.toArray.toList.countP (eqU y) = ys.countP fun z => eqV z y := by rw [show its.toArray.toList = its by simp]; exact countP_eqU rv fys
  refine ⟨.int ((ys.countP fun z => eqV z y : Nat) : Int), H, I.tok _, ⟨s.toks, ?_⟩, q⟩
  show Value.int ((its.toArray.toList.countP (eqU y) : Nat) : Int) s.toks = Value.int ((ys.countP fun z => eqV z y : Nat) : Int) s.toks
  rw [ec]
end
end K9
end
section
set_option Elab.async false
set_option linter.all false
set_option maxRecDepth 100000
set_option maxHeartbeats 4000000
/-! for i, x in enumerate(t), t a tuple. -/
namespace K9
open PySem PySem.Spec PyProof.Rows L2
set_option maxHeartbeats 1000000 in
theorem meets_enum1 {v : Value} {o : Obj} {H : Heap → Prop} (B : Begins v o H) (hv : v.onHeap = true) :
    Meets (Builtin.«enumerate.__new__» ⟨[.type "enumerate", v], []⟩) (fun _ R s => H s.heap ∧
      R (.ok (.ret (.ref (s.heap.push o).objs.size))) { s with heap := (s.heap.push o).push { cls := .type "enumerate", data := .fields #[.none, .bool false, .ref s.heap.objs.size, rawInt 0, .none, .none] } }) :=
  .of_wp fun prog w A R s h => by
    obtain ⟨hp, g, d, tk, os⟩ := s; obtain ⟨h1, h⟩ := h
    have hsub := sub_enumerate
    have q1 : ∀ {A' : Around} {E : Value → Shared → Prop} {Q : Value → Shared → Prop}, Q (.ref hp.objs.size) ⟨hp.push o, g, d, tk, os⟩ → wpAny (model prog w) A' (pyIter v) Q E ⟨hp, g, d, tk, os⟩ :=
      fun q => B.iter prog w _ _ ⟨hp, g, d, tk, os⟩ _ h1 q
    wp_walk using q1
    refine wpAny_stack_any fun st => wpAny_pure ?_
    split
    · rename_i c _ _ _ _ _
      cases (c == Value.type "enumerate")
      · wp_walk using q1
        exact ⟨_, rfl, h⟩
      · wp_walk using q1
        exact ⟨_, rfl, h⟩
    · wp_walk using q1
      exact ⟨_, rfl, h⟩
section
variable {prog : Program} {w : World} {A : Around} {E : Value → Shared → Prop} {s : Shared}
theorem call_enumerate_tuple {l : Addr} {items : Array Value} {Q : Value → Shared → Prop} (hL : s.heap.IsTuple l items)
    (h : ∀ h', IsEnum h' (s.heap.objs.size + 1) s.heap.objs.size 0 .none → h'.IsTupleIter s.heap.objs.size l 0 → h'.objs.size = s.heap.objs.size + 2 →
      (∀ b o, s.heap.get? b = some o → h'.get? b = some o) → Q (.ref (s.heap.objs.size + 1)) { s with heap := h' }) :
    wpAny (model prog w) A (call (.type "enumerate") [.ref l]) Q E s := by
  have B := begins_tuple l items
  refine callType_new F.called_enumerate (by decide) (F.typeCall_enumerate_1 _) (F.newCall_enumerate_1 _) (fun obj => F.args_object_init_2 obj _) F.entry_enumerate_new
    (meets_enum1 B rfl) ⟨hL, ?_⟩
  have hz : (s.heap.push ({ cls := .type "tuple_iterator", data := .fields #[.ref l, .int 0 0] } : Obj)).objs.size = s.heap.objs.size + 1 := Heap.size_push ..
  show _ ∧ _
  rw [hz]
  have he : IsEnum ((s.heap.push { cls := .type "tuple_iterator", data := .fields #[.ref l, .int 0 0] }).push { cls := .type "enumerate", data := .fields #[.none, .bool false, .ref s.heap.objs.size, rawInt 0, .none, .none] }) (s.heap.objs.size + 1) s.heap.objs.size 0 .none := by
    have := Heap.get?_push_size (s.heap.push { cls := .type "tuple_iterator", data := .fields #[.ref l, .int 0 0] }) (o := { cls := .type "enumerate", data := .fields #[.none, .bool false, .ref s.heap.objs.size, rawInt 0, .none, .none] }) rfl
    rw [hz] at this; exact this
  refine ⟨⟨_, he, rfl⟩, h _ he ⟨_, Heap.get?_push_of_some _ (Heap.get?_push_size _ B.free), rfl, rfl⟩ (by rw [Heap.size_push, hz]) fun b o x => Heap.get?_push_of_some _ (Heap.get?_push_of_some _ x)⟩
end
/-- the tuple at a, each item in a new pair -/
def Itet (K : PySem.W.Frag) (a : Addr) : It :=
  ⟨fun i H => ∃ (xs : List V) (x : V), SqT K H a xs ∧ xs[i]? = some x, fun i H v H' => ∃ T x, v = .ref T ∧ H T = none ∧ H' = upd H T (.tup [.int (i : Nat), x]) ∧ ∀ xs, SqT K H a xs → xs[i]? = some x, fun i H => ∃ xs : List V, SqT K H a xs ∧ xs.length ≤ i⟩
theorem turn_enumT {P : Program} {w : World} {K : PySem.W.Frag} {elts : List Expr} {kk : Nat} {tpos : Pos} (a e it : Addr) :
    Turn P w K (.Tuple elts kk tpos) (Itet K a) [e, it] e (fun i h => (∃ old, IsEnum h e it ((i : Nat) : Int) old) ∧ h.IsTupleIter it a i ∧ e ≠ it ∧ a ≠ e ∧ a ≠ it) where
  mem := by simp
  obj := fun i h st b hb => by
    obtain ⟨⟨old, he⟩, ⟨o, ho, hc, hd⟩, _⟩ := st
    have e' : b = e ∨ b = it := by simpa using hb
    rcases e' with z | z
    · rw [z]; exact ⟨_, he, fun v q => nomatch q⟩
    · rw [z]; exact ⟨o, ho, fun v q => by rw [hd] at q; cases q⟩
  keep := fun i h h' st k => let ⟨⟨old, he⟩, hi, hne⟩ := st; ⟨⟨old, k e (by simp) _ he⟩, hi.at fun o q => k it (by simp) o q, hne⟩
  item := by
    intro X hP hw hK hc i pins s σ H E I hf st hg
    subst hP hw hK
    obtain ⟨⟨old, he⟩, hit, hne, hae, hai⟩ := st
    obtain ⟨xs, x, hq, hx⟩ := hg
    obtain ⟨its, rv, p, hz⟩ := I.tuple hq
    have hT : s.heap.IsTuple a its.toArray := p
    obtain ⟨u, hu, ru⟩ := rv.get hx
    have hlt : i < its.toArray.size := by
      obtain ⟨h1, _⟩ := List.getElem?_eq_some_iff.mp hu
      simpa using h1
    have hel : e < s.heap.objs.size := Heap.lt_size he
    have hil : it < s.heap.objs.size := by obtain ⟨_, q, _⟩ := hit; exact Heap.lt_size q
    have D := Draws.tuple (prog := X.prog) (w := X.w) (A := X.A.in1) (I.ok.hd hc) it a hai its.toArray
    refine wpAny_pyNext_enum_itemD D he ⟨hit, hT⟩ hlt hne (by
      intro hm
      simp only [List.mem_cons, List.not_mem_nil, or_false] at hm
      rcases hm with z | z
      · exact hne z
      · exact hae z.symm) fun x' h' tk hP ho hst' hT1 hsz hk => ?_
    have ex : x' = u := by
      have := hP
      rw [show its.toArray[i]? = its[i]? by simp, hu] at this
      exact (Option.some.inj this).symm
    subst ex
    refine ⟨_, rfl, wpAny_letOwnedTupleGo_enum (s := { s with heap := h', toks := tk + 1 }) ho fun h'' he' sb => ?_⟩
    have hT2 : h''.get? s.heap.objs.size = some { cls := .type "tuple", data := .seq #[.int i tk, x'] } := (sb.2 _ (Nat.ne_of_gt hel)).trans hT1
    have new : ObjOk X.prog X.w (upd H s.heap.objs.size (.tup [.int (i : Nat), x])) h'' s.heap.objs.size (.tup [.int (i : Nat), x]) :=
      ⟨by show 2 ≤ sizeLine; decide, [.int i tk, x'], .cons ⟨_, rfl⟩ (.cons ru .nil), ⟨_, hT2, rfl, _, rfl⟩⟩
    have I1 : Inv X pins σ (upd H s.heap.objs.size (.tup [.int (i : Nat), x])) { s with heap := h'', toks := tk + 1 } :=
      I.turnedNew (ch := [e, it]) (fun b ob hb q => (sb.2 b (fun z => hb (by simp [z]))).trans (hk b ob (fun z => hb (by simp [z])) (fun z => hb (by simp [z])) q)) hf (Nat.le_refl _) new
    refine ⟨.ref s.heap.objs.size, _, I1, rfl, ⟨_, x, rfl, I.hok.fresh (Nat.le_refl _), rfl, fun ys hy => by rw [I.tuple_inj hy hq]; exact hx⟩, ⟨⟨x', ?_⟩, hst'.1.at fun o q => (sb.2 it (Ne.symm hne)).trans q, hne, hae, hai⟩, fun b hb => ?_⟩
    · have e1 : ((i + 1 : Nat) : Int) = (i : Int) + 1 := by omega
      rw [e1]; exact he'
    · have hb' : b < s.heap.objs.size := by
        have e' : b = e ∨ b = it := by simpa using hb
        rcases e' with z | z
        · rw [z]; exact hel
        · rw [z]; exact hil
      rw [upd_ne (Nat.ne_of_lt hb')]
      exact (hf b hb).1
  done := by
    intro X hP hw hK hc i pins s σ H E I hf st hg
    subst hP hw hK
    obtain ⟨⟨old, he⟩, hit, hne, hae, hai⟩ := st
    obtain ⟨xs, hq, hx⟩ := hg
    obtain ⟨its, rv, p, hz⟩ := I.tuple hq
    have hT : s.heap.IsTuple a its.toArray := p
    obtain ⟨f0, f1, f2, f3, f4, f5⟩ := hf it (by simp)
    have hl := rv.length
    have hh : X.A.in1.handled = none := I.ok.hd hc
    have hTy : s.TypeIs (.ref e) "enumerate" := ⟨_, he, rfl⟩
    unfold pyNext
    refine wpAny_bind (wpAny_attempt (wpAny_callSpecial?_slot (name := Str.ofString "__next__") hTy F.slot_enumerate_next
      (wpAny_call_entry F.slot_enumerate_next hTy F.entry_enumerate_next ?_ (F.args_enumerate_next_1 _))))
    show wpAny _ _ (field (.ref e) 2 >>= _) _ _ _
    refine wpAny_bind (wpAny_field he rfl (x := .ref it) rfl ?_)
    refine wpAny_bind (wpAny_nextOf_tuple_end hh hit hT (by simp; omega) fun h' x he' hx' => ?_)
    obtain ⟨o, ho, hc'⟩ := hx'
    refine wpAny_bind (wpAny_isInstance (T := "StopIteration") (b := true) ⟨o, ho, hc'⟩ isSubtype_stop ?_)
    exact wpAny_pure ⟨rfl, I.turned (t' := s.toks) (fun b o hb q => he' b o hb q) f0 f1 f3 f4 f5⟩
  self := fun A i s Q E st h => let ⟨⟨_, he⟩, _⟩ := st; wpAny_pyIter_enum he h
def iEnumT (K : PySem.W.Frag) (ta : TA) : TI := fun σ H R => ta σ H fun vs H1 => ∃ a xs, vs = [.ref a] ∧ SqT K H1 a xs ∧ R (Itet K a) H1
theorem pi_enumT {X : Cx} {e : Expr} {ta : TA} {p pos tpos : Pos} {elts : List Expr} {kk : Nat} (hg : Gl X "enumerate") (hm : X.mg "enumerate" = none) (ha : PA X [e] ta) (hs : starEach [e] X.env = [(false, eval e X.env)] := by rfl) :
    PI X (.Tuple elts kk tpos) (.Call (.Name "enumerate" p) [e] [] pos) (iEnumT X.K ta) := by
  refine ⟨fun pins s σ H R I h => ?_⟩
  refine Call_ (ld_blt I hg hm boot_enumerate (PyProof.Rows.callWith_type1 (thn (ha.run pos pins s σ H _ I h) fun us s1 ⟨vs, H1, I1, r1, q1⟩ => ?_) hs rfl))
  obtain ⟨a, xs, ex, hq, q⟩ := q1
  subst ex
  cases r1 with
  | cons r rr =>
    cases rr
    cases r
    obtain ⟨its, rv, p', hz⟩ := I1.tuple hq
    have hT : s1.heap.IsTuple a its.toArray := p'
    have hal : a < s1.heap.objs.size := by obtain ⟨_, q', _⟩ := hT; exact Heap.lt_size q'
    refine call_enumerate_tuple hT fun h' he hit hsz hk => wpAny_pyIter_enum he ?_
    have I2 : Inv X pins σ H1 { s1 with heap := h' } := I1.kept (t' := s1.toks) hk
    refine ⟨s1.heap.objs.size + 1, [s1.heap.objs.size + 1, s1.heap.objs.size], _, _, H1, rfl, I2, turn_enumT a (s1.heap.objs.size + 1) s1.heap.objs.size, ⟨⟨.none, he⟩, hit, Nat.succ_ne_self _, Nat.ne_of_lt (Nat.lt_succ_of_lt hal), Nat.ne_of_lt hal⟩, fun b hb => ?_, q⟩
    have e' : b = s1.heap.objs.size + 1 ∨ b = s1.heap.objs.size := by simpa using hb
    have hle : s1.heap.objs.size ≤ b := by
      rcases e' with z | z
      · rw [z]; exact Nat.le_add_right _ _
      · rw [z]; exact Nat.le_refl _
    exact I1.fpOk hle (I1.hok.fresh hle)
/-- the loop over enumerate of a tuple that stands still -/
theorem for_enumT {K : PySem.W.Frag} {a : Addr} {xs : List V} {g : TG} {tb : TS} {D : Ends} {σ : L2.St} {H : Hp} (Pv : Nat → L2.St → Hp → Prop) (h0 : Pv 0 σ H) (hl : ∀ i σ H, i ≤ xs.length → Pv i σ H → SqT K H a xs)
    (hs : ∀ i x T σ H, xs[i]? = some x → Pv i σ H → H T = none → g (.ref T) σ (upd H T (.tup [.int (i : Nat), x])) fun σ2 H2 => tb { D with nx := Pv (i + 1), ct := Pv (i + 1), bk := D.nx } σ2 H2) (hd : ∀ σ H, Pv xs.length σ H → D.nx σ H) :
    ∃ W : Nat → Nat → L2.St → Hp → Prop, (∃ m, W 0 m σ H) ∧ ∀ i m σ H, W i m σ H →
      ((Itet K a).stop i H ∧ D.nx σ H) ∨ ((Itet K a).go i H ∧ ∃ N : L2.St → Hp → Prop, (∀ σ' H', N σ' H' → ∃ m', m' < m ∧ W (i + 1) m' σ' H') ∧ ∀ x H', (Itet K a).yld i H x H' → g x σ H' fun σ2 H2 => tb { D with nx := N, ct := N, bk := D.nx } σ2 H2) := by
  refine ⟨fun i m σ H => m = xs.length - i ∧ i ≤ xs.length ∧ Pv i σ H, ⟨xs.length, by simp, Nat.zero_le _, h0⟩, ?_⟩
  rintro i m σ H ⟨rfl, hi, p⟩
  have q := hl i σ H hi p
  by_cases hlt : i < xs.length
  · refine .inr ⟨⟨xs, xs[i], q, by simp [hlt]⟩, Pv (i + 1), fun σ' H' p' => ⟨xs.length - (i + 1), by omega, rfl, hlt, p'⟩, fun x H' y => ?_⟩
    obtain ⟨T, x0, e, nT, eH, y⟩ := y
    subst e eH
    exact hs i x0 T σ _ (y xs q) p nT
  · have e : i = xs.length := by omega
    subst e
    exact .inl ⟨⟨xs, q, Nat.le_refl _⟩, hd σ H p⟩
end K9
end
section
set_option Elab.async false
set_option linter.all false
set_option maxRecDepth 100000
/-! The mirror: entries as a tree, runs as one function, all answers; plain lemmas. -/
namespace K9
open PySem PySem.Spec PyProof.Rows L2
/-- a row of entries: rules (module, actions) and stacks -/
inductive Es where
  | nil
  | rule (m : Str) (as : List V) (r : Es)
  | stk (i : Es) (r : Es)
abbrev Rl := Str × List V
def rls : Es → List Rl
  | .nil => []
  | .rule m as r => (m, as) :: rls r
  | .stk i r => rls i ++ rls r
def dep : Es → Nat
  | .nil => 1
  | .rule _ _ r => dep r
  | .stk i r => max (dep i + 1) (dep r)
def len : Es → Nat
  | .nil => 0
  | .rule _ _ r => len r + 1
  | .stk _ r => len r + 1
def dropE : Nat → Es → Es
  | 0, e => e
  | _ + 1, .nil => .nil
  | n + 1, .rule _ _ r => dropE n r
  | n + 1, .stk _ r => dropE n r
def appE : Es → Es → Es
  | .nil, e => e
  | .rule m as r, e => .rule m as (appE r e)
  | .stk i r, e => .stk i (appE r e)
abbrev cnt (e : Es) : Nat := (rls e).length
theorem one_le_dep : ∀ e : Es, 1 ≤ dep e
  | .nil => Nat.le_refl _
  | .rule _ _ r => one_le_dep r
  | .stk i r => Nat.le_trans (one_le_dep r) (Nat.le_max_right _ _)
theorem rls_app : ∀ e f : Es, rls (appE e f) = rls e ++ rls f
  | .nil, _ => rfl
  | .rule m as r, f => by show (m, as) :: rls (appE r f) = _; rw [rls_app r f]; rfl
  | .stk i r, f => by show rls i ++ rls (appE r f) = _; rw [rls_app r f, ← List.append_assoc]; rfl
theorem dep_app : ∀ e f : Es, dep (appE e f) = max (dep e) (dep f)
  | .nil, f => by show dep f = max 1 (dep f); have := one_le_dep f; omega
  | .rule m as r, f => dep_app r f
  | .stk i r, f => by show max (dep i + 1) (dep (appE r f)) = max (max (dep i + 1) (dep r)) (dep f); rw [dep_app r f]; omega
theorem len_app : ∀ e f : Es, len (appE e f) = len e + len f
  | .nil, f => by show len f = 0 + len f; omega
  | .rule m as r, f => by show len (appE r f) + 1 = len r + 1 + len f; rw [len_app r f]; omega
  | .stk i r, f => by show len (appE r f) + 1 = len r + 1 + len f; rw [len_app r f]; omega
theorem app_nil : ∀ e : Es, appE e .nil = e
  | .nil => rfl
  | .rule m as r => by show Es.rule m as (appE r .nil) = _; rw [app_nil r]
  | .stk i r => by show Es.stk i (appE r .nil) = _; rw [app_nil r]
theorem app_assoc : ∀ e f g : Es, appE (appE e f) g = appE e (appE f g)
  | .nil, _, _ => rfl
  | .rule m as r, f, g => by show Es.rule m as (appE (appE r f) g) = Es.rule m as (appE r (appE f g)); rw [app_assoc r f g]
  | .stk i r, f, g => by show Es.stk i (appE (appE r f) g) = Es.stk i (appE r (appE f g)); rw [app_assoc r f g]
theorem dropE_add : ∀ (n m : Nat) (e : Es), dropE (n + m) e = dropE m (dropE n e)
  | 0, m, e => by rw [Nat.zero_add]; rfl
  | n + 1, m, .nil => by
    rw [show n + 1 + m = (n + m) + 1 by omega]
    show Es.nil = dropE m .nil
    cases m <;> rfl
  | n + 1, m, .rule _ _ r => by
    rw [show n + 1 + m = (n + m) + 1 by omega]
    exact dropE_add n m r
  | n + 1, m, .stk _ r => by
    rw [show n + 1 + m = (n + m) + 1 by omega]
    exact dropE_add n m r
/-! ### marks and runs -/
inductive Mk3 | none | good | bad
deriving DecidableEq
def sOk : Str := "ok"
def sBad : Str := "bad"
def sDie : Str := "die"
def sDone : Str := "done"
def sIgn : Str := "ignore"
def sRst : Str := "reset"
def actWs : List Str := ["ok", "bad", "die", "done", "ignore", "reset"]
/-- one of the six words, or a number 1 to 9 -/
def ActOk (a : V) : Prop := (∃ w ∈ actWs, a = .str w) ∨ ∃ n : Int, a = .int n ∧ 1 ≤ n ∧ n ≤ 9
def act (a : V) (mk b : Mk3) : Mk3 :=
  if a = .str "ok" ∨ a = .str "done" then (if mk = .none then .good else mk)
  else if a = .str "bad" ∨ a = .str "die" then .bad
  else if a = .str "reset" then b else mk
def stops (a : V) (mk : Mk3) : Bool := decide (a = .str "die") || (decide (a = .str "done") && decide (mk = .good))
def jump : V → Nat
  | .int n => n.toNat
  | _ => 0
def actAt (f : Str → Nat) (m : Str) (as : List V) : V := as.getD (f m) .non
/-- the mark behind a row of entries, the first n of them passed over -/
def ran (f : Str → Nat) : Es → Mk3 → Nat → Mk3 → Mk3
  | .nil, _, _, mk => mk
  | .rule _ _ r, b, n + 1, mk => ran f r b n mk
  | .stk _ r, b, n + 1, mk => ran f r b n mk
  | .rule m as r, b, 0, mk => if stops (actAt f m as) (act (actAt f m as) mk b) = true then act (actAt f m as) mk b else ran f r b (jump (actAt f m as)) (act (actAt f m as) mk b)
  | .stk i r, b, 0, mk => ran f r b 0 (ran f i mk 0 mk)
theorem ran_drop (f : Str → Nat) : ∀ (n : Nat) (e : Es) (b mk : Mk3), ran f (dropE n e) b 0 mk = ran f e b n mk
  | 0, e, b, mk => rfl
  | n + 1, .nil, b, mk => rfl
  | n + 1, .rule _ _ r, b, mk => ran_drop f n r b mk
  | n + 1, .stk _ r, b, mk => ran_drop f n r b mk
theorem ran_congr {f g : Str → Nat} : ∀ (e : Es) (b : Mk3) (n : Nat) (mk : Mk3), (∀ p ∈ rls e, f p.1 = g p.1) → ran f e b n mk = ran g e b n mk
  | .nil, _, _, _, _ => rfl
  | .rule m as r, b, n + 1, mk, h => ran_congr r b n mk fun p hp => h p (List.mem_cons_of_mem _ hp)
  | .stk i r, b, n + 1, mk, h => ran_congr r b n mk fun p hp => h p (List.mem_append_right _ hp)
  | .rule m as r, b, 0, mk, h => by
    have e : f m = g m := h (m, as) (List.mem_cons_self ..)
    have ea : actAt f m as = actAt g m as := by unfold actAt; rw [e]
    show (if _ then _ else _) = (if _ then _ else _)
    rw [ea, ran_congr (f := f) (g := g) r b _ _ fun p hp => h p (List.mem_cons_of_mem _ hp)]
  | .stk i r, b, 0, mk, h => by
    show ran f r b 0 (ran f i mk 0 mk) = ran g r b 0 (ran g i mk 0 mk)
    rw [ran_congr (f := f) (g := g) i mk 0 mk fun p hp => h p (List.mem_append_left _ hp), ran_congr (f := f) (g := g) r b 0 _ fun p hp => h p (List.mem_append_right _ hp)]
/-- whether it leads in -/
def win (f : Str → Nat) (e : Es) : Bool := decide (ran f e .none 0 .none = .good)
def inW (b : Bool) : Str := if b = true then "in" else "out"
theorem inW_inj {a b : Bool} (h : inW a = inW b) : a = b := by
  cases a <;> cases b
  · rfl
  · exact absurd h (by decide +kernel)
  · exact absurd h (by decide +kernel)
  · rfl
/-! ### all answers -/
def ress : List Str := ["yes", "no", "skip", "gone"]
def rix (r : Str) : Nat := ress.idxOf r
def allC : Nat → List (List Str)
  | 0 => [[]]
  | n + 1 => (allC n).flatMap fun c => ress.map fun r => c ++ [r]
theorem allC_len : ∀ n, (allC n).length = 4 ^ n
  | 0 => rfl
  | n + 1 => by
    show ((allC n).flatMap fun c => ress.map fun r => c ++ [r]).length = 4 ^ (n + 1)
    rw [List.length_flatMap]
    have : ((allC n).map fun c => (ress.map fun r => c ++ [r]).length) = List.replicate (allC n).length 4 := by
      rw [List.eq_replicate_iff]
      refine ⟨by rw [List.length_map], fun x hx => ?_⟩
      obtain ⟨c, _, e⟩ := List.mem_map.mp hx
      rw [← e, List.length_map]
      rfl
    rw [this, List.sum_replicate_nat, allC_len n, Nat.pow_succ]
theorem allC_mem : ∀ n c, c ∈ allC n → c.length = n ∧ ∀ r ∈ c, r ∈ ress
  | 0, c, h => by
    rw [List.mem_singleton.mp h]
    exact ⟨rfl, fun r hr => nomatch hr⟩
  | n + 1, c, h => by
    obtain ⟨d, hd, h⟩ := List.mem_flatMap.mp h
    obtain ⟨r, hr, e⟩ := List.mem_map.mp h
    obtain ⟨h1, h2⟩ := allC_mem n d hd
    subst e
    refine ⟨by rw [List.length_append, h1]; rfl, fun q hq => ?_⟩
    rcases List.mem_append.mp hq with hq | hq
    · exact h2 q hq
    · rw [List.mem_singleton.mp hq]; exact hr
/-- the place of the result of a module -/
def lk : List Str → List Str → Str → Nat
  | n :: ns, c :: cs, m => if n = m then rix c else lk ns cs m
  | _, _, _ => 0
/-- the answers as the dict's pairs -/
def kvsOf (ns c : List Str) : List (Key × V) := (ns.map Sum.inr).zip (c.map V.str)
theorem kvs_len {ns c : List Str} (h : c.length = ns.length) : (kvsOf ns c).length = ns.length := by
  unfold kvsOf
  rw [List.length_zip, List.length_map, List.length_map, h, Nat.min_self]
theorem kvs_val : ∀ {ns c : List Str} {m : Str}, c.length = ns.length → (∀ r ∈ c, r ∈ ress) → m ∈ ns → ∃ r, valV (kvsOf ns c) (Sum.inr m) = some (.str r) ∧ r ∈ ress ∧ rix r = lk ns c m
  | [], _, m, _, _, h => nomatch h
  | n :: ns, [], m, h, _, _ => nomatch h
  | n :: ns, c :: cs, m, h, hr, hm => by
    by_cases e : n = m
    · refine ⟨c, ?_, hr c (List.mem_cons_self ..), ?_⟩
      · exact valV_pos (p := ((Sum.inr n : Key), V.str c)) (congrArg Sum.inr e)
      · show rix c = if n = m then rix c else _
        rw [if_pos e]
    · have hm' : m ∈ ns := by
        rcases List.mem_cons.mp hm with q | q
        · exact absurd q.symm e
        · exact q
      obtain ⟨r, h1, h2, h3⟩ := kvs_val (ns := ns) (c := cs) (m := m) (Nat.succ.inj h) (fun r q => hr r (List.mem_cons_of_mem _ q)) hm'
      refine ⟨r, ?_, h2, ?_⟩
      · rw [← h1]
        exact valV_neg (p := ((Sum.inr n : Key), V.str c)) (fun z => e (Sum.inr.inj z))
      · show rix r = if n = m then rix c else lk ns cs m
        rw [if_neg e]; exact h3
theorem kvs_none : ∀ {ns c : List Str} {m : Str}, m ∉ ns → valV (kvsOf ns c) (Sum.inr m) = none
  | [], _, _, _ => rfl
  | _ :: _, [], _, _ => rfl
  | n :: ns, c :: cs, m, h => by
    rw [show kvsOf (n :: ns) (c :: cs) = ((Sum.inr n : Key), V.str c) :: kvsOf ns cs from rfl, valV_neg (fun z => h (by rw [Sum.inr.inj z]; exact List.mem_cons_self ..))]
    exact kvs_none fun z => h (List.mem_cons_of_mem _ z)
theorem kvs_snoc {ns c : List Str} {m r : Str} (h : c.length = ns.length) : kvsOf (ns ++ [m]) (c ++ [r]) = kvsOf ns c ++ [(Sum.inr m, .str r)] := by
  unfold kvsOf
  rw [List.map_append, List.map_append, List.zip_append (by rw [List.length_map, List.length_map, h])]
  rfl
theorem merge_one {kvs : List (Key × V)} {k : Key} {v : V} (h : valV kvs k = none) : mergeK kvs [(k, v)] = kvs ++ [(k, v)] := by
  show putK kvs k v = _
  exact putK_new v h
/-- no key twice: merging into nothing gives the pairs -/
theorem merge_app : ∀ (ls : List (Key × V)) (kvs : List (Key × V)), (∀ p ∈ ls, valV kvs p.1 = none) → (ls.map (·.1)).Nodup → mergeK kvs ls = kvs ++ ls
  | [], kvs, _, _ => (List.append_nil _).symm
  | p :: ls, kvs, h, nd => by
    rw [List.map_cons, List.nodup_cons] at nd
    have e1 : mergeK kvs (p :: ls) = mergeK (putK kvs p.1 p.2) ls := rfl
    rw [e1, putK_new p.2 (h p (List.mem_cons_self ..)), merge_app ls _ (fun q hq => ?_) nd.2, List.append_assoc]
    · rfl
    · rw [valV_snoc _ _ _ _ (h p (List.mem_cons_self ..)), if_neg (fun z => nd.1 (by rw [← z]; exact List.mem_map_of_mem hq)), h q (List.mem_cons_of_mem _ hq)]
theorem keys_kvs : ∀ {ns c : List Str}, c.length = ns.length → (kvsOf ns c).map (·.1) = ns.map Sum.inr
  | [], [], _ => rfl
  | [], _ :: _, h => nomatch h
  | _ :: _, [], h => nomatch h
  | n :: ns, c :: cs, h => by
    show Sum.inr n :: (kvsOf ns cs).map (·.1) = Sum.inr n :: ns.map Sum.inr
    rw [keys_kvs (Nat.succ.inj h)]
theorem merge_kvs {ns c : List Str} (nd : ns.Nodup) (h : c.length = ns.length) : mergeK [] (kvsOf ns c) = kvsOf ns c := by
  rw [merge_app (kvsOf ns c) [] (fun _ _ => rfl) ?_]
  · rfl
  · rw [keys_kvs h]
    exact List.pairwise_map.mpr (nd.imp fun h z => h (Sum.inr.inj z))
/-! ### the modules in order -/
/-- ns: the members of ms, each once, in order -/
def Nm (ns ms : List Str) : Prop := sortedS ns = true ∧ ns.Nodup ∧ ∀ m, m ∈ ns ↔ m ∈ ms
theorem rising_pair : ∀ (l : List Str) (p : Str), risingS p l = true → (∀ x ∈ l, ltCps x.cps.toList p.cps.toList = false) ∧ l.Pairwise fun a b => ltCps b.cps.toList a.cps.toList = false
  | [], p, _ => ⟨fun x hx => (List.not_mem_nil hx).elim, .nil⟩
  | x :: r, p, h => by
    have h' : (!ltCps x.cps.toList p.cps.toList && risingS x r) = true := h
    rw [Bool.and_eq_true, Bool.not_eq_true'] at h'
    obtain ⟨h1, h2⟩ := rising_pair r x h'.2
    refine ⟨fun y hy => ?_, .cons h1 h2⟩
    rcases List.mem_cons.mp hy with e | hy
    · rw [e]; exact h'.1
    · have a := h1 y hy
      have b := h'.1
      rw [ltCps_eq, decide_eq_false_iff_not] at a b ⊢
      exact List.le_trans b a
theorem sorted_pair : ∀ {l : List Str}, sortedS l = true → l.Pairwise fun a b => ltCps b.cps.toList a.cps.toList = false
  | [], _ => .nil
  | x :: r, h => .cons (rising_pair r x h).1 (rising_pair r x h).2
theorem str_ext {a b : Str} (h : a.cps.toList = b.cps.toList) : a = b := by
  obtain ⟨⟨x⟩⟩ := a
  obtain ⟨⟨y⟩⟩ := b
  simp only at h
  rw [h]
theorem sorted_inj : ∀ {l k : List Str}, l.Pairwise (fun a b => ltCps b.cps.toList a.cps.toList = false) → k.Pairwise (fun a b => ltCps b.cps.toList a.cps.toList = false) → l.Nodup → k.Nodup → (∀ m, m ∈ l ↔ m ∈ k) → l = k
  | [], [], _, _, _, _, _ => rfl
  | [], y :: k, _, _, _, _, h => absurd ((h y).mpr (List.mem_cons_self ..)) (List.not_mem_nil)
  | x :: l, [], _, _, _, _, h => absurd ((h x).mp (List.mem_cons_self ..)) (List.not_mem_nil)
  | x :: l, y :: k, p, q, nd, nd', h => by
    rw [List.pairwise_cons] at p q
    rw [List.nodup_cons] at nd nd'
    have e : x = y := by
      have hx := (h x).mp (List.mem_cons_self ..)
      have hy := (h y).mpr (List.mem_cons_self ..)
      rcases List.mem_cons.mp hx with e | hx
      · exact e
      rcases List.mem_cons.mp hy with e | hy
      · exact e.symm
      have a := q.1 x hx
      have b := p.1 y hy
      rw [ltCps_eq, decide_eq_false_iff_not] at a b
      exact str_ext (List.le_antisymm b a)
    subst e
    rw [sorted_inj p.2 q.2 nd.2 nd'.2 fun m => ?_]
    constructor
    · intro hm
      rcases List.mem_cons.mp ((h m).mp (List.mem_cons_of_mem _ hm)) with e | hm'
      · subst e; exact absurd hm nd.1
      · exact hm'
    · intro hm
      rcases List.mem_cons.mp ((h m).mpr (List.mem_cons_of_mem _ hm)) with e | hm'
      · subst e; exact absurd hm nd'.1
      · exact hm'
theorem Nm.inj {a b ms ls : List Str} (h : Nm a ms) (k : Nm b ls) (e : ∀ m, m ∈ ms ↔ m ∈ ls) : a = b :=
  sorted_inj (sorted_pair h.1) (sorted_pair k.1) h.2.1 k.2.1 fun m => (h.2.2 m).trans ((e m).trans (k.2.2 m).symm)
/-- among known names there are no more -/
theorem nodup_le : ∀ {l k : List Str}, l.Nodup → (∀ m ∈ l, m ∈ k) → l.length ≤ k.length
  | [], _, _, _ => Nat.zero_le _
  | x :: l, k, nd, h => by
    rw [List.nodup_cons] at nd
    have hx := h x (List.mem_cons_self ..)
    have ih := nodup_le (l := l) (k := k.erase x) nd.2 fun m hm => (List.mem_erase_of_ne (fun z => nd.1 (by rw [← z]; exact hm))).mpr (h m (List.mem_cons_of_mem _ hm))
    rw [List.length_erase_of_mem hx] at ih
    have : 0 < k.length := List.length_pos_of_mem hx
    rw [List.length_cons]
    omega
theorem nm_le {a ms ks : List Str} (h : Nm a ms) (hk : ∀ m ∈ ms, m ∈ ks) : a.length ≤ ks.length :=
  nodup_le h.2.1 fun m hm => hk m ((h.2.2 m).mp hm)
def mods (e : Es) : List Str := (rls e).map (·.1)
theorem mods_app (e f : Es) : mods (appE e f) = mods e ++ mods f := by unfold mods; rw [rls_app, List.map_append]
/-! ### the comparisons -/
/-- the first answers that tell two stacks apart -/
def firstD (e f : Es) (ns : List Str) : Option (List Str) := (allC ns.length).find? fun c => win (lk ns c) e != win (lk ns c) f
theorem firstD_comm (e f : Es) (ns : List Str) : firstD e f ns = firstD f e ns := by
  unfold firstD
  congr 1
  funext c
  cases win (lk ns c) e <;> cases win (lk ns c) f <;> rfl
def badC (e f : Es) (ns : List Str) : List (List Str) := (allC ns.length).filter fun c => win (lk ns c) e && !win (lk ns c) f
def strict (e f : Es) (ns : List Str) : Bool := ((allC ns.length).filter fun c => win (lk ns c) e).all fun c => win (lk ns c) f
theorem strict_bad (e f : Es) (ns : List Str) : strict e f ns = (badC e f ns).isEmpty := by
  unfold strict badC
  induction allC ns.length with
  | nil => rfl
  | cons c l ih =>
    rw [List.filter_cons, List.filter_cons]
    cases h1 : win (lk ns c) e <;> cases h2 : win (lk ns c) f <;> simp [h2, ih]
theorem strict_both {e f : Es} {ns : List Str} (h : strict e f ns = true) (k : strict f e ns = true) : firstD e f ns = none := by
  unfold firstD
  rw [List.find?_eq_none]
  intro c hc
  unfold strict at h k
  rw [List.all_eq_true] at h k
  cases h1 : win (lk ns c) e <;> cases h2 : win (lk ns c) f
  · simp
  · exact absurd (k c (List.mem_filter.mpr ⟨hc, h2⟩)) (by rw [h1]; simp)
  · exact absurd (h c (List.mem_filter.mpr ⟨hc, h1⟩)) (by rw [h2]; simp)
  · simp
theorem firstD_self (e : Es) (ns : List Str) : firstD e e ns = none := by
  unfold firstD
  rw [List.find?_eq_none]
  intro c hc
  simp
theorem firstD_mem {e f : Es} {ns c : List Str} (h : firstD e f ns = some c) : c ∈ allC ns.length := List.mem_of_find?_eq_some h
end K9
end
section
set_option Elab.async false
set_option linter.all false
set_option maxRecDepth 100000
/-! What stands in the heap: the law's plain stacks, the program's stacks. -/
namespace K9
open PySem PySem.Spec PyProof.Rows L2
/-! ### heaps that grow -/
theorem Same.new {H H' : Hp} {p : Addr} {o : HO} (h : Same H H') (hp : H' p = none) : Same H (upd H' p o) := fun b u e => by
  rw [upd_ne (ne_of_none (h b u e) hp)]
  exact h b u e
theorem Same.own {H H' : Hp} {p : Addr} {o : HO} (h : Same H H') (hp : H p = none) : Same H (upd H' p o) := fun b u e => by
  rw [upd_ne (ne_of_none e hp)]
  exact h b u e
theorem SqT.same {K : PySem.W.Frag} {H H' : Hp} {a : Addr} {xs : List V} (e : Same H H') (h : SqT K H a xs) : SqT K H' a xs := by
  rcases h with (h | ⟨o, h⟩) | h
  · exact .inl (.inl (e _ _ h))
  · exact .inl (.inr ⟨o, e _ _ h⟩)
  · exact .inr h
/-- all but what stands at r is as it was -/
def But (r : Addr) (H H' : Hp) : Prop := ∀ b o, b ≠ r → H b = some o → H' b = some o
theorem But.refl {r : Addr} (H : Hp) : But r H H := fun _ _ _ e => e
theorem But.trans {r : Addr} {H H1 H2 : Hp} (a : But r H H1) (b : But r H1 H2) : But r H H2 := fun c o n e => b c o n (a c o n e)
theorem But.of {r : Addr} {H H' : Hp} (h : Same H H') : But r H H' := fun b o _ e => h b o e
theorem But.new {r p : Addr} {H H' : Hp} {o : HO} (h : But r H H') (hp : H' p = none) : But r H (upd H' p o) := fun b u n e => by
  rw [upd_ne (ne_of_none (h b u n e) hp)]
  exact h b u n e
theorem But.own {r p : Addr} {H H' : Hp} {o : HO} (h : But r H H') (hp : H p = none) : But r H (upd H' p o) := fun b u n e => by
  rw [upd_ne (ne_of_none e hp)]
  exact h b u n e
theorem But.at {r : Addr} {H H' : Hp} {o : HO} (h : But r H H') : But r H (upd H' r o) := fun b u n e => by
  rw [upd_ne n]
  exact h b u n e
theorem But.seqL {K : PySem.W.Frag} {H H' : Hp} {r a : Addr} {xs : List V} (e : But r H H') (n : a ≠ r) (h : SqL K H a xs) : SqL K H' a xs := by
  rcases h with (h | ⟨o, h⟩) | h
  · exact .inl (.inl (e _ _ n h))
  · exact .inl (.inr ⟨o, e _ _ n h⟩)
  · exact .inr h
/-- what is there without r; what is new since H -/
def cut (r : Addr) (H : Hp) : Hp := fun b => if b = r then none else H b
def fresh (H H' : Hp) : Hp := fun b => match H b with
  | none => H' b
  | some _ => none
theorem cut_sub (r : Addr) (H : Hp) : Same (cut r H) H := fun b o e => by
  unfold cut at e
  split at e
  · cases e
  · exact e
theorem cut_of {r b : Addr} {H : Hp} {o : HO} (n : b ≠ r) (e : H b = some o) : cut r H b = some o := by unfold cut; rw [if_neg n]; exact e
theorem cut_some {r b : Addr} {H : Hp} {o : HO} (e : cut r H b = some o) : b ≠ r ∧ H b = some o := by
  unfold cut at e
  split at e
  · cases e
  · rename_i h; exact ⟨h, e⟩
theorem fresh_some {H H' : Hp} {b : Addr} {o : HO} (e : fresh H H' b = some o) : H b = none ∧ H' b = some o := by
  unfold fresh at e
  split at e
  · rename_i h; exact ⟨h, e⟩
  · cases e
theorem fresh_of {H H' : Hp} {b : Addr} {o : HO} (n : H b = none) (e : H' b = some o) : fresh H H' b = some o := by unfold fresh; rw [n]; exact e
theorem fresh_sub (H H' : Hp) : Same (fresh H H') H' := fun b o e => (fresh_some e).2
theorem fresh_cut {H H' : Hp} {r : Addr} {u : HO} (hr : H r = some u) : Same (fresh H H') (cut r H') := fun b o e => by
  obtain ⟨n, e⟩ := fresh_some e
  exact cut_of (fun z => by rw [z, hr] at n; cases n) e
theorem But.dom {r : Addr} {H H' : Hp} {u : HO} (h : But r H H') (hr : H' r = some u) {b : Addr} (e : H' b = none) : H b = none := by
  cases q : H b with
  | none => rfl
  | some v =>
    by_cases z : b = r
    · rw [z, hr] at e; cases e
    · rw [h b v z q] at e; cases e
/-- from an inner call: its new things are new to the outer one -/
theorem fresh_in {H H1 H2 : Hp} (hd : ∀ b, H1 b = none → H b = none) : Same (fresh H1 H2) (fresh H H2) := fun b o e => by
  obtain ⟨n, e⟩ := fresh_some e
  exact fresh_of (hd b n) e
theorem fresh_keep {H H' H'' : Hp} (k : ∀ b o, H b = none → H' b = some o → H'' b = some o) : Same (fresh H H') (fresh H H'') := fun b o e => by
  obtain ⟨n, e⟩ := fresh_some e
  exact fresh_of n (k b o n e)
/-! ### rows of entries, by what stands for a rule and for a stack -/
def EL (fr : Rl → V → Prop) (fs : (List V → Prop) → Es → V → Prop) : Es → List V → Prop
  | .nil, xs => xs = []
  | .rule m as r, xs => ∃ v ys, xs = v :: ys ∧ fr (m, as) v ∧ EL fr fs r ys
  | .stk i r, xs => ∃ v ys, xs = v :: ys ∧ fs (EL fr fs i) i v ∧ EL fr fs r ys
section
variable {fr fr' : Rl → V → Prop} {fs fs' : (List V → Prop) → Es → V → Prop}
theorem EL.mono (h1 : ∀ r v, fr r v → fr' r v) (h2 : ∀ P P' i v, (∀ xs, P xs → P' xs) → fs P i v → fs' P' i v) : ∀ (e : Es) (xs : List V), EL fr fs e xs → EL fr' fs' e xs
  | .nil, _, h => h
  | .rule m as r, _, ⟨v, ys, e, a, b⟩ => ⟨v, ys, e, h1 _ _ a, EL.mono h1 h2 r ys b⟩
  | .stk i r, _, ⟨v, ys, e, a, b⟩ => ⟨v, ys, e, h2 _ _ _ _ (EL.mono h1 h2 i) a, EL.mono h1 h2 r ys b⟩
theorem EL.length : ∀ (e : Es) (xs : List V), EL fr fs e xs → xs.length = len e
  | .nil, _, h => by rw [(show _ = [] from h)]; rfl
  | .rule m as r, _, ⟨v, ys, e, a, b⟩ => by rw [e, List.length_cons, EL.length r ys b]; rfl
  | .stk i r, _, ⟨v, ys, e, a, b⟩ => by rw [e, List.length_cons, EL.length r ys b]; rfl
theorem EL.app : ∀ {e f : Es} {xs ys : List V}, EL fr fs e xs → EL fr fs f ys → EL fr fs (appE e f) (xs ++ ys)
  | .nil, f, xs, ys, h, k => by rw [(show xs = [] from h)]; exact k
  | .rule m as r, f, _, _, ⟨v, zs, e, a, b⟩, k => by subst e; exact ⟨v, _, rfl, a, EL.app b k⟩
  | .stk i r, f, _, _, ⟨v, zs, e, a, b⟩, k => by subst e; exact ⟨v, _, rfl, a, EL.app b k⟩
theorem EL.drop : ∀ (n : Nat) {e : Es} {xs : List V}, EL fr fs e xs → EL fr fs (dropE n e) (xs.drop n)
  | 0, _, _, h => h
  | n + 1, .nil, xs, h => by rw [(show xs = [] from h)]; rfl
  | n + 1, .rule m as r, _, ⟨v, zs, e, a, b⟩ => by subst e; exact EL.drop n b
  | n + 1, .stk i r, _, ⟨v, zs, e, a, b⟩ => by subst e; exact EL.drop n b
theorem EL.end_ {e : Es} {xs : List V} {n : Nat} (h : EL fr fs e xs) (hn : xs.length ≤ n) : dropE n e = .nil := by
  have k := EL.drop n h
  rw [List.drop_of_length_le hn] at k
  cases q : dropE n e with
  | nil => rfl
  | rule m as r => rw [q] at k; obtain ⟨_, _, e, _⟩ := k; cases e
  | stk i r => rw [q] at k; obtain ⟨_, _, e, _⟩ := k; cases e
/-- the entry at i -/
theorem EL.at {e : Es} {xs : List V} {i : Nat} {x : V} (h : EL fr fs e xs) (hi : xs[i]? = some x) :
    (∃ m as, dropE i e = .rule m as (dropE (i + 1) e) ∧ fr (m, as) x) ∨ ∃ j, dropE i e = .stk j (dropE (i + 1) e) ∧ fs (EL fr fs j) j x := by
  have k := EL.drop i h
  have hd : xs.drop i = x :: xs.drop (i + 1) := by
    obtain ⟨h1, h2⟩ := List.getElem?_eq_some_iff.mp hi
    rw [List.drop_eq_getElem_cons h1, h2]
  rw [hd] at k
  rw [dropE_add i 1 e]
  cases q : dropE i e with
  | nil => rw [q] at k; exact absurd k (List.cons_ne_nil _ _)
  | rule m as r =>
    rw [q] at k
    obtain ⟨v, ys, e, a, b⟩ := k
    injection e with e1 e2
    subst e1
    exact .inl ⟨m, as, rfl, a⟩
  | stk j r =>
    rw [q] at k
    obtain ⟨v, ys, e, a, b⟩ := k
    injection e with e1 e2
    subst e1
    exact .inr ⟨j, rfl, a⟩
end
theorem rls_drop : ∀ (n : Nat) (e : Es), ∃ d, rls e = d ++ rls (dropE n e)
  | 0, e => ⟨[], rfl⟩
  | n + 1, .nil => ⟨[], rfl⟩
  | n + 1, .rule m as r => by obtain ⟨d, h⟩ := rls_drop n r; exact ⟨(m, as) :: d, by show (m, as) :: rls r = _; rw [h]; rfl⟩
  | n + 1, .stk i r => by obtain ⟨d, h⟩ := rls_drop n r; exact ⟨rls i ++ d, by show rls i ++ rls r = _; rw [h, List.append_assoc]; rfl⟩
theorem cnt_drop (n : Nat) (e : Es) : cnt (dropE n e) ≤ cnt e := by
  obtain ⟨d, h⟩ := rls_drop n e
  show (rls _).length ≤ (rls e).length
  rw [h, List.length_append]
  omega
theorem mem_drop {n : Nat} {e : Es} {p : Rl} (h : p ∈ rls (dropE n e)) : p ∈ rls e := by
  obtain ⟨d, k⟩ := rls_drop n e
  rw [k]
  exact List.mem_append_right _ h
theorem dep_drop : ∀ (n : Nat) (e : Es), dep (dropE n e) ≤ dep e
  | 0, e => Nat.le_refl _
  | n + 1, .nil => Nat.le_refl _
  | n + 1, .rule _ _ r => dep_drop n r
  | n + 1, .stk i r => Nat.le_trans (dep_drop n r) (Nat.le_max_right _ _)
theorem dep_in {n : Nat} {e j r : Es} (h : dropE n e = .stk j r) : dep j + 1 ≤ dep e := by
  have k := dep_drop n e
  rw [h] at k
  exact Nat.le_trans (Nat.le_max_left _ _) k
theorem cnt_in {n : Nat} {e j r : Es} (h : dropE n e = .stk j r) : cnt j + cnt r ≤ cnt e := by
  have k := cnt_drop n e
  rw [h] at k
  show (rls j).length + (rls r).length ≤ _
  rw [← List.length_append]
  exact k
theorem cnt_at {n : Nat} {e r : Es} {m : Str} {as : List V} (h : dropE n e = .rule m as r) : cnt r + 1 ≤ cnt e := by
  have k := cnt_drop n e
  rw [h] at k
  exact k
theorem mem_in {n : Nat} {e j r : Es} {p : Rl} (h : dropE n e = .stk j r) (hp : p ∈ rls j) : p ∈ rls e := mem_drop (n := n) (by rw [h]; exact List.mem_append_left _ hp)
theorem mem_at {n : Nat} {e r : Es} {m : Str} {as : List V} (h : dropE n e = .rule m as r) : (m, as) ∈ rls e := mem_drop (n := n) (by rw [h]; exact List.mem_cons_self ..)
/-- the greatest number of entries of a stack within -/
def wid : Es → Nat
  | .nil => 0
  | .rule _ _ r => wid r
  | .stk i r => max (max (len i) (wid i)) (wid r)
theorem wid_app : ∀ e f : Es, wid (appE e f) = max (wid e) (wid f)
  | .nil, f => by show wid f = max 0 (wid f); omega
  | .rule m as r, f => wid_app r f
  | .stk i r, f => by show max (max (len i) (wid i)) (wid (appE r f)) = max (max (max (len i) (wid i)) (wid r)) (wid f); rw [wid_app r f]; omega
theorem wid_drop : ∀ (n : Nat) (e : Es), wid (dropE n e) ≤ wid e
  | 0, e => Nat.le_refl _
  | n + 1, .nil => Nat.le_refl _
  | n + 1, .rule _ _ r => wid_drop n r
  | n + 1, .stk i r => Nat.le_trans (wid_drop n r) (Nat.le_max_right _ _)
theorem wid_in {n : Nat} {e j r : Es} (h : dropE n e = .stk j r) : len j ≤ wid e ∧ wid j ≤ wid e := by
  have k := wid_drop n e
  rw [h] at k
  have k : max (max (len j) (wid j)) (wid r) ≤ wid e := k
  omega
/-! ### the law's plain stacks -/
def plR (A : Hp) (r : Rl) (v : V) : Prop := ∃ p t, v = .ref p ∧ A p = some (.tup [.str r.1, .ref t]) ∧ A t = some (.tup r.2)
def plS (A : Hp) (P : List V → Prop) (_ : Es) (v : V) : Prop := ∃ a zs, v = .ref a ∧ A a = some (.lst zs) ∧ P zs
abbrev PlL (A : Hp) : Es → List V → Prop := EL (plR A) (plS A)
theorem plR.mono {A B : Hp} (s : Same A B) {r : Rl} {v : V} : plR A r v → plR B r v := fun ⟨p, t, e, a, b⟩ => ⟨p, t, e, s _ _ a, s _ _ b⟩
theorem PlL.mono {A B : Hp} (s : Same A B) {e : Es} {xs : List V} (h : PlL A e xs) : PlL B e xs :=
  EL.mono (fun _ _ => plR.mono s) (fun _ _ _ _ k ⟨a, zs, q, x, y⟩ => ⟨a, zs, q, s _ _ x, k _ y⟩) e xs h
/-- the rules' own pairs, in a row -/
def RtL (A : Hp) (rs : List Rl) (vs : List V) : Prop := Paired (plR A) rs vs
theorem RtL.mono {A B : Hp} (s : Same A B) {rs : List Rl} {vs : List V} (h : RtL A rs vs) : RtL B rs vs := Paired.mapP h fun _ _ => plR.mono s
theorem paired_app {α β : Type} {F : α → β → Prop} : ∀ {a c : List α} {b d : List β}, Paired F a b → Paired F c d → Paired F (a ++ c) (b ++ d)
  | _, _, _, _, .nil, h => h
  | _, _, _, _, .cons x t, h => .cons x (paired_app t h)
theorem paired_get {α β : Type} {F : α → β → Prop} : ∀ {a : List α} {b : List β} {i : Nat} {y : β}, Paired F a b → b[i]? = some y → ∃ x, a[i]? = some x ∧ F x y
  | _, _, _, _, .nil, h => by simp at h
  | x :: a, z :: b, 0, y, .cons p t, h => ⟨x, rfl, by rw [← Option.some.inj h]; exact p⟩
  | x :: a, z :: b, i + 1, y, .cons p t, h => paired_get (i := i) t h
theorem paired_get' {α β : Type} {F : α → β → Prop} : ∀ {a : List α} {b : List β} {i : Nat} {x : α}, Paired F a b → a[i]? = some x → ∃ y, b[i]? = some y ∧ F x y
  | _, _, _, _, .nil, h => by simp at h
  | z :: a, y :: b, 0, x, .cons p t, h => ⟨y, rfl, by rw [← Option.some.inj h]; exact p⟩
  | z :: a, y :: b, i + 1, x, .cons p t, h => paired_get' (i := i) t h
/-! ### the program's stacks -/
def rf (m : Str) (t : Addr) : List (Str × V) := [("asks", V.str m), ("acts", V.ref t)]
def sf (pa st nm : Addr) (d : Int) : List (Str × V) := [("parts", V.ref pa), ("steps", V.ref st), ("names", V.ref nm), ("depth", V.int d)]
def stR (C : Addr) (A : Hp) (r : Rl) (v : V) : Prop := ∃ p dx t, v = .ref p ∧ A p = some (.ins C dx (rf r.1 t)) ∧ A t = some (.tup r.2)
def stS (C D : Addr) (A : Hp) (P : List V → Prop) (i : Es) (v : V) : Prop := ∃ p dx pa st nm zs ss ns, v = .ref p ∧ A p = some (.ins D dx (sf pa st nm (dep i))) ∧ A pa = some (.tup zs) ∧ P zs ∧
  A st = some (.tup ss) ∧ Paired (stR C A) (rls i) ss ∧ A nm = some (.tup (ns.map V.str)) ∧ Nm ns (mods i)
abbrev StL (C D : Addr) (A : Hp) : Es → List V → Prop := EL (stR C A) (stS C D A)
/-- a stack object -/
abbrev SkAt (C D : Addr) (A : Hp) (i : Es) (v : V) : Prop := stS C D A (StL C D A i) i v
theorem stR.mono {C : Addr} {A B : Hp} (s : Same A B) {r : Rl} {v : V} : stR C A r v → stR C B r v := fun ⟨p, dx, t, e, a, b⟩ => ⟨p, dx, t, e, s _ _ a, s _ _ b⟩
theorem stS.mono {C D : Addr} {A B : Hp} (s : Same A B) {P P' : List V → Prop} {i : Es} {v : V} (k : ∀ xs, P xs → P' xs) : stS C D A P i v → stS C D B P' i v :=
  fun ⟨p, dx, pa, st, nm, zs, ss, ns, e, a, b, c, d, f, g, h⟩ => ⟨p, dx, pa, st, nm, zs, ss, ns, e, s _ _ a, s _ _ b, k _ c, s _ _ d, Paired.mapP f fun _ _ => stR.mono s, s _ _ g, h⟩
theorem StL.mono {C D : Addr} {A B : Hp} (s : Same A B) {e : Es} {xs : List V} (h : StL C D A e xs) : StL C D B e xs :=
  EL.mono (fr := stR C A) (fr' := stR C B) (fs := stS C D A) (fs' := stS C D B) (fun _ _ q => stR.mono s q) (fun _ _ _ _ k q => stS.mono s k q) e xs h
theorem SkAt.mono {C D : Addr} {A B : Hp} (s : Same A B) {i : Es} {v : V} (h : SkAt C D A i v) : SkAt C D B i v := stS.mono s (fun _ => StL.mono s) h
theorem eF {a b : Str} (h : ¬ a = b) : (b == a) = false := beq_eq_false_iff_ne.mpr fun z => h z.symm
theorem rf_asks (m : Str) (t : Addr) : (rf m t).lookup ("asks" : Str) = some (.str m) := by
  show List.lookup _ (_ :: _) = _
  rw [List.lookup_cons_self]
theorem rf_acts (m : Str) (t : Addr) : (rf m t).lookup ("acts" : Str) = some (.ref t) := by
  show List.lookup _ (_ :: _ :: _) = _
  rw [List.lookup_cons, eF (by decide +kernel), List.lookup_cons_self]
theorem rf_no (m : Str) (t : Addr) {f : Str} (h1 : ¬ ("asks" : Str) = f) (h2 : ¬ ("acts" : Str) = f) : (rf m t).lookup f = none := by
  show List.lookup _ (_ :: _ :: _) = _
  rw [List.lookup_cons, eF h1, List.lookup_cons, eF h2]
  rfl
theorem sf_parts (pa st nm : Addr) (d : Int) : (sf pa st nm d).lookup ("parts" : Str) = some (.ref pa) := by
  show List.lookup _ (_ :: _) = _
  rw [List.lookup_cons_self]
theorem sf_steps (pa st nm : Addr) (d : Int) : (sf pa st nm d).lookup ("steps" : Str) = some (.ref st) := by
  show List.lookup _ (_ :: _ :: _) = _
  rw [List.lookup_cons, eF (by decide +kernel), List.lookup_cons_self]
theorem sf_names (pa st nm : Addr) (d : Int) : (sf pa st nm d).lookup ("names" : Str) = some (.ref nm) := by
  show List.lookup _ (_ :: _ :: _ :: _) = _
  rw [List.lookup_cons, eF (by decide +kernel), List.lookup_cons, eF (by decide +kernel), List.lookup_cons_self]
theorem sf_depth (pa st nm : Addr) (d : Int) : (sf pa st nm d).lookup ("depth" : Str) = some (.int d) := by
  show List.lookup _ (_ :: _ :: _ :: _ :: _) = _
  rw [List.lookup_cons, eF (by decide +kernel), List.lookup_cons, eF (by decide +kernel), List.lookup_cons, eF (by decide +kernel), List.lookup_cons_self]
theorem sf_no (pa st nm : Addr) (d : Int) {f : Str} (h1 : ¬ ("parts" : Str) = f) (h2 : ¬ ("steps" : Str) = f) (h3 : ¬ ("names" : Str) = f) (h4 : ¬ ("depth" : Str) = f) : (sf pa st nm d).lookup f = none := by
  show List.lookup _ (_ :: _ :: _ :: _ :: _) = _
  rw [List.lookup_cons, eF h1, List.lookup_cons, eF h2, List.lookup_cons, eF h3, List.lookup_cons, eF h4]
  rfl
theorem putF_nil (f : Str) (v : V) : putF f v [] = [(f, v)] := rfl
theorem putF_hit (f : Str) (v u : V) (r : List (Str × V)) : putF f v ((f, u) :: r) = (f, v) :: r := by
  show (if f = f then _ else _) = _
  rw [if_pos rfl]
theorem putF_miss {f g : Str} (h : ¬ f = g) (v u : V) (r : List (Str × V)) : putF f v ((g, u) :: r) = (g, u) :: putF f v r := by
  show (if _ then _ else _) = _
  first | rw [if_neg h] | rw [if_neg (fun z => h z.symm)]
theorem rf_put (m : Str) (t : Addr) : putF "acts" (.ref t) [("asks", .str m)] = rf m t := by
  rw [putF_miss (by decide +kernel), putF_nil]
  rfl
theorem sf_put_steps (pa st nm st' : Addr) (d : Int) : putF "steps" (.ref st') (sf pa st nm d) = sf pa st' nm d := by
  unfold sf
  rw [putF_miss (by decide +kernel), putF_hit]
theorem sf_put_names (pa st nm nm' : Addr) (d : Int) : putF "names" (.ref nm') (sf pa st nm d) = sf pa st nm' d := by
  unfold sf
  rw [putF_miss (by decide +kernel), putF_miss (by decide +kernel), putF_hit]
theorem sf_put_depth (pa st nm : Addr) (d d' : Int) : putF "depth" (.int d') (sf pa st nm d) = sf pa st nm d' := by
  unfold sf
  rw [putF_miss (by decide +kernel), putF_miss (by decide +kernel), putF_miss (by decide +kernel), putF_hit]
theorem sf_first (pa st nm : Addr) (d : Int) : putF "depth" (.int d) (putF "names" (.ref nm) (putF "steps" (.ref st) (putF "parts" (.ref pa) []))) = sf pa st nm d := by
  repeat (first | rw [putF_nil] | rw [putF_miss (by decide +kernel)])
  rfl
end K9
end
section
set_option Elab.async false
set_option linter.all false
set_option maxRecDepth 100000
set_option maxHeartbeats 4000000
/-! The text by places, scopes. -/
namespace K9
open PySem PySem.Spec PyProof.Rows L2
def topS (i : Nat) : Stmt := PySem.Challenge.pw_loginstacks_k09_whole_stacks_compared.main.body.getD i (.Pass ⟨0, 0, 0, 0⟩)
abbrev sNum : Stmt := topS 30
abbrev sWord : Stmt := topS 31
abbrev sAct : Stmt := topS 32
abbrev sTab : Stmt := topS 33
abbrev sRI : Stmt := inClass (topS 34) 0
abbrev sRA : Stmt := inClass (topS 34) 5
abbrev sSI : Stmt := inClass (topS 40) 0
abbrev sSA : Stmt := inClass (topS 40) 7
abbrev sSteps : Stmt := topS 41
abbrev sFirsts : Stmt := topS 42
abbrev sNI : Stmt := inClass (topS 48) 0
abbrev sNE : Stmt := inClass (topS 48) 1
abbrev sNO : Stmt := inClass (topS 48) 2
abbrev sMarked : Stmt := topS 49
abbrev sAllA : Stmt := topS 51
abbrev sBoth : Stmt := topS 53
abbrev sDiff : Stmt := topS 54
abbrev sAlike : Stmt := topS 55
abbrev sStrict : Stmt := topS 56
abbrev lTaken : Stmt := topS 58
abbrev lPick : Stmt := topS 59
abbrev lTable : Stmt := topS 60
abbrev lPlain : Stmt := topS 61
abbrev lNames : Stmt := topS 62
abbrev lRules : Stmt := topS 63
abbrev lModules : Stmt := topS 64
abbrev lMade : Stmt := topS 65
abbrev lAll : Stmt := topS 66
abbrev lActed : Stmt := topS 67
abbrev lRan : Stmt := topS 68
abbrev lRun : Stmt := topS 69
abbrev lWhere : Stmt := topS 70
abbrev lDrawn : Stmt := topS 71
abbrev lSame : Stmt := topS 72
abbrev lRaised : Stmt := topS 73
abbrev lOther : Stmt := topS 74
abbrev lLaw : Stmt := topS 75
theorem scNum : FnScope ["thing", "low", "high"] ["thing", "low", "high"] (defScope sNum) := ⟨rfl, rfl, rfl, by decide +kernel, rfl, by decide +kernel, by decide +kernel⟩
theorem scWord : FnScope ["thing", "letter"] ["thing"] (defScope sWord) := ⟨rfl, rfl, rfl, by decide +kernel, rfl, by decide +kernel, by decide +kernel⟩
theorem scAct : FnScope ["thing"] ["thing"] (defScope sAct) := ⟨rfl, rfl, rfl, by decide +kernel, rfl, by decide +kernel, by decide +kernel⟩
theorem scTab : FnScope ["control", "one"] ["control"] (defScope sTab) := ⟨rfl, rfl, rfl, by decide +kernel, rfl, by decide +kernel, by decide +kernel⟩
theorem scRI : FnScope ["self", "module", "control"] ["self", "module", "control"] (defScope sRI) := ⟨rfl, rfl, rfl, by decide +kernel, rfl, by decide +kernel, by decide +kernel⟩
theorem scRA : FnScope ["self", "result"] ["self", "result"] (defScope sRA) := ⟨rfl, rfl, rfl, by decide +kernel, rfl, by decide +kernel, by decide +kernel⟩
theorem scSI : FnScope ["self", "entries", "index", "entry", "is_stack", "rule"] (([("self" : Str)] : List Str) ++ [("entries" : Str)]) (defScope sSI) := ⟨rfl, rfl, rfl, by decide +kernel, rfl, by decide +kernel, by decide +kernel⟩
theorem scSA : FnScope ["self", "other", "parts"] ["self", "other"] (defScope sSA) := ⟨rfl, rfl, rfl, by decide +kernel, rfl, by decide +kernel, by decide +kernel⟩
theorem scSteps : FnScope ["entry"] ["entry"] (defScope sSteps) := ⟨rfl, rfl, rfl, by decide +kernel, rfl, by decide +kernel, by decide +kernel⟩
theorem scFirsts : FnScope ["stack", "first", "found", "entry"] ["stack", "first"] (defScope sFirsts) := ⟨rfl, rfl, rfl, by decide +kernel, rfl, by decide +kernel, by decide +kernel⟩
theorem scNI : FnScope ["self", "stack", "results"] ["self", "stack", "results"] (defScope sNI) := ⟨rfl, rfl, rfl, by decide +kernel, rfl, by decide +kernel, by decide +kernel⟩
theorem scNE : FnScope ["self", "stack", "first", "mark", "begin", "index", "firsts", "entry", "number", "action"] ["self", "stack", "first", "mark"] (defScope sNE) := ⟨rfl, rfl, rfl, by decide +kernel, rfl, by decide +kernel, by decide +kernel⟩
theorem scNO : FnScope ["self"] ["self"] (defScope sNO) := ⟨rfl, rfl, rfl, by decide +kernel, rfl, by decide +kernel, by decide +kernel⟩
theorem scMarked : FnScope ["action", "mark", "begin", "number"] ["action", "mark", "begin", "number"] (defScope sMarked) := ⟨rfl, rfl, rfl, by decide +kernel, rfl, by decide +kernel, by decide +kernel⟩
theorem scAllA : FnScope ["modules", "found", "name", "answers", "result"] ["modules"] (defScope sAllA) := ⟨rfl, rfl, rfl, by decide +kernel, rfl, by decide +kernel, by decide +kernel⟩
theorem scBoth : FnScope ["one", "other", "names", "answers"] ["one", "other"] (defScope sBoth) := ⟨rfl, rfl, rfl, by decide +kernel, rfl, by decide +kernel, by decide +kernel⟩
theorem scDiff : FnScope ["one", "other", "answers", "here", "there"] ["one", "other"] (defScope sDiff) := ⟨rfl, rfl, rfl, by decide +kernel, rfl, by decide +kernel, by decide +kernel⟩
theorem scAlike : FnScope ["one", "other"] ["one", "other"] (defScope sAlike) := ⟨rfl, rfl, rfl, by decide +kernel, rfl, by decide +kernel, by decide +kernel⟩
theorem scStrict : FnScope ["one", "other", "answers", "here", "there"] ["one", "other"] (defScope sStrict) := ⟨rfl, rfl, rfl, by decide +kernel, rfl, by decide +kernel, by decide +kernel⟩
theorem scTaken : FnScope ["_law_row", "_law_many", "_law_found", "_law_cell"] ["_law_row", "_law_many"] (defScope lTaken) := ⟨rfl, rfl, rfl, by decide +kernel, rfl, by decide +kernel, by decide +kernel⟩
theorem scPick : FnScope ["_law_row", "_law_some"] ["_law_row", "_law_some"] (defScope lPick) := ⟨rfl, rfl, rfl, by decide +kernel, rfl, by decide +kernel, by decide +kernel⟩
theorem scTable : FnScope ["_law_row", "_law_plain_here", "_law_words", "_law_acts", "_law_k"] ["_law_row", "_law_plain_here"] (defScope lTable) := ⟨rfl, rfl, rfl, by decide +kernel, rfl, by decide +kernel, by decide +kernel⟩
theorem scPlain : FnScope ["_law_row", "_law_names_here", "_law_most", "_law_deep", "_law_plain_here", "_law_found", "_law_left", "_law_k", "_law_inner"] ["_law_row", "_law_names_here", "_law_most", "_law_deep", "_law_plain_here"] (defScope lPlain) := ⟨rfl, rfl, rfl, by decide +kernel, rfl, by decide +kernel, by decide +kernel⟩
theorem scNames : FnScope ["_law_row", "_law_most", "_law_some", "_law_found", "_law_k"] ["_law_row", "_law_most"] (defScope lNames) := ⟨rfl, rfl, rfl, by decide +kernel, rfl, by decide +kernel, by decide +kernel⟩
theorem scRules : FnScope ["_law_plain_here", "_law_found", "_law_entry"] ["_law_plain_here"] (defScope lRules) := ⟨rfl, rfl, rfl, by decide +kernel, rfl, by decide +kernel, by decide +kernel⟩
theorem scModules : FnScope ["_law_plain_here", "_law_rule"] ["_law_plain_here"] (defScope lModules) := ⟨rfl, rfl, rfl, by decide +kernel, rfl, by decide +kernel, by decide +kernel⟩
theorem scMade : FnScope ["_law_plain_here", "_law_found", "_law_entry"] ["_law_plain_here"] (defScope lMade) := ⟨rfl, rfl, rfl, by decide +kernel, rfl, by decide +kernel, by decide +kernel⟩
theorem scAll : FnScope ["_law_names_here", "_law_found", "_law_name", "_law_longer", "_law_some", "_law_result"] ["_law_names_here"] (defScope lAll) := ⟨rfl, rfl, rfl, by decide +kernel, rfl, by decide +kernel, by decide +kernel⟩
theorem scActed : FnScope ["_law_action", "_law_mark", "_law_begin", "_law_number"] ["_law_action", "_law_mark", "_law_begin", "_law_number"] (defScope lActed) := ⟨rfl, rfl, rfl, by decide +kernel, rfl, by decide +kernel, by decide +kernel⟩
theorem scRan : FnScope ["_law_plain_here", "_law_answers", "_law_first", "_law_begin", "_law_mark", "_law_asked_ones", "_law_left", "_law_number", "_law_entry", "_law_many", "_law_more", "_law_action"] ["_law_plain_here", "_law_answers", "_law_first", "_law_begin"] (defScope lRan) := ⟨rfl, rfl, rfl, by decide +kernel, rfl, by decide +kernel, by decide +kernel⟩
theorem scRun : FnScope ["_law_plain_here", "_law_answers", "_law_mark", "_law_asked_ones"] ["_law_plain_here", "_law_answers"] (defScope lRun) := ⟨rfl, rfl, rfl, by decide +kernel, rfl, by decide +kernel, by decide +kernel⟩
theorem scWhere : FnScope ["_law_plain_here", "_law_answers"] ["_law_plain_here", "_law_answers"] (defScope lWhere) := ⟨rfl, rfl, rfl, by decide +kernel, rfl, by decide +kernel, by decide +kernel⟩
theorem scDrawn : FnScope ["_law_row"] ["_law_row"] (defScope lDrawn) := ⟨rfl, rfl, rfl, by decide +kernel, rfl, by decide +kernel, by decide +kernel⟩
theorem scSame : FnScope ["_law_one", "_law_other_here", "_law_answers"] ["_law_one", "_law_other_here"] (defScope lSame) := ⟨rfl, rfl, rfl, by decide +kernel, rfl, by decide +kernel, by decide +kernel⟩
theorem scRaised : FnScope ["_law_work", "e", "_law_kinds", "_law_at"] ["_law_work"] (defScope lRaised) := ⟨rfl, rfl, rfl, by decide +kernel, rfl, by decide +kernel, by decide +kernel⟩
theorem scOther : FnScope ["_law_row", "_law_plain_here", "_law_way", "_law_k"] ["_law_row", "_law_plain_here"] (defScope lOther) := ⟨rfl, rfl, rfl, by decide +kernel, rfl, by decide +kernel, by decide +kernel⟩
theorem scLaw : FnScope ["_law_script", "_law_row", "_law_plain_here", "_law_other_here", "_law_two", "_law_due", "_law_again", "_law_names_here", "_law_bad", "_law_answers", "_law_word", "_law_one", "_law_wide", "_law_name"] ["_law_script"] (defScope lLaw) := ⟨rfl, rfl, rfl, by decide +kernel, rfl, by decide +kernel, by decide +kernel⟩
end K9
end
section
set_option Elab.async false
set_option linter.all false
set_option maxRecDepth 100000
set_option maxHeartbeats 4000000
/-! Draws: a number, a name. -/
namespace K9
open PySem PySem.Spec PyProof.Rows L2
/-- the drawer's row: the script, and three numbers -/
def RowAt (H : Hp) (r a : Addr) : Prop := ∃ (p c k : Int), H r = some (.lst [.ref a, .int p, .int c, .int k]) ∧ 0 ≤ p ∧ 0 ≤ c ∧ c < 2147483647
def Scr (K : PySem.W.Frag) (H : Hp) (r a : Addr) : Prop := ∃ ns : List Int, ns.length ≤ 63 ∧ ((a ≠ r ∧ SqL K H a (ns.map V.int)) ∨ ∀ H', SqL K H' a (ns.map V.int))
theorem RowAt.put {H : Hp} {r a : Addr} {p c k : Int} (h0 : 0 ≤ p) (h1 : 0 ≤ c) (h2 : c < 2147483647) : RowAt (upd H r (.lst [.ref a, .int p, .int c, .int k])) r a := ⟨p, c, k, upd_same, h0, h1, h2⟩
theorem RowAt.keep {H H' : Hp} {r a : Addr} (h : RowAt H r a) (s : Same H H') : RowAt H' r a := by
  obtain ⟨p, c, k, h1, h3⟩ := h
  exact ⟨p, c, k, s _ _ h1, h3⟩
theorem RowAt.other {H : Hp} {r a p : Addr} {o : HO} (h : RowAt H r a) (n : p ≠ r) : RowAt (upd H p o) r a := by
  obtain ⟨x, c, k, h1, h3⟩ := h
  exact ⟨x, c, k, by rw [upd_ne n.symm]; exact h1, h3⟩
theorem RowAt.has {H : Hp} {r a : Addr} (h : RowAt H r a) : ∃ u, H r = some u := let ⟨_, _, _, h, _⟩ := h; ⟨_, h⟩
theorem RowAt.ne {H : Hp} {r a p : Addr} (h : RowAt H r a) (n : H p = none) : p ≠ r := by obtain ⟨u, hu⟩ := h.has; exact (ne_of_none hu n).symm
theorem Scr.keep {K : PySem.W.Frag} {H H' : Hp} {r a : Addr} (h : Scr K H r a) (b : But r H H') : Scr K H' r a := by
  obtain ⟨ns, h2, h1⟩ := h
  refine ⟨ns, h2, ?_⟩
  rcases h1 with ⟨n, h1⟩ | h1
  · exact .inl ⟨n, But.seqL b n h1⟩
  · exact .inr h1
theorem Scr.list {K : PySem.W.Frag} {H : Hp} {r a : Addr} {ns : List Int} (h : (a ≠ r ∧ SqL K H a (ns.map V.int)) ∨ ∀ H', SqL K H' a (ns.map V.int)) {H' : Hp} (b : But r H H') : SqL K H' a (ns.map V.int) := by
  rcases h with ⟨n, h⟩ | h
  · exact But.seqL b n h
  · exact h H'
def spTaken (K : PySem.W.Frag) : Sp := fun vs H Q _ => ∃ (r a : Addr) (m : Int), vs = [.ref r, .int m] ∧ RowAt H r a ∧ Scr K H r a ∧ 1 ≤ m ∧ m ≤ 100 ∧ ∀ (H' : Hp) (n : Int), But r H H' → RowAt H' r a → 0 ≤ n → n < m → Q (.int n) H'
def spPick (K : PySem.W.Frag) : Sp := fun vs H Q _ => ∃ (r a l : Addr) (xs : List V), vs = [.ref r, .ref l] ∧ RowAt H r a ∧ Scr K H r a ∧ l ≠ r ∧ SqL K H l xs ∧ 1 ≤ xs.length ∧ xs.length ≤ 100 ∧ ∀ (H' : Hp) (x : V), But r H H' → RowAt H' r a → x ∈ xs → Q x H'
section
variable {P : Program} {w : World} {K : PySem.W.Frag} {mg : Str → Option Value} {base : Heap}
theorem fmod_in {i m : Int} (h : 1 ≤ m) : 0 ≤ i.fmod m ∧ i.fmod m < m := ⟨Int.fmod_nonneg_of_pos i (by omega), Int.fmod_lt_of_pos i (by omega)⟩
theorem ok_taken {f : Addr} {fd : FuncData} (F : Fun K "_law_taken" "_law_taken" lTaken f fd) (zi : mg "int" = none) (zl : mg "len" = none) : FnOk P w K mg base CX0 1 f fd ["_law_row", "_law_many"] (spTaken K) := by
  refine F.ok scTaken (fun vs H Q E h => ?_) (fun cdv A outer s H vs Q E hr h => ?_)
  · obtain ⟨_, _, _, rfl, _⟩ := h
    rfl
  · obtain ⟨r, a, m, rfl, ⟨p, c, k, hR, p0, c0, c1⟩, ⟨ns, hl, hS0⟩, m1, m2, q⟩ := h
    have row3 : ∀ {H' : Hp} {x0 x1 x2 x3 : V} (e : H' r = some (.lst [x0, x1, x2, x3])), SqL K H' r [x0, x1, x2, x3] := fun e => SqL.of e
    refine ⟨_, pss_cons (ps_if (pt_cmpR op_gt (pe_ix ix_list (pv 0) pe_int (fun _ _ => rfl)) pe_int (nomark _))
        (pss_cons (ps_set (i := 2) scTaken.nd rfl (Or.inl rfl) (pe_op op_modN (pe_callTy call_int1 (by rfl) zi (by decide +kernel) (pa_cons (pe_ix ix_list (pv 0) pe_int (fun _ _ => rfl)) pa_nil)) (pv 1)))
          (pss_cons (ps_asg (pe_op op_fdivN (pe_ix ix_list (pv 0) pe_int (fun _ _ => rfl)) (pv 1)) (pg_sub (pv 0) pe_int set_list)) (pss_one (ps_ret (pv 2)))))
        pss_nil)
      (pss_cons (ps_asg (pe_op op_add (pe_ix ix_list (pv 0) pe_int (fun _ _ => rfl)) pe_int) (pg_sub (pv 0) pe_int set_list))
      (pss_cons (ps_if (pt_cmpR op_gt (pe_ix ix_list (pv 0) pe_int (fun _ _ => rfl)) (pe_callB call_len_seq (by rfl) zl PySem.boot_len (pa_cons (pe_ix ix_list (pv 0) pe_int (fun _ _ => rfl)) pa_nil)) (nomark _))
        (pss_cons (ps_asg (pe_op op_mod (pe_callTy call_int1 (by rfl) zi (by decide +kernel) (pa_cons (pe_op op_add (pe_op op_mul (pe_ix ix_list (pv 0) pe_int (fun _ _ => rfl)) pe_int) pe_int) pa_nil)) pe_int) (pg_sub (pv 0) pe_int set_list))
          (pss_one (ps_ret (pe_op op_modN (pe_callTy call_int1 (by rfl) zi (by decide +kernel) (pa_cons (pe_op op_fdiv (pe_ix ix_list (pv 0) pe_int (fun _ _ => rfl)) pe_int) pa_nil)) (pv 1)))))
        pss_nil)
      (pss_cons (ps_set (i := 3) scTaken.nd rfl (Or.inl rfl) (pe_ix ix_list (pe_ix ix_list (pv 0) pe_int (fun _ _ => rfl)) (pe_op op_sub (pe_ix ix_list (pv 0) pe_int (fun _ _ => rfl)) pe_int) (fun _ _ => rfl)))
      (pss_cons (ps_asg (pe_op op_mod (pe_callTy call_int1 (by rfl) zi (by decide +kernel) (pa_cons (pe_op op_add (pe_op op_add (pe_op op_mul (pe_ix ix_list (pv 0) pe_int (fun _ _ => rfl)) pe_int) (pv 3)) pe_int) pa_nil)) pe_int) (pg_sub (pv 0) pe_int set_list))
      (pss_cons (ps_asg (pe_ifExp (pt_cmpR op_ge (pv 3) (pe_op op_pow pe_int pe_int) (nomark _)) (pe_op op_fdivN (pv 3) (pv 1)) pe_int) (pg_sub (pv 0) pe_int set_list))
      (pss_one (ps_ret (pe_op op_modN (pe_callTy call_int1 (by rfl) zi (by decide +kernel) (pa_cons (pv 3) pa_nil)) (pv 1))))))))), ?_⟩
    have md : m ≠ 0 ∧ m.natAbs < 1073741824 := ⟨by omega, by omega⟩
    refine ⟨_, rfl, _, _, 3, _, rfl, rfl, SqL.of hR, rfl, _, _, rfl, rfl, _, rfl, ?_⟩
    refine ite2 (fun _ => ?_) (fun _ => ?_)
    · refine ⟨_, rfl, _, _, 3, _, rfl, rfl, SqL.of hR, rfl, .inl ⟨_, rfl, ?_⟩⟩
      refine ⟨_, rfl, _, _, rfl, rfl, md.1, ?_⟩
      refine ⟨_, rfl, _, _, 3, _, rfl, rfl, SqL.of hR, rfl, _, rfl, _, _, rfl, rfl, md, ?_⟩
      refine ⟨_, rfl, _, _, 3, 3, rfl, rfl, hR, rfl, ?_⟩
      exact ⟨_, rfl, q _ _ (But.at (But.refl H)) (RowAt.put p0 c0 c1) (fmod_in m1).1 (fmod_in m1).2⟩
    · refine ⟨_, rfl, _, _, 1, _, rfl, rfl, SqL.of hR, rfl, _, _, rfl, rfl, ?_⟩
      refine ⟨_, rfl, _, _, 1, 1, rfl, rfl, hR, rfl, ?_⟩
      have hS1 : SqL K (upd H r (.lst [.ref a, .int (p + 1), .int c, .int k])) a (ns.map V.int) := Scr.list hS0 (But.at (But.refl H))
      refine ⟨_, rfl, _, _, 1, _, rfl, rfl, SqL.of upd_same, rfl, _, rfl, _, _, 0, _, rfl, rfl, SqL.of upd_same, rfl, _, _, rfl, .inl hS1, _, _, rfl, rfl, _, rfl, ?_⟩
      refine ite2 (fun _ => ?_) (fun hgt => ?_)
      · refine ⟨_, rfl, _, _, 2, _, rfl, rfl, SqL.of upd_same, rfl, _, _, rfl, rfl, .inl ⟨by omega, by omega⟩, _, _, rfl, rfl, .inl ⟨_, rfl, ?_⟩⟩
        refine ⟨_, _, rfl, rfl, (by show (0 : Int) < 2147483647; decide), ?_⟩
        refine ⟨_, rfl, _, _, 2, 2, rfl, rfl, upd_same, rfl, ?_⟩
        refine ⟨_, rfl, _, _, 2, _, rfl, rfl, SqL.of upd_same, rfl, _, _, rfl, rfl, ⟨by decide, by decide⟩, .inl ⟨_, rfl, ?_⟩⟩
        refine ⟨_, rfl, _, _, rfl, rfl, md.1, ?_⟩
        refine q _ _ (But.at (But.at (But.refl H))) ?_ (fmod_in m1).1 (fmod_in m1).2
        exact RowAt.put (by omega) (by first | exact Int.emod_nonneg _ (by decide) | exact Int.fmod_nonneg_of_pos _ (by decide)) (by first | exact Int.emod_lt_of_pos _ (by decide) | exact Int.fmod_lt_of_pos _ (by decide))
      · have hp : p.toNat < ns.length := by
          have e : ¬ (((List.map V.int ns).length : Nat) : Int) < p + 1 := by simpa using hgt
          rw [List.length_map] at e
          omega
        have hx : (ns.map V.int)[p.toNat]? = some (V.int ns[p.toNat]) := by rw [List.getElem?_map, List.getElem?_eq_getElem hp]; rfl
        refine ⟨_, rfl, _, _, 0, _, rfl, rfl, SqL.of upd_same, rfl, _, rfl, _, _, 1, _, rfl, rfl, SqL.of upd_same, rfl, _, _, rfl, rfl, _, _, _, _, rfl, rfl, hS1, at_of (j := p.toNat) (by omega) hx, ?_⟩
        refine ⟨_, rfl, _, _, 2, _, rfl, rfl, SqL.of upd_same, rfl, _, _, rfl, rfl, .inl ⟨by omega, by omega⟩, _, rfl, _, _, rfl, rfl, _, _, rfl, rfl, .inl ⟨_, rfl, ?_⟩⟩
        refine ⟨_, _, rfl, rfl, (by show (0 : Int) < 2147483647; decide), ?_⟩
        refine ⟨_, rfl, _, _, 2, 2, rfl, rfl, upd_same, rfl, ?_⟩
        have fin : ∀ (z : Int), RowAt (upd (upd (upd H r (.lst [.ref a, .int (p + 1), .int c, .int k])) r (.lst [.ref a, .int (p + 1), .int ((c * 48271 + ns[p.toNat] + 11) % 2147483647), .int k])) r (.lst [.ref a, .int (p + 1), .int ((c * 48271 + ns[p.toNat] + 11) % 2147483647), .int z])) r a := fun z =>
          RowAt.put (by omega) (Int.emod_nonneg _ (by decide)) (Int.emod_lt_of_pos _ (by decide))
        refine ⟨_, rfl, _, _, rfl, rfl, ⟨by decide, by decide, by decide⟩, _, _, rfl, rfl, _, rfl, ?_⟩
        refine ite2 (fun _ => ?_) (fun _ => ?_)
        · refine ⟨_, rfl, _, rfl, _, _, rfl, rfl, md, ?_⟩
          refine ⟨_, rfl, _, _, 3, 3, rfl, rfl, upd_same, rfl, ?_⟩
          refine ⟨_, rfl, .inl ⟨_, rfl, ?_⟩⟩
          exact ⟨_, rfl, _, _, rfl, rfl, md.1, q _ _ (But.at (But.at (But.at (But.refl H)))) (fin _) (fmod_in m1).1 (fmod_in m1).2⟩
        · refine ⟨_, rfl, _, _, 3, 3, rfl, rfl, upd_same, rfl, ?_⟩
          refine ⟨_, rfl, .inl ⟨_, rfl, ?_⟩⟩
          exact ⟨_, rfl, _, _, rfl, rfl, md.1, q _ _ (But.at (But.at (But.at (But.refl H)))) (fin _) (fmod_in m1).1 (fmod_in m1).2⟩
end
end K9
end
section
set_option Elab.async false
set_option linter.all false
set_option maxRecDepth 100000
set_option maxHeartbeats 4000000
/-! Draws: one of a list, the four actions. -/
namespace K9
open PySem PySem.Spec PyProof.Rows L2
def spTable (K : PySem.W.Frag) : Sp := fun vs H Q _ => ∃ (r a : Addr), vs = [.ref r, .bl false] ∧ RowAt H r a ∧ Scr K H r a ∧ ∀ (H' : Hp) (t : Addr) (as : List V), But r H H' → RowAt H' r a → H t = none → H' t = some (.tup as) → as.length = 4 → (∀ a ∈ as, ActOk a) → Q (.ref t) H'
def words4 : List (List V) := [[.str "ok", .str "bad", .str "ignore", .str "bad"], [.str "ok", .str "die", .str "ignore", .str "die"], [.str "done", .str "ignore", .str "ignore", .str "ignore"], [.str "ok", .str "ignore", .str "ignore", .str "ignore"]]
def acts9 : List V := [.str "ok", .str "bad", .str "die", .str "done", .str "ignore", .str "reset", .int 1, .int 2, .int 9]
theorem wOk {s : Str} (h : s ∈ actWs) : ActOk (.str s) := .inl ⟨s, h, rfl⟩
theorem words_ok : ∀ as ∈ words4, as.length = 4 ∧ ∀ a ∈ as, ActOk a := by
  have h1 : ActOk (.str "ok") := wOk (by decide +kernel)
  have h2 : ActOk (.str "bad") := wOk (by decide +kernel)
  have h3 : ActOk (.str "ignore") := wOk (by decide +kernel)
  have h4 : ActOk (.str "die") := wOk (by decide +kernel)
  have h5 : ActOk (.str "done") := wOk (by decide +kernel)
  have all4 : ∀ {a b c d : V}, ActOk a → ActOk b → ActOk c → ActOk d → ∀ x ∈ [a, b, c, d], ActOk x := by
    intro a b c d ha hb hc hd x hx
    rcases List.mem_cons.mp hx with e | hx
    · rw [e]; exact ha
    rcases List.mem_cons.mp hx with e | hx
    · rw [e]; exact hb
    rcases List.mem_cons.mp hx with e | hx
    · rw [e]; exact hc
    rw [List.mem_singleton.mp hx]; exact hd
  intro as h
  rcases List.mem_cons.mp h with e | h
  · rw [e]; exact ⟨rfl, all4 h1 h2 h3 h2⟩
  rcases List.mem_cons.mp h with e | h
  · rw [e]; exact ⟨rfl, all4 h1 h4 h3 h4⟩
  rcases List.mem_cons.mp h with e | h
  · rw [e]; exact ⟨rfl, all4 h5 h3 h3 h3⟩
  rw [List.mem_singleton.mp h]; exact ⟨rfl, all4 h1 h3 h3 h3⟩
theorem acts_ok : ∀ a ∈ acts9, ActOk a := by
  intro a h
  rcases List.mem_cons.mp h with e | h
  · rw [e]; exact wOk (by decide +kernel)
  rcases List.mem_cons.mp h with e | h
  · rw [e]; exact wOk (by decide +kernel)
  rcases List.mem_cons.mp h with e | h
  · rw [e]; exact wOk (by decide +kernel)
  rcases List.mem_cons.mp h with e | h
  · rw [e]; exact wOk (by decide +kernel)
  rcases List.mem_cons.mp h with e | h
  · rw [e]; exact wOk (by decide +kernel)
  rcases List.mem_cons.mp h with e | h
  · rw [e]; exact wOk (by decide +kernel)
  rcases List.mem_cons.mp h with e | h
  · rw [e]; exact .inr ⟨1, rfl, by decide, by decide⟩
  rcases List.mem_cons.mp h with e | h
  · rw [e]; exact .inr ⟨2, rfl, by decide, by decide⟩
  rw [List.mem_singleton.mp h]; exact .inr ⟨9, rfl, by decide, by decide⟩
theorem at_in {xs : List V} {n : Int} (h0 : 0 ≤ n) (h : n < xs.length) : ∃ x, atI xs n = some x ∧ x ∈ xs := by
  have hl : n.toNat < xs.length := by omega
  exact ⟨xs[n.toNat], at_of (by omega) (List.getElem?_eq_getElem hl), List.getElem_mem hl⟩
theorem ix_listK {X : Cx} {K : PySem.W.Frag} (e : X.K = K := by rfl) : IxR X (rIxL K) := by subst e; exact ix_list
section
variable {P : Program} {w : World} {K : PySem.W.Frag} {mg : Str → Option Value} {base : Heap}
/-- what a caller of a def has: it stands, is kept, and how it binds -/
structure Cl (P : Program) (w : World) (K : PySem.W.Frag) (mg : Str → Option Value) (base : Heap) (CX : CXT) (k : Nat) (x : Str) (ps : List Str) (sp : Sp) (f : Addr) (fd : FuncData) : Prop where
  g : mg x = some (.ref f)
  ok : FnOk P w K mg base CX k f fd ps sp
  b : Binds K fd ps []
  kp : PySem.W.keepIn K (.ref f) = true
theorem ok_pick {f : Addr} {fd : FuncData} {fT : Addr} {fdT : FuncData} (F : Fun K "_law_pick" "_law_pick" lPick f fd) (zl : mg "len" = none) (T : Cl P w K mg base CX0 1 "_law_taken" ["_law_row", "_law_many"] (spTaken K) fT fdT) : FnOk P w K mg base CX0 2 f fd ["_law_row", "_law_some"] (spPick K) := by
  refine F.ok scPick (fun vs H Q E h => ?_) (fun cdv A outer s H vs Q E hr h => ?_)
  · obtain ⟨_, _, _, _, rfl, _⟩ := h
    rfl
  · obtain ⟨r, a, l, xs, rfl, hR, hA, nl, hS, h1, h2, q⟩ := h
    refine ⟨_, pss_one (ps_ret (pe_ix ix_list (pv 1) (pe_call T.ok hr rfl T.g T.kp T.b .nil pass0 (pa_cons (pv 0) (pa_cons (pe_callB call_len_seq (by rfl) zl PySem.boot_len (pa_cons (pv 1) pa_nil)) pa_nil))) (fun _ _ => rfl))), ?_⟩
    refine ⟨_, rfl, _, rfl, _, rfl, _, _, rfl, .inl hS, r, a, _, rfl, hR, hA, by omega, by omega, fun H1 n b1 r1 n0 nm => ?_⟩
    obtain ⟨x, ex, mx⟩ := at_in n0 nm
    exact ⟨_, _, _, _, rfl, rfl, But.seqL b1 nl hS, ex, q _ _ b1 r1 mx⟩
theorem ok_table {f : Addr} {fd : FuncData} {fT : Addr} {fdT : FuncData} (F : Fun K "_law_table" "_law_table" lTable f fd) (zt : mg "tuple" = none) (zr : mg "range" = none) (T : Cl P w K mg base CX0 1 "_law_taken" ["_law_row", "_law_many"] (spTaken K) fT fdT) :
    FnOk P w K mg base CX0 2 f fd ["_law_row", "_law_plain_here"] (spTable K) := by
  refine F.ok scTable (fun vs H Q E h => ?_) (fun cdv A outer s H vs Q E hr h => ?_)
  · obtain ⟨_, _, rfl, _⟩ := h
    rfl
  · obtain ⟨r, a, rfl, hR, hScr, q⟩ := h
    refine ⟨_, pss_cons (ps_set (i := 2) scTable.nd rfl (Or.inl rfl) (pe_lst (pa_cons (pe_tup (pa_cons pe_str (pa_cons pe_str (pa_cons pe_str (pa_cons pe_str pa_nil))))) (pa_cons (pe_tup (pa_cons pe_str (pa_cons pe_str (pa_cons pe_str (pa_cons pe_str pa_nil))))) (pa_cons (pe_tup (pa_cons pe_str (pa_cons pe_str (pa_cons pe_str (pa_cons pe_str pa_nil))))) pa_nil)))))
      (pss_cons (ps_expr (pe_bm PySem.F.plainAttrs_list PySem.F.slot_list_append PySem.F.type_list_append mt_append (pv 2) (pa_cons (pe_tup (pa_cons pe_str (pa_cons pe_str (pa_cons pe_str (pa_cons pe_str pa_nil))))) pa_nil)))
      (pss_cons (ps_if (PW.pt (pw_or (pt_val (pv 1)) (pw_or1 (pt_cmpR op_eq (pe_call T.ok hr rfl T.g T.kp T.b .nil pass0 (pa_cons (pv 0) (pa_cons pe_int pa_nil))) pe_int (nomark _)))))
        (pss_one (ps_ret (pe_ix ix_list (pv 2) (pe_call T.ok hr rfl T.g T.kp T.b .nil pass0 (pa_cons (pv 0) (pa_cons pe_int pa_nil))) (fun _ _ => rfl)))) pss_nil)
      (pss_cons (ps_set (i := 3) scTable.nd rfl (Or.inr rfl) (pe_lst (pa_cons pe_str (pa_cons pe_str (pa_cons pe_str (pa_cons pe_str (pa_cons pe_str (pa_cons pe_str (pa_cons pe_int (pa_cons pe_int (pa_cons pe_int pa_nil)))))))))))
      (pss_one (ps_ret (pe_callTy call_tuple_of (by rfl) zt (by decide +kernel) (pa_cons
        (pe_lc (own := [("_law_k", 4)]) (g := gName 4) (tt := tYes) rfl scTable.nd (pi_range1 (by rfl) zr (pa_cons pe_int pa_nil)) (blkOk_by (own := [("_law_k", 4)]) (N := ["_law_row", "_law_plain_here", "_law_words", "_law_acts", "_law_k"]) (sc := defScope lTable) (by decide +kernel))
          (fun _ _ _ _ _ => pg_name (i := 4) scTable.nd rfl (Or.inl rfl)) (fun _ _ _ _ _ => pts_nil)
          (fun _ _ _ _ _ => pe_ix (ix_listK (K := K)) (pv 3) (pe_call T.ok hr rfl T.g T.kp T.b .nil pass0 (pa_cons (pv 0) (pa_cons pe_int pa_nil))) (fun _ _ => rfl))) pa_nil))))))), ?_⟩
    refine ⟨by show 4 ≤ sizeLine; decide, fun p1 n1 => ⟨by show 4 ≤ sizeLine; decide, fun p2 n2 => ⟨by show 4 ≤ sizeLine; decide, fun p3 n3 => ⟨by show 3 ≤ sizeLine; decide, fun l nl => ?_⟩⟩⟩⟩
    refine ⟨_, rfl, .inl ⟨rfl, _, SqL.of upd_same⟩, by show 4 ≤ sizeLine; decide, fun p4 n4 => ?_⟩
    have nl4 : l ≠ p4 := ne_of_none upd_same n4
    refine ⟨l, _, _, rfl, rfl, by rw [upd_ne nl4]; exact upd_same, by show 3 < sizeLine; decide, ?_⟩
    -- the heap behind the words
    generalize hA : upd H p1 (.tup [.str "ok", .str "bad", .str "ignore", .str "bad"]) = HA at *
    generalize hB : upd HA p2 (.tup [.str "ok", .str "die", .str "ignore", .str "die"]) = HB at *
    generalize hC : upd HB p3 (.tup [.str "done", .str "ignore", .str "ignore", .str "ignore"]) = HC at *
    have sA : Same H HA := by rw [← hA]; exact Same.new (Same.refl H) n1
    have sB : Same HA HB := by rw [← hB]; exact Same.new (Same.refl _) n2
    have sC : Same HB HC := by rw [← hC]; exact Same.new (Same.refl _) n3
    have sHC : Same H HC := sA.trans (sB.trans sC)
    have e1 : HC p1 = some (.tup [.str "ok", .str "bad", .str "ignore", .str "bad"]) := sC _ _ (sB _ _ (by rw [← hA]; exact upd_same))
    have e2 : HC p2 = some (.tup [.str "ok", .str "die", .str "ignore", .str "die"]) := sC _ _ (by rw [← hB]; exact upd_same)
    have e3 : HC p3 = some (.tup [.str "done", .str "ignore", .str "ignore", .str "ignore"]) := by rw [← hC]; exact upd_same
    generalize hE : upd (upd (upd HC l (.lst [.ref p1, .ref p2, .ref p3])) p4 (.tup [.str "ok", .str "ignore", .str "ignore", .str "ignore"])) l (.lst ([.ref p1, .ref p2, .ref p3] ++ [.ref p4])) = HE
    have n4C : HC p4 = none := by rw [upd_ne nl4.symm] at n4; exact n4
    have sE : Same HC HE := by rw [← hE]; exact Same.own (Same.new (Same.new (Same.refl _) nl) n4) nl
    have sHE : Same H HE := sHC.trans sE
    have hl : HE l = some (.lst [.ref p1, .ref p2, .ref p3, .ref p4]) := by rw [← hE]; exact upd_same
    have e4 : HE p4 = some (.tup [.str "ok", .str "ignore", .str "ignore", .str "ignore"]) := by rw [← hE, upd_ne nl4.symm]; exact upd_same
    have rE : RowAt HE r a := hR.keep sHE
    have hAE : Scr K HE r a := hScr.keep (But.of sHE)
    have nlr : l ≠ r := by obtain ⟨u, hu⟩ := hR.has; exact (ne_of_none (sHC _ _ hu) nl).symm
    have pick : ∀ {H' : Hp}, But r HE H' → ∀ x ∈ [V.ref p1, V.ref p2, V.ref p3, V.ref p4], ∃ t as, x = .ref t ∧ H t = none ∧ H' t = some (.tup as) ∧ as ∈ words4 := by
      intro H' b x hx
      have nr : ∀ {p : Addr} {u : HO}, H p = none → p ≠ r := fun h z => by obtain ⟨v, hv⟩ := hR.has; rw [z, hv] at h; cases h
      have f2 : H p2 = none := sA.free n2
      have f3 : H p3 = none := (sA.trans sB).free n3
      have f4 : H p4 = none := sHC.free n4C
      rcases List.mem_cons.mp hx with e | hx
      · exact ⟨p1, _, e, n1, b _ _ (nr (u := .rng 0 0) n1) (sE _ _ e1), List.mem_cons_self ..⟩
      rcases List.mem_cons.mp hx with e | hx
      · exact ⟨p2, _, e, f2, b _ _ (nr (u := .rng 0 0) f2) (sE _ _ e2), List.mem_cons_of_mem _ (List.mem_cons_self ..)⟩
      rcases List.mem_cons.mp hx with e | hx
      · exact ⟨p3, _, e, f3, b _ _ (nr (u := .rng 0 0) f3) (sE _ _ e3), List.mem_cons_of_mem _ (List.mem_cons_of_mem _ (List.mem_cons_self ..))⟩
      · exact ⟨p4, _, List.mem_singleton.mp hx, f4, b _ _ (nr (u := .rng 0 0) f4) e4, List.mem_cons_of_mem _ (List.mem_cons_of_mem _ (List.mem_cons_of_mem _ (List.mem_cons_self ..)))⟩
    refine ⟨_, rfl, false, rfl, iteF ?_⟩
    refine ⟨_, rfl, r, a, 2, rfl, rE, hAE, by decide, by decide, fun H1 n b1 r1 n0 nm => ?_⟩
    refine ⟨rfl, _, rfl, ?_⟩
    refine ite2 (fun _ => ?_) (fun _ => ?_)
    · refine ⟨_, rfl, _, rfl, r, a, 4, rfl, r1, hAE.keep b1, by decide, by decide, fun H2 n b2 r2 n0 nm => ?_⟩
      obtain ⟨x, ex, mx⟩ := at_in (xs := [V.ref p1, V.ref p2, V.ref p3, V.ref p4]) n0 nm
      obtain ⟨t, as, e, ft, ht, hw⟩ := pick (But.trans b1 b2) x mx
      subst e
      refine ⟨_, _, _, _, rfl, rfl, SqL.of (b2 _ _ nlr (b1 _ _ nlr hl)), ex, ?_⟩
      exact q _ t as (But.trans (But.of sHE) (But.trans b1 b2)) r2 ft ht (words_ok as hw).1 (words_ok as hw).2
    · refine ⟨by show 9 ≤ sizeLine; decide, fun ac nac => ?_⟩
      have sac : Same H1 (upd H1 ac (.lst acts9)) := Same.new (Same.refl _) nac
      have nacr : ac ≠ r := by obtain ⟨u, hu⟩ := r1.has; exact (ne_of_none hu nac).symm
      refine ⟨4, rfl, by decide, by decide, fun D nD => ?_⟩
      have bH1 : But r H H1 := But.trans (But.of sHE) b1
      have dm : ∀ {b : Addr}, H1 b = none → H b = none := fun {b} e => by obtain ⟨u, hu⟩ := r1.has; exact bH1.dom hu e
      refine lc_range (lo := 0) (n := 4) (fun i H' => But r (upd H1 ac (.lst acts9)) H' ∧ RowAt H' r a ∧ ∃ xs, H' D = some (.lst xs) ∧ xs.length = i ∧ ∀ a ∈ xs, ActOk a)
        ⟨But.of (Same.new (Same.refl _) nD), (r1.keep sac).keep (Same.new (Same.refl _) nD), [], upd_same, rfl, fun a ha => nomatch ha⟩ ?_ ?_
      · rintro i H' hi ⟨b3, r3, xs, hD, hlen, ha⟩
        refine ⟨rfl, ?_⟩
        refine ⟨_, rfl, _, rfl, r, a, 9, rfl, r3, (hAE.keep b1).keep (But.trans (But.of sac) b3), by decide, by decide, fun H4 n b4 r4 n0 nm => ?_⟩
        obtain ⟨x, ex, mx⟩ := at_in (xs := acts9) n0 nm
        have hac : H4 ac = some (.lst acts9) := b4 _ _ nacr (b3 _ _ nacr upd_same)
        have nDr : D ≠ r := by obtain ⟨u, hu⟩ := (r1.keep sac).has; exact (ne_of_none hu nD).symm
        refine ⟨_, _, _, _, rfl, rfl, SqL.of hac, ex, ?_⟩
        refine ⟨_, b4 _ _ nDr hD, by rw [hlen]; exact Nat.lt_of_lt_of_le (Nat.lt_of_lt_of_le hi (by decide : 4 ≤ 100)) (by decide), ?_⟩
        have nDo : (upd H1 ac (.lst acts9)) D = none := nD
        refine ⟨But.own (But.trans b3 b4) nDo, r4.other nDr, _, upd_same, by rw [List.length_append, hlen]; rfl, fun a hm => ?_⟩
        rcases List.mem_append.mp hm with hm | hm
        · exact ha a hm
        · rw [List.mem_singleton.mp hm]; exact acts_ok x mx
      · rintro H' ⟨b3, r3, xs, hD, hlen, ha⟩
        refine ⟨D, xs, rfl, .inl ⟨SqL.of hD, fun t nt => ?_⟩⟩
        have nt' : H1 t = none := by
          cases q' : H1 t with
          | none => rfl
          | some u =>
            by_cases z : t = r
            · obtain ⟨v, hv⟩ := r3.has
              rw [z, hv] at nt; cases nt
            · rw [b3 _ _ z (sac _ _ q')] at nt; cases nt
        exact q _ t xs (But.new (But.trans bH1 (But.trans (But.of sac) b3)) nt) (r3.keep (Same.new (Same.refl _) nt)) (dm nt') upd_same hlen ha
end
end K9
end
section
set_option Elab.async false
set_option linter.all false
set_option maxRecDepth 100000
set_option maxHeartbeats 4000000
/-! Draws: names; all rules of a plain stack. -/
namespace K9
open PySem PySem.Spec PyProof.Rows L2
def names4 : List Str := ["key", "pin", "card", "lan"]
def spNames (K : PySem.W.Frag) : Sp := fun vs H Q _ => ∃ (r a : Addr), vs = [.ref r, .int 3] ∧ RowAt H r a ∧ Scr K H r a ∧ ∀ (H' : Hp) (l : Addr) (ns : List Str), But r H H' → RowAt H' r a → H l = none → H' l = some (.lst (ns.map V.str)) → 1 ≤ ns.length → ns.length ≤ 4 → (∀ m ∈ ns, m ∈ names4) → Q (.ref l) H'
def spRules (d : Nat) : Sp := fun vs H Q _ => ∃ (a : Addr) (xs : List V) (e : Es), vs = [.ref a] ∧ H a = some (.lst xs) ∧ PlL H e xs ∧ dep e ≤ d ∧ cnt e ≤ 100 ∧ ∀ (H' : Hp) (p : Addr) (us : List V), Same H H' → H p = none → H' p = some (.lst us) → RtL H' (rls e) us → Q (.ref p) H'
theorem erase_map {α β : Type} (f : α → β) : ∀ {l : List α} (i : Nat), (l.map f).eraseIdx i = (l.eraseIdx i).map f
  | [], _ => rfl
  | x :: l, 0 => rfl
  | x :: l, i + 1 => by show f x :: (l.map f).eraseIdx i = f x :: (l.eraseIdx i).map f; rw [erase_map f i]
theorem seqIx {n : Nat} {i : Int} (h0 : 0 ≤ i) (h : i < n) : seqIndex? i n = some i.toNat := by
  unfold seqIndex?
  have h1 : ¬ i < 0 := by omega
  simp only [h1, if_false]
  rw [if_pos (by simp; omega)]
section
variable {P : Program} {w : World} {K : PySem.W.Frag} {mg : Str → Option Value} {base : Heap}
theorem ok_names {f : Addr} {fd : FuncData} {fT : Addr} {fdT : FuncData} (F : Fun K "_law_names" "_law_names" lNames f fd) (zl : mg "len" = none) (zr : mg "range" = none) (T : Cl P w K mg base CX0 1 "_law_taken" ["_law_row", "_law_many"] (spTaken K) fT fdT) :
    FnOk P w K mg base CX0 2 f fd ["_law_row", "_law_most"] (spNames K) := by
  refine F.ok scNames (fun vs H Q E h => ?_) (fun cdv A outer s H vs Q E hr h => ?_)
  · obtain ⟨_, _, rfl, _⟩ := h
    rfl
  · obtain ⟨r, a, rfl, hR, hScr, q⟩ := h
    refine ⟨_, pss_cons (ps_par rfl scNames.nd rfl rfl (by decide) rfl rfl (pa_cons (pe_lst (pa_cons pe_str (pa_cons pe_str (pa_cons pe_str (pa_cons pe_str pa_nil))))) (pa_cons (pe_lst pa_nil) pa_nil)) (by rfl) (i := 2) (j := 3))
      (pss_cons (ps_for PassesOwn.never rfl (pi_range1 (by rfl) zr (pa_cons (pe_op op_add pe_int (pe_call T.ok hr rfl T.g T.kp T.b .nil pass0 (pa_cons (pv 0) (pa_cons (pv 1) pa_nil)))) pa_nil)) (pg_name (i := 4) scNames.nd rfl (Or.inl rfl))
        (pss_one (ps_expr (pe_bm PySem.F.plainAttrs_list PySem.F.slot_list_append PySem.F.type_list_append mt_append (pv 3) (pa_cons
          (pe_bm PySem.F.plainAttrs_list PySem.F.slot_list_pop PySem.F.type_list_pop mt_popAt (pv 2) (pa_cons (pe_call T.ok hr rfl T.g T.kp T.b .nil pass0 (pa_cons (pv 0) (pa_cons (pe_callB call_len_seq (by rfl) zl PySem.boot_len (pa_cons (pv 2) pa_nil)) pa_nil))) pa_nil)) pa_nil)))))
      (pss_one (ps_ret (pv 3)))), ?_⟩
    refine ⟨by show 4 ≤ sizeLine; decide, fun so nso => ⟨Nat.zero_le _, fun fo nfo => ?_⟩⟩
    have s1 : Same H (upd (upd H so (.lst (names4.map V.str))) fo (.lst [])) := Same.new (Same.new (Same.refl H) nso) nfo
    have nf : so ≠ fo := ne_of_none upd_same nfo
    have nso' := nso
    have nfo' : H fo = none := by rw [upd_ne nf.symm] at nfo; exact nfo
    have r1 := hR.keep s1
    refine ⟨_, _, rfl, ?_⟩
    refine ⟨_, rfl, _, rfl, r, a, 3, rfl, r1, hScr.keep (But.of s1), by decide, by decide, fun H2 n b2 r2 n0 n3 => ?_⟩
    have nsr : so ≠ r := hR.ne nso
    have nfr : fo ≠ r := hR.ne nfo'
    refine ⟨_, _, rfl, rfl, 1 + n, rfl, by omega, by omega, ?_⟩
    refine for_range (lo := 0) (n := (1 + n).toNat) (fun i σ H' => ∃ (ys ns : List Str) (v : Option V), σ = [some (.ref r), some (.int 3), some (.ref so), some (.ref fo), v] ∧ But r H H' ∧ RowAt H' r a ∧ H' so = some (.lst (ys.map V.str)) ∧ H' fo = some (.lst (ns.map V.str)) ∧
        ys.length + i = 4 ∧ ns.length = i ∧ (∀ m ∈ ys, m ∈ names4) ∧ ∀ m ∈ ns, m ∈ names4)
      ⟨names4, [], _, rfl, But.trans (But.of s1) b2, r2, b2 _ _ nsr (by rw [upd_ne nf]; exact upd_same), b2 _ _ nfr upd_same, rfl, rfl, fun m h => h, fun m h => nomatch h⟩ ?_ ?_
    · rintro i σ H' hi ⟨ys, ns, v, rfl, b3, r3, hs, hf, hl1, hl2, hm1, hm2⟩
      refine ⟨_, rfl, .inl ⟨rfl, _, SqL.of hf⟩, _, rfl, .inl ⟨rfl, _, SqL.of hs⟩, ?_⟩
      refine ⟨_, rfl, _, rfl, so, _, rfl, .inl (SqL.of hs), r, a, _, rfl, r3, hScr.keep b3, by rw [List.length_map]; omega, by rw [List.length_map]; omega, fun H4 k b4 r4 k0 kl => ?_⟩
      have hs4 := b4 _ _ nsr hs
      have hf4 := b4 _ _ nfr hf
      rw [List.length_map] at kl
      have hk : k.toNat < ys.length := by omega
      refine ⟨so, _, k, k.toNat, V.str ys[k.toNat], rfl, rfl, hs4, by omega, by omega, by rw [List.length_map]; exact seqIx k0 kl, by rw [List.getElem?_map, List.getElem?_eq_getElem hk]; rfl, ?_⟩
      have e1 : (ys.map V.str).eraseIdx k.toNat = (ys.eraseIdx k.toNat).map V.str := erase_map _ _
      refine ⟨fo, _, _, rfl, rfl, by rw [upd_ne nf.symm]; exact hf4, by rw [List.length_map]; exact small1000 (by omega), ?_⟩
      refine ⟨ys.eraseIdx k.toNat, ns ++ [ys[k.toNat]], _, rfl, But.own (But.own (But.trans b3 b4) nso) nfo', (r4.other nsr).other nfr, ?_, ?_, ?_, ?_, ?_, ?_⟩
      · rw [upd_ne nf, upd_same, e1]
      · rw [upd_same, List.map_append]; rfl
      · rw [List.length_eraseIdx_of_lt hk]; omega
      · rw [List.length_append, hl2]; rfl
      · exact fun m h => hm1 m (List.mem_of_mem_eraseIdx h)
      · intro m h
        rcases List.mem_append.mp h with h | h
        · exact hm2 m h
        · rw [List.mem_singleton.mp h]; exact hm1 _ (List.getElem_mem hk)
    · rintro σ H' ⟨ys, ns, v, rfl, b3, r3, hs, hf, hl1, hl2, hm1, hm2⟩
      exact ⟨_, rfl, q _ fo ns b3 r3 nfo' hf (by omega) (by omega) hm2⟩
theorem ok_rules {f : Addr} {fd : FuncData} (F : Fun K "_law_rules" "_law_rules" lRules f fd) (zi : mg "isinstance" = none) (zl : mg "list" = none) (g : mg "_law_rules" = some (.ref f)) (bF : Binds K fd ["_law_plain_here"] []) : ∀ d : Nat, FnOk P w K mg base CX0 (d + 1) f fd ["_law_plain_here"] (spRules d) := by
  intro d
  induction d with
  | zero =>
    refine F.ok scRules (fun vs H Q E h => ?_) (fun cdv A outer s H vs Q E hr h => ?_)
    · obtain ⟨_, _, _, rfl, _⟩ := h
      rfl
    · obtain ⟨a, xs, e, rfl, hA, hP, hd, _⟩ := h
      have := one_le_dep e
      omega
  | succ d ih =>
    refine F.ok scRules (fun vs H Q E h => ?_) (fun cdv A outer s H vs Q E hr h => ?_)
    · obtain ⟨_, _, _, rfl, _⟩ := h
      rfl
    · obtain ⟨a, xs, e, rfl, hA, hP, hd, hc, q⟩ := h
      refine ⟨_, pss_cons (ps_set (i := 1) scRules.nd rfl (Or.inl rfl) (pe_lst pa_nil))
        (pss_cons (ps_for PassesOwn.never rfl (pi_list (pv 0)) (pg_name (i := 2) scRules.nd rfl (Or.inl rfl))
          (pss_one (ps_set (i := 1) scRules.nd rfl (Or.inl rfl) (pe_op op_cat (pv 1) (pe_ifExp (pt_val (pe_callB call_isi (by rfl) zi (by decide +kernel) (pa_cons (pv 2) (pa_cons (pe_bltn (v := .ty "list") (u := .type "list") (by rfl) zl (by decide +kernel) rfl) pa_nil))))
            (pe_call ih hr rfl g F.kp bF .nil pass0 (pa_cons (pv 2) pa_nil)) (pe_lst (pa_cons (pv 2) pa_nil)))))))
        (pss_one (ps_ret (pv 1)))), ?_⟩
      refine ⟨Nat.zero_le _, fun l nl => ?_⟩
      have s1 : Same H (upd H l (.lst [])) := Same.new (Same.refl H) nl
      refine ⟨_, rfl, a, rfl, ⟨_, SqL.of (s1 _ _ hA)⟩, for_list (K := K) (a := a) (xs := xs) (fun i σ H' => ∃ (l : Addr) (us : List V) (v : Option V) (dn : List Rl), σ = [some (.ref a), some (.ref l), v] ∧ Same H H' ∧ H l = none ∧ H' l = some (.lst us) ∧ RtL H' dn us ∧ rls e = dn ++ rls (dropE i e))
        ⟨l, [], _, [], rfl, s1, nl, upd_same, .nil, rfl⟩ (fun i σ H' _ ⟨_, _, _, _, _, s, _⟩ => SqL.of (s _ _ hA)) ?_ ?_⟩
      · rintro i x σ H' hi ⟨l, us, v, dn, rfl, s, nl, hl, hu, er⟩
        have hul : us.length = dn.length := (Paired.length hu).symm
        have hcl : cnt e = dn.length + (rls (dropE i e)).length := by show (rls e).length = _; rw [er, List.length_append]
        rcases EL.at (hP) hi with ⟨m, as, ed, fr⟩ | ⟨j, ed, fs⟩
        · obtain ⟨p, t, rfl, h1, h2⟩ := id fr
          refine ⟨_, rfl, _, rfl, _, .ty "list", _, _, false, rfl, .ty "list", .base (.tup (s _ _ h1)), kit_ty (by decide +kernel), false, rfl, iteF ?_⟩
          refine ⟨_, rfl, by show 1 ≤ sizeLine; decide, fun p2 n2 => ?_⟩
          have nl2 : l ≠ p2 := ne_of_none hl n2
          refine ⟨l, p2, _, _, rfl, rfl, by rw [upd_ne nl2]; exact hl, upd_same, Nat.le_of_lt (small1000 (by rw [hul]; show dn.length + 1 ≤ 1000; omega)), fun p3 n3 => ?_⟩
          have n2' : H' p2 = none := n2
          have s2 : Same H' (upd (upd H' p2 (.lst [.ref p])) p3 (.lst (us ++ [.ref p]))) := Same.new (Same.new (Same.refl _) n2) n3
          refine ⟨p3, us ++ [.ref p], _, dn ++ [(m, as)], rfl, s.trans s2, ?_, upd_same, ?_, ?_⟩
          · exact s.free ((Same.new (Same.refl H') n2 : Same H' (upd H' p2 (.lst [.ref p]))).free n3)
          · exact paired_app (hu.mono s2) (.cons (fr.mono (s.trans s2)) .nil)
          · rw [er, ed, List.append_assoc]; rfl
        · obtain ⟨p, zs, rfl, h1, h2⟩ := fs
          have hcj := cnt_in ed
          refine ⟨_, rfl, _, rfl, _, .ty "list", _, _, true, rfl, .ty "list", .base (.lst (s _ _ h1)), kit_ty (by decide +kernel), true, rfl, iteT ?_⟩
          refine ⟨_, rfl, p, zs, j, rfl, s _ _ h1, PlL.mono s h2, by have := dep_in ed; omega, by omega, fun H2 p2 us2 s2 n2 hp2 hr2 => ?_⟩
          have e2 : us2.length = cnt j := (Paired.length hr2).symm
          have e3 : (rls (dropE i e)).length = (rls j).length + (rls (dropE (i + 1) e)).length := by rw [ed]; exact List.length_append
          refine ⟨l, p2, _, _, rfl, rfl, s2 _ _ hl, hp2, Nat.le_of_lt (small1000 (by omega)), fun p3 n3 => ?_⟩
          have s3 : Same H' (upd H2 p3 (.lst (us ++ us2))) := Same.new s2 n3
          refine ⟨p3, us ++ us2, _, dn ++ rls j, rfl, s.trans s3, s.free (s2.free n3), upd_same, paired_app (hu.mono s3) (hr2.mono (Same.new (Same.refl _) n3)), ?_⟩
          rw [er, ed, List.append_assoc]; rfl
      · rintro σ H' ⟨l, us, v, dn, rfl, s, nl, hl, hu, er⟩
        refine ⟨_, rfl, q _ l us s nl hl ?_⟩
        rw [EL.end_ hP (Nat.le_refl _)] at er
        rw [er]
        show RtL H' (dn ++ []) us
        rw [List.append_nil]
        exact hu
end
end K9
end
section
set_option Elab.async false
set_option linter.all false
set_option maxRecDepth 100000
set_option maxHeartbeats 8000000
/-! Draws: a plain stack. -/
namespace K9
open PySem PySem.Spec PyProof.Rows L2
def RlOk (ns : List Str) (q : Rl) : Prop := q.1 ∈ ns ∧ q.2.length = 4 ∧ ∀ a ∈ q.2, ActOk a
def spPlain (K : PySem.W.Frag) (d : Nat) : Sp := fun vs H Q _ => ∃ (r a l : Addr) (most : Int) (dp : Int) (ns : List Str), vs = [.ref r, .ref l, .int most, .int dp, .bl false] ∧ RowAt H r a ∧ Scr K H r a ∧ l ≠ r ∧ H l = some (.lst (ns.map V.str)) ∧ 1 ≤ ns.length ∧ ns.length ≤ 4 ∧
  0 ≤ most ∧ most ≤ 6 ∧ dp = (d : Int) ∧ 1 ≤ d ∧ ∀ (H' : Hp) (p : Addr) (xs : List V) (e : Es), But r H H' → RowAt H' r a → H p = none → H' p = some (.lst xs) → PlL (fresh H H') e xs → dep e ≤ d → (cnt e : Int) ≤ most → len e ≤ 4 → wid e ≤ 4 → (∀ q ∈ rls e, RlOk ns q) → Q (.ref p) H'
theorem dom1 {r fo b : Addr} {H H' : Hp} {u v o : HO} (b3 : But r H H') (hr : H' r = some u) (hf : H' fo = some v) (e : H' b = none) : (upd H fo o) b = none := by
  have n : b ≠ fo := fun z => by rw [z, hf] at e; cases e
  rw [upd_ne n]
  exact b3.dom hr e
section
variable {P : Program} {w : World} {K : PySem.W.Frag} {mg : Str → Option Value} {base : Heap}
theorem ok_plain {f fT fR fP fB : Addr} {fd fdT fdR fdP fdB : FuncData} (F : Fun K "_law_plain" "_law_plain" lPlain f fd) (zr : mg "range" = none) (zl : mg "len" = none) (zm : mg "min" = none) (g : mg "_law_plain" = some (.ref f)) (bF : Binds K fd ["_law_row", "_law_names_here", "_law_most", "_law_deep", "_law_plain_here"] [])
    (T : Cl P w K mg base CX0 1 "_law_taken" ["_law_row", "_law_many"] (spTaken K) fT fdT) (R : ∀ d, Cl P w K mg base CX0 (d + 1) "_law_rules" ["_law_plain_here"] (spRules d) fR fdR) (PK : Cl P w K mg base CX0 2 "_law_pick" ["_law_row", "_law_some"] (spPick K) fP fdP)
    (TB : Cl P w K mg base CX0 2 "_law_table" ["_law_row", "_law_plain_here"] (spTable K) fB fdB) :
    ∀ d : Nat, FnOk P w K mg base CX0 (d + 3) f fd ["_law_row", "_law_names_here", "_law_most", "_law_deep", "_law_plain_here"] (spPlain K d) := by
  intro d
  induction d with
  | zero =>
    refine F.ok scPlain (fun vs H Q E h => ?_) (fun cdv A outer s H vs Q E hr h => ?_)
    · obtain ⟨_, _, _, _, _, _, rfl, _⟩ := h
      rfl
    · obtain ⟨_, _, _, _, _, _, rfl, _, _, _, _, _, _, _, _, _, h1, _⟩ := h
      exact absurd h1 (by decide)
  | succ d ih =>
    refine F.ok scPlain (fun vs H Q E h => ?_) (fun cdv A outer s H vs Q E hr h => ?_)
    · obtain ⟨_, _, _, _, _, _, rfl, _⟩ := h
      rfl
    · obtain ⟨r, a, l, most, dp, ns, rfl, hR, hScr, nlr, hl, hn1, hn4, hm0, hm6, hdp, _, q⟩ := h
      have hr1 : Room 1 _ := hr.mono (by omega)
      have hr2 : Room 2 _ := hr.mono (by omega)
      have hrR : Room (d + 1) _ := hr.mono (by omega)
      refine ⟨_, pss_cons (ps_par rfl scPlain.nd rfl rfl (by decide) rfl rfl (pa_cons (pe_lst pa_nil) (pa_cons (pv 2) pa_nil)) (by rfl) (i := 5) (j := 6))
        (pss_cons (ps_for PassesOwn.never rfl (pi_range1 (by rfl) zr (pa_cons (pe_call T.ok hr1 rfl T.g T.kp T.b .nil pass0 (pa_cons (pv 0) (pa_cons pe_int pa_nil))) pa_nil)) (pg_name (i := 7) scPlain.nd rfl (Or.inl rfl))
          (pss_one (ps_if (PW.pt (pw_and (pt_cmpR op_gt (pv 3) pe_int (nomark _)) (pw_and (pt_cmpR op_gt (pv 6) pe_int (nomark _)) (pw_and1 (pt_cmpR op_eq (pe_call T.ok hr1 rfl T.g T.kp T.b .nil pass0 (pa_cons (pv 0) (pa_cons pe_int pa_nil))) pe_int (nomark _))))))
            (pss_cons (ps_set (i := 8) scPlain.nd rfl (Or.inl rfl) (pe_call ih hr rfl g F.kp bF .nil pass0 (pa_cons (pv 0) (pa_cons (pv 1) (pa_cons (pe_callB (call_min2 rfl) (by rfl) zm (by decide +kernel) (pa_cons (pv 6) (pa_cons pe_int pa_nil))) (pa_cons (pe_op op_sub (pv 3) pe_int) (pa_cons (pv 4) pa_nil)))))))
              (pss_cons (ps_expr (pe_bm PySem.F.plainAttrs_list PySem.F.slot_list_append PySem.F.type_list_append mt_append (pv 5) (pa_cons (pv 8) pa_nil)))
              (pss_one (ps_set (i := 6) scPlain.nd rfl (Or.inl rfl) (pe_op op_sub (pv 6) (pe_callB call_len_seq (by rfl) zl PySem.boot_len (pa_cons (pe_call (R d).ok hrR rfl (R d).g (R d).kp (R d).b .nil pass0 (pa_cons (pv 8) pa_nil)) pa_nil)))))))
            (pss_one (ps_if (pt_cmpR op_gt (pv 6) pe_int (nomark _))
              (pss_cons (ps_expr (pe_bm PySem.F.plainAttrs_list PySem.F.slot_list_append PySem.F.type_list_append mt_append (pv 5) (pa_cons (pe_tup (pa_cons (pe_call PK.ok hr2 rfl PK.g PK.kp PK.b .nil pass0 (pa_cons (pv 0) (pa_cons (pv 1) pa_nil))) (pa_cons (pe_call TB.ok hr2 rfl TB.g TB.kp TB.b .nil pass0 (pa_cons (pv 0) (pa_cons (pv 4) pa_nil))) pa_nil))) pa_nil)))
              (pss_one (ps_set (i := 6) scPlain.nd rfl (Or.inl rfl) (pe_op op_sub (pv 6) pe_int)))) pss_nil)))))
        (pss_one (ps_ret (pv 5)))), ?_⟩
      refine ⟨Nat.zero_le _, fun fo nfo => ?_⟩
      have s1 : Same H (upd H fo (.lst [])) := Same.new (Same.refl H) nfo
      have r1 := hR.keep s1
      have nfr : fo ≠ r := hR.ne nfo
      have nlf : l ≠ fo := ne_of_none hl nfo
      refine ⟨_, rfl, _, _, rfl, ?_⟩
      refine ⟨_, rfl, r, a, 5, rfl, r1, hScr.keep (But.of s1), by decide, by decide, fun H2 n b2 r2 n0 n5 => ?_⟩
      refine ⟨n, rfl, by omega, by omega, ?_⟩
      refine for_range (lo := 0) (n := n.toNat) (fun i σ H' => ∃ (xs : List V) (e : Es) (lf : Int) (v w : Option V), σ = [some (.ref r), some (.ref l), some (.int most), some (.int dp), some (.bl false), some (.ref fo), some (.int lf), v, w] ∧ But r H H' ∧ RowAt H' r a ∧ H' fo = some (.lst xs) ∧
          PlL (fresh (upd H fo (.lst [])) H') e xs ∧ dep e ≤ d + 1 ∧ (cnt e : Int) + lf ≤ most ∧ 0 ≤ lf ∧ lf ≤ most ∧ len e ≤ i ∧ wid e ≤ 4 ∧ ∀ q ∈ rls e, RlOk ns q)
        ⟨[], .nil, most, _, _, rfl, But.trans (But.of s1) b2, r2, b2 _ _ nfr upd_same, rfl, by show 1 ≤ d + 1; omega, by show (0 : Int) + most ≤ most; omega, hm0, Int.le_refl _, Nat.le_refl _, Nat.zero_le _, fun q hq => nomatch hq⟩ ?_ ?_
      · rintro i σ H' hi ⟨xs, e, lf, v, w', rfl, b3, r3, h3, hP, hde, hce, hl0, hlm, hle, hwd, hro⟩
        have i4 : i < 4 := by omega
        have hlx : xs.length ≤ 4 := by rw [EL.length _ _ hP]; omega
        refine ⟨_, rfl, _, _, rfl, rfl, _, rfl, ?_⟩
        refine ite2 (fun hd1 => ?_) (fun _ => iteF ?_)
        rotate_left
        · have b4 := b3; have r4 := r3; have h4 := h3; have kp0 := fun (b : Addr) (o : HO) (_ : (upd H fo (.lst [])) b = none) (e2 : H' b = some o) => e2
          refine ⟨_, rfl, _, _, rfl, rfl, _, rfl, ?_⟩
          refine ite2 (fun hL0 => ?_) (fun _ => ?_)
          · have hL0' : (0 : Int) < lf := of_decide_eq_true hL0
            refine ⟨_, rfl, .inl ⟨rfl, _, SqL.of h4⟩, ?_⟩
            refine ⟨_, rfl, _, rfl, r, a, l, ns.map V.str, rfl, r4, hScr.keep b4, nlr, SqL.of (b4 _ _ nlr hl), by rw [List.length_map]; exact hn1, by rw [List.length_map]; omega, fun H5 x b5 r5 hx => ?_⟩
            obtain ⟨m, hm, rfl⟩ := List.mem_map.mp hx
            refine ⟨_, rfl, _, rfl, r, a, rfl, r5, (hScr.keep b4).keep b5, fun H6 t as b6 r6 nt ht hl4 hok => ?_⟩
            refine ⟨by show 2 ≤ sizeLine; decide, fun p2 n2 => ?_⟩
            have h6 := b6 _ _ nfr (b5 _ _ nfr h4)
            have nf2 : fo ≠ p2 := ne_of_none h6 n2
            have htf : t ≠ fo := (ne_of_none (b5 _ _ nfr h4) nt).symm
            have htr : t ≠ r := r5.ne nt
            have b46 : But r _ H6 := But.trans b5 b6
            refine ⟨fo, xs, _, rfl, rfl, by rw [upd_ne nf2]; exact h6, small1000 (by omega), ?_⟩
            have np2r : p2 ≠ r := r6.ne n2
            have nt2 : t ≠ p2 := ne_of_none ht n2
            have dom6 : ∀ {b : Addr}, H6 b = none → (upd H fo (.lst [])) b = none := fun {b} e => by obtain ⟨u, hu⟩ := r6.has; exact dom1 (But.trans b4 b46) hu h6 e
            have dom5 : ∀ {b : Addr}, H5 b = none → (upd H fo (.lst [])) b = none := fun {b} e => by obtain ⟨u, hu⟩ := r5.has; exact dom1 (But.trans b4 b5) hu (b5 _ _ nfr h4) e
            have kp : ∀ (b : Addr) (o : HO), (upd H fo (.lst [])) b = none → H' b = some o → (upd (upd H6 p2 (.tup [V.str m, .ref t])) fo (.lst (xs ++ [.ref p2]))) b = some o := fun b o e1 e2 => by
              have q1 : b ≠ fo := fun z => by rw [z, upd_same] at e1; cases e1
              have q2 : b ≠ r := fun z => by obtain ⟨u, hu⟩ := r1.has; rw [z, hu] at e1; cases e1
              have e3 := b46 _ _ q2 e2
              rw [upd_ne q1, upd_ne (ne_of_none e3 n2)]
              exact e3
            refine ⟨_, rfl, _, _, rfl, rfl, ?_⟩
            refine ⟨xs ++ [.ref p2], appE e (.rule m as .nil), lf - 1, _, _, rfl, But.own (But.new (But.trans b4 b46) n2) nfo, (r6.other np2r).other nfr, upd_same, EL.app (PlL.mono (fresh_keep kp) hP) ⟨_, [], rfl, ⟨p2, t, rfl, ?_, ?_⟩, rfl⟩, ?_, ?_, by omega, by omega, ?_, (by rw [wid_app]; show max (wid e) 0 ≤ 4; omega), ?_⟩
            · exact fresh_of (dom6 n2) (by rw [upd_ne nf2.symm]; exact upd_same)
            · exact fresh_of (dom5 nt) (by rw [upd_ne htf, upd_ne nt2]; exact ht)
            · rw [dep_app]; show max (dep e) 1 ≤ d + 1; omega
            · show ((rls (appE e (.rule m as .nil))).length : Int) + (lf - 1) ≤ most
              rw [rls_app, List.length_append]; have hce' : ((rls e).length : Int) + lf ≤ most := hce; show (((rls e).length + 1 : Nat) : Int) + (lf - 1) ≤ most; omega
            · rw [len_app]; show len e + 1 ≤ i + 1; omega
            · intro q' hq'
              rw [rls_app] at hq'
              rcases List.mem_append.mp hq' with hq' | hq'
              · exact hro q' hq'
              · rw [List.mem_singleton.mp hq']; exact ⟨hm, hl4, hok⟩
          · exact ⟨xs, e, lf, _, _, rfl, b4, r4, h4, PlL.mono (fresh_keep kp0) hP, hde, hce, hl0, by omega, Nat.le_succ_of_le hle, hwd, hro⟩
        · refine ⟨_, rfl, _, _, rfl, rfl, _, rfl, ?_⟩
          refine ite2 (fun hL1 => ?_) (fun _ => iteF ?_)
          rotate_left
          · have b4 := b3; have r4 := r3; have h4 := h3; have kp0 := fun (b : Addr) (o : HO) (_ : (upd H fo (.lst [])) b = none) (e2 : H' b = some o) => e2
            refine ⟨_, rfl, _, _, rfl, rfl, _, rfl, ?_⟩
            refine ite2 (fun hL0 => ?_) (fun _ => ?_)
            · have hL0' : (0 : Int) < lf := of_decide_eq_true hL0
              refine ⟨_, rfl, .inl ⟨rfl, _, SqL.of h4⟩, ?_⟩
              refine ⟨_, rfl, _, rfl, r, a, l, ns.map V.str, rfl, r4, hScr.keep b4, nlr, SqL.of (b4 _ _ nlr hl), by rw [List.length_map]; exact hn1, by rw [List.length_map]; omega, fun H5 x b5 r5 hx => ?_⟩
              obtain ⟨m, hm, rfl⟩ := List.mem_map.mp hx
              refine ⟨_, rfl, _, rfl, r, a, rfl, r5, (hScr.keep b4).keep b5, fun H6 t as b6 r6 nt ht hl4 hok => ?_⟩
              refine ⟨by show 2 ≤ sizeLine; decide, fun p2 n2 => ?_⟩
              have h6 := b6 _ _ nfr (b5 _ _ nfr h4)
              have nf2 : fo ≠ p2 := ne_of_none h6 n2
              have htf : t ≠ fo := (ne_of_none (b5 _ _ nfr h4) nt).symm
              have htr : t ≠ r := r5.ne nt
              have b46 : But r _ H6 := But.trans b5 b6
              refine ⟨fo, xs, _, rfl, rfl, by rw [upd_ne nf2]; exact h6, small1000 (by omega), ?_⟩
              have np2r : p2 ≠ r := r6.ne n2
              have nt2 : t ≠ p2 := ne_of_none ht n2
              have dom6 : ∀ {b : Addr}, H6 b = none → (upd H fo (.lst [])) b = none := fun {b} e => by obtain ⟨u, hu⟩ := r6.has; exact dom1 (But.trans b4 b46) hu h6 e
              have dom5 : ∀ {b : Addr}, H5 b = none → (upd H fo (.lst [])) b = none := fun {b} e => by obtain ⟨u, hu⟩ := r5.has; exact dom1 (But.trans b4 b5) hu (b5 _ _ nfr h4) e
              have kp : ∀ (b : Addr) (o : HO), (upd H fo (.lst [])) b = none → H' b = some o → (upd (upd H6 p2 (.tup [V.str m, .ref t])) fo (.lst (xs ++ [.ref p2]))) b = some o := fun b o e1 e2 => by
                have q1 : b ≠ fo := fun z => by rw [z, upd_same] at e1; cases e1
                have q2 : b ≠ r := fun z => by obtain ⟨u, hu⟩ := r1.has; rw [z, hu] at e1; cases e1
                have e3 := b46 _ _ q2 e2
                rw [upd_ne q1, upd_ne (ne_of_none e3 n2)]
                exact e3
              refine ⟨_, rfl, _, _, rfl, rfl, ?_⟩
              refine ⟨xs ++ [.ref p2], appE e (.rule m as .nil), lf - 1, _, _, rfl, But.own (But.new (But.trans b4 b46) n2) nfo, (r6.other np2r).other nfr, upd_same, EL.app (PlL.mono (fresh_keep kp) hP) ⟨_, [], rfl, ⟨p2, t, rfl, ?_, ?_⟩, rfl⟩, ?_, ?_, by omega, by omega, ?_, (by rw [wid_app]; show max (wid e) 0 ≤ 4; omega), ?_⟩
              · exact fresh_of (dom6 n2) (by rw [upd_ne nf2.symm]; exact upd_same)
              · exact fresh_of (dom5 nt) (by rw [upd_ne htf, upd_ne nt2]; exact ht)
              · rw [dep_app]; show max (dep e) 1 ≤ d + 1; omega
              · show ((rls (appE e (.rule m as .nil))).length : Int) + (lf - 1) ≤ most
                rw [rls_app, List.length_append]; have hce' : ((rls e).length : Int) + lf ≤ most := hce; show (((rls e).length + 1 : Nat) : Int) + (lf - 1) ≤ most; omega
              · rw [len_app]; show len e + 1 ≤ i + 1; omega
              · intro q' hq'
                rw [rls_app] at hq'
                rcases List.mem_append.mp hq' with hq' | hq'
                · exact hro q' hq'
                · rw [List.mem_singleton.mp hq']; exact ⟨hm, hl4, hok⟩
            · exact ⟨xs, e, lf, _, _, rfl, b4, r4, h4, PlL.mono (fresh_keep kp0) hP, hde, hce, hl0, by omega, Nat.le_succ_of_le hle, hwd, hro⟩
          · refine ⟨_, rfl, r, a, 4, rfl, r3, hScr.keep b3, by decide, by decide, fun H4 k bk r4 k0 k4 => ?_⟩
            refine ⟨rfl, _, rfl, ?_⟩
            have b4 := But.trans b3 bk
            have h4 := bk _ _ nfr h3
            have kp0 := fun (b : Addr) (o : HO) (e1 : (upd H fo (.lst [])) b = none) (e2 : H' b = some o) => bk b o (fun z => by obtain ⟨u, hu⟩ := r1.has; rw [z, hu] at e1; cases e1) e2
            refine ite2 (fun _ => ?_) (fun _ => ?_)
            rotate_left
            · replace hP := PlL.mono (fresh_keep kp0) hP
              replace kp0 := fun (b : Addr) (o : HO) (_ : (upd H fo (.lst [])) b = none) (e2 : H4 b = some o) => e2
              refine ⟨_, rfl, _, _, rfl, rfl, _, rfl, ?_⟩
              refine ite2 (fun hL0 => ?_) (fun _ => ?_)
              · have hL0' : (0 : Int) < lf := of_decide_eq_true hL0
                refine ⟨_, rfl, .inl ⟨rfl, _, SqL.of h4⟩, ?_⟩
                refine ⟨_, rfl, _, rfl, r, a, l, ns.map V.str, rfl, r4, hScr.keep b4, nlr, SqL.of (b4 _ _ nlr hl), by rw [List.length_map]; exact hn1, by rw [List.length_map]; omega, fun H5 x b5 r5 hx => ?_⟩
                obtain ⟨m, hm, rfl⟩ := List.mem_map.mp hx
                refine ⟨_, rfl, _, rfl, r, a, rfl, r5, (hScr.keep b4).keep b5, fun H6 t as b6 r6 nt ht hl4 hok => ?_⟩
                refine ⟨by show 2 ≤ sizeLine; decide, fun p2 n2 => ?_⟩
                have h6 := b6 _ _ nfr (b5 _ _ nfr h4)
                have nf2 : fo ≠ p2 := ne_of_none h6 n2
                have htf : t ≠ fo := (ne_of_none (b5 _ _ nfr h4) nt).symm
                have htr : t ≠ r := r5.ne nt
                have b46 : But r _ H6 := But.trans b5 b6
                refine ⟨fo, xs, _, rfl, rfl, by rw [upd_ne nf2]; exact h6, small1000 (by omega), ?_⟩
                have np2r : p2 ≠ r := r6.ne n2
                have nt2 : t ≠ p2 := ne_of_none ht n2
                have dom6 : ∀ {b : Addr}, H6 b = none → (upd H fo (.lst [])) b = none := fun {b} e => by obtain ⟨u, hu⟩ := r6.has; exact dom1 (But.trans b4 b46) hu h6 e
                have dom5 : ∀ {b : Addr}, H5 b = none → (upd H fo (.lst [])) b = none := fun {b} e => by obtain ⟨u, hu⟩ := r5.has; exact dom1 (But.trans b4 b5) hu (b5 _ _ nfr h4) e
                have kp : ∀ (b : Addr) (o : HO), (upd H fo (.lst [])) b = none → H4 b = some o → (upd (upd H6 p2 (.tup [V.str m, .ref t])) fo (.lst (xs ++ [.ref p2]))) b = some o := fun b o e1 e2 => by
                  have q1 : b ≠ fo := fun z => by rw [z, upd_same] at e1; cases e1
                  have q2 : b ≠ r := fun z => by obtain ⟨u, hu⟩ := r1.has; rw [z, hu] at e1; cases e1
                  have e3 := b46 _ _ q2 e2
                  rw [upd_ne q1, upd_ne (ne_of_none e3 n2)]
                  exact e3
                refine ⟨_, rfl, _, _, rfl, rfl, ?_⟩
                refine ⟨xs ++ [.ref p2], appE e (.rule m as .nil), lf - 1, _, _, rfl, But.own (But.new (But.trans b4 b46) n2) nfo, (r6.other np2r).other nfr, upd_same, EL.app (PlL.mono (fresh_keep kp) hP) ⟨_, [], rfl, ⟨p2, t, rfl, ?_, ?_⟩, rfl⟩, ?_, ?_, by omega, by omega, ?_, (by rw [wid_app]; show max (wid e) 0 ≤ 4; omega), ?_⟩
                · exact fresh_of (dom6 n2) (by rw [upd_ne nf2.symm]; exact upd_same)
                · exact fresh_of (dom5 nt) (by rw [upd_ne htf, upd_ne nt2]; exact ht)
                · rw [dep_app]; show max (dep e) 1 ≤ d + 1; omega
                · show ((rls (appE e (.rule m as .nil))).length : Int) + (lf - 1) ≤ most
                  rw [rls_app, List.length_append]; have hce' : ((rls e).length : Int) + lf ≤ most := hce; show (((rls e).length + 1 : Nat) : Int) + (lf - 1) ≤ most; omega
                · rw [len_app]; show len e + 1 ≤ i + 1; omega
                · intro q' hq'
                  rw [rls_app] at hq'
                  rcases List.mem_append.mp hq' with hq' | hq'
                  · exact hro q' hq'
                  · rw [List.mem_singleton.mp hq']; exact ⟨hm, hl4, hok⟩
              · exact ⟨xs, e, lf, _, _, rfl, b4, r4, h4, PlL.mono (fresh_keep kp0) hP, hde, hce, hl0, by omega, Nat.le_succ_of_le hle, hwd, hro⟩
            · have hmin : ∀ z : Int, z = (if (3 : Int) < lf then 3 else lf) → 0 ≤ z ∧ z ≤ lf ∧ z ≤ 3 := by
                intro z hz
                by_cases h3l : (3 : Int) < lf
                · rw [if_pos h3l] at hz; omega
                · rw [if_neg h3l] at hz; omega
              have hdd : (1 : Int) < dp := by simpa using hd1
              obtain ⟨mn0, mn1, mn2⟩ := hmin _ rfl
              refine ⟨_, rfl, _, rfl, _, rfl, _, _, rfl, _, rfl, _, _, rfl, rfl, _, rfl, ?_⟩
              refine ⟨r, a, l, _, _, ns, rfl, r4, hScr.keep b4, nlr, b4 _ _ nlr hl, hn1, hn4, mn0, by omega, by omega, by omega, fun H5 p xs2 e2 b5 r5 np hp hP2 hd2 hc2 hl2 hw2 hro2 => ?_⟩
              have h5 := b5 _ _ nfr h4
              have npf : p ≠ fo := (ne_of_none h4 np).symm
              have npr : p ≠ r := r4.ne np
              refine ⟨_, rfl, .inl ⟨rfl, _, SqL.of h5⟩, _, rfl, fo, xs, _, rfl, rfl, h5, small1000 (by omega), ?_⟩
              have dom4 : ∀ {b : Addr}, H4 b = none → (upd H fo (.lst [])) b = none := fun {b} e => by obtain ⟨u, hu⟩ := r4.has; exact dom1 b4 hu h4 e
              have kq : ∀ (b : Addr) (o : HO), (upd H fo (.lst [])) b = none → H5 b = some o → (upd H5 fo (.lst (xs ++ [.ref p]))) b = some o := fun b o e1 e2 => by
                rw [upd_ne (fun z => by rw [z, upd_same] at e1; cases e1)]; exact e2
              have hPe2 : PlL (fresh (upd H fo (.lst [])) (upd H5 fo (.lst (xs ++ [.ref p])))) e2 xs2 := PlL.mono (fresh_keep kq) (PlL.mono (fresh_in fun b e => dom4 e) hP2)
              have hpf : (fresh (upd H fo (.lst [])) (upd H5 fo (.lst (xs ++ [.ref p])))) p = some (.lst xs2) := fresh_of (dom4 np) (kq _ _ (dom4 np) hp)
              have kr : ∀ (b : Addr) (o : HO), (upd H fo (.lst [])) b = none → H' b = some o → (upd H5 fo (.lst (xs ++ [.ref p]))) b = some o := fun b o e1 e2 => kq b o e1 (b5 b o (fun z => by obtain ⟨u, hu⟩ := r1.has; rw [z, hu] at e1; cases e1) (kp0 b o e1 e2))
              refine ⟨_, rfl, _, rfl, p, xs2, e2, rfl, by rw [upd_ne npf]; exact hp, PlL.mono (fresh_sub _ _) hPe2, hd2, by omega, fun H7 p7 us s7 n7 hp7 hr7 => ?_⟩
              have hus : us.length = cnt e2 := (Paired.length hr7).symm
              refine ⟨_, _, rfl, .inl (SqL.of hp7), _, _, rfl, rfl, ?_⟩
              have k7 : Same (fresh (upd H fo (.lst [])) (upd H5 fo (.lst (xs ++ [.ref p])))) (fresh (upd H fo (.lst [])) H7) := fresh_keep fun b o _ e2 => s7 b o e2
              have hcc : (cnt e2 : Int) ≤ if (3 : Int) < lf then 3 else lf := hc2
              refine ⟨xs ++ [.ref p], appE e (.stk e2 .nil), lf - us.length, _, _, rfl, But.trans (But.own (But.trans b4 b5) nfo) (But.of s7), (r5.other nfr).keep s7, s7 _ _ upd_same, EL.app (PlL.mono k7 (PlL.mono (fresh_keep kr) hP)) ⟨_, [], rfl, ⟨p, xs2, rfl, k7 _ _ hpf, PlL.mono k7 hPe2⟩, rfl⟩, ?_, ?_, by omega, by omega, ?_, (by rw [wid_app]; show max (wid e) (max (max (len e2) (wid e2)) 0) ≤ 4; omega), ?_⟩
              · rw [dep_app]; show max (dep e) (max (dep e2 + 1) 1) ≤ d + 1; omega
              · show ((rls (appE e (.stk e2 .nil))).length : Int) + (lf - us.length) ≤ most
                rw [rls_app, List.length_append]
                show (((rls e).length + (rls e2 ++ []).length : Nat) : Int) + (lf - us.length) ≤ most
                rw [List.append_nil, hus]
                have : ((rls e).length : Int) + lf ≤ most := hce
                show (((rls e).length + (rls e2).length : Nat) : Int) + (lf - ((rls e2).length : Nat)) ≤ most
                omega
              · rw [len_app]; show len e + 1 ≤ i + 1; omega
              · intro q' hq'
                rw [rls_app] at hq'
                rcases List.mem_append.mp hq' with hq' | hq'
                · exact hro q' hq'
                · have hq2 : q' ∈ rls e2 ++ [] := hq'
                  rw [List.append_nil] at hq2
                  exact hro2 q' hq2
      · rintro σ H' ⟨xs, e, lf, v, w', rfl, b3, r3, h3, hP, hde, hce, hl0, hlm, hle, hwd, hro⟩
        refine ⟨_, rfl, q _ fo xs e b3 r3 nfo h3 (PlL.mono (fresh_in fun b e => ?_) hP) hde (by omega) (by omega) hwd hro⟩
        cases z : H b with
        | none => rfl
        | some u => rw [s1 _ _ z] at e; cases e
end
end K9
end
section
set_option Elab.async false
set_option linter.all false
set_option maxRecDepth 100000
set_option maxHeartbeats 8000000
/-! Draws: a stack, another one near to it. -/
namespace K9
open PySem PySem.Spec PyProof.Rows L2
def takeE : Nat → Es → Es
  | 0, _ => .nil
  | _ + 1, .nil => .nil
  | n + 1, .rule m as r => .rule m as (takeE n r)
  | n + 1, .stk i r => .stk i (takeE n r)
theorem take_drop : ∀ (n : Nat) (e : Es), appE (takeE n e) (dropE n e) = e
  | 0, e => rfl
  | n + 1, .nil => rfl
  | n + 1, .rule m as r => by show Es.rule m as (appE (takeE n r) (dropE n r)) = _; rw [take_drop n r]
  | n + 1, .stk i r => by show Es.stk i (appE (takeE n r) (dropE n r)) = _; rw [take_drop n r]
def revE : Es → Es
  | .nil => .nil
  | .rule m as r => appE (revE r) (.rule m as .nil)
  | .stk i r => appE (revE r) (.stk i .nil)
section
variable {fr : Rl → V → Prop} {fs : (List V → Prop) → Es → V → Prop}
theorem EL.take : ∀ (n : Nat) {e : Es} {xs : List V}, EL fr fs e xs → EL fr fs (takeE n e) (xs.take n)
  | 0, _, _, h => rfl
  | n + 1, .nil, xs, h => by rw [(show xs = [] from h)]; rfl
  | n + 1, .rule m as r, _, ⟨v, zs, e, a, b⟩ => by subst e; exact ⟨v, _, rfl, a, EL.take n b⟩
  | n + 1, .stk i r, _, ⟨v, zs, e, a, b⟩ => by subst e; exact ⟨v, _, rfl, a, EL.take n b⟩
theorem EL.rev : ∀ {e : Es} {xs : List V}, EL fr fs e xs → EL fr fs (revE e) xs.reverse
  | .nil, xs, h => by rw [(show xs = [] from h)]; rfl
  | .rule m as r, _, ⟨v, zs, e, a, b⟩ => by subst e; rw [List.reverse_cons]; exact EL.app (EL.rev b) ⟨v, [], rfl, a, rfl⟩
  | .stk i r, _, ⟨v, zs, e, a, b⟩ => by subst e; rw [List.reverse_cons]; exact EL.app (EL.rev b) ⟨v, [], rfl, a, rfl⟩
end
theorem rev_facts : ∀ e : Es, dep (revE e) = dep e ∧ len (revE e) = len e ∧ (rls (revE e)).length = (rls e).length ∧ ∀ q ∈ rls (revE e), q ∈ rls e
  | .nil => ⟨rfl, rfl, rfl, fun q h => h⟩
  | .rule m as r => by
    obtain ⟨h1, h2, h3, h4⟩ := rev_facts r
    have := one_le_dep r
    refine ⟨?_, ?_, ?_, ?_⟩
    · show dep (appE (revE r) (.rule m as .nil)) = dep r
      rw [dep_app, h1]; show max (dep r) 1 = dep r; omega
    · show len (appE (revE r) (.rule m as .nil)) = len r + 1
      rw [len_app, h2]; rfl
    · show (rls (appE (revE r) (.rule m as .nil))).length = _
      rw [rls_app, List.length_append, h3]; rfl
    · intro q hq
      have hq : q ∈ rls (appE (revE r) (.rule m as .nil)) := hq
      rw [rls_app] at hq
      rcases List.mem_append.mp hq with hq | hq
      · exact List.mem_cons_of_mem _ (h4 q hq)
      · rw [List.mem_singleton.mp hq]; exact List.mem_cons_self ..
  | .stk i r => by
    obtain ⟨h1, h2, h3, h4⟩ := rev_facts r
    have := one_le_dep r
    refine ⟨?_, ?_, ?_, ?_⟩
    · show dep (appE (revE r) (.stk i .nil)) = max (dep i + 1) (dep r)
      rw [dep_app, h1]; show max (dep r) (max (dep i + 1) 1) = _; omega
    · show len (appE (revE r) (.stk i .nil)) = len r + 1
      rw [len_app, h2]; rfl
    · show (rls (appE (revE r) (.stk i .nil))).length = (rls i ++ rls r).length
      rw [rls_app, List.length_append, h3, List.length_append]
      show (rls r).length + (rls i ++ []).length = _
      rw [List.append_nil]; omega
    · intro q hq
      have hq : q ∈ rls (appE (revE r) (.stk i .nil)) := hq
      rw [rls_app] at hq
      rcases List.mem_append.mp hq with hq | hq
      · exact List.mem_append_right _ (h4 q hq)
      · have hq : q ∈ rls i ++ [] := hq
        rw [List.append_nil] at hq
        exact List.mem_append_left _ hq
theorem wid_rev : ∀ e : Es, wid (revE e) = wid e
  | .nil => rfl
  | .rule m as r => by show wid (appE (revE r) (.rule m as .nil)) = wid r; rw [wid_app, wid_rev r]; show max (wid r) 0 = _; omega
  | .stk i r => by show wid (appE (revE r) (.stk i .nil)) = max (max (len i) (wid i)) (wid r); rw [wid_app, wid_rev r]; show max (wid r) (max (max (len i) (wid i)) 0) = _; omega
theorem hu2_of {A : Around} {k : Nat} (hr : Room k A) : A.units + 2 < cLine := by have := hr.units; omega
theorem len_drop : ∀ (n : Nat) (e : Es), len (dropE n e) ≤ len e
  | 0, e => Nat.le_refl _
  | n + 1, .nil => Nat.le_refl _
  | n + 1, .rule _ _ r => Nat.le_succ_of_le (len_drop n r)
  | n + 1, .stk i r => Nat.le_succ_of_le (len_drop n r)
theorem cut_take {xs : List V} {k : Int} (h0 : 0 ≤ k) (h : k ≤ xs.length) : cutV xs none (some k) = xs.take k.toNat := by
  unfold cutV
  have e : (k.toNat : Int) = k := by omega
  rw [← e, HT.sIx_nat, HT.sIx_none, Int.toNat_natCast, Nat.min_eq_left (by omega)]
  rfl
theorem cut_drop {xs : List V} {k : Int} (h0 : 0 ≤ k) : cutV xs (some k) none = xs.drop k.toNat := by
  unfold cutV
  have e : (k.toNat : Int) = k := by omega
  rw [← e, HT.sIx_nat, HT.sIx_none, Int.toNat_natCast]
  by_cases h : k.toNat ≤ xs.length
  · rw [Nat.min_eq_left h, List.take_of_length_le (by rw [List.length_drop]; omega)]
  · rw [Nat.min_eq_right (by omega), List.drop_of_length_le (Nat.le_refl _), List.drop_of_length_le (by omega), List.take_nil]
def names5 : List Str := ["key", "pin", "card", "lan", "tag"]
def spDrawn (K : PySem.W.Frag) : Sp := fun vs H Q _ => ∃ (r a : Addr), vs = [.ref r] ∧ RowAt H r a ∧ Scr K H r a ∧ ∀ (H' : Hp) (p : Addr) (xs : List V) (e : Es), But r H H' → RowAt H' r a → H p = none → H' p = some (.lst xs) → PlL (fresh H H') e xs → dep e ≤ 3 → cnt e ≤ 6 → len e ≤ 4 → wid e ≤ 4 → (∀ q ∈ rls e, RlOk names4 q) → Q (.ref p) H'
def spOther (K : PySem.W.Frag) : Sp := fun vs H Q _ => ∃ (r a p : Addr) (xs : List V) (e : Es), vs = [.ref r, .ref p] ∧ RowAt H r a ∧ Scr K H r a ∧ p ≠ r ∧ H p = some (.lst xs) ∧ PlL (cut r H) e xs ∧ dep e ≤ 3 ∧ cnt e ≤ 6 ∧ len e ≤ 4 ∧ wid e ≤ 4 ∧ (∀ q ∈ rls e, RlOk names4 q) ∧
  ∀ (H' : Hp) (p' : Addr) (ys : List V) (e' : Es), But r H H' → H' p' = some (.lst ys) → PlL H' e' ys → dep e' ≤ 3 → cnt e' ≤ 7 → len e' ≤ 5 → wid e' ≤ 4 → (∀ q ∈ rls e', RlOk names5 q) → Q (.ref p') H'
theorem n45 {q : Rl} (h : RlOk names4 q) : RlOk names5 q := by
  refine ⟨?_, h.2⟩
  have := h.1
  show q.1 ∈ names4 ++ [("tag" : Str)]
  exact List.mem_append_left _ this
section
variable {P : Program} {w : World} {K : PySem.W.Frag} {mg : Str → Option Value} {base : Heap}
abbrev psPlain : List Str := ["_law_row", "_law_names_here", "_law_most", "_law_deep", "_law_plain_here"]
theorem ok_drawn {f fN fP : Addr} {fd fdN fdP : FuncData} (F : Fun K "_law_drawn" "_law_drawn" lDrawn f fd) (N : Cl P w K mg base CX0 2 "_law_names" ["_law_row", "_law_most"] (spNames K) fN fdN) (PL : Cl P w K mg base CX0 6 "_law_plain" psPlain (spPlain K 3) fP fdP) :
    FnOk P w K mg base CX0 7 f fd ["_law_row"] (spDrawn K) := by
  refine F.ok scDrawn (fun vs H Q E h => ?_) (fun cdv A outer s H vs Q E hr h => ?_)
  · obtain ⟨_, _, rfl, _⟩ := h
    rfl
  · obtain ⟨r, a, rfl, hR, hScr, q⟩ := h
    refine ⟨_, pss_one (ps_ret (pe_call PL.ok hr rfl PL.g PL.kp PL.b .nil pass0 (pa_cons (pv 0) (pa_cons (pe_call N.ok (hr.mono (by decide)) rfl N.g N.kp N.b .nil pass0 (pa_cons (pv 0) (pa_cons pe_int pa_nil))) (pa_cons pe_int (pa_cons pe_int (pa_cons pe_bl pa_nil))))))), ?_⟩
    refine ⟨_, rfl, _, rfl, r, a, rfl, hR, hScr, fun H1 l ns b1 r1 nl hl h1 h4 hm => ?_⟩
    refine ⟨r, a, l, 6, 3, ns, rfl, r1, hScr.keep b1, hR.ne nl, hl, h1, h4, by decide, by decide, rfl, by decide, fun H2 p xs e b2 r2 np hp hP hd hc hle hwd hro => ?_⟩
    have dm : ∀ b, H1 b = none → H b = none := fun b z => by obtain ⟨u, hu⟩ := r1.has; exact b1.dom hu z
    exact q H2 p xs e (But.trans b1 b2) r2 (dm _ np) hp (PlL.mono (fresh_in dm) hP) hd (by omega) hle hwd fun x hx => ⟨hm _ (hro x hx).1, (hro x hx).2⟩
theorem ok_other {f fT fP fB fD : Addr} {fd fdT fdP fdB fdD : FuncData} (F : Fun K "_law_other" "_law_other" lOther f fd) (zl : mg "len" = none) (T : Cl P w K mg base CX0 1 "_law_taken" ["_law_row", "_law_many"] (spTaken K) fT fdT)
    (PK : Cl P w K mg base CX0 2 "_law_pick" ["_law_row", "_law_some"] (spPick K) fP fdP) (TB : Cl P w K mg base CX0 2 "_law_table" ["_law_row", "_law_plain_here"] (spTable K) fB fdB) (D : Cl P w K mg base CX0 7 "_law_drawn" ["_law_row"] (spDrawn K) fD fdD) :
    FnOk P w K mg base CX0 8 f fd ["_law_row", "_law_plain_here"] (spOther K) := by
  refine F.ok scOther (fun vs H Q E h => ?_) (fun cdv A outer s H vs Q E hr h => ?_)
  · obtain ⟨_, _, _, _, _, rfl, _⟩ := h
    rfl
  · obtain ⟨r, a, p, xs, e, rfl, hR, hScr, npr, hp, hP, hd, hc, hle, hwd, hro, q⟩ := h
    have hr1 : Room 1 _ := hr.mono (by decide)
    have hr2 : Room 2 _ := hr.mono (by decide)
    refine ⟨_, pss_cons (ps_set (i := 2) scOther.nd rfl (Or.inl rfl) (pe_call T.ok hr1 rfl T.g T.kp T.b .nil pass0 (pa_cons (pv 0) (pa_cons pe_int pa_nil))))
      (pss_cons (ps_if (PW.pt (pw_or (pt_cmpR op_eq (pv 2) pe_int (nomark _)) (pw_or1 (pt_cmpR (op_eqNil (hu2_of hr)) (pv 1) (pe_lst pa_nil) (nomark _)))))
        (pss_one (ps_ret (pe_call D.ok hr rfl D.g D.kp D.b .nil pass0 (pa_cons (pv 0) pa_nil)))) pss_nil)
      (pss_cons (ps_set (i := 3) scOther.nd rfl (Or.inl rfl) (pe_call T.ok hr1 rfl T.g T.kp T.b .nil pass0 (pa_cons (pv 0) (pa_cons (pe_callB call_len_seq (by rfl) zl PySem.boot_len (pa_cons (pv 1) pa_nil)) pa_nil))))
      (pss_cons (ps_if (pt_cmpR op_eq (pv 2) pe_int (nomark _))
        (pss_one (ps_ret (pe_op op_cat (pe_slice sl_list (pv 1) po_none (po_some (pv 3))) (pe_slice sl_list (pv 1) (po_some (pe_op op_add (pv 3) pe_int)) po_none)))) pss_nil)
      (pss_cons (ps_if (pt_cmpR op_eq (pv 2) pe_int (nomark _))
        (pss_one (ps_ret (pe_op op_cat (pe_op op_cat (pe_slice sl_list (pv 1) po_none (po_some (pv 3)))
            (pe_lst (pa_cons (pe_tup (pa_cons (pe_call PK.ok hr2 rfl PK.g PK.kp PK.b .nil pass0 (pa_cons (pv 0) (pa_cons (pe_lst (pa_cons pe_str (pa_cons pe_str (pa_cons pe_str pa_nil)))) pa_nil))) (pa_cons (pe_call TB.ok hr2 rfl TB.g TB.kp TB.b .nil pass0 (pa_cons (pv 0) (pa_cons pe_bl pa_nil))) pa_nil))) pa_nil)))
          (pe_slice sl_list (pv 1) (po_some (pv 3)) po_none)))) pss_nil)
      (pss_one (ps_ret (pe_op op_cat (pe_slice sl_list (pv 1) po_none (po_some (pv 3))) (pe_revL (pe_slice sl_list (pv 1) (po_some (pv 3)) po_none))))))))), ?_⟩
    refine ⟨_, rfl, r, a, 4, rfl, hR, hScr, by decide, by decide, fun H1 n b1 r1 n0 n4 => ?_⟩
    have hp1 := b1 _ _ npr hp
    have cutk : ∀ {H' : Hp}, But r H H' → Same (cut r H) (cut r H') := fun b b' o z => by
      obtain ⟨z1, z2⟩ := cut_some z
      exact cut_of z1 (b _ _ z1 z2)
    have fin0 : ∀ {H1 : Hp}, But r H H1 → RowAt H1 r a → ∀ (H2 : Hp) (p2 : Addr) (ys : List V) (e2 : Es), But r H1 H2 → RowAt H2 r a → H1 p2 = none → H2 p2 = some (.lst ys) → PlL (fresh H1 H2) e2 ys → dep e2 ≤ 3 → cnt e2 ≤ 6 → len e2 ≤ 4 → wid e2 ≤ 4 → (∀ q ∈ rls e2, RlOk names4 q) → Q (.ref p2) H2 :=
      fun b1 _ H2 p2 ys e2 b2 r2 n2 h2 hP2 hd2 hc2 hl2 hw2 hro2 => q H2 p2 ys e2 (But.trans b1 b2) h2 (PlL.mono (fresh_sub _ _) hP2) hd2 (by omega) (by omega) hw2 fun x hx => n45 (hro2 x hx)
    refine ⟨_, rfl, rfl, _, rfl, ?_⟩
    refine ite2 (fun _ => iteT ?_) (fun hn0 => ?_)
    · exact ⟨_, rfl, r, a, rfl, r1, hScr.keep b1, fin0 b1 r1⟩
    refine ⟨_, rfl, Nat.zero_le _, fun el nel => ?_⟩
    have s2 : Same H1 (upd H1 el (.lst [])) := Same.new (Same.refl _) nel
    have b2 := But.trans b1 (But.of s2)
    have r2 := r1.keep s2
    refine ⟨p, el, xs, rfl, rfl, SqL.of (s2 _ _ hp1), SqL.of upd_same, _, rfl, ?_⟩
    refine ite2 (fun _ => ?_) (fun hne => ?_)
    · exact ⟨_, rfl, r, a, rfl, r2, hScr.keep b2, fin0 b2 r2⟩
    have hlen : xs.length = len e := EL.length _ _ hP
    have hpos : 0 < xs.length := by
      cases xs with
      | nil => exact absurd rfl hne
      | cons x t => exact Nat.succ_pos _
    refine ⟨_, rfl, _, rfl, p, xs, rfl, .inl (SqL.of (s2 _ _ hp1)), r, a, _, rfl, r2, hScr.keep b2, by omega, by omega, fun H3 k b3 r3 k0 kn => ?_⟩
    have bH3 := But.trans b2 b3
    have hp3 : H3 p = some (.lst xs) := bH3 _ _ npr hp
    have hP3 : PlL (cut r H3) e xs := PlL.mono (cutk bH3) hP
    have hPk : ∀ {H' : Hp}, Same H3 H' → PlL H' e xs := fun s => PlL.mono s (PlL.mono (cut_sub _ _) hP3)
    have ed := take_drop k.toNat e
    have ed' := take_drop (k.toNat + 1) e
    have dT : dep e = max (dep (takeE k.toNat e)) (dep (dropE k.toNat e)) := by rw [← dep_app, ed]
    have lT : len e = len (takeE k.toNat e) + len (dropE k.toNat e) := by rw [← len_app, ed]
    have rT : rls e = rls (takeE k.toNat e) ++ rls (dropE k.toNat e) := by rw [← rls_app, ed]
    have cT : (rls e).length = (rls (takeE k.toNat e)).length + (rls (dropE k.toNat e)).length := by rw [rT, List.length_append]
    have hc' : (rls e).length ≤ 6 := hc
    have wT : wid e = max (wid (takeE k.toNat e)) (wid (dropE k.toNat e)) := by rw [← wid_app, ed]
    refine ⟨_, rfl, rfl, _, rfl, ?_⟩
    refine ite2 (fun _ => ?_) (fun _ => ?_)
    · refine ⟨_, rfl, _, rfl, _, rfl, p, xs, rfl, SqL.of hp3, fun l1 m1 => ?_⟩
      have t1 : Same H3 (upd H3 l1 (.lst (cutV xs none (some k)))) := Same.new (Same.refl _) m1
      refine ⟨_, rfl, _, rfl, _, _, rfl, rfl, _, rfl, p, xs, rfl, SqL.of (t1 _ _ hp3), fun l2 m2 => ?_⟩
      have n12 : l1 ≠ l2 := ne_of_none upd_same m2
      refine ⟨l1, l2, _, _, rfl, rfl, by rw [upd_ne n12]; exact upd_same, upd_same, ?_, fun l3 m3 => ?_⟩
      · have h1 := cutV_length xs none (some k)
        have h2 := cutV_length xs (some (k + 1)) none
        exact Nat.le_of_lt (small1000 (by omega))
      have t3 := Same.new (o := HO.lst (cutV xs none (some k) ++ cutV xs (some (k + 1)) none)) (Same.new (o := HO.lst (cutV xs (some (k + 1)) none)) t1 m2) m3
      have e1 : (k + 1).toNat = k.toNat + 1 := by omega
      have d1 := dep_drop 1 (dropE k.toNat e)
      have c1 : (rls (dropE 1 (dropE k.toNat e))).length ≤ (rls (dropE k.toNat e)).length := cnt_drop 1 (dropE k.toNat e)
      have l1' := len_drop 1 (dropE k.toNat e)
      have w1 := wid_drop 1 (dropE k.toNat e)
      rw [← dropE_add] at d1 c1 l1' w1
      refine q _ l3 _ (appE (takeE k.toNat e) (dropE (k.toNat + 1) e)) (But.trans bH3 (But.of t3)) upd_same ?_ ?_ ?_ ?_ (by rw [wid_app]; omega) ?_
      · rw [cut_take k0 (by omega), cut_drop (by omega), e1]
        have z := hPk t3
        rw [cut_take k0 (by omega), cut_drop (by omega), e1] at z
        exact EL.app (EL.take _ z) (EL.drop _ z)
      · rw [dep_app]; omega
      · show (rls _).length ≤ 7
        rw [rls_app, List.length_append]; omega
      · rw [len_app]; omega
      · intro x hx
        rw [rls_app] at hx
        rcases List.mem_append.mp hx with hx | hx
        · exact n45 (hro x (by rw [rT]; exact List.mem_append_left _ hx))
        · exact n45 (hro x (mem_drop hx))
    refine ⟨_, rfl, rfl, _, rfl, ?_⟩
    refine ite2 (fun _ => ?_) (fun _ => ?_)
    · refine ⟨_, rfl, _, rfl, _, rfl, p, xs, rfl, SqL.of hp3, fun l1 m1 => ?_⟩
      have t1 : Same H3 (upd H3 l1 (.lst (cutV xs none (some k)))) := Same.new (Same.refl _) m1
      have rt1 := r3.keep t1
      refine ⟨_, rfl, by show 3 ≤ sizeLine; decide, fun nl mn => ?_⟩
      have t2 : Same (upd H3 l1 (.lst (cutV xs none (some k)))) (upd (upd H3 l1 (.lst (cutV xs none (some k)))) nl (.lst [.str "key", .str "pin", .str "tag"])) := Same.new (Same.refl _) mn
      have t12 := t1.trans t2
      have r5 := r3.keep t12
      refine ⟨r, a, nl, _, rfl, r5, hScr.keep (But.trans bH3 (But.of t12)), rt1.ne mn, SqL.of upd_same, by decide, by decide, fun H6 x b6 r6 hx => ?_⟩
      obtain ⟨m, hm, rfl⟩ : ∃ m ∈ names5, x = V.str m := by
        rcases List.mem_cons.mp hx with z | hx
        · exact ⟨_, by decide +kernel, z⟩
        rcases List.mem_cons.mp hx with z | hx
        · exact ⟨_, by decide +kernel, z⟩
        · exact ⟨_, by decide +kernel, List.mem_singleton.mp hx⟩
      refine ⟨_, rfl, r, a, rfl, r6, (hScr.keep (But.trans bH3 (But.of t12))).keep b6, fun H7 t as b7 r7 nt ht hl4 hok => ?_⟩
      refine ⟨by show 2 ≤ sizeLine; decide, fun tp mt => ⟨by show 1 ≤ sizeLine; decide, fun l2 m2 => ?_⟩⟩
      have n1r : l1 ≠ r := r3.ne m1
      have b37 : But r H3 H7 := But.trans (But.of t12) (But.trans b6 b7)
      have h17 : H7 l1 = some (.lst (cutV xs none (some k))) := b7 _ _ n1r (b6 _ _ n1r (t2 _ _ upd_same))
      have t8 : Same H7 (upd (upd H7 tp (.tup [V.str m, .ref t])) l2 (.lst [.ref tp])) := Same.new (Same.new (Same.refl _) mt) m2
      have n12 : l1 ≠ l2 := ne_of_none (show (upd H7 tp (.tup [V.str m, .ref t])) l1 = some _ from by rw [upd_ne (ne_of_none h17 mt)]; exact h17) m2
      refine ⟨l1, l2, _, _, rfl, rfl, t8 _ _ h17, upd_same, ?_, fun l3 m3 => ?_⟩
      · have h1 := cutV_length xs none (some k)
        exact Nat.le_of_lt (small1000 (by show _ + 1 ≤ 1000; omega))
      have t9 := Same.new (o := HO.lst (cutV xs none (some k) ++ [.ref tp])) t8 m3
      have hp9 := t9 _ _ (b37 _ _ npr hp3)
      refine ⟨_, rfl, _, rfl, _, rfl, p, xs, rfl, SqL.of hp9, fun l4 m4 => ?_⟩
      have n34 : l3 ≠ l4 := ne_of_none upd_same m4
      refine ⟨l3, l4, _, _, rfl, rfl, by rw [upd_ne n34]; exact upd_same, upd_same, ?_, fun l5 m5 => ?_⟩
      · have h1 := cutV_length xs none (some k)
        have h2 := cutV_length xs (some k) none
        exact Nat.le_of_lt (small1000 (by rw [List.length_append]; show _ + 1 + _ ≤ 1000; omega))
      have t11 := Same.new (o := HO.lst ((cutV xs none (some k) ++ [.ref tp]) ++ cutV xs (some k) none)) (Same.new (o := HO.lst (cutV xs (some k) none)) t9 m4) m5
      have htp : (upd (upd H7 tp (.tup [V.str m, .ref t])) l2 (.lst [.ref tp])) tp = some (.tup [V.str m, .ref t]) := by
        have : tp ≠ l2 := ne_of_none (show (upd H7 tp (.tup [V.str m, .ref t])) tp = some _ from upd_same) m2
        rw [upd_ne this]; exact upd_same
      have s911 := Same.new (o := HO.lst ((cutV xs none (some k) ++ [.ref tp]) ++ cutV xs (some k) none)) (Same.new (o := HO.lst (cutV xs (some k) none)) (Same.new (o := HO.lst (cutV xs none (some k) ++ [.ref tp])) (Same.refl _) m3) m4) m5
      refine q _ l5 _ (appE (appE (takeE k.toNat e) (.rule m as .nil)) (dropE k.toNat e)) (But.trans (But.trans bH3 b37) (But.of t11)) upd_same ?_ ?_ ?_ ?_ (by rw [wid_app, wid_app]; show max (max _ 0) _ ≤ 4; omega) ?_
      · have z : PlL H7 e xs := PlL.mono (cut_sub _ _) (PlL.mono (cutk (But.trans bH3 b37)) hP)
        have z := PlL.mono t11 z
        refine EL.app (EL.app ?_ ⟨_, [], rfl, ⟨tp, t, rfl, s911 _ _ htp, t11 _ _ ht⟩, rfl⟩) ?_
        · have z' := EL.take k.toNat z
          rw [← cut_take k0 (by omega)] at z'
          exact z'
        · have z' := EL.drop k.toNat z
          rw [← cut_drop k0] at z'
          exact z'
      · rw [dep_app, dep_app]; show max (max _ 1) _ ≤ 3; omega
      · show (rls _).length ≤ 7
        rw [rls_app, rls_app, List.length_append, List.length_append]; show _ + 1 + _ ≤ 7; omega
      · rw [len_app, len_app]; show _ + 1 + _ ≤ 5; omega
      · intro x hx
        rw [rls_app, rls_app] at hx
        rcases List.mem_append.mp hx with hx | hx
        · rcases List.mem_append.mp hx with hx | hx
          · exact n45 (hro x (by rw [rT]; exact List.mem_append_left _ hx))
          · rw [List.mem_singleton.mp hx]; exact ⟨hm, hl4, hok⟩
        · exact n45 (hro x (mem_drop hx))
    · refine ⟨_, rfl, _, rfl, _, rfl, p, xs, rfl, SqL.of hp3, fun l1 m1 => ?_⟩
      have t1 : Same H3 (upd H3 l1 (.lst (cutV xs none (some k)))) := Same.new (Same.refl _) m1
      refine ⟨_, rfl, _, rfl, _, rfl, p, xs, rfl, SqL.of (t1 _ _ hp3), fun l2 m2 => ?_⟩
      have t2 := Same.new (o := HO.lst (cutV xs (some k) none)) t1 m2
      refine ⟨l2, _, rfl, SqL.of upd_same, fun l4 m4 => ?_⟩
      have n12 : l1 ≠ l2 := ne_of_none upd_same m2
      have n14 : l1 ≠ l4 := ne_of_none (show _ = some (HO.lst (cutV xs none (some k))) from by rw [upd_ne n12]; exact upd_same) m4
      refine ⟨l1, l4, _, _, rfl, rfl, by rw [upd_ne n14, upd_ne n12]; exact upd_same, upd_same, ?_, fun l3 m3 => ?_⟩
      · have h1 := cutV_length xs none (some k)
        have h2 := cutV_length xs (some k) none
        exact Nat.le_of_lt (small1000 (by rw [List.length_reverse]; omega))
      have t3 := Same.new (o := HO.lst (cutV xs none (some k) ++ (cutV xs (some k) none).reverse)) (Same.new (o := HO.lst (cutV xs (some k) none).reverse) t2 m4) m3
      obtain ⟨v1, v2, v3, v4⟩ := rev_facts (dropE k.toNat e)
      have v5 := wid_rev (dropE k.toNat e)
      refine q _ l3 _ (appE (takeE k.toNat e) (revE (dropE k.toNat e))) (But.trans bH3 (But.of t3)) upd_same ?_ ?_ ?_ ?_ (by rw [wid_app, v5]; omega) ?_
      · have z := hPk t3
        refine EL.app ?_ (EL.rev ?_)
        · have z' := EL.take k.toNat z
          rw [← cut_take k0 (by omega)] at z'
          exact z'
        · have z' := EL.drop k.toNat z
          rw [← cut_drop k0] at z'
          exact z'
      · rw [dep_app, v1]; omega
      · show (rls _).length ≤ 7
        rw [rls_app, List.length_append, v3]; omega
      · rw [len_app, v2]; omega
      · intro x hx
        rw [rls_app] at hx
        rcases List.mem_append.mp hx with hx | hx
        · exact n45 (hro x (by rw [rT]; exact List.mem_append_left _ hx))
        · exact n45 (hro x (mem_drop (v4 x hx)))
end
end K9
end
section
set_option Elab.async false
set_option linter.all false
set_option maxRecDepth 100000
set_option maxHeartbeats 8000000
/-! The law's modules and all answers. -/
namespace K9
open PySem PySem.Spec PyProof.Rows L2
theorem ix_tupK {X : Cx} {K : PySem.W.Frag} (e : X.K = K := by rfl) : IxR X (rIxT K) := by subst e; exact ix_tup
theorem op_catAK {X : Cx} {K : PySem.W.Frag} (e : X.K = K := by rfl) : OpR X (binaryOp .Add) (rCatA K) := by subst e; exact op_catA
theorem pe_dictZipK {X : Cx} {K : PySem.W.Frag} {a b : Expr} {ta tb : TE} {p p2 q pos : Pos} (ha : PE X a ta) (hb : PE X b tb) (hm : X.mg "dict" = none) (hm2 : X.mg "zip" = none) (hg : Gl X "dict" := by rfl) (hg2 : Gl X "zip" := by rfl) (hc : X.calm = true := by rfl)
    (hz1 : starEach [a, b] X.env = (false, eval a X.env) :: starEach [b] X.env := by rfl) (hz2 : (backTo q (starEach [b] X.env)).any (·.1) = false := by rfl) (hz3 : starEach [b] X.env = (false, eval b X.env) :: starEach [] X.env := by rfl) (eK : X.K = K := by rfl) :
    PE X (.Call (.Name "dict" p) [.Call (.Name "zip" p2) [a, b] [] q] [] pos) (tDictZip K ta tb) := by
  subst eK
  exact pe_dictZip ha hb hm hm2 hg hg2 hc hz1 hz2 hz3
def spModules : Sp := fun vs H Q _ => ∃ (a : Addr) (xs : List V) (e : Es), vs = [.ref a] ∧ H a = some (.lst xs) ∧ PlL H e xs ∧ dep e ≤ 3 ∧ cnt e ≤ 12 ∧ ∀ (H' : Hp) (p : Addr) (ns : List Str), Same H H' → H p = none → H' p = some (.lst (ns.map V.str)) → Nm ns (mods e) → Q (.ref p) H'
/-- a dict of answers -/
def anR (H : Hp) (ns c : List Str) (v : V) : Prop := ∃ d, v = .ref d ∧ H d = some (.dK (kvsOf ns c))
def AnL (H : Hp) (ns : List Str) (cs : List (List Str)) (xs : List V) : Prop := Paired (fun c v => anR H ns c v) cs xs
theorem anR.mono {A B : Hp} (s : Same A B) {ns c : List Str} {v : V} : anR A ns c v → anR B ns c v := fun ⟨d, e, a⟩ => ⟨d, e, s _ _ a⟩
theorem AnL.mono {A B : Hp} (s : Same A B) {ns : List Str} {cs : List (List Str)} {xs : List V} (h : AnL A ns cs xs) : AnL B ns cs xs := Paired.mapP h fun _ _ => anR.mono s
def tuR (H : Hp) (c : List Str) (v : V) : Prop := ∃ t, v = .ref t ∧ H t = some (.tup (c.map V.str))
def TuL (H : Hp) (cs : List (List Str)) (xs : List V) : Prop := Paired (fun c v => tuR H c v) cs xs
theorem tuR.mono {A B : Hp} (s : Same A B) {c : List Str} {v : V} : tuR A c v → tuR B c v := fun ⟨d, e, a⟩ => ⟨d, e, s _ _ a⟩
theorem TuL.mono {A B : Hp} (s : Same A B) {cs : List (List Str)} {xs : List V} (h : TuL A cs xs) : TuL B cs xs := Paired.mapP h fun _ _ => tuR.mono s
def spAll : Sp := fun vs H Q _ => ∃ (a : Addr) (ns : List Str), vs = [.ref a] ∧ H a = some (.lst (ns.map V.str)) ∧ ns.Nodup ∧ ns.length ≤ 6 ∧ ∀ (H' : Hp) (p : Addr) (xs : List V), Same H H' → H p = none → H' p = some (.lst xs) → AnL H' ns (allC ns.length) xs → Q (.ref p) H'
theorem le_line {n : Nat} (h : n ≤ 4096) : n < sizeLine := Nat.lt_of_le_of_lt h (by decide)
theorem four_le {n : Nat} (h : n ≤ 6) : 4 ^ n ≤ 4096 := Nat.le_trans (Nat.pow_le_pow_right (by decide) h) (by decide)
theorem take_snoc' {α : Type} {l : List α} {i : Nat} {x : α} (h : l[i]? = some x) : l.take (i + 1) = l.take i ++ [x] := take_snoc h
theorem get_len {α : Type} {l : List α} {i : Nat} {x : α} (h : l[i]? = some x) : i < l.length := (List.getElem?_eq_some_iff.mp h).1
section
variable {P : Program} {w : World} {K : PySem.W.Frag} {mg : Str → Option Value} {base : Heap}
theorem ok_modules {f fR : Addr} {fd fdR : FuncData} (F : Fun K "_law_modules" "_law_modules" lModules f fd) (zs : mg "sorted" = none) (zt : mg "set" = none) (R : Cl P w K mg base CX0 4 "_law_rules" ["_law_plain_here"] (spRules 3) fR fdR) :
    FnOk P w K mg base CX0 5 f fd ["_law_plain_here"] spModules := by
  refine F.ok scModules (fun vs H Q E h => ?_) (fun cdv A outer s H vs Q E hr h => ?_)
  · obtain ⟨_, _, _, rfl, _⟩ := h
    rfl
  · obtain ⟨a, xs, e, rfl, hA, hP, hd, hc, q⟩ := h
    refine ⟨_, pss_one (ps_ret (pe_callB (cr_sortSetS rfl) (by rfl) zs (by decide +kernel) (pa_cons (pe_callTy (cr_setS rfl) (by rfl) zt (by decide +kernel) (pa_cons
      (pe_lc (own := [("_law_rule", 1)]) (g := gName 1) (tt := tYes) rfl scModules.nd (pi_list (pe_call R.ok hr rfl R.g R.kp R.b .nil pass0 (pa_cons (pv 0) pa_nil))) (blkOk_by (own := [("_law_rule", 1)]) (N := ["_law_plain_here", "_law_rule"]) (sc := defScope lModules) (by decide +kernel))
        (fun _ _ _ _ _ => pg_name (i := 1) scModules.nd rfl (Or.inl rfl)) (fun _ _ _ _ _ => pts_nil) (fun _ _ _ _ _ => pe_ix (ix_tupK (K := K)) (pv 1) pe_int (fun _ _ => rfl))) pa_nil)) pa_nil))), ?_⟩
    refine ⟨_, rfl, a, xs, e, rfl, hA, hP, hd, by omega, fun H1 p1 us s1 n1 h1 hu => ?_⟩
    have hul : us.length = cnt e := (Paired.length hu).symm
    refine ⟨p1, rfl, ⟨_, SqL.of h1⟩, fun D nD => ?_⟩
    refine lc_list (K := K) (a := p1) (xs := us) (fun i H' => Same H1 H' ∧ H' D = some (.lst (((mods e).take i).map V.str))) ⟨Same.new (Same.refl _) nD, upd_same⟩ (fun i H' _ ⟨s, _⟩ => SqL.of (s _ _ h1)) ?_ ?_
    · rintro i x H' hi ⟨s, hD⟩
      obtain ⟨rl, hrl, p, t, rfl, hp, ht⟩ := paired_get hu hi
      have hm : (mods e)[i]? = some rl.1 := by show ((rls e).map (·.1))[i]? = _; rw [List.getElem?_map, hrl]; rfl
      refine ⟨rfl, ?_⟩
      refine ⟨_, rfl, p, _, 0, _, rfl, rfl, SqT.of (s _ _ hp), rfl, _, hD, ?_, Same.own s nD, ?_⟩
      · rw [List.length_map, List.length_take]
        have := get_len hi
        exact le_line (by omega)
      · rw [upd_same, take_snoc' hm, List.map_append]
        rfl
    · rintro H' ⟨s, hD⟩
      have el : us.length = (mods e).length := by show us.length = ((rls e).map (·.1)).length; rw [List.length_map, hul]
      rw [el, List.take_length] at hD
      have hl : (mods e).length ≤ 12 := by rw [← el, hul]; exact hc
      refine ⟨D, mods e, rfl, .inl (SqL.of hD), by omega, fun st n nst hn => ?_⟩
      refine ⟨st, _, n, rfl, upd_same, by omega, fun ns p hs hnd hmem hln np => ?_⟩
      have s3 : Same H (upd (upd H' st (SetSO w st (fun k => decide (k ∈ mods e)) n)) p (.lst (ns.map V.str))) := Same.new (Same.new (s1.trans s) nst) np
      refine q _ p ns s3 ?_ upd_same ⟨hs, hnd, fun m => by rw [hmem m]; exact decide_eq_true_iff⟩
      exact (Same.new (s1.trans s) nst : Same H (upd H' st (SetSO w st (fun k => decide (k ∈ mods e)) n))).free np
theorem ok_all {f : Addr} {fd : FuncData} (F : Fun K "_law_all" "_law_all" lAll f fd) (zd : mg "dict" = none) (zz : mg "zip" = none) : FnOk P w K mg base CX0 1 f fd ["_law_names_here"] spAll := by
  refine F.ok scAll (fun vs H Q E h => ?_) (fun cdv A outer s H vs Q E hr h => ?_)
  · obtain ⟨_, _, rfl, _⟩ := h
    rfl
  · obtain ⟨a, ns, rfl, hA, hnd, hn6, q⟩ := h
    refine ⟨_, pss_cons (ps_set (i := 1) scAll.nd rfl (Or.inl rfl) (pe_lst (pa_cons (pe_tup pa_nil) pa_nil)))
      (pss_cons (ps_for PassesOwn.never rfl (pi_list (pv 0)) (pg_name (i := 2) scAll.nd rfl (Or.inl rfl))
        (pss_cons (ps_set (i := 3) scAll.nd rfl (Or.inl rfl) (pe_lst pa_nil))
        (pss_cons (ps_for PassesOwn.never rfl (pi_list (pv 1)) (pg_name (i := 4) scAll.nd rfl (Or.inr rfl))
          (pss_one (ps_set (i := 3) scAll.nd rfl (Or.inl rfl) (pe_op op_cat (pv 3)
            (pe_lc (own := [("_law_result", 5)]) (g := gName 5) (tt := tYes) rfl scAll.nd (pi_tup (pe_tup (pa_cons pe_str (pa_cons pe_str (pa_cons pe_str (pa_cons pe_str pa_nil)))))) (blkOk_by (own := [("_law_result", 5)]) (N := ["_law_names_here", "_law_found", "_law_name", "_law_longer", "_law_some", "_law_result"]) (sc := defScope lAll) (by decide +kernel))
              (fun _ _ _ _ _ => pg_name (i := 5) scAll.nd rfl (Or.inl rfl)) (fun _ _ _ _ _ => pts_nil) (fun _ _ _ _ _ => pe_op (op_catAK (K := K)) (pv 4) (pe_tup (pa_cons (pv 5) pa_nil))))))))
        (pss_one (ps_set (i := 1) scAll.nd rfl (Or.inl rfl) (pv 3))))))
      (pss_one (ps_ret (pe_lc (own := [("_law_some", 4)]) (g := gName 4) (tt := tYes) rfl scAll.nd (pi_list (pv 1)) (blkOk_by (own := [("_law_some", 4)]) (N := ["_law_names_here", "_law_found", "_law_name", "_law_longer", "_law_some", "_law_result"]) (sc := defScope lAll) (by decide +kernel))
          (fun _ _ _ _ _ => pg_name (i := 4) scAll.nd rfl (Or.inl rfl)) (fun _ _ _ _ _ => pts_nil) (fun _ _ _ _ _ => pe_dictZipK (K := K) (pv 0) (pv 4) zd zz))))), ?_⟩
    refine ⟨by show 0 ≤ sizeLine; decide, fun t0 nt0 => ⟨by show 1 ≤ sizeLine; decide, fun fo nfo => ?_⟩⟩
    have s1 : Same H (upd (upd H t0 (.tup [])) fo (.lst [.ref t0])) := Same.new (Same.new (Same.refl H) nt0) nfo
    have h0f : t0 ≠ fo := ne_of_none (show (upd H t0 (.tup [])) t0 = some _ from upd_same) nfo
    refine ⟨_, rfl, a, rfl, ⟨_, SqL.of (s1 _ _ hA)⟩, for_list (K := K) (a := a) (xs := ns.map V.str) (fun i σ H' => ∃ (fo : Addr) (xs : List V) (v2 v3 v4 v5 : Option V), σ = [some (.ref a), some (.ref fo), v2, v3, v4, v5] ∧ Same H H' ∧ H' fo = some (.lst xs) ∧ TuL H' (allC i) xs)
      ⟨fo, _, _, _, _, _, rfl, s1, upd_same, .cons ⟨t0, rfl, by rw [upd_ne h0f]; exact upd_same⟩ .nil⟩ (fun i σ H' _ ⟨_, _, _, _, _, _, _, s, _⟩ => SqL.of (s _ _ hA)) ?_ ?_⟩
    · rintro i x σ H' hi ⟨fo, xs, v2, v3, v4, v5, rfl, s, hfo, hT⟩
      have hi6 : i < 6 := by have := get_len hi; rw [List.length_map] at this; omega
      have hxl : xs.length = 4 ^ i := by rw [← Paired.length hT, allC_len]
      have h4i : 4 ^ i * 4 ≤ 4096 := by rw [← Nat.pow_succ]; exact four_le (by omega)
      refine ⟨Nat.zero_le _, fun lo nlo => ?_⟩
      have s2 : Same H' (upd H' lo (.lst [])) := Same.new (Same.refl _) nlo
      have hlo0 : H lo = none := s.free nlo
      refine ⟨_, rfl, fo, rfl, ⟨_, SqL.of (s2 _ _ hfo)⟩, for_list (K := K) (a := fo) (xs := xs) (fun j σ H2 => ∃ (lo : Addr) (ys : List V) (v4 v5 : Option V), σ = [some (.ref a), some (.ref fo), some x, some (.ref lo), v4, v5] ∧ Same H' H2 ∧ H2 lo = some (.lst ys) ∧ TuL H2 (((allC i).take j).flatMap fun c => ress.map fun r => c ++ [r]) ys)
        ⟨lo, [], _, _, rfl, s2, upd_same, .nil⟩ (fun j σ H2 _ ⟨_, _, _, _, _, s, _⟩ => SqL.of (s _ _ hfo)) ?_ ?_⟩
      · rintro j y σ H2 hj ⟨lo, ys, v4, v5, rfl, s3, hlo, hY⟩
        obtain ⟨c, hcj, t, rfl, ht⟩ := paired_get hT hj
        have ht2 := s3 _ _ ht
        have hyl : ys.length = 4 * j := by
          rw [← Paired.length hY, List.length_flatMap]
          have e1 : ((allC i).take j).map (fun c => (ress.map fun r => c ++ [r]).length) = List.replicate j 4 := by
            rw [List.eq_replicate_iff]
            refine ⟨?_, fun z hz => ?_⟩
            · rw [List.length_map, List.length_take, Nat.min_eq_left]
              exact Nat.le_of_lt (get_len hcj)
            · obtain ⟨c, _, e⟩ := List.mem_map.mp hz
              rw [← e, List.length_map]; rfl
          rw [e1, List.sum_replicate_nat]; omega
        have hj4 : j < 4 ^ i := by rw [← hxl]; exact get_len hj
        refine ⟨_, rfl, by show 4 ≤ sizeLine; decide, fun tp ntp => ⟨tp, rfl, ⟨_, SqT.of upd_same⟩, fun D nD => ?_⟩⟩
        have s4 : Same H2 (upd H2 tp (.tup [.str "yes", .str "no", .str "skip", .str "gone"])) := Same.new (Same.refl _) ntp
        refine lc_tup (K := K) (a := tp) (xs := ress.map V.str) (fun k H3 => Same (upd H2 tp (.tup [.str "yes", .str "no", .str "skip", .str "gone"])) H3 ∧ ∃ zs, H3 D = some (.lst zs) ∧ TuL H3 ((ress.take k).map fun r => c ++ [r]) zs)
          ⟨Same.new (Same.refl _) nD, [], upd_same, .nil⟩ (fun k H3 _ ⟨s, _⟩ => SqT.of (s _ _ upd_same)) ?_ ?_
        · rintro k z H3 hk ⟨s5, zs, hD, hZ⟩
          have hk' := hk
          rw [List.getElem?_map] at hk'
          obtain ⟨rr, hrr, rfl⟩ : ∃ rr, ress[k]? = some rr ∧ z = V.str rr := by
            cases e : ress[k]? with
            | none => rw [e] at hk'; cases hk'
            | some rr => rw [e] at hk'; exact ⟨rr, rfl, (Option.some.inj hk').symm⟩
          have ht3 : H3 t = some (.tup (c.map V.str)) := s5 _ _ (s4 _ _ ht2)
          refine ⟨rfl, ?_⟩
          refine ⟨_, rfl, _, rfl, by show 1 ≤ sizeLine; decide, fun t1 nt1 => ?_⟩
          have s6 : Same H3 (upd H3 t1 (.tup [.str rr])) := Same.new (Same.refl _) nt1
          have hzl : zs.length ≤ 4 := by rw [← Paired.length hZ, List.length_map, List.length_take]; exact Nat.min_le_right _ _
          have hcl : c.length = i := (allC_mem i c (List.mem_of_getElem? hcj)).1
          have hDo : (upd H2 tp (.tup [.str "yes", .str "no", .str "skip", .str "gone"])) D = none := nD
          have fin : ∀ (H4 : Hp) (y : Addr), Same H3 H4 → H4 y = some (.tup ((c ++ [rr]).map V.str)) → y ≠ D → ∃ acc, H4 D = some (.lst acc) ∧ acc.length < sizeLine ∧ Same (upd H2 tp (.tup [.str "yes", .str "no", .str "skip", .str "gone"])) (upd H4 D (.lst (acc ++ [.ref y]))) ∧
              ∃ zs, (upd H4 D (.lst (acc ++ [.ref y]))) D = some (.lst zs) ∧ TuL (upd H4 D (.lst (acc ++ [.ref y]))) ((ress.take (k + 1)).map fun r => c ++ [r]) zs := by
            intro H4 y s7 hy nyD
            refine ⟨zs, s7 _ _ hD, small1000 (by omega), Same.own (s5.trans s7) hDo, zs ++ [.ref y], upd_same, ?_⟩
            rw [take_snoc' hrr, List.map_append]
            refine paired_app ?_ (.cons ⟨y, rfl, by rw [upd_ne nyD]; exact hy⟩ .nil)
            refine Paired.mapP hZ fun c' v ⟨t', e, h'⟩ => ⟨t', e, ?_⟩
            have : t' ≠ D := fun z => by rw [z, hD] at h'; cases h'
            rw [upd_ne this]
            exact s7 _ _ h'
          refine ⟨t, t1, _, _, rfl, rfl, SqT.of (s6 _ _ ht3), SqT.of upd_same, ?_, fun e0 => ?_, fun _ e1 => absurd e1 (List.cons_ne_nil _ _), fun ne _ p np => ?_⟩
          · rw [List.length_map, hcl]; exact Nat.le_of_lt (small1000 (by show i + 1 ≤ 1000; omega))
          · have ec : c = [] := List.map_eq_nil_iff.mp e0
            have : t1 ≠ D := fun z => by rw [z, hD] at nt1; cases nt1
            exact fin _ t1 s6 (by rw [upd_same, ec]; rfl) this
          · have npD : p ≠ D := fun z => by have := s6 _ _ hD; rw [← z, np] at this; cases this
            exact fin _ p (Same.new s6 np) (by rw [upd_same, List.map_append]; rfl) npD
        · rintro H3 ⟨s5, zs, hD, hZ⟩
          have hZ : TuL H3 (ress.map fun r => c ++ [r]) zs := hZ
          have hzl : zs.length = 4 := by rw [← Paired.length hZ, List.length_map]; rfl
          refine ⟨lo, D, _, _, rfl, rfl, s5 _ _ (s4 _ _ hlo), hD, Nat.le_of_lt (le_line (by omega)), fun p np => ?_⟩
          have s8 : Same H2 (upd H3 p (.lst (ys ++ zs))) := Same.new (s4.trans s5) np
          refine ⟨p, ys ++ zs, _, _, rfl, s3.trans s8, upd_same, ?_⟩
          rw [take_snoc' hcj, List.flatMap_append]
          refine paired_app (hY.mono s8) ?_
          rw [List.flatMap_cons, List.flatMap_nil, List.append_nil]
          exact hZ.mono (Same.new (Same.refl _) np)
      · rintro σ H2 ⟨lo, ys, v4, v5, rfl, s3, hlo, hY⟩
        refine ⟨_, rfl, lo, ys, _, _, _, _, rfl, s.trans s3, hlo, ?_⟩
        have e : (allC i).take xs.length = allC i := by rw [hxl, ← allC_len i, List.take_length]
        rw [e] at hY
        exact hY
    · rintro σ H' ⟨fo, xs, v2, v3, v4, v5, rfl, s, hfo, hT⟩
      rw [List.length_map] at hT
      have hxl : xs.length = 4 ^ ns.length := by rw [← Paired.length hT, allC_len]
      refine ⟨_, rfl, fo, rfl, ⟨_, SqL.of hfo⟩, fun D nD => ?_⟩
      refine lc_list (K := K) (a := fo) (xs := xs) (fun j H2 => Same H' H2 ∧ ∃ zs, H2 D = some (.lst zs) ∧ AnL H2 ns ((allC ns.length).take j) zs)
        ⟨Same.new (Same.refl _) nD, [], upd_same, .nil⟩ (fun j H2 _ ⟨s, _⟩ => SqL.of (s _ _ hfo)) ?_ ?_
      · rintro j y H2 hj ⟨s2, zs, hD, hZ⟩
        obtain ⟨c, hcj, t, rfl, ht⟩ := paired_get hT hj
        have hcl := (allC_mem _ c (List.mem_of_getElem? hcj)).1
        refine ⟨rfl, ?_⟩
        refine ⟨_, rfl, _, rfl, a, t, ns, _, rfl, rfl, SqL.of (s2 _ _ (s _ _ hA)), SqT.of (s2 _ _ ht), by rw [List.length_map, hcl], fun p np => ?_⟩
        have npD : p ≠ D := fun z => by rw [z, hD] at np; cases np
        have hzl : zs.length ≤ 4096 := by
          rw [← Paired.length hZ]
          refine Nat.le_trans (List.length_take_le _ _) ?_
          have := get_len hj
          rw [hxl] at this
          exact Nat.le_trans (Nat.le_of_lt this) (four_le hn6)
        refine ⟨zs, by rw [upd_ne npD.symm]; exact hD, le_line hzl, Same.own (Same.new s2 np) nD, zs ++ [.ref p], upd_same, ?_⟩
        rw [take_snoc' hcj]
        refine paired_app ?_ (.cons ⟨p, rfl, by rw [upd_ne npD, upd_same]; exact congrArg (fun z => some (HO.dK z)) (merge_kvs hnd hcl)⟩ .nil)
        refine Paired.mapP hZ fun c' v ⟨t', e, h'⟩ => ⟨t', e, ?_⟩
        have : t' ≠ D := fun z => by rw [z, hD] at h'; cases h'
        rw [upd_ne this, upd_ne (ne_of_none h' np)]
        exact h'
      · rintro H2 ⟨s2, zs, hD, hZ⟩
        have e : (allC ns.length).take xs.length = allC ns.length := by rw [hxl, ← allC_len ns.length, List.take_length]
        rw [e] at hZ
        exact q H2 D zs (s.trans s2) (s.free nD) hD hZ
end
end K9
end
section
set_option Elab.async false
set_option linter.all false
set_option maxRecDepth 100000
set_option maxHeartbeats 4000000
/-! (a, b, ..).index(x), the tuple just written. -/
namespace K9
open PySem PySem.Spec PyProof.Rows L2
/-- the first place of a text in a tuple of texts -/
def rTI (K : PySem.W.Frag) : V → List V → Hp → VK → Prop := fun x xs H Q => ∃ p, ∃ ys : List Str, ∃ z j, x = .ref p ∧ xs = [.str z] ∧ SqT K H p (ys.map V.str) ∧ ys[j]? = some z ∧ (∀ m, m < j → ys[m]? ≠ some z) ∧ Q (.int (j : Nat)) H
def tTupIdx (K : PySem.W.Frag) (ta : TA) (tb : TE) : TE := fun σ H Q => ta σ H fun xs H1 => xs.length ≤ sizeLine ∧ ∀ p, H1 p = none → tb σ (upd H1 p (.tup xs)) fun x H2 => rTI K (.ref p) [x] H2 Q
theorem pe_tupIdx {X : Cx} {es : List Expr} {arg : Expr} {ta : TA} {tb : TE} {x1} {tpos apos cpos : Pos} (h : PA X es ta) (hb : PE X arg tb)
    (hbase : attributeBase (.Tuple es x1 tpos) "index" X.env (eval (.Tuple es x1 tpos) X.env) = eval (.Tuple es x1 tpos) X.env := by rfl)
    (hfew : ((backTo cpos (starEach [arg] X.env)).all (fun x => !x.1) && (backToKw cpos (keywordEach [] X.env)).all (fun x => x.1.isSome)
      && decide ([arg].length + ([] : List Keyword).length + (if ([] : List Keyword).isEmpty then 0 else 1) < 30)) = true := by rfl)
    (hline : (apos.endLine == cpos.line) = true := by rfl) (hs : starEach [arg] X.env = (false, eval arg X.env) :: starEach [] X.env := by rfl) (hplain : (backTo cpos (starEach [] X.env)).any (·.1) = false := by rfl) :
    PE X (.Call (.Attribute (.Tuple es x1 tpos) "index" apos) [arg] [] cpos) (tTupIdx X.K ta tb) := by
  refine ⟨fun pins s σ H Q I hq => ?_⟩
  refine wpAny_Call_method_late hbase hfew hline rfl ?_
  refine wpAny_Tuple_spliced (thn (h.run _ pins s σ H _ I hq) fun us s1 ⟨xs, H1, I1, r, z, q⟩ => ⟨by rw [← r.length]; exact z, ?_⟩)
  have hf : H1 s1.heap.objs.size = none := I1.hok.fresh (Nat.le_refl _)
  have hget : (s1.heap.push ({ cls := .type "tuple", data := .seq us.toArray } : Obj)).get? s1.heap.objs.size = some { cls := .type "tuple", data := .seq us.toArray } := Heap.get?_push_size _ rfl
  have I2 : Inv X pins σ (upd H1 s1.heap.objs.size (.tup xs)) { s1 with heap := s1.heap.push { cls := .type "tuple", data := .seq us.toArray } } :=
    I1.laid (t' := s1.toks) (fun b u e => Heap.get?_push_of_some _ e) (Nat.le_refl _) ⟨z, us, r, ⟨_, hget, rfl, _, rfl⟩⟩
  refine ⟨"tuple", "tuple.index", PySem.F.plainAttrs_tuple, PySem.F.slot_tuple_index, PySem.F.type_tuple_index, ⟨_, hget, rfl⟩, fun a e => ?_, ?_⟩
  · cases e
    exact ⟨_, hget, rfl⟩
  have ha : PA X [arg] (tCons tb tNil) := pa_cons hb pa_nil hs
  have hA := ha.run cpos pins _ σ _ (fun ys H2 => rTI X.K (.ref s1.heap.objs.size) ys H2 Q) I2 (q _ hf)
  rw [hs] at hA ⊢
  refine Calls.callWith_builtin (by show (false || (backTo cpos (starEach [] X.env)).any (·.1)) = false; rw [hplain] <;> rfl) (Calls.evalArgs_plain ?_)
  exact thn hA fun vs s2 ⟨ys, H2, I2, r2, q2⟩ => mt_tup_index pins s2 σ H2 (.ref s1.heap.objs.size) ys (.ref s1.heap.objs.size) vs Q I2 rfl r2 q2
end K9
end
section
set_option Elab.async false
set_option linter.all false
set_option maxRecDepth 100000
set_option maxHeartbeats 8000000
/-! The law's run. -/
namespace K9
open PySem PySem.Spec PyProof.Rows L2
def mkS : Mk3 → Str
  | .none => "none"
  | .good => "good"
  | .bad => "bad"
/-- a mark: (its word, the number of the rule that made it bad, or None) -/
def MkAt (K : PySem.W.Frag) (H : Hp) (v : V) (mk : Mk3) : Prop := ∃ p z, v = .ref p ∧ SqT K H p [.str (mkS mk), z] ∧ (mk = .bad → ∃ n, z = .int n) ∧ (¬ mk = .bad → z = .non)
theorem MkAt.mono {K : PySem.W.Frag} {A B : Hp} (s : Same A B) {v : V} {mk : Mk3} : MkAt K A v mk → MkAt K B v mk := fun ⟨p, z, e, h, k⟩ => ⟨p, z, e, SqT.same s h, k⟩
theorem mkS_dec (mk : Mk3) : decide (V.str (mkS mk) = V.str "none") = decide (mk = .none) ∧ decide (V.str (mkS mk) = V.str "good") = decide (mk = .good) ∧ decide (V.str (mkS mk) = V.str "bad") = decide (mk = .bad) := by
  cases mk <;> decide +kernel
/-- the results that are told -/
def AnsOk (H : Hp) (d : Addr) (f : Str → Nat) (ms : List Str) : Prop := ∃ kvs, H d = some (.dK kvs) ∧ ∀ m ∈ ms, ∃ r, valV kvs (Sum.inr m) = some (.str r) ∧ r ∈ ress ∧ rix r = f m
theorem AnsOk.mono {A B : Hp} (s : Same A B) {d : Addr} {f : Str → Nat} {ms ls : List Str} (h : AnsOk A d f ms) (k : ∀ m ∈ ls, m ∈ ms) : AnsOk B d f ls := by
  obtain ⟨kvs, h1, h2⟩ := h
  exact ⟨kvs, s _ _ h1, fun m hm => h2 m (k m hm)⟩
theorem inV2 {a : V} (h : ActOk a) (u w : Str) : inV a [.str u, .str w] = decide (a = .str u ∨ a = .str w) := by
  rcases h with ⟨s, _, rfl⟩ | ⟨n, rfl, _⟩
  · show ((u == s) || ((w == s) || false)) = _
    rw [Bool.or_false, Bool.eq_iff_iff]
    simp only [Bool.or_eq_true, beq_iff_eq, decide_eq_true_eq, V.str.injEq]
    constructor
    · rintro (h | h)
      · exact .inl h.symm
      · exact .inr h.symm
    · rintro (h | h)
      · exact .inl h.symm
      · exact .inr h.symm
  · show (false || (false || false)) = _
    simp
theorem act_flat {a : V} (h : ActOk a) : flatV a = true := by
  rcases h with ⟨s, _, rfl⟩ | ⟨n, rfl, _⟩ <;> rfl
theorem act_scal {a : V} (h : ActOk a) (s : Str) : scal a (.str s) = true := by
  rcases h with ⟨s, _, rfl⟩ | ⟨n, rfl, _⟩ <;> rfl
/-- the first place of a result -/
theorem ress_ix {r : Str} (h : r ∈ ress) : rix r < 4 ∧ ress[rix r]? = some r ∧ ∀ m, m < rix r → ress[m]? ≠ some r := by
  rcases List.mem_cons.mp h with e | h
  · subst e; exact ⟨by decide +kernel, by decide +kernel, by decide +kernel⟩
  rcases List.mem_cons.mp h with e | h
  · subst e; exact ⟨by decide +kernel, by decide +kernel, by decide +kernel⟩
  rcases List.mem_cons.mp h with e | h
  · subst e; exact ⟨by decide +kernel, by decide +kernel, by decide +kernel⟩
  rw [List.mem_singleton.mp h]; exact ⟨by decide +kernel, by decide +kernel, by decide +kernel⟩
def spActed (K : PySem.W.Frag) : Sp := fun vs H Q _ => ∃ (a m b : V) (n : Int) (mk bg : Mk3), vs = [a, m, b, .int n] ∧ ActOk a ∧ MkAt K H m mk ∧ MkAt K H b bg ∧ ∀ (H' : Hp) (v : V), Same H H' → MkAt K H' v (act a mk bg) → Q v H'
def spRan (K : PySem.W.Frag) (d : Nat) : Sp := fun vs H Q _ => ∃ (a dd : Addr) (n : Int) (b : V) (bg : Mk3) (xs : List V) (e : Es) (f : Str → Nat), vs = [.ref a, .ref dd, .int n, b] ∧ H a = some (.lst xs) ∧ PlL H e xs ∧ dep e ≤ d ∧ cnt e ≤ 100 ∧ (∀ q ∈ rls e, q.2.length = 4 ∧ ∀ x ∈ q.2, ActOk x) ∧
  AnsOk H dd f (mods e) ∧ MkAt K H b bg ∧ ∀ (H' : Hp) (t l : Addr) (v : V) (zs : List V), Same H H' → H' t = some (.tup [v, .ref l]) → MkAt K H' v (ran f e bg 0 bg) → H' l = some (.lst zs) → zs.length ≤ cnt e → Q (.ref t) H'
def spWhere (K : PySem.W.Frag) : Sp := fun vs H Q _ => ∃ (a dd : Addr) (xs : List V) (e : Es) (f : Str → Nat), vs = [.ref a, .ref dd] ∧ H a = some (.lst xs) ∧ PlL H e xs ∧ dep e ≤ 3 ∧ cnt e ≤ 100 ∧ (∀ q ∈ rls e, q.2.length = 4 ∧ ∀ x ∈ q.2, ActOk x) ∧
  AnsOk H dd f (mods e) ∧ ∀ (H' : Hp), Same H H' → Q (.str (inW (win f e))) H'
def spRun (K : PySem.W.Frag) : Sp := fun vs H Q _ => ∃ (a dd : Addr) (xs : List V) (e : Es) (f : Str → Nat), vs = [.ref a, .ref dd] ∧ H a = some (.lst xs) ∧ PlL H e xs ∧ dep e ≤ 3 ∧ cnt e ≤ 100 ∧ (∀ q ∈ rls e, q.2.length = 4 ∧ ∀ x ∈ q.2, ActOk x) ∧
  AnsOk H dd f (mods e) ∧ ∀ (H' : Hp) (t : Addr) (x y : V), Same H H' → H' t = some (.tup [.str (inW (win f e)), x, y]) → Q (.ref t) H'
section
variable {P : Program} {w : World} {K : PySem.W.Frag} {mg : Str → Option Value} {base : Heap}
theorem ok_acted {f : Addr} {fd : FuncData} (F : Fun K "_law_acted" "_law_acted" lActed f fd) : FnOk P w K mg base CX0 1 f fd ["_law_action", "_law_mark", "_law_begin", "_law_number"] (spActed K) := by
  refine F.ok scActed (fun vs H Q E h => ?_) (fun cdv A outer s H vs Q E hr h => ?_)
  · obtain ⟨_, _, _, _, _, _, rfl, _⟩ := h
    rfl
  · obtain ⟨a, m, b, n, mk, bg, rfl, ha, hm, hb, q⟩ := h
    refine ⟨_, pss_cons (ps_if (pt_cmpR op_in_seq (pv 0) (pe_tup (pa_cons pe_str (pa_cons pe_str pa_nil))) (by rfl))
        (pss_one (ps_ret (pe_ifExp (pt_cmpR op_eq (pe_ix ix_tup (pv 1) pe_int (fun _ _ => rfl)) pe_str (nomark _)) (pe_tup (pa_cons pe_str (pa_cons pe_non pa_nil))) (pv 1)))) pss_nil)
      (pss_cons (ps_if (pt_cmpR op_in_seq (pv 0) (pe_tup (pa_cons pe_str (pa_cons pe_str pa_nil))) (by rfl))
        (pss_one (ps_ret (pe_ifExp (pt_cmpR op_eq (pe_ix ix_tup (pv 1) pe_int (fun _ _ => rfl)) pe_str (nomark _)) (pv 1) (pe_tup (pa_cons pe_str (pa_cons (pv 3) pa_nil)))))) pss_nil)
      (pss_one (ps_ret (pe_ifExp (pt_cmpR op_eq (pv 0) pe_str (nomark _)) (pv 2) (pv 1))))), ?_⟩
    refine ⟨_, rfl, by show 2 ≤ sizeLine; decide, fun p1 n1 => ?_⟩
    have s1 : Same H (upd H p1 (.tup [.str "ok", .str "done"])) := Same.new (Same.refl _) n1
    refine ⟨p1, _, rfl, .inr (SqT.of upd_same), act_flat ha, rfl, _, rfl, ?_⟩
    show if inV a [.str "ok", .str "done"] = true then _ else _
    rw [inV2 ha]
    refine ite2 (fun h1 => ?_) (fun h1 => ?_)
    · have h1 := of_decide_eq_true h1
      obtain ⟨p, z, e, hp, k1, k2⟩ := id hm
      subst e
      have ea : act a mk bg = if mk = .none then .good else mk := by unfold act; rw [if_pos h1]
      refine ⟨_, rfl, p, _, 0, _, rfl, rfl, SqT.same s1 hp, rfl, rfl, _, rfl, ?_⟩
      rw [(mkS_dec mk).1]
      refine ite2 (fun h2 => ?_) (fun h2 => ?_)
      · have h2 := of_decide_eq_true h2
        refine ⟨by show 2 ≤ sizeLine; decide, fun p2 n2 => q _ _ (Same.new s1 n2) ?_⟩
        rw [ea, if_pos h2]
        exact ⟨p2, .non, rfl, SqT.of upd_same, (fun z => by cases z), fun _ => rfl⟩
      · have h2 : ¬ mk = .none := fun z => h2 (decide_eq_true z)
        refine ⟨_, rfl, q _ _ s1 ?_⟩
        rw [ea, if_neg h2]
        exact hm.mono s1
    have h1 : ¬ (a = .str "ok" ∨ a = .str "done") := fun z => h1 (decide_eq_true z)
    refine ⟨_, rfl, by show 2 ≤ sizeLine; decide, fun p3 n3 => ?_⟩
    have s3 := Same.new (o := HO.tup [.str "bad", .str "die"]) s1 n3
    refine ⟨p3, _, rfl, .inr (SqT.of upd_same), act_flat ha, rfl, _, rfl, ?_⟩
    show if inV a [.str "bad", .str "die"] = true then _ else _
    rw [inV2 ha]
    refine ite2 (fun h2 => ?_) (fun h2 => ?_)
    · have h2 := of_decide_eq_true h2
      obtain ⟨p, z, e, hp, k1, k2⟩ := id hm
      subst e
      have ea : act a mk bg = .bad := by unfold act; rw [if_neg h1, if_pos h2]
      refine ⟨_, rfl, p, _, 0, _, rfl, rfl, SqT.same s3 hp, rfl, rfl, _, rfl, ?_⟩
      rw [(mkS_dec mk).2.2]
      refine ite2 (fun h4 => ?_) (fun h4 => ?_)
      · have h4 := of_decide_eq_true h4
        refine ⟨_, rfl, q _ _ s3 ?_⟩
        rw [ea, ← h4]
        exact hm.mono s3
      · refine ⟨_, rfl, by show 2 ≤ sizeLine; decide, fun p4 n4 => q _ _ (Same.new s3 n4) ?_⟩
        rw [ea]
        exact ⟨p4, .int n, rfl, SqT.of upd_same, fun _ => ⟨n, rfl⟩, fun z => absurd rfl z⟩
    have h2 : ¬ (a = .str "bad" ∨ a = .str "die") := fun z => h2 (decide_eq_true z)
    refine ⟨_, rfl, act_scal ha _, _, rfl, ?_⟩
    refine ite2 (fun h3 => ?_) (fun h3 => ?_)
    · have h3 := of_decide_eq_true h3
      refine ⟨_, rfl, q _ _ s3 ?_⟩
      have ea : act a mk bg = bg := by unfold act; rw [if_neg h1, if_neg h2, if_pos h3]
      rw [ea]; exact hb.mono s3
    · have h3 : ¬ a = .str "reset" := fun z => h3 (decide_eq_true z)
      refine ⟨_, rfl, q _ _ s3 ?_⟩
      have ea : act a mk bg = mk := by unfold act; rw [if_neg h1, if_neg h2, if_neg h3]
      rw [ea]; exact hm.mono s3
abbrev psRan : List Str := ["_law_plain_here", "_law_answers", "_law_first", "_law_begin"]
theorem jump_val {a : V} (h : ActOk a) : (∃ s, a = .str s ∧ jump a = 0) ∨ ∃ n : Int, a = .int n ∧ (jump a : Int) = n := by
  rcases h with ⟨s, _, rfl⟩ | ⟨n, rfl, h1, _⟩
  · exact .inl ⟨s, rfl, rfl⟩
  · exact .inr ⟨n, rfl, by show ((n.toNat : Nat) : Int) = n; omega⟩
theorem stops_val (a : V) (mk : Mk3) : stops a mk = (decide (a = .str "die") || (decide (a = .str "done") && decide (mk = .good))) := rfl
theorem ok_ran {f fR fA : Addr} {fd fdR fdA : FuncData} (F : Fun K "_law_ran" "_law_ran" lRan f fd) (zi : mg "isinstance" = none) (zl : mg "list" = none) (zn : mg "len" = none) (zt : mg "int" = none) (g : mg "_law_ran" = some (.ref f)) (bF : Binds K fd psRan [])
    (R : ∀ d, Cl P w K mg base CX0 (d + 1) "_law_rules" ["_law_plain_here"] (spRules d) fR fdR) (AC : Cl P w K mg base CX0 1 "_law_acted" ["_law_action", "_law_mark", "_law_begin", "_law_number"] (spActed K) fA fdA) : ∀ d : Nat, FnOk P w K mg base CX0 (d + 2) f fd psRan (spRan K d) := by
  intro d
  induction d with
  | zero =>
    refine F.ok scRan (fun vs H Q E h => ?_) (fun cdv A outer s H vs Q E hr h => ?_)
    · obtain ⟨_, _, _, _, _, _, _, _, rfl, _⟩ := h
      rfl
    · obtain ⟨a, dd, n, b, bg, xs, e, fn, rfl, hA, hP, hd, _⟩ := h
      have := one_le_dep e
      omega
  | succ d ih =>
    refine F.ok scRan (fun vs H Q E h => ?_) (fun cdv A outer s H vs Q E hr h => ?_)
    · obtain ⟨_, _, _, _, _, _, _, _, rfl, _⟩ := h
      rfl
    · obtain ⟨a, dd, n, b, bg, xs, e, fn, rfl, hA, hP, hd, hc, hro, hans, hb, q⟩ := h
      have hr1 : Room 1 _ := hr.mono (by omega)
      have hrR : Room (d + 1) _ := hr.mono (by omega)
      have hu := hu_of hr
      refine ⟨_, pss_cons (ps_asg (pe_tup (pa_cons (pv 3) (pa_cons (pe_lst pa_nil) (pa_cons pe_int (pa_cons (pv 2) pa_nil))))) (pg_tup (by rfl) (pgs_cons (pg_name (i := 4) scRan.nd rfl (.inl rfl)) (pgs_cons (pg_name (i := 5) scRan.nd rfl (.inl rfl)) (pgs_cons (pg_name (i := 6) scRan.nd rfl (.inl rfl)) (pgs_cons (pg_name (i := 7) scRan.nd rfl (.inl rfl)) pgs_nil))))))
        (pss_cons (ps_for PassesOwn.never rfl (pi_list (pv 0)) (pg_name (i := 8) scRan.nd rfl (Or.inl rfl))
          (pss_cons (ps_set (i := 9) scRan.nd rfl (Or.inl rfl) (pe_ifExp (pt_val (pe_callB call_isi (by rfl) zi (by decide +kernel) (pa_cons (pv 8) (pa_cons (pe_bltn (v := .ty "list") (u := .type "list") (by rfl) zl (by decide +kernel) rfl) pa_nil))))
              (pe_callB call_len_seq (by rfl) zn PySem.boot_len (pa_cons (pe_call (R d).ok hrR rfl (R d).g (R d).kp (R d).b .nil pass0 (pa_cons (pv 8) pa_nil)) pa_nil)) pe_int))
          (pss_cons (ps_if (pt_cmpR op_gt (pv 6) pe_int (nomark _))
            (pss_one (ps_set (i := 6) scRan.nd rfl (Or.inl rfl) (pe_op op_sub (pv 6) pe_int)))
            (pss_one (ps_if (pt_val (pe_callB call_isi (by rfl) zi (by decide +kernel) (pa_cons (pv 8) (pa_cons (pe_bltn (v := .ty "list") (u := .type "list") (by rfl) zl (by decide +kernel) rfl) pa_nil))))
              (pss_cons (ps_asg (pe_call ih hr rfl g F.kp bF .nil pass0 (pa_cons (pv 8) (pa_cons (pv 1) (pa_cons (pv 7) (pa_cons (pv 4) pa_nil))))) (pg_tup (by rfl) (pgs_cons (pg_name (i := 4) scRan.nd rfl (.inl rfl)) (pgs_cons (pg_name (i := 10) scRan.nd rfl (.inl rfl)) pgs_nil))))
                (pss_one (ps_set (i := 5) scRan.nd rfl (Or.inl rfl) (pe_op op_cat (pv 5) (pv 10)))))
              (pss_cons (ps_set (i := 11) scRan.nd rfl (Or.inl rfl) (pe_ix ix_tup (pe_ix ix_tup (pv 8) pe_int (fun _ _ => rfl)) (pe_tupIdx (pa_cons pe_str (pa_cons pe_str (pa_cons pe_str (pa_cons pe_str pa_nil)))) (pe_dget hu (pv 1) (pe_ix ix_tup (pv 8) pe_int (fun _ _ => rfl)) (fun _ _ => rfl))) (fun _ _ => rfl)))
              (pss_cons (ps_set (i := 5) scRan.nd rfl (Or.inl rfl) (pe_op op_cat (pv 5) (pe_lst (pa_cons (pv 7) pa_nil))))
              (pss_cons (ps_set (i := 4) scRan.nd rfl (Or.inl rfl) (pe_call AC.ok hr1 rfl AC.g AC.kp AC.b .nil pass0 (pa_cons (pv 11) (pa_cons (pv 4) (pa_cons (pv 3) (pa_cons (pv 7) pa_nil))))))
              (pss_cons (ps_if (PW.pt (pw_or (pt_cmpR op_eq (pv 11) pe_str (nomark _)) (pw_or1 (PW.pt (pw_and (pt_cmpR op_eq (pv 11) pe_str (nomark _)) (pw_and1 (pt_cmpR op_eq (pe_ix ix_tup (pv 4) pe_int (fun _ _ => rfl)) pe_str (nomark _))))))))
                (pss_one (ps_ret (pe_tup (pa_cons (pv 4) (pa_cons (pv 5) pa_nil))))) pss_nil)
              (pss_one (ps_set (i := 6) scRan.nd rfl (Or.inl rfl) (pe_ifExp (pt_val (pe_callB call_isi (by rfl) zi (by decide +kernel) (pa_cons (pv 11) (pa_cons (pe_bltn (v := .ty "int") (u := .type "int") (by rfl) zt (by decide +kernel) rfl) pa_nil)))) (pv 11) pe_int)))))))))
          )
          (pss_one (ps_set (i := 7) scRan.nd rfl (Or.inl rfl) (pe_op op_add (pv 7) (pv 9)))))))
        (pss_one (ps_ret (pe_tup (pa_cons (pv 4) (pa_cons (pv 5) pa_nil)))))), ?_⟩
      refine ⟨_, rfl, Nat.zero_le _, fun l0 nl0 => ?_⟩
      refine ⟨_, rfl, by show 4 ≤ sizeLine; decide, fun tp ntp => ?_⟩
      have s1 : Same H (upd (upd H l0 (.lst [])) tp (.tup [b, .ref l0, .int 0, .int n])) := Same.new (Same.new (Same.refl H) nl0) ntp
      have nlt : l0 ≠ tp := ne_of_none (show (upd H l0 (.lst [])) l0 = some _ from upd_same) ntp
      refine ⟨tp, _, rfl, SqT.of upd_same, rfl, _, _, rfl, _, _, rfl, _, _, rfl, _, _, rfl, rfl, ?_⟩
      refine ⟨_, rfl, a, rfl, ⟨_, SqL.of (s1 _ _ hA)⟩, for_list (K := K) (a := a) (xs := xs) (fun i σ H' => ∃ (mv : V) (mk : Mk3) (l : Addr) (zs : List V) (lf : Nat) (li : Int) (nm : Int) (v8 v9 v10 v11 : Option V), σ = [some (.ref a), some (.ref dd), some (.int n), some b, some mv, some (.ref l), some (.int li), some (.int nm), v8, v9, v10, v11] ∧ li = (lf : Nat) ∧
          Same H H' ∧ MkAt K H' mv mk ∧ H' l = some (.lst zs) ∧ zs.length + cnt (dropE i e) ≤ cnt e ∧ ran fn (dropE i e) bg lf mk = ran fn e bg 0 bg)
        ⟨b, bg, l0, [], 0, 0, n, _, _, _, _, rfl, rfl, s1, hb.mono s1, by rw [upd_ne nlt]; exact upd_same, by show 0 + cnt e ≤ cnt e; omega, rfl⟩ (fun i σ H' _ ⟨_, _, _, _, _, _, _, _, _, _, _, _, _, s, _⟩ => SqL.of (s _ _ hA)) ?_ ?_⟩
      · rintro i x σ H' hi ⟨mv, mk, l, zs, lf, li, nm, v8, v9, v10, v11, rfl, hli, s, hmv, hl, hz, hran⟩
        have hcd : cnt (dropE i e) ≤ 100 := Nat.le_trans (cnt_drop i e) hc
        rcases EL.at hP hi with ⟨m, as, ed, p, t, rfl, hp, ht⟩ | ⟨j, ed, fs⟩
        · have hp' := s _ _ hp
          have ht' := s _ _ ht
          obtain ⟨hl4, hok⟩ := hro _ (mem_at ed)
          have hcn : cnt (dropE i e) = cnt (dropE (i + 1) e) + 1 := by rw [ed]; rfl
          refine ⟨_, rfl, _, .ty "list", _, _, false, rfl, .ty "list", .base (.tup hp'), kit_ty (by decide +kernel), false, rfl, iteF ?_⟩
          refine ⟨_, rfl, _, _, rfl, rfl, _, rfl, ?_⟩
          rw [ed] at hran
          refine ite2 (fun h0 => ?_) (fun h0 => ?_)
          · have h0 : (0 : Int) < li := of_decide_eq_true h0
            refine ⟨_, rfl, _, _, rfl, rfl, ?_⟩
            refine ⟨_, rfl, _, rfl, _, _, rfl, rfl, ?_⟩
            obtain ⟨k, rfl⟩ : ∃ k, lf = k + 1 := ⟨lf - 1, by omega⟩
            exact ⟨mv, mk, l, zs, k, _, nm + 1, some (.ref p), some (.int 1), v10, v11, rfl, by omega, s, hmv, hl, by omega, hran⟩
          have h0 : lf = 0 := by
            have : ¬ (0 : Int) < li := fun z => h0 (decide_eq_true z)
            omega
          subst h0
          refine ⟨_, rfl, _, .ty "list", _, _, false, rfl, .ty "list", .base (.tup hp'), kit_ty (by decide +kernel), false, rfl, iteF ?_⟩
          -- the action
          obtain ⟨kvs, hdd, hval⟩ := hans
          obtain ⟨r, hr1', hr2', hr3'⟩ := hval m (List.mem_map.mpr ⟨_, mem_at ed, rfl⟩)
          obtain ⟨i1, i2, i3⟩ := ress_ix hr2'
          have hal : rix r < as.length := by rw [hl4]; exact i1
          have hact : actAt fn m as = as[rix r] := by unfold actAt; rw [← hr3', List.getD_eq_getElem?_getD, List.getElem?_eq_getElem hal]; rfl
          have haok : ActOk (actAt fn m as) := by rw [hact]; exact hok _ (List.getElem_mem hal)
          refine ⟨_, rfl, p, _, 1, _, rfl, rfl, SqT.of hp', rfl, ?_⟩
          refine ⟨by show 4 ≤ sizeLine; decide, fun tp ntp => ?_⟩
          have s2 : Same H' (upd H' tp (.tup [.str "yes", .str "no", .str "skip", .str "gone"])) := Same.new (Same.refl _) ntp
          refine ⟨_, rfl, _, rfl, p, _, 0, _, rfl, rfl, SqT.of (s2 _ _ hp'), rfl, dd, .str r, rfl, ?_, ?_⟩
          · have := DGet.k (k := Sum.inr m) (s2 _ _ (s _ _ hdd))
            rw [hr1'] at this
            exact this
          refine ⟨tp, ress, r, rix r, rfl, rfl, SqT.of upd_same, i2, i3, ?_⟩
          refine ⟨t, as, _, actAt fn m as, rfl, rfl, SqT.of (s2 _ _ ht'), at_of (j := rix r) rfl (by rw [List.getElem?_eq_getElem hal, hact]), ?_⟩
          refine ⟨_, rfl, _, rfl, by show 1 ≤ sizeLine; decide, fun l1 nl1 => ?_⟩
          have s3 := Same.new (o := HO.lst [.int nm]) s2 nl1
          have nll : l ≠ l1 := ne_of_none (s2 _ _ hl) nl1
          refine ⟨l, l1, _, _, rfl, rfl, s3 _ _ hl, upd_same, Nat.le_of_lt (small1000 (by show zs.length + 1 ≤ 1000; omega)), fun l2 nl2 => ?_⟩
          have s4 := Same.new (o := HO.lst (zs ++ [.int nm])) s3 nl2
          refine ⟨_, rfl, _, rfl, _, rfl, _, rfl, _, mv, b, nm, mk, bg, rfl, haok, hmv.mono s4, hb.mono (s.trans s4), fun H5 v5 s5 hv5 => ?_⟩
          generalize hgen : actAt fn m as = ac at *
          have hran' : (if stops ac (act ac mk bg) = true then act ac mk bg else ran fn (dropE (i + 1) e) bg (jump ac) (act ac mk bg)) = ran fn e bg 0 bg := by rw [← hran]; show _ = (if stops (actAt fn m as) _ = true then _ else _); rw [hgen]
          have s45 := s4.trans s5
          have hl2 : H5 l2 = some (.lst (zs ++ [.int nm])) := s5 _ _ upd_same
          obtain ⟨pv5, zv5, ev5, hpv5, kv1, kv2⟩ := id hv5
          subst ev5
          have inv' : stops ac (act ac mk bg) = false → ∀ z : Int, z = (jump ac : Nat) → ∃ (mv : V) (mk : Mk3) (l : Addr) (zs : List V) (lf : Nat) (li' : Int) (nm' : Int) (v8 v9 w10 v11 : Option V), [some (V.ref a), some (V.ref dd), some (V.int n), some b, some (V.ref pv5), some (V.ref l2), some (V.int z), some (V.int (nm + 1)), some (V.ref p), some (V.int 1), v10, some ac] = [some (.ref a), some (.ref dd), some (.int n), some b, some mv, some (.ref l), some (.int li'), some (.int nm'), v8, v9, w10, v11] ∧ li' = (lf : Nat) ∧
              Same H H5 ∧ MkAt K H5 mv mk ∧ H5 l = some (.lst zs) ∧ zs.length + cnt (dropE (i + 1) e) ≤ cnt e ∧ ran fn (dropE (i + 1) e) bg lf mk = ran fn e bg 0 bg := by
            intro hst z hz
            subst hz
            refine ⟨_, _, l2, _, jump ac, _, nm + 1, _, _, _, _, rfl, rfl, s.trans s45, hv5, hl2, ?_, ?_⟩
            · rw [List.length_append]; show zs.length + 1 + _ ≤ _; omega
            · rw [← hran', if_neg (by rw [hst]; exact Bool.false_ne_true)]
          refine ⟨_, rfl, act_scal haok _, _, rfl, ?_⟩
          have stop : stops ac (act ac mk bg) = true → ∀ tq, H5 tq = none → Q (.ref tq) (upd H5 tq (.tup [.ref pv5, .ref l2])) := by
            intro hst tq ntq
            have st := Same.new (o := HO.tup [.ref pv5, .ref l2]) s45 ntq
            refine q _ tq l2 (.ref pv5) _ (s.trans st) upd_same ?_ (by rw [upd_ne (ne_of_none hl2 ntq)]; exact hl2) ?_
            · rw [← hran', if_pos hst]
              exact hv5.mono (Same.new (Same.refl _) ntq)
            · rw [List.length_append]; show zs.length + 1 ≤ _; omega
          have jv := jump_val haok
          refine ite2 (fun h1 => ?_) (fun h1 => ?_)
          · refine iteT ⟨_, rfl, _, rfl, by show 2 ≤ sizeLine; decide, stop ?_⟩
            rw [stops_val, h1, Bool.true_or]
          have h1' : decide (ac = V.str "die") = false := by cases hh : decide (ac = V.str "die") with
            | false => rfl
            | true => exact absurd hh h1
          refine ⟨_, rfl, act_scal haok _, _, rfl, ?_⟩
          refine ite2 (fun h2 => ?_) (fun h2 => ?_)
          · refine ⟨_, rfl, pv5, _, 0, _, rfl, rfl, hpv5, rfl, rfl, _, rfl, ?_⟩
            rw [(mkS_dec _).2.1]
            refine ite2 (fun h3 => ?_) (fun h3 => ?_)
            · refine ⟨_, rfl, _, rfl, by show 2 ≤ sizeLine; decide, stop ?_⟩
              rw [stops_val, h2, h3, Bool.true_and, Bool.or_true]
            · have h3' : decide (act ac mk bg = .good) = false := by cases hh : decide (act ac mk bg = .good) with
                | false => rfl
                | true => exact absurd hh h3
              have hst : stops ac (act ac mk bg) = false := by rw [stops_val, h1', h3', Bool.and_false, Bool.or_false]
              rcases jv with ⟨sw, ew, jw⟩ | ⟨z, ez, jz⟩
              · subst ew
                refine ⟨_, rfl, _, .ty "int", _, _, false, rfl, .ty "int", .base (.str sw), kit_ty (by decide +kernel), false, rfl, iteF ?_⟩
                exact ⟨_, rfl, _, rfl, _, _, rfl, rfl, inv' hst 0 (by rw [jw]; rfl)⟩
              · subst ez
                refine ⟨_, rfl, _, .ty "int", _, _, true, rfl, .ty "int", .base (.int z), kit_ty (by decide +kernel), true, rfl, iteT ?_⟩
                exact ⟨_, rfl, _, rfl, _, rfl, _, _, rfl, rfl, inv' hst z jz.symm⟩
          · have h2' : decide (ac = V.str "done") = false := by cases hh : decide (ac = V.str "done") with
              | false => rfl
              | true => exact absurd hh h2
            have hst : stops ac (act ac mk bg) = false := by rw [stops_val, h1', h2', Bool.false_and, Bool.or_false]
            refine iteF ?_
            rcases jv with ⟨sw, ew, jw⟩ | ⟨z, ez, jz⟩
            · subst ew
              refine ⟨_, rfl, _, .ty "int", _, _, false, rfl, .ty "int", .base (.str sw), kit_ty (by decide +kernel), false, rfl, iteF ?_⟩
              exact ⟨_, rfl, _, rfl, _, _, rfl, rfl, inv' hst 0 (by rw [jw]; rfl)⟩
            · subst ez
              refine ⟨_, rfl, _, .ty "int", _, _, true, rfl, .ty "int", .base (.int z), kit_ty (by decide +kernel), true, rfl, iteT ?_⟩
              exact ⟨_, rfl, _, rfl, _, rfl, _, _, rfl, rfl, inv' hst z jz.symm⟩
        · obtain ⟨p, ys, rfl, hp, hPj⟩ := fs
          have hp' := s _ _ hp
          have hPj' : PlL H' j ys := PlL.mono s hPj
          have hdj := dep_in ed
          have hcj := cnt_in ed
          have hce : cnt (dropE i e) = cnt j + cnt (dropE (i + 1) e) := by rw [ed]; exact List.length_append
          refine ⟨_, rfl, _, .ty "list", _, _, true, rfl, .ty "list", .base (.lst hp'), kit_ty (by decide +kernel), true, rfl, iteT ?_⟩
          refine ⟨_, rfl, p, ys, j, rfl, hp', hPj', by omega, by omega, fun H2 p2 us s2 n2 hp2 hu2 => ?_⟩
          refine ⟨_, _, rfl, .inl (SqL.of hp2), ?_⟩
          refine ⟨_, rfl, _, _, rfl, rfl, _, rfl, ?_⟩
          rw [ed] at hran
          refine ite2 (fun h0 => ?_) (fun h0 => ?_)
          · have h0 : (0 : Int) < li := of_decide_eq_true h0
            refine ⟨_, rfl, _, _, rfl, rfl, ?_⟩
            refine ⟨_, rfl, _, rfl, _, _, rfl, rfl, ?_⟩
            obtain ⟨k, rfl⟩ : ∃ k, lf = k + 1 := ⟨lf - 1, by omega⟩
            exact ⟨mv, mk, l, zs, k, _, nm + ((us.length : Nat) : Int), some (.ref p), some (.int ((us.length : Nat) : Int)), v10, v11, rfl, by omega, s.trans s2, hmv.mono s2, s2 _ _ hl, by omega, hran⟩
          have h0 : lf = 0 := by
            have : ¬ (0 : Int) < li := fun z => h0 (decide_eq_true z)
            omega
          subst h0
          refine ⟨_, rfl, _, .ty "list", _, _, true, rfl, .ty "list", .base (.lst (s2 _ _ hp')), kit_ty (by decide +kernel), true, rfl, iteT ?_⟩
          refine ⟨_, rfl, _, rfl, _, rfl, _, rfl, ?_⟩
          refine ⟨p, dd, nm, mv, mk, ys, j, fn, rfl, s2 _ _ hp', PlL.mono s2 hPj', by omega, by omega, fun x hx => hro x (mem_in ed hx), ?_, hmv.mono s2, fun H3 t l3 v3 zs3 s3 ht hv3 hl3 hz3 => ?_⟩
          · refine AnsOk.mono (s.trans s2) hans fun x hx => ?_
            obtain ⟨y, hy, e1⟩ := List.mem_map.mp hx
            exact List.mem_map.mpr ⟨y, mem_in ed hy, e1⟩
          refine ⟨t, _, rfl, SqT.of ht, rfl, _, _, rfl, _, _, rfl, rfl, ?_⟩
          refine ⟨_, rfl, _, rfl, l, l3, _, _, rfl, rfl, s3 _ _ (s2 _ _ hl), hl3, Nat.le_of_lt (small1000 (by omega)), fun l4 nl4 => ?_⟩
          have s4 := Same.new (o := HO.lst (zs ++ zs3)) (s2.trans s3) nl4
          refine ⟨_, rfl, _, rfl, _, _, rfl, rfl, ?_⟩
          refine ⟨v3, _, l4, _, 0, _, _, _, _, _, _, rfl, hli, s.trans s4, hv3.mono (Same.new (Same.refl _) nl4), upd_same, ?_, hran⟩
          rw [List.length_append]; omega
      · rintro σ H' ⟨mv, mk, l, zs, lf, li, nm, v8, v9, v10, v11, rfl, hli, s, hmv, hl, hz, hran⟩
        rw [EL.end_ hP (Nat.le_refl _)] at hran hz
        refine ⟨_, rfl, _, rfl, by show 2 ≤ sizeLine; decide, fun t nt => ?_⟩
        have s2 := Same.new (o := HO.tup [mv, .ref l]) s nt
        refine q _ t l mv zs s2 upd_same ?_ (by rw [upd_ne (ne_of_none hl nt)]; exact hl) (Nat.le_trans (Nat.le_add_right _ _) hz)
        rw [← hran]
        exact hmv.mono (Same.new (Same.refl _) nt)
theorem ok_run {f fR : Addr} {fd fdR : FuncData} (F : Fun K "_law_run" "_law_run" lRun f fd) (R : Cl P w K mg base CX0 5 "_law_ran" psRan (spRan K 3) fR fdR) : FnOk P w K mg base CX0 6 f fd ["_law_plain_here", "_law_answers"] (spRun K) := by
  refine F.ok scRun (fun vs H Q E h => ?_) (fun cdv A outer s H vs Q E hr h => ?_)
  · obtain ⟨_, _, _, _, _, rfl, _⟩ := h
    rfl
  · obtain ⟨a, dd, xs, e, fn, rfl, hA, hP, hd, hc, hro, hans, q⟩ := h
    refine ⟨_, pss_cons (ps_asg (pe_call R.ok hr rfl R.g R.kp R.b .nil pass0 (pa_cons (pv 0) (pa_cons (pv 1) (pa_cons pe_int (pa_cons (pe_tup (pa_cons pe_str (pa_cons pe_non pa_nil))) pa_nil))))) (pg_tup (by rfl) (pgs_cons (pg_name (i := 2) scRun.nd rfl (.inl rfl)) (pgs_cons (pg_name (i := 3) scRun.nd rfl (.inl rfl)) pgs_nil))))
      (pss_one (ps_ret (pe_tup (pa_cons (pe_ifExp (pt_cmpR op_eq (pe_ix ix_tup (pv 2) pe_int (fun _ _ => rfl)) pe_str (nomark _)) pe_str pe_str) (pa_cons (pv 3) (pa_cons (pe_ix ix_tup (pv 2) pe_int (fun _ _ => rfl)) pa_nil)))))), ?_⟩
    refine ⟨_, rfl, _, rfl, by show 2 ≤ sizeLine; decide, fun bp nbp => ?_⟩
    have s1 : Same H (upd H bp (.tup [.str "none", .non])) := Same.new (Same.refl _) nbp
    refine ⟨a, dd, 0, .ref bp, .none, xs, e, fn, rfl, s1 _ _ hA, PlL.mono s1 hP, hd, hc, hro, hans.mono s1 (fun _ h => h), ⟨bp, .non, rfl, SqT.of upd_same, (fun z => by cases z), fun _ => rfl⟩, fun H2 t l v zs s2 ht hv hl hz => ?_⟩
    refine ⟨t, _, rfl, SqT.of ht, rfl, _, _, rfl, _, _, rfl, rfl, ?_⟩
    obtain ⟨p, z, rfl, hp, k1, k2⟩ := hv
    refine ⟨_, rfl, p, _, 0, _, rfl, rfl, hp, rfl, rfl, _, rfl, ?_⟩
    rw [(mkS_dec _).2.1]
    have ew : ∀ b : Bool, decide (ran fn e .none 0 .none = .good) = b → inW (win fn e) = inW b := fun b h => by unfold win; rw [h]
    refine ite2 (fun h => ?_) (fun h => ?_)
    · refine ⟨_, rfl, _, rfl, p, _, 1, _, rfl, rfl, hp, rfl, by show 3 ≤ sizeLine; decide, fun t2 n2 => ?_⟩
      refine q _ t2 (.ref l) z ((s1.trans s2).trans (Same.new (Same.refl _) n2)) ?_
      rw [upd_same, ew true h]; rfl
    · have h' : decide (ran fn e .none 0 .none = .good) = false := by cases hh : decide (ran fn e .none 0 .none = .good) with
        | false => rfl
        | true => exact absurd hh h
      refine ⟨_, rfl, _, rfl, p, _, 1, _, rfl, rfl, hp, rfl, by show 3 ≤ sizeLine; decide, fun t2 n2 => ?_⟩
      refine q _ t2 (.ref l) z ((s1.trans s2).trans (Same.new (Same.refl _) n2)) ?_
      rw [upd_same, ew false h']; rfl
theorem ok_where {f fR : Addr} {fd fdR : FuncData} (F : Fun K "_law_where" "_law_where" lWhere f fd) (R : Cl P w K mg base CX0 6 "_law_run" ["_law_plain_here", "_law_answers"] (spRun K) fR fdR) : FnOk P w K mg base CX0 7 f fd ["_law_plain_here", "_law_answers"] (spWhere K) := by
  refine F.ok scWhere (fun vs H Q E h => ?_) (fun cdv A outer s H vs Q E hr h => ?_)
  · obtain ⟨_, _, _, _, _, rfl, _⟩ := h
    rfl
  · obtain ⟨a, dd, xs, e, fn, rfl, hA, hP, hd, hc, hro, hans, q⟩ := h
    refine ⟨_, pss_one (ps_ret (pe_ix ix_tup (pe_call R.ok hr rfl R.g R.kp R.b .nil pass0 (pa_cons (pv 0) (pa_cons (pv 1) pa_nil))) pe_int (fun _ _ => rfl))), ?_⟩
    refine ⟨_, rfl, _, rfl, a, dd, xs, e, fn, rfl, hA, hP, hd, hc, hro, hans, fun H2 t x y s2 ht => ?_⟩
    exact ⟨t, _, 0, _, rfl, rfl, SqT.of ht, rfl, q _ s2⟩
end
end K9
end
section
set_option Elab.async false
set_option linter.all false
set_option maxRecDepth 100000
set_option maxHeartbeats 8000000
/-! The program: numbers, words, actions, rules. -/
namespace K9
open PySem PySem.Spec PyProof.Rows L2
/-- a comprehension over a text -/
theorem lc_str {x : Str} {g : TG} {tt : TT} {te : TE} {vs : List Nat} {σ : L2.St} {H1 : Hp} {D : Addr} {Qd : Hp → Prop} (Pv : Nat → Hp → Prop) (h0 : Pv 0 (upd H1 D (.lst [])))
    (hs : ∀ i c H, x.cps[i]? = some c → Pv i H → g (.str ⟨#[c]⟩) (wipe σ vs) H fun σ2 H2 => wipe σ2 vs = wipe σ vs ∧ tt σ2 H2 fun b H3 =>
      if b = true then te σ2 H3 fun y H4 => ∃ acc, H4 D = some (.lst acc) ∧ acc.length < sizeLine ∧ Pv (i + 1) (upd H4 D (.lst (acc ++ [y]))) else Pv (i + 1) H3) (hd : ∀ H, Pv x.cps.size H → Qd H) :
    ∃ W : Nat → Nat → Hp → Prop, (∃ m, W 0 m (upd H1 D (.lst []))) ∧ ∀ i m H, W i m H →
      ((Its x).stop i H ∧ Qd H) ∨ ((Its x).go i H ∧ ∃ Nx : Hp → Prop, (∀ H', Nx H' → ∃ m', m' < m ∧ W (i + 1) m' H') ∧ ∀ v H', (Its x).yld i H v H' → g v (wipe σ vs) H' fun σ2 H2 => wipe σ2 vs = wipe σ vs ∧ tt σ2 H2 fun b H3 =>
        if b = true then te σ2 H3 fun y H4 => ∃ acc, H4 D = some (.lst acc) ∧ acc.length < sizeLine ∧ Nx (upd H4 D (.lst (acc ++ [y]))) else Nx H3) := by
  refine ⟨fun i m H => m = x.cps.size - i ∧ i ≤ x.cps.size ∧ Pv i H, ⟨x.cps.size, by simp, Nat.zero_le _, h0⟩, ?_⟩
  rintro i m H ⟨rfl, hi, p⟩
  by_cases hlt : i < x.cps.size
  · refine .inr ⟨hlt, Pv (i + 1), fun H' p' => ⟨x.cps.size - (i + 1), by omega, rfl, hlt, p'⟩, fun v H' y => ?_⟩
    obtain ⟨e, c, hc, ev⟩ := y
    subst e ev
    exact hs i c _ hc p
  · have e : i = x.cps.size := by omega
    subst e
    exact .inl ⟨Nat.le_refl _, hd H p⟩
def letters : Str := "abcdefghijklmnopqrstuvwxyz"
def WordOk (m : Str) : Prop := 1 ≤ m.length ∧ m.length ≤ 8 ∧ ∀ c ∈ m.cps.toList, c ∈ letters.cps.toList
/-- an own class whose instances are asked for their type -/
structure Isa (K : PySem.W.Frag) (C : Addr) : Prop where
  cl : Cls K C
  ha : PySem.W.findIn K (.ref C) "__class__" = some (some (.builtin "object.__class__"))
  hm : PySem.W.mroIn K C (.type "object") = some true
structure Isa0 (K : PySem.W.Frag) : Prop where
  hn : PySem.W.specialIn K (.builtin "object.__class__") "__get__" = some (some (.builtin "getset_descriptor.__get__"))
  htk : PySem.W.takesIn K (.builtin "object.__class__") = some true
theorem Isa.ty {K : PySem.W.Frag} {C a dx : Addr} {fs : List (Str × V)} {H : Hp} (I : Isa K C) (J : Isa0 K) (e : H a = some (.ins C dx fs)) : TyX K H (.ref a) (.ref C) := .base (.ins e I.cl I.ha J.hn J.htk I.hm)
def spNum : Sp := fun vs H Q _ => ∃ n : Int, vs = [.int n, .int 1, .int 9] ∧ 1 ≤ n ∧ n ≤ 9 ∧ ∀ H', Same H H' → Q (.bl true) H'
def spAct : Sp := fun vs H Q _ => ∃ a : V, vs = [a] ∧ ActOk a ∧ ∀ H', Same H H' → Q (.bl true) H'
def spWord : Sp := fun vs H Q _ => ∃ m : Str, vs = [.str m] ∧ WordOk m ∧ ∀ H', Same H H' → Q (.bl true) H'
def spTab : Sp := fun vs H Q _ => ∃ (t : Addr) (as : List V), vs = [.ref t] ∧ H t = some (.tup as) ∧ as.length = 4 ∧ (∀ a ∈ as, ActOk a) ∧ ∀ H', Same H H' → Q (.ref t) H'
def spRI (C : Addr) : Sp := fun vs H Q _ => ∃ (p dx t : Addr) (m : Str) (as : List V), vs = [.ref p, .str m, .ref t] ∧ H p = some (.ins C dx []) ∧ H t = some (.tup as) ∧ as.length = 4 ∧ (∀ a ∈ as, ActOk a) ∧ WordOk m ∧
  ∀ H', But p H H' → H' p = some (.ins C dx (rf m t)) → Q .non H'
def spRA (C : Addr) : Sp := fun vs H Q _ => ∃ (p dx t : Addr) (m : Str) (as : List V) (r : Str) (a : V), vs = [.ref p, .str r] ∧ H p = some (.ins C dx (rf m t)) ∧ H t = some (.tup as) ∧ r ∈ ress ∧ as[rix r]? = some a ∧ ∀ H', Same H H' → Q a H'
theorem inV_mem {w : Str} : ∀ {ws : List Str}, w ∈ ws → inV (.str w) (ws.map V.str) = true
  | [], h => nomatch h
  | x :: ws, h => by
    show ((x == w) || inV (.str w) (ws.map V.str)) = true
    rcases List.mem_cons.mp h with e | h
    · rw [e, beq_self_eq_true, Bool.true_or]
    · rw [inV_mem h, Bool.or_true]
/-- a tuple of the module's top -/
def KTup (K : PySem.W.Frag) (mg : Str → Option Value) (x : Str) (xs : List V) : Prop := ∃ a o, mg x = some (.ref a) ∧ (∀ H, SqT K H a xs) ∧ K.lookup a = some o ∧ o.cls = .type "tuple" ∧ o.dict = none
section
variable {P : Program} {w : World} {K : PySem.W.Frag} {mg : Str → Option Value} {base : Heap}
theorem ok_num {f : Addr} {fd : FuncData} (F : Fun K "is_number" "is_number" sNum f fd) (zi : mg "isinstance" = none) (zt : mg "int" = none) (zb : mg "bool" = none) : FnOk P w K mg base CX0 1 f fd ["thing", "low", "high"] spNum := by
  refine F.ok scNum (fun vs H Q E h => ?_) (fun cdv A outer s H vs Q E hr h => ?_)
  · obtain ⟨_, rfl, _⟩ := h
    rfl
  · obtain ⟨n, rfl, h1, h2, q⟩ := h
    refine ⟨_, pss_one (ps_ret (pe_and (pe_callB call_isi (by rfl) zi (by decide +kernel) (pa_cons (pv 0) (pa_cons (pe_bltn (v := .ty "int") (u := .type "int") (by rfl) zt (by decide +kernel) rfl) pa_nil)))
      (pe_and (pe_not (pe_callB call_isi (by rfl) zi (by decide +kernel) (pa_cons (pv 0) (pa_cons (pe_bltn (v := .ty "bool") (u := .type "bool") (by rfl) zb (by decide +kernel) rfl) pa_nil))))
      (pe_one (pe_chain op_le op_le (pv 1) (pv 0) (pv 2)))))), ?_⟩
    refine ⟨_, rfl, _, .ty "int", _, _, true, rfl, .ty "int", .base (.int n), kit_ty (by decide +kernel), true, rfl, iteT ?_⟩
    refine ⟨_, rfl, _, .ty "bool", _, _, false, rfl, .ty "bool", .base (.int n), kit_ty (by decide +kernel), false, rfl, true, rfl, iteT ?_⟩
    refine ⟨_, rfl, _, rfl, _, _, rfl, rfl, true, congrArg V.bl (decide_eq_true h1), iteT ?_⟩
    refine ⟨_, rfl, _, _, rfl, rfl, ?_⟩
    have e9 : V.bl (decide (n ≤ 9)) = V.bl true := congrArg V.bl (decide_eq_true h2)
    show Q (V.bl (decide (n ≤ 9))) _
    rw [e9]
    exact q _ (Same.refl _)
theorem ok_act {f fN : Addr} {fd fdN : FuncData} (F : Fun K "is_action" "is_action" sAct f fd) (zi : mg "isinstance" = none) (zs : mg "str" = none) (A : KTup K mg "ACTIONS" (actWs.map V.str)) (M : ∃ t, mg "MOST_JUMP" = some (.int 9 t))
    (N : Cl P w K mg base CX0 1 "is_number" ["thing", "low", "high"] spNum fN fdN) : FnOk P w K mg base CX0 2 f fd ["thing"] spAct := by
  refine F.ok scAct (fun vs H Q E h => ?_) (fun cdv A' outer s H vs Q E hr h => ?_)
  · obtain ⟨_, rfl, _⟩ := h
    rfl
  · obtain ⟨a, rfl, ha, q⟩ := h
    obtain ⟨aA, oA, gA, hA, _⟩ := A
    obtain ⟨tM, gM⟩ := M
    refine ⟨_, pss_one (ps_ret (pe_or (pe_and (pe_callB call_isi (by rfl) zi (by decide +kernel) (pa_cons (pv 0) (pa_cons (pe_bltn (v := .ty "str") (u := .type "str") (by rfl) zs (by decide +kernel) rfl) pa_nil)))
        (pe_one (pe_cmpR op_in_seq (pv 0) (pe_glob (v := .ref aA) rfl gA rfl) (by rfl))))
      (pe_one (pe_call N.ok hr rfl N.g N.kp N.b .nil pass0 (pa_cons (pv 0) (pa_cons pe_int (pa_cons (pe_glob (v := .int 9) rfl gM ⟨_, rfl⟩) pa_nil))))))), ?_⟩
    rcases ha with ⟨s', hs, rfl⟩ | ⟨n, rfl, h1, h2⟩
    · refine ⟨_, rfl, _, .ty "str", _, _, true, rfl, .ty "str", .base (.str s'), kit_ty (by decide +kernel), true, rfl, iteT ?_⟩
      refine ⟨_, rfl, aA, _, rfl, .inr (hA _), rfl, flat_strs _, true, ?_, iteT (q _ (Same.refl _))⟩
      show V.bl (inV _ _) = V.bl true
      rw [inV_mem hs]
    · refine ⟨_, rfl, _, .ty "str", _, _, false, rfl, .ty "str", .base (.int n), kit_ty (by decide +kernel), false, rfl, iteF ?_⟩
      refine ⟨false, rfl, iteF ?_⟩
      exact ⟨_, rfl, n, rfl, h1, h2, fun H' s => q H' s⟩
theorem ok_word {f : Addr} {fd : FuncData} (F : Fun K "is_word" "is_word" sWord f fd) (zi : mg "isinstance" = none) (zs : mg "str" = none) (zl : mg "len" = none) (za : mg "all" = none) (M : ∃ t, mg "MOST_LETTERS" = some (.int 8 t)) (L : ∃ t, mg "LETTERS" = some (.str letters t)) :
    FnOk P w K mg base CX0 1 f fd ["thing"] spWord := by
  refine F.ok scWord (fun vs H Q E h => ?_) (fun cdv A' outer s H vs Q E hr h => ?_)
  · obtain ⟨_, rfl, _⟩ := h
    rfl
  · obtain ⟨m, rfl, ⟨h1, h8, hc⟩, q⟩ := h
    obtain ⟨tM, gM⟩ := M
    obtain ⟨tL, gL⟩ := L
    refine ⟨_, pss_cons (ps_if (PW.pt (pw_or (pt_not (pt_val (pe_callB call_isi (by rfl) zi (by decide +kernel) (pa_cons (pv 0) (pa_cons (pe_bltn (v := .ty "str") (u := .type "str") (by rfl) zs (by decide +kernel) rfl) pa_nil)))))
        (pw_or1 (pt_not (pt_chain op_le op_le pe_int (pe_callB call_len_str (by rfl) zl PySem.boot_len (pa_cons (pv 0) pa_nil)) (pe_glob (v := .int 8) rfl gM ⟨_, rfl⟩)))))) (pss_one (ps_ret pe_bl)) pss_nil)
      (pss_one (ps_ret (pe_callB (cr_all rfl) (by rfl) za (by decide +kernel) (pa_cons
        (pe_lc (own := [("letter", 1)]) (g := gName 1) (tt := tYes) rfl scWord.nd (pi_str (pv 0)) (blkOk_by (own := [("letter", 1)]) (N := ["thing", "letter"]) (sc := defScope sWord) (by decide +kernel))
          (fun _ _ _ _ _ => pg_name (i := 1) scWord.nd rfl (Or.inl rfl)) (fun _ _ _ _ _ => pts_nil) (fun _ _ _ _ _ => pe_cmpR op_in_sign (pv 1) (pe_glob (v := .str letters) rfl gL ⟨_, rfl⟩) (by rfl))) pa_nil)))), ?_⟩
    have hlen : m.length ≤ sizeLine := Nat.le_of_lt (small1000 (by omega))
    refine ⟨_, rfl, _, .ty "str", _, _, true, rfl, .ty "str", .base (.str m), kit_ty (by decide +kernel), true, rfl, iteF ?_⟩
    refine ⟨_, rfl, m, rfl, hlen, _, _, rfl, rfl, true, congrArg V.bl (decide_eq_true (by omega)), iteT ?_⟩
    refine ⟨_, _, rfl, rfl, true, congrArg V.bl (decide_eq_true (by omega)), iteF ?_⟩
    refine ⟨_, rfl, m, rfl, fun D nD => ?_⟩
    refine lc_str (x := m) (fun i H' => Same H H' ∧ H' D = some (.lst ((List.replicate i true).map V.bl)) ) ⟨Same.new (Same.refl _) nD, upd_same⟩ ?_ ?_
    · rintro i c H' hi ⟨s, hD⟩
      have hm : c ∈ m.cps.toList := by
        obtain ⟨q1, q2⟩ := Array.getElem?_eq_some_iff.mp hi
        rw [← q2]
        exact Array.getElem_mem_toList q1
      have hil : i < m.length := (Array.getElem?_eq_some_iff.mp hi).1
      refine ⟨rfl, ?_⟩
      refine ⟨_, rfl, c, letters, rfl, rfl, _, hD, ?_, Same.own s nD, ?_⟩
      · rw [List.length_map, List.length_replicate]; exact small1000 (by omega)
      · rw [upd_same, decide_eq_true (hc c hm), List.replicate_succ', List.map_append]
        rfl
    · rintro H' ⟨s, hD⟩
      refine ⟨D, List.replicate m.cps.size true, rfl, SqL.of hD, ?_⟩
      have : (List.replicate m.cps.size true).all id = true := List.all_eq_true.mpr fun x hx => (List.mem_replicate.mp hx).2
      rw [this]
      exact q _ s
theorem ok_tab {f fA : Addr} {fd fdA : FuncData} (F : Fun K "table_of" "table_of" sTab f fd) (zi : mg "isinstance" = none) (zs : mg "str" = none) (zt : mg "tuple" = none) (zl : mg "len" = none) (za : mg "all" = none) (R : KTup K mg "RESULTS" (ress.map V.str))
    (AC : Cl P w K mg base CX0 2 "is_action" ["thing"] spAct fA fdA) : FnOk P w K mg base CX0 3 f fd ["control"] spTab := by
  refine F.ok scTab (fun vs H Q E h => ?_) (fun cdv A' outer s H vs Q E hr h => ?_)
  · obtain ⟨_, _, rfl, _⟩ := h
    rfl
  · obtain ⟨t, as, rfl, ht, h4, hok, q⟩ := h
    obtain ⟨aR, oR, gR, hR, _⟩ := R
    refine ⟨_, pss_cons (ps_if (pt_val (pe_callB call_isi (by rfl) zi (by decide +kernel) (pa_cons (pv 0) (pa_cons (pe_bltn (v := .ty "str") (u := .type "str") (by rfl) zs (by decide +kernel) rfl) pa_nil)))) pss_never pss_nil)
      (pss_cons (ps_if (PW.pt (pw_or (pt_not (pt_val (pe_callB call_isi (by rfl) zi (by decide +kernel) (pa_cons (pv 0) (pa_cons (pe_bltn (v := .ty "tuple") (u := .type "tuple") (by rfl) zt (by decide +kernel) rfl) pa_nil)))))
        (pw_or (pt_cmpR op_ne (pe_callB call_len_seq (by rfl) zl PySem.boot_len (pa_cons (pv 0) pa_nil)) (pe_callB call_len_seq (by rfl) zl PySem.boot_len (pa_cons (pe_glob (v := .ref aR) rfl gR rfl) pa_nil)) (nomark _))
        (pw_or1 (pt_not (pt_val (pe_callB (cr_all rfl) (by rfl) za (by decide +kernel) (pa_cons
          (pe_lc (own := [("one", 1)]) (g := gName 1) (tt := tYes) rfl scTab.nd (pi_tup (pv 0)) (blkOk_by (own := [("one", 1)]) (N := ["control", "one"]) (sc := defScope sTab) (by decide +kernel))
            (fun _ _ _ _ _ => pg_name (i := 1) scTab.nd rfl (Or.inl rfl)) (fun _ _ _ _ _ => pts_nil) (fun _ _ _ _ _ => pe_call AC.ok hr rfl AC.g AC.kp AC.b .nil pass0 (pa_cons (pv 1) pa_nil))) pa_nil))))))))
        (pss_one (ps_ret pe_non)) pss_nil)
      (pss_one (ps_ret (pv 0)))), ?_⟩
    refine ⟨_, rfl, _, .ty "str", _, _, false, rfl, .ty "str", .base (.tup ht), kit_ty (by decide +kernel), false, rfl, iteF ?_⟩
    refine ⟨_, rfl, _, .ty "tuple", _, _, true, rfl, .ty "tuple", .base (.tup ht), kit_ty (by decide +kernel), true, rfl, iteF ?_⟩
    refine ⟨_, rfl, t, as, rfl, .inr (SqT.of ht), aR, _, rfl, .inr (hR _), rfl, _, rfl, ?_⟩
    refine iteNS (by rw [h4]; rfl) ?_
    refine ⟨_, rfl, t, rfl, ⟨_, SqT.of ht⟩, fun D nD => ?_⟩
    refine lc_tup (K := K) (a := t) (xs := as) (fun i H' => Same H H' ∧ H' D = some (.lst ((List.replicate i true).map V.bl))) ⟨Same.new (Same.refl _) nD, upd_same⟩ (fun i H' _ ⟨s, _⟩ => SqT.of (s _ _ ht)) ?_ ?_
    · rintro i x H' hi ⟨s, hD⟩
      have hil := get_len hi
      refine ⟨rfl, ?_⟩
      refine ⟨_, rfl, x, rfl, hok x (List.mem_of_getElem? hi), fun H2 s2 => ?_⟩
      refine ⟨_, s2 _ _ hD, ?_, Same.own (s.trans s2) nD, ?_⟩
      · rw [List.length_map, List.length_replicate]; exact small1000 (by omega)
      · rw [upd_same, List.replicate_succ', List.map_append]
        rfl
    · rintro H' ⟨s, hD⟩
      refine ⟨D, List.replicate as.length true, rfl, SqL.of hD, ?_⟩
      have : (List.replicate as.length true).all id = true := List.all_eq_true.mpr fun x hx => (List.mem_replicate.mp hx).2
      rw [this]
      exact ⟨true, rfl, iteF ⟨_, rfl, q _ s⟩⟩
theorem ok_ri {f fW fT C : Addr} {fd fdW fdT : FuncData} (F : Fun K "__init__" "Rule.__init__" sRI f fd) (cl : Cls K C) (nA : NoAttr K C "asks") (nC : NoAttr K C "acts")
    (W : Cl P w K mg base CX0 1 "is_word" ["thing"] spWord fW fdW) (T : Cl P w K mg base CX0 3 "table_of" ["control"] spTab fT fdT) : FnOk P w K mg base CX0 4 f fd ["self", "module", "control"] (spRI C) := by
  refine F.ok scRI (fun vs H Q E h => ?_) (fun cdv A' outer s H vs Q E hr h => ?_)
  · obtain ⟨_, _, _, _, _, rfl, _⟩ := h
    rfl
  · obtain ⟨p, dx, t, m, as, rfl, hp, ht, h4, hok, hw, q⟩ := h
    refine ⟨_, pss_cons (ps_if (pt_not (pt_val (pe_call W.ok (hr.mono (by decide)) rfl W.g W.kp W.b .nil pass0 (pa_cons (pv 1) pa_nil)))) pss_never pss_nil)
      (pss_cons (ps_if (pt_cmp (pc_isN (pe_call T.ok hr rfl T.g T.kp T.b .nil pass0 (pa_cons (pv 2) pa_nil)))) pss_never pss_nil)
      (pss_cons (ps_fld (pv 0) (pv 1) rfl) (pss_one (ps_fld (pv 0) (pe_call T.ok hr rfl T.g T.kp T.b .nil pass0 (pa_cons (pv 2) pa_nil)) rfl)))), ?_⟩
    refine ⟨_, rfl, m, rfl, hw, fun H1 s1 => ⟨true, rfl, iteF ?_⟩⟩
    refine ⟨_, rfl, t, as, rfl, s1 _ _ ht, h4, hok, fun H2 s2 => ⟨false, rfl, iteF ?_⟩⟩
    have s12 := s1.trans s2
    have npt : t ≠ p := ne_of ht hp (by intro z; cases z)
    refine ⟨_, rfl, _, rfl, p, C, dx, [], rfl, s12 _ _ hp, cl, nA, by decide, ?_⟩
    refine ⟨_, rfl, t, as, rfl, by rw [upd_ne npt]; exact s12 _ _ ht, h4, hok, fun H3 s3 => ?_⟩
    refine ⟨_, rfl, p, C, dx, _, rfl, s3 _ _ upd_same, cl, nC, by show 1 < 1000; decide, ?_⟩
    refine q _ (But.at (But.trans (But.at (But.of s12)) (But.of s3))) ?_
    rw [upd_same, show putF (Str.ofString "asks") (V.str m) [] = [(("asks" : Str), V.str m)] from rfl, rf_put]
theorem ok_ra {f C : Addr} {fd : FuncData} (F : Fun K "action_for" "Rule.action_for" sRA f fd) (cl : Cls K C) (nC : NoAttr K C "acts") (R : KTup K mg "RESULTS" (ress.map V.str)) : FnOk P w K mg base CX0 1 f fd ["self", "result"] (spRA C) := by
  refine F.ok scRA (fun vs H Q E h => ?_) (fun cdv A' outer s H vs Q E hr h => ?_)
  · obtain ⟨_, _, _, _, _, _, _, rfl, _⟩ := h
    rfl
  · obtain ⟨p, dx, t, m, as, r, a, rfl, hp, ht, hr', ha, q⟩ := h
    obtain ⟨aR, oR, gR, hR, k1, k2, k3⟩ := R
    refine ⟨_, pss_one (ps_ret (pe_ix ix_tup (pe_fld (pv 0) rfl) (pe_bm PySem.F.plainAttrs_tuple PySem.F.slot_tuple_index PySem.F.type_tuple_index mt_tup_index (pe_glob (v := .ref aR) rfl gR rfl) (pa_cons (pv 1) pa_nil)) (fun _ _ => rfl))), ?_⟩
    obtain ⟨i1, i2, i3⟩ := ress_ix hr'
    refine ⟨_, rfl, p, C, dx, _, _, rfl, hp, cl, nC, rf_acts _ _, ?_⟩
    refine ⟨.inr (.inl ⟨rfl, oR, k1, k2, k3⟩), _, rfl, aR, ress, r, rix r, rfl, rfl, hR _, i2, i3, ?_⟩
    exact ⟨t, as, _, a, rfl, rfl, SqT.of ht, at_of rfl ha, q _ (Same.refl _)⟩
end
end K9
end
section
set_option Elab.async false
set_option linter.all false
set_option maxRecDepth 100000
set_option maxHeartbeats 8000000
/-! The program: stacks. -/
namespace K9
open PySem PySem.Spec PyProof.Rows L2
section
variable {X : Cx} {CX : CXT} {k : Nat} {f C : Addr} {sp : Sp} {E : XK} {x : Str} {e : Expr} {te : TE} {p sp_ pos : Pos}
theorem pe_makeR0 (M : Mk X.K C f) (F : FnR X.prog X.w X.K X.mg X.base CX k f sp) (hr : Room (k + 1) X.A) (hg : Gl X x) (hm : X.mg x = some (.ref C)) (hx : Passes CX X E) (hdb : (x == ("__debug__" : Str)) = false := by decide) : PE X (.Call (.Name x p) [] [] pos) (StX.tMakeR C sp E tNil) := by
  refine ⟨fun pins s σ H Q I h => ?_⟩
  refine wpAny_Call_Name_kw (ld_glob I hg hm ?_ hdb)
  exact PySem.W.callWith_K0 I.kIn M.kp (StX.run_makeR (us := []) M F hr hx I .nil h)
def tMakeS (K : PySem.W.Frag) (C : Addr) (sp : Sp) (E : XK) (te : TE) : TE := fun σ H Q => te σ H fun y H1 => ∃ a xs, y = V.ref a ∧ (SqT K H1 a xs ∨ SqL K H1 a xs) ∧ ∀ x dx, H1 x = Option.none → H1 dx = Option.none → dx ≠ x →
  sp (V.ref x :: xs) (upd (upd H1 dx (.own x)) x (.ins C dx [])) (fun v H2 => v = .non ∧ Q (.ref x) H2) E
theorem pe_makeRS (M : Mk X.K C f) (F : FnR X.prog X.w X.K X.mg X.base CX k f sp) (hr : Room (k + 1) X.A) (hg : Gl X x) (hm : X.mg x = some (.ref C)) (hx : Passes CX X E) (he : PE X e te) (hdb : (x == ("__debug__" : Str)) = false := by decide)
    (hst : starEach [.Starred e sp_] X.env = [(true, eval e X.env)] := by rfl) : PE X (.Call (.Name x p) [.Starred e sp_] [] pos) (tMakeS X.K C sp E te) := by
  refine ⟨fun pins s σ H Q I h => ?_⟩
  refine wpAny_Call_Name_kw (ld_glob I hg hm ?_ hdb)
  refine PySem.W.callWith_S (h₀ := X.base) I.ok.mod.kin M.kp (thn (he.run pins s σ H _ I h) fun v s1 ⟨y, H1, I1, ry, a, xs, ey, hxs, q⟩ => ?_) hst
  subst ey
  obtain rfl : v = Value.ref a := ry
  exact StX.star_any I1 hxs fun us s2 I2 rv => ⟨I2.kIn, StX.run_makeR M F hr hx I2 rv q⟩
end
theorem pe_fldK {X : Cx} {K : PySem.W.Frag} {e : Expr} {f : Str} {ta : TE} {pos : Pos} (he : PE X e ta) (hb : attributeBase e f X.env (eval e X.env) = eval e X.env) (eK : X.K = K := by rfl) : PE X (.Attribute e f pos) (tFld K ta f) := by subst eK; exact pe_fld he hb
/-- t + u: some tuple of both -/
theorem catA_any {K : PySem.W.Frag} {a b : Addr} {xs ys : List V} {H : Hp} {Q : VK} (ha : H a = some (.tup xs)) (hb : H b = some (.tup ys)) (hz : xs.length + ys.length ≤ sizeLine)
    (q : ∀ (H' : Hp) (p : Addr), Same H H' → H' p = some (.tup (xs ++ ys)) → Q (.ref p) H') : rCatA K (.ref a) (.ref b) H Q := by
  refine ⟨a, b, xs, ys, rfl, rfl, SqT.of ha, SqT.of hb, hz, fun e => ?_, fun _ e => ?_, fun _ _ p np => q _ p (Same.new (Same.refl _) np) upd_same⟩
  · subst e; exact q _ b (Same.refl _) hb
  · subst e; exact q _ a (Same.refl _) (by rw [List.append_nil]; exact ha)
theorem EL.nil_of {fr : Rl → V → Prop} {fs : (List V → Prop) → Es → V → Prop} : ∀ {e : Es}, EL fr fs e [] → e = .nil
  | .nil, _ => rfl
  | .rule _ _ _, ⟨_, _, e, _⟩ => nomatch e
  | .stk _ _, ⟨_, _, e, _⟩ => nomatch e
theorem EL.one {fr : Rl → V → Prop} {fs : (List V → Prop) → Es → V → Prop} {e : Es} {v : V} (h : EL fr fs e [v]) : (∃ m as, e = .rule m as .nil ∧ fr (m, as) v) ∨ ∃ j, e = .stk j .nil ∧ fs (EL fr fs j) j v := by
  cases e with
  | nil => exact absurd h (List.cons_ne_nil _ _)
  | rule m as r =>
    obtain ⟨v', ys, e, a, b⟩ := h
    injection e with e1 e2
    subst e1 e2
    rw [EL.nil_of b]
    exact .inl ⟨m, as, rfl, a⟩
  | stk j r =>
    obtain ⟨v', ys, e, a, b⟩ := h
    injection e with e1 e2
    subst e1 e2
    rw [EL.nil_of b]
    exact .inr ⟨j, rfl, a⟩
theorem take_succ : ∀ (n : Nat) (e : Es), takeE (n + 1) e = appE (takeE n e) (takeE 1 (dropE n e))
  | 0, e => rfl
  | n + 1, .nil => rfl
  | n + 1, .rule m as r => by show Es.rule m as (takeE (n + 1) r) = Es.rule m as (appE (takeE n r) (takeE 1 (dropE n r))); rw [take_succ n r]
  | n + 1, .stk i r => by show Es.stk i (takeE (n + 1) r) = Es.stk i (appE (takeE n r) (takeE 1 (dropE n r))); rw [take_succ n r]
theorem take_all {fr : Rl → V → Prop} {fs : (List V → Prop) → Es → V → Prop} {e : Es} {xs : List V} (h : EL fr fs e xs) : takeE xs.length e = e := by
  have := take_drop xs.length e
  rw [EL.end_ h (Nat.le_refl _), app_nil] at this
  exact this
theorem EL.one_at {fr : Rl → V → Prop} {fs : (List V → Prop) → Es → V → Prop} {e : Es} {xs : List V} {i : Nat} {x : V} (h : EL fr fs e xs) (hi : xs[i]? = some x) : EL fr fs (takeE 1 (dropE i e)) [x] := by
  have k := EL.take 1 (EL.drop i h)
  obtain ⟨h1, h2⟩ := List.getElem?_eq_some_iff.mp hi
  rw [List.drop_eq_getElem_cons h1, h2] at k
  exact k
section
variable (C D : Addr)
def spSteps : Sp := fun vs H Q _ => ∃ (v : V) (e : Es), vs = [v] ∧ StL C D H e [v] ∧ ∀ (H' : Hp) (t : Addr) (ss : List V), Same H H' → H' t = some (.tup ss) → Paired (stR C H') (rls e) ss → Q (.ref t) H'
def spFirsts : Sp := fun vs H Q _ => ∃ (v : V) (n : Int) (i : Es), vs = [v, .int n] ∧ SkAt C D H i v ∧ cnt i ≤ 100 ∧ len i ≤ 100 ∧ ∀ (H' : Hp) (p : Addr) (fs : List Int), Same H H' → H p = none → H' p = some (.lst (fs.map V.int)) → fs.length = len i → Q (.ref p) H'
/-- the bounds that the constructor asks -/
def Fits (e : Es) : Prop := dep e ≤ 3 ∧ cnt e ≤ 12 ∧ len e ≤ 12 ∧ ∃ ks : List Str, ks.length ≤ 6 ∧ ∀ m ∈ mods e, m ∈ ks
def spSI : Sp := fun vs H Q _ => ∃ (p dx : Addr) (rest : List V) (e : Es), vs = .ref p :: rest ∧ H p = some (.ins D dx []) ∧ StL C D (cut p H) e rest ∧ Fits e ∧ ∀ H', But p H H' → SkAt C D H' e (.ref p) → Q .non H'
def spSIb : Sp := fun vs H Q _ => ∃ (p dx pa : Addr) (rest : List V) (e : Es), vs = [.ref p, .ref pa] ∧ H p = some (.ins D dx []) ∧ pa ≠ p ∧ H pa = some (.tup rest) ∧ StL C D (cut p H) e rest ∧ Fits e ∧ ∀ H', But p H H' → SkAt C D H' e (.ref p) → Q .non H'
def spSA : Sp := fun vs H Q _ => ∃ (v u : V) (i j : Es), vs = [v, u] ∧ SkAt C D H i v ∧ SkAt C D H j u ∧ Fits (appE i j) ∧ ∀ (H' : Hp) (p : V), Same H H' → SkAt C D H' (appE i j) p → Q p H'
/-- what is asked of the two classes -/
structure Tst (K : PySem.W.Frag) (mg : Str → Option Value) : Prop where
  i0 : Isa0 K
  iC : Isa K C
  iD : Isa K D
  gC : mg "Rule" = some (.ref C)
  gD : mg "Stack" = some (.ref D)
  kCC : PySem.W.kitOne K (.ref C) (.ref C) = some true
  kCD : PySem.W.kitOne K (.ref C) (.ref D) = some false
  kDD : PySem.W.kitOne K (.ref D) (.ref D) = some true
  aA : NoAttr K C "asks"
  aP : NoAttr K D "parts"
  aS : NoAttr K D "steps"
  aN : NoAttr K D "names"
  aD : NoAttr K D "depth"
end
section
variable {P : Program} {w : World} {K : PySem.W.Frag} {mg : Str → Option Value} {base : Heap} {C D : Addr}
theorem ok_steps {f : Addr} {fd : FuncData} (F : Fun K "steps_of" "steps_of" sSteps f fd) (zi : mg "isinstance" = none) (T : Tst C D K mg) : FnOk P w K mg base CX0 1 f fd ["entry"] (spSteps C D) := by
  refine F.ok scSteps (fun vs H Q E h => ?_) (fun cdv A' outer s H vs Q E hr h => ?_)
  · obtain ⟨_, _, rfl, _⟩ := h
    rfl
  · obtain ⟨v, e, rfl, hv, q⟩ := h
    refine ⟨_, pss_one (ps_ret (pe_ifExp (pt_val (pe_callB call_isi (by rfl) zi (by decide +kernel) (pa_cons (pv 0) (pa_cons (pe_glob (v := .ref D) rfl T.gD rfl) pa_nil)))) (pe_fld (pv 0) rfl) (pe_tup (pa_cons (pv 0) pa_nil)))), ?_⟩
    rcases EL.one hv with ⟨m, as, rfl, hs⟩ | ⟨j, rfl, hs⟩
    · obtain ⟨p, dx, t, rfl, hp, ht⟩ := id hs
      refine ⟨_, rfl, _, .ref D, _, _, false, rfl, .own D, T.iC.ty T.i0 hp, T.kCD, false, rfl, iteF ?_⟩
      refine ⟨_, rfl, by show 1 ≤ sizeLine; decide, fun p2 n2 => ?_⟩
      have s2 : Same H (upd H p2 (.tup [.ref p])) := Same.new (Same.refl _) n2
      exact q _ p2 _ s2 upd_same (.cons (stR.mono s2 hs) .nil)
    · obtain ⟨p, dx, pa, st, nm, zs, ss, ns, rfl, hp, hpa, hP, hst, hss, hnm, hN⟩ := hs
      refine ⟨_, rfl, _, .ref D, _, _, true, rfl, .own D, T.iD.ty T.i0 hp, T.kDD, true, rfl, iteT ?_⟩
      refine ⟨_, rfl, p, D, dx, _, _, rfl, hp, T.iD.cl, T.aS, sf_steps _ _ _ _, ?_⟩
      refine q _ st ss (Same.refl _) hst ?_
      show Paired (stR C H) (rls j ++ []) ss
      rw [List.append_nil]
      exact hss
theorem ok_firsts {f fS : Addr} {fd fdS : FuncData} (F : Fun K "firsts_of" "firsts_of" sFirsts f fd) (zl : mg "len" = none) (T : Tst C D K mg) (S : Cl P w K mg base CX0 1 "steps_of" ["entry"] (spSteps C D) fS fdS) : FnOk P w K mg base CX0 2 f fd ["stack", "first"] (spFirsts C D) := by
  refine F.ok scFirsts (fun vs H Q E h => ?_) (fun cdv A' outer s H vs Q E hr h => ?_)
  · obtain ⟨_, _, _, rfl, _⟩ := h
    rfl
  · obtain ⟨v, n, i, rfl, hv, hc, hl, q⟩ := h
    obtain ⟨p, dx, pa, st, nm, zs, ss, ns, rfl, hp, hpa, hP, hst, hss, hnm, hN⟩ := id hv
    refine ⟨_, pss_cons (ps_set (i := 2) scFirsts.nd rfl (Or.inl rfl) (pe_lst pa_nil))
      (pss_cons (ps_for PassesOwn.never rfl (pi_tup (pe_fld (pv 0) rfl)) (pg_name (i := 3) scFirsts.nd rfl (Or.inl rfl))
        (pss_cons (ps_expr (pe_bm PySem.F.plainAttrs_list PySem.F.slot_list_append PySem.F.type_list_append mt_append (pv 2) (pa_cons (pv 1) pa_nil)))
        (pss_one (ps_aug (i := 1) scFirsts.nd rfl (.inl rfl) (pe_callB call_len_seq (by rfl) zl PySem.boot_len (pa_cons (pe_call S.ok hr rfl S.g S.kp S.b .nil pass0 (pa_cons (pv 3) pa_nil)) pa_nil)) ip_add))))
      (pss_one (ps_ret (pv 2)))), ?_⟩
    refine ⟨Nat.zero_le _, fun fo nfo => ?_⟩
    have s1 : Same H (upd H fo (.lst [])) := Same.new (Same.refl _) nfo
    have hz : zs.length = len i := EL.length _ _ hP
    refine ⟨_, rfl, p, D, dx, _, _, rfl, s1 _ _ hp, T.iD.cl, T.aP, sf_parts _ _ _ _, pa, rfl, ⟨_, SqT.of (s1 _ _ hpa)⟩, for_tup (K := K) (a := pa) (xs := zs) (fun k σ H' => ∃ (fs : List Int) (n : Int) (v3 : Option V), σ = [some (.ref p), some (.int n), some (.ref fo), v3] ∧ Same H H' ∧ H' fo = some (.lst (fs.map V.int)) ∧ fs.length = k)
      ⟨[], n, _, rfl, s1, upd_same, rfl⟩ (fun k σ H' _ ⟨_, _, _, _, s, _⟩ => SqT.of (s _ _ hpa)) ?_ ?_⟩
    · rintro k x σ H' hk ⟨fs, n, v3, rfl, s, hf, hfl⟩
      have hkl := get_len hk
      refine ⟨_, rfl, .inl ⟨rfl, _, SqL.of hf⟩, _, rfl, fo, _, _, rfl, rfl, hf, small1000 (by rw [List.length_map]; omega), ?_⟩
      have s2 : Same H (upd H' fo (.lst (fs.map V.int ++ [.int n]))) := Same.own s nfo
      have h1 := StL.mono s2 (EL.one_at hP hk)
      refine ⟨_, rfl, _, rfl, x, _, rfl, h1, fun H2 t us s3 ht hu => ?_⟩
      refine ⟨t, us, rfl, .inr (SqT.of ht), _, _, rfl, rfl, ?_⟩
      refine ⟨fs ++ [n], _, _, rfl, s2.trans s3, s3 _ _ ?_, by rw [List.length_append, hfl]; rfl⟩
      rw [upd_same, List.map_append]; rfl
    · rintro σ H' ⟨fs, n, v3, rfl, s, hf, hfl⟩
      exact ⟨_, rfl, q _ fo fs s nfo hf (hfl.trans hz)⟩
end
end K9
end
section
set_option Elab.async false
set_option linter.all false
set_option maxRecDepth 100000
set_option maxHeartbeats 8000000
/-! The program: a stack's making, two stacks added. -/
namespace K9
open PySem PySem.Spec PyProof.Rows L2
/-- two rows of modules -/
theorem Fits.take {e : Es} (h : Fits e) (i : Nat) : dep (takeE i e) ≤ 3 ∧ cnt (takeE i e) ≤ 12 ∧ len (takeE i e) ≤ 12 ∧ ∀ m ∈ mods (takeE i e), m ∈ mods e := by
  obtain ⟨h1, h2, h3, _⟩ := h
  have ed := take_drop i e
  have a1 := congrArg dep ed
  have a2 := congrArg (fun z => (rls z).length) ed
  have a3 := congrArg len ed
  have a4 := congrArg mods ed
  rw [dep_app] at a1
  rw [len_app] at a3
  rw [mods_app] at a4
  simp only [rls_app, List.length_append] at a2
  have h2' : (rls e).length ≤ 12 := h2
  refine ⟨by omega, by show (rls _).length ≤ 12; omega, by omega, fun m hm => by rw [← a4]; exact List.mem_append_left _ hm⟩
theorem max2_is {a b : Nat} : (if ((b : Nat) : Int) > ((a : Nat) : Int) then ((b : Nat) : Int) else ((a : Nat) : Int)) = ((max a b : Nat) : Int) := by
  split <;> omega
section
variable {P : Program} {w : World} {K : PySem.W.Frag} {mg : Str → Option Value} {base : Heap} {C D : Addr}
theorem ok_si {f fS : Addr} {fd fdS : FuncData} (F : Fun K "__init__" "Stack.__init__" sSI f fd) (ze : mg "enumerate" = none) (zi : mg "isinstance" = none) (zt : mg "tuple" = none) (zs : mg "sorted" = none) (zset : mg "set" = none) (zm : mg "max" = none) (zl : mg "len" = none)
    (T : Tst C D K mg) (S : Cl P w K mg base CX0 1 "steps_of" ["entry"] (spSteps C D) fS fdS) (mE : ∃ t, mg "MOST_ENTRIES" = some (.int 12 t)) (mD : ∃ t, mg "MOST_DEPTH" = some (.int 3 t)) (mR : ∃ t, mg "MOST_RULES" = some (.int 12 t)) (mM : ∃ t, mg "MOST_MODULES" = some (.int 6 t)) :
    FnR P w K mg base CX0 2 f (spSI C D) := by
  obtain ⟨oc, od, kV, doc, pm, an, cdv, ct, osl, rfl, lk, hcd⟩ := F.ex
  have R := StX.fn_star (P := P) (w := w) (mg := mg) (base := base) (CX := CX0) (k := 1) (ps := ["self"]) (pv := "entries") (sp := spSIb C D) lk hcd scSI StX.cxUp_none (StX.bind_star1 (B := fun us => bindArgs (PySem.W.fnOf "__init__" "Stack.__init__" (defArgs sSI) (defBody sSI) (defScope sSI) .none kV doc pm an cdv ct) ⟨us, []⟩) (fun a => rfl) (fun a r rs => rfl)) ?_
  · intro A outer s H us vs Q E hr e0 r h
    refine R A outer s H us vs Q E hr e0 r ?_
    obtain ⟨p, dx, rest, e, rfl, hp, hP, hf, q⟩ := h
    have hl : rest.length ≤ sizeLine := by rw [EL.length _ _ hP]; exact Nat.le_of_lt (small1000 (Nat.le_trans hf.2.2.1 (by decide)))
    refine ⟨[.ref p], rest, rfl, rfl, hl, fun pa npa => ⟨p, dx, pa, rest, e, rfl, ?_, (ne_of_none hp npa).symm, upd_same, ?_, hf, fun H' b k => q H' (fun b' o n e' => b b' o n (by rw [upd_ne (ne_of_none e' npa)]; exact e')) k⟩⟩
    · rw [upd_ne (ne_of_none hp npa)]; exact hp
    · refine StL.mono (fun b o z => ?_) hP
      obtain ⟨z1, z2⟩ := cut_some z
      exact cut_of z1 (by rw [upd_ne (ne_of_none z2 npa)]; exact z2)
  intro A' outer s H vs Q E hr h
  obtain ⟨p, dx, pa, rest, e, rfl, hp, npa, hpa, hP, hf, q⟩ := h
  obtain ⟨tE, gE⟩ := mE
  obtain ⟨tD, gD⟩ := mD
  obtain ⟨tR, gR⟩ := mR
  obtain ⟨tM, gM⟩ := mM
  suffices hs : ∃ t, PSs (cxOf CX0 P w K mg base ["self", "entries", "index", "entry", "is_stack", "rule"] "Stack.__init__" (defScope sSI) f cdv A' outer s H E).nox (defBody sSI) t ∧ t { nx := fun _ H' => Q .non H', rt := Q } (start ["self", "entries", "index", "entry", "is_stack", "rule"] [.ref p, .ref pa]) H by
    obtain ⟨t, h1, h2⟩ := hs
    exact ⟨t, h1.nox, h2⟩
  refine ⟨_, pss_cons (ps_fld (pv 0) (pv 1) rfl) (pss_cons (ps_fld (pv 0) (pe_tup pa_nil) rfl) (pss_cons (ps_fld (pv 0) (pe_tup pa_nil) rfl) (pss_cons (ps_fld (pv 0) pe_int rfl)
    (pss_one (ps_for PassesOwn.never rfl (pi_enumT (by rfl) ze (pa_cons (pv 1) pa_nil)) (pg_tup (by rfl) (pgs_cons (pg_name (i := 2) scSI.nd rfl (.inl rfl)) (pgs_cons (pg_name (i := 3) scSI.nd rfl (.inl rfl)) pgs_nil)))
      (pss_cons (ps_set (i := 4) scSI.nd rfl (Or.inl rfl) (pe_callB call_isi (by rfl) zi (by decide +kernel) (pa_cons (pv 3) (pa_cons (pe_glob (v := .ref D) rfl T.gD rfl) pa_nil))))
      (pss_cons (ps_if (PW.pt (pw_or (pt_cmpR op_eq (pv 2) (pe_glob (v := .int 12) rfl gE ⟨_, rfl⟩) (nomark _)) (pw_or1 (PW.pt (pw_and (pt_not (pt_val (pv 4))) (pw_and1 (pt_not (pt_val (pe_callB call_isi (by rfl) zi (by decide +kernel) (pa_cons (pv 3) (pa_cons (pe_glob (v := .ref C) rfl T.gC rfl) pa_nil))))))))))) pss_never pss_nil)
      (pss_cons (ps_fld (pv 0) (pe_op op_catA (pe_fld (pv 0) rfl) (pe_call S.ok hr rfl S.g S.kp S.b .nil pass0 (pa_cons (pv 3) pa_nil))) rfl)
      (pss_cons (ps_fld (pv 0) (pe_callTy call_tuple_of (by rfl) zt (by decide +kernel) (pa_cons (pe_callB (cr_sortSetS rfl) (by rfl) zs (by decide +kernel) (pa_cons (pe_callTy (cr_setS rfl) (by rfl) zset (by decide +kernel) (pa_cons
        (pe_lc (own := [("rule", 5)]) (g := gName 5) (tt := tYes) rfl scSI.nd (pi_tup (pe_fld (pv 0) rfl)) (blkOk_by (own := [("rule", 5)]) (N := ["self", "entries", "index", "entry", "is_stack", "rule"]) (sc := defScope sSI) (by decide +kernel))
          (fun _ _ _ _ _ => pg_name (i := 5) scSI.nd rfl (Or.inl rfl)) (fun _ _ _ _ _ => pts_nil) (fun _ _ _ _ _ => pe_fldK (K := K) (pv 5) rfl)) pa_nil)) pa_nil)) pa_nil)) rfl)
      (pss_cons (ps_fld (pv 0) (pe_callB (call_max2 rfl) (by rfl) zm (by decide +kernel) (pa_cons (pe_fld (pv 0) rfl) (pa_cons (pe_ifExp (pt_val (pv 4)) (pe_op op_add (pe_fld (pv 3) rfl) pe_int) pe_int) pa_nil))) rfl)
      (pss_one (ps_if (PW.pt (pw_or (pt_cmpR op_gt (pe_fld (pv 0) rfl) (pe_glob (v := .int 3) rfl gD ⟨_, rfl⟩) (nomark _)) (pw_or (pt_cmpR op_gt (pe_callB call_len_seq (by rfl) zl PySem.boot_len (pa_cons (pe_fld (pv 0) rfl) pa_nil)) (pe_glob (v := .int 12) rfl gR ⟨_, rfl⟩) (nomark _))
          (pw_or1 (pt_cmpR op_gt (pe_callB call_len_seq (by rfl) zl PySem.boot_len (pa_cons (pe_fld (pv 0) rfl) pa_nil)) (pe_glob (v := .int 6) rfl gM ⟨_, rfl⟩) (nomark _)))))) pss_never pss_nil)))))))))))), ?_⟩
  have ndx : ∀ (H' : Hp) (st : Addr), H' st = none → H' p ≠ none → p ≠ st := fun H' st h1 h2 z => h2 (by rw [z]; exact h1)
  refine ⟨_, rfl, _, rfl, p, D, dx, [], rfl, hp, T.iD.cl, T.aP, by decide, ?_⟩
  refine ⟨by show 0 ≤ sizeLine; decide, fun st nst => ?_⟩
  have nps : p ≠ st := ne_of_none (show upd H p _ p = some _ from upd_same) nst
  refine ⟨_, rfl, p, D, dx, _, rfl, by rw [upd_ne nps]; exact upd_same, T.iD.cl, T.aS, by show 1 < 1000; decide, ?_⟩
  refine ⟨by show 0 ≤ sizeLine; decide, fun nm nnm => ?_⟩
  have npn : p ≠ nm := ne_of_none (show upd _ p _ p = some _ from upd_same) nnm
  refine ⟨_, rfl, p, D, dx, _, rfl, by rw [upd_ne npn]; exact upd_same, T.iD.cl, T.aN, by show 2 < 1000; decide, ?_⟩
  refine ⟨_, rfl, p, D, dx, _, rfl, upd_same, T.iD.cl, T.aD, by show 3 < 1000; decide, ?_⟩
  rw [sf_first]
  rw [upd_upd]
  generalize hH1 : upd (upd (upd (upd H p _) st _) p _) nm _ = H1
  have nst0 : H st = none := by rw [upd_ne nps.symm] at nst; exact nst
  have nsn : st ≠ nm := by
    have : (upd (upd (upd H p (.ins D dx (putF "parts" (.ref pa) []))) st (.tup [])) p (.ins D dx (putF "steps" (.ref st) (putF "parts" (.ref pa) [])))) st = some (.tup []) := by rw [upd_ne nps.symm]; exact upd_same
    exact ne_of_none this nnm
  have nnm0 : H nm = none := by
    rw [upd_ne npn.symm, upd_ne nsn.symm, upd_ne npn.symm] at nnm; exact nnm
  have bH1 : But p H H1 := by rw [← hH1]; exact But.own (But.at (But.own (But.at (But.refl H)) nst0)) nnm0
  have hst1 : H1 st = some (.tup []) := by rw [← hH1, upd_ne nsn, upd_ne nps.symm]; exact upd_same
  have hnm1 : H1 nm = some (.tup []) := by rw [← hH1]; exact upd_same
  have cutB : ∀ {H' H'' : Hp}, But p H' H'' → Same (cut p H') (cut p H'') := fun b b' o z => by
    obtain ⟨z1, z2⟩ := cut_some z
    exact cut_of z1 (b _ _ z1 z2)
  have b2 : But p H (upd H1 p (.ins D dx (sf pa st nm 1))) := But.at bH1
  refine ⟨_, rfl, pa, rest, rfl, SqT.of (b2 _ _ npa hpa), for_enumT (K := K) (a := pa) (xs := rest) (fun i σ H' => ∃ (st nm : Addr) (d : Int) (ss : List V) (ns : List Str) (v2 v3 v4 v5 : Option V), σ = [some (.ref p), some (.ref pa), v2, v3, v4, v5] ∧ But p H H' ∧ H' p = some (.ins D dx (sf pa st nm d)) ∧ st ≠ p ∧ nm ≠ p ∧
      H' st = some (.tup ss) ∧ Paired (stR C (cut p H')) (rls (takeE i e)) ss ∧ H' nm = some (.tup (ns.map V.str)) ∧ Nm ns (mods (takeE i e)) ∧ d = ((dep (takeE i e) : Nat) : Int))
    ⟨st, nm, 1, [], [], _, _, _, _, rfl, b2, upd_same, nps.symm, npn.symm, by rw [upd_ne nps.symm]; exact hst1, .nil, by rw [upd_ne npn.symm]; exact hnm1, ⟨rfl, List.nodup_nil, fun m => Iff.rfl⟩, rfl⟩
    (fun i σ H' _ ⟨_, _, _, _, _, _, _, _, _, _, b, _⟩ => SqT.of (b _ _ npa hpa)) ?_ ?_⟩
  · rintro i x tq σ H' hi ⟨st, nm, d, ss, ns, v2, v3, v4, v5, rfl, b, hpp, nstp, nnmp, hst, hss, hnm, hN, hd⟩ ntq
    have hPx : StL C D (cut p H) (takeE 1 (dropE i e)) [x] := EL.one_at hP hi
    have ets := take_succ i e
    obtain ⟨f1, f2, f3, f4⟩ := hf.take (i + 1)
    have hdep : dep (takeE (i + 1) e) = max (dep (takeE i e)) (dep (takeE 1 (dropE i e))) := by rw [ets, dep_app]
    have hrls : rls (takeE (i + 1) e) = rls (takeE i e) ++ rls (takeE 1 (dropE i e)) := by rw [ets, rls_app]
    have hmods : mods (takeE (i + 1) e) = mods (takeE i e) ++ mods (takeE 1 (dropE i e)) := by rw [ets, mods_app]
    have hcnt : (rls (takeE (i + 1) e)).length ≤ 12 := f2
    have hi12 : i < 12 := by have := get_len hi; rw [EL.length _ _ hP] at this; exact Nat.lt_of_lt_of_le this hf.2.2.1
    have s0 : Same H' (upd H' tq (.tup [.int (i : Nat), x])) := Same.new (Same.refl _) ntq
    have b0 : But p H (upd H' tq (.tup [.int (i : Nat), x])) := But.trans b (But.of s0)
    generalize hA : upd H' tq (.tup [.int (i : Nat), x]) = HA at s0 b0
    have hppA := s0 _ _ hpp
    have hstA := s0 _ _ hst
    have hnmA := s0 _ _ hnm
    have hssA := Paired.mapP hss fun _ _ => stR.mono (cutB (But.of (r := p) s0))
    have hxA : StL C D (cut p HA) (takeE 1 (dropE i e)) [x] := StL.mono (cutB b0) hPx
    refine ⟨tq, _, rfl, SqT.of (by rw [← hA]; exact upd_same), rfl, _, _, rfl, _, _, rfl, rfl, ?_⟩
    -- is_stack, and the row's tests
    obtain ⟨isS, tx, hty, hkit, hE⟩ : ∃ (isS : Bool) (tx : Value), TyX K HA x tx ∧ PySem.W.kitOne K tx (.ref D) = some isS ∧ ((isS = false ∧ TyX K HA x (.ref C) ∧ dep (takeE 1 (dropE i e)) = 1) ∨
        (isS = true ∧ ∃ q' dx' pa' st' nm' j, x = .ref q' ∧ q' ≠ p ∧ HA q' = some (.ins D dx' (sf pa' st' nm' ((dep j : Nat) : Int))) ∧ dep (takeE 1 (dropE i e)) = dep j + 1)) := by
      rcases EL.one hxA with ⟨m, as, ee, hs⟩ | ⟨j, ee, hs⟩
      · obtain ⟨q', dx', t', rfl, hq', _⟩ := hs
        obtain ⟨_, hq'⟩ := cut_some hq'
        exact ⟨false, .ref C, T.iC.ty T.i0 hq', T.kCD, .inl ⟨rfl, T.iC.ty T.i0 hq', by rw [ee]; rfl⟩⟩
      · obtain ⟨q', dx', pa', st', nm', zs', ss', ns', rfl, hq', _⟩ := hs
        obtain ⟨nq', hq'⟩ := cut_some hq'
        exact ⟨true, .ref D, T.iD.ty T.i0 hq', T.kDD, .inr ⟨rfl, q', dx', pa', st', nm', j, rfl, nq', hq', by rw [ee]; show max (dep j + 1) 1 = _; omega⟩⟩
    refine ⟨_, rfl, x, .ref D, tx, _, isS, rfl, .own D, hty, hkit, ?_⟩
    refine ⟨_, rfl, rfl, _, rfl, ?_⟩
    refine ite2 (fun h12 => ?_) (fun _ => ?_)
    · have h12 := of_decide_eq_true h12
      injection h12 with h12
      omega
    rcases hE with ⟨rfl, hC, hdE⟩ | ⟨rfl, q', dx', pa', st0', nm0', j, rfl, nq', hq', hdE⟩
    · refine ⟨_, rfl, false, rfl, iteT ?_⟩
      refine ⟨_, rfl, x, .ref C, _, _, true, rfl, .own C, hC, T.kCC, true, rfl, iteF ?_⟩
      refine ⟨_, rfl, p, D, dx, _, _, rfl, hppA, T.iD.cl, T.aS, sf_steps _ _ _ _, ?_⟩
      refine ⟨_, rfl, _, _, rfl, StL.mono (cut_sub _ _) hxA, fun H2 t us s2 ht hu => ?_⟩
      have hpp2 := s2 _ _ hppA
      have husl : us.length = (rls (takeE 1 (dropE i e))).length := (Paired.length hu).symm
      have hssl : ss.length = (rls (takeE i e)).length := (Paired.length hss).symm
      rw [hrls, List.length_append] at hcnt
      refine catA_any (s2 _ _ hstA) ht (Nat.le_of_lt (small1000 (by omega))) fun H3 st' s3 hst3 => ?_
      have hpp3 := s3 _ _ hpp2
      have nst' : st' ≠ p := ne_of hst3 hpp3 (by intro z; cases z)
      have hss3 : Paired (stR C (cut p H3)) (rls (takeE (i + 1) e)) (ss ++ us) := by
        rw [hrls]
        refine paired_app (Paired.mapP hssA fun _ _ => stR.mono (cutB (But.of (s2.trans s3)))) (Paired.mapP hu fun r v hv => stR.mono (cutB (But.of s3)) ?_)
        obtain ⟨q1, dq, tq1, e1, h1, h2⟩ := hv
        refine ⟨q1, dq, tq1, e1, cut_of (fun z => ?_) h1, cut_of (ne_of h2 hpp2 (by intro z; cases z)) h2⟩
        rw [z, hpp2] at h1
        injection h1 with h1
        injection h1 with h1
        have k1 := T.kCC
        have k2 := T.kCD
        rw [h1] at k2
        rw [k2] at k1
        cases k1
      refine ⟨_, rfl, p, D, dx, _, rfl, hpp3, T.iD.cl, T.aS, by show 4 < 1000; decide, ?_⟩
      rw [sf_put_steps]
      have b4 : But p H3 (upd H3 p (.ins D dx (sf pa st' nm d))) := But.at (But.refl _)
      generalize hH4 : upd H3 p (.ins D dx (sf pa st' nm d)) = H4 at b4
      have hpp4 : H4 p = some (.ins D dx (sf pa st' nm d)) := by rw [← hH4]; exact upd_same
      have hst4 := b4 _ _ nst' hst3
      have hss4 : Paired (stR C (cut p H4)) (rls (takeE (i + 1) e)) (ss ++ us) := Paired.mapP hss3 fun _ _ => stR.mono (cutB b4)
      have hnm4 := b4 _ _ nnmp (s3 _ _ (s2 _ _ hnmA))
      -- names
      refine ⟨_, rfl, p, D, dx, _, _, rfl, hpp4, T.iD.cl, T.aS, sf_steps _ _ _ _, st', rfl, ⟨_, SqT.of hst4⟩, fun D' nD' => ?_⟩
      refine lc_tup (K := K) (a := st') (xs := ss ++ us) (fun k H5 => Same H4 H5 ∧ H5 D' = some (.lst (((mods (takeE (i + 1) e)).take k).map V.str))) ⟨Same.new (Same.refl _) nD', upd_same⟩ (fun k H5 _ ⟨s, _⟩ => SqT.of (s _ _ hst4)) ?_ ?_
      · rintro k y H5 hk ⟨s5, hD5⟩
        obtain ⟨rl, hrl, q1, dq, tq1, rfl, h1, h2⟩ := paired_get hss4 hk
        obtain ⟨_, h1⟩ := cut_some h1
        have hm : (mods (takeE (i + 1) e))[k]? = some rl.1 := by show ((rls _).map (·.1))[k]? = _; rw [List.getElem?_map, hrl]; rfl
        refine ⟨rfl, ?_⟩
        refine ⟨_, rfl, q1, C, dq, _, _, rfl, s5 _ _ h1, T.iC.cl, T.aA, rf_asks _ _, ?_⟩
        refine ⟨_, hD5, ?_, Same.own s5 nD', ?_⟩
        · rw [List.length_map, List.length_take]
          have := get_len hk
          rw [List.length_append] at this
          exact small1000 (by omega)
        · rw [upd_same, take_snoc' hm, List.map_append]
          rfl
      rintro H5 ⟨s5, hD5⟩
      have eml : (ss ++ us).length = (mods (takeE (i + 1) e)).length := by
        rw [← Paired.length hss4]
        show _ = ((rls _).map (·.1)).length
        rw [List.length_map]
      rw [eml, List.take_length] at hD5
      have hml : (mods (takeE (i + 1) e)).length ≤ 12 := by rw [← eml, List.length_append]; omega
      refine ⟨D', mods (takeE (i + 1) e), rfl, .inl (SqL.of hD5), by omega, fun sa n nsa hn => ?_⟩
      refine ⟨sa, _, n, rfl, upd_same, by omega, fun ns' lp hs hnd hmem hln nlp => ?_⟩
      refine ⟨lp, _, rfl, .inl ⟨SqL.of upd_same, fun nm' nnm' => ?_⟩⟩
      have s8 := Same.new (o := HO.tup (ns'.map V.str)) (Same.new (Same.new s5 nsa) nlp) nnm'
      generalize hH8 : upd (upd (upd H5 sa _) lp _) nm' _ = H8
      rw [hH8] at s8
      have hnm8 : H8 nm' = some (.tup (ns'.map V.str)) := by rw [← hH8]; exact upd_same
      have hN' : Nm ns' (mods (takeE (i + 1) e)) := ⟨hs, hnd, fun m => by rw [hmem m]; exact decide_eq_true_iff⟩
      have hpp8 := s8 _ _ hpp4
      have nnm'p : nm' ≠ p := ne_of hnm8 hpp8 (by intro z; cases z)
      refine ⟨_, rfl, p, D, dx, _, rfl, hpp8, T.iD.cl, T.aN, by show 4 < 1000; decide, ?_⟩
      rw [sf_put_names]
      have b9 : But p H4 (upd H8 p (.ins D dx (sf pa st' nm' d))) := But.at (But.of s8)
      have hnm9 : (upd H8 p (.ins D dx (sf pa st' nm' d))) nm' = some (.tup (ns'.map V.str)) := by rw [upd_ne nnm'p]; exact hnm8
      have hpp9 : (upd H8 p (.ins D dx (sf pa st' nm' d))) p = some (.ins D dx (sf pa st' nm' d)) := upd_same
      generalize hH9 : upd H8 p (.ins D dx (sf pa st' nm' d)) = H9 at b9 hnm9 hpp9
      have bA9 : But p HA H9 := But.trans (But.of (s2.trans s3)) (But.trans b4 b9)
      -- depth
      refine ⟨_, rfl, p, D, dx, _, _, rfl, hpp9, T.iD.cl, T.aD, sf_depth _ _ _ _, ?_⟩
      refine ⟨_, rfl, false, rfl, iteF ?_⟩
      refine ⟨_, _, rfl, ?_⟩
      refine ⟨_, rfl, p, D, dx, _, rfl, hpp9, T.iD.cl, T.aD, by show 4 < 1000; decide, ?_⟩
      rw [sf_put_depth]
      have hdm : (if (1 : Int) > d then (1 : Int) else d) = ((dep (takeE (i + 1) e) : Nat) : Int) := by
        rw [hdep, hd, hdE]
        split <;> omega
      rw [hdm]
      have bX : But p H9 (upd H9 p (.ins D dx (sf pa st' nm' ((dep (takeE (i + 1) e) : Nat) : Int)))) := But.at (But.refl _)
      have hppX : (upd H9 p (.ins D dx (sf pa st' nm' ((dep (takeE (i + 1) e) : Nat) : Int)))) p = some (.ins D dx (sf pa st' nm' ((dep (takeE (i + 1) e) : Nat) : Int))) := upd_same
      generalize hHX : upd H9 p (.ins D dx (sf pa st' nm' ((dep (takeE (i + 1) e) : Nat) : Int))) = HX at bX hppX
      have hstX := bX _ _ nst' (b9 _ _ nst' hst4)
      have hnmX := bX _ _ nnm'p hnm9
      refine ⟨_, rfl, p, D, dx, _, _, rfl, hppX, T.iD.cl, T.aD, sf_depth _ _ _ _, _, _, rfl, rfl, _, rfl, ?_⟩
      refine ite2 (fun h3 => absurd (of_decide_eq_true h3) (by omega)) (fun _ => ?_)
      refine ⟨_, rfl, p, D, dx, _, _, rfl, hppX, T.iD.cl, T.aS, sf_steps _ _ _ _, st', _, rfl, .inr (SqT.of hstX), _, _, rfl, rfl, _, rfl, ?_⟩
      refine ite2 (fun h3 => absurd (of_decide_eq_true h3) (by rw [List.length_append]; omega)) (fun _ => ?_)
      refine ⟨_, rfl, p, D, dx, _, _, rfl, hppX, T.iD.cl, T.aN, sf_names _ _ _ _, nm', _, rfl, .inr (SqT.of hnmX), _, _, rfl, rfl, _, rfl, ?_⟩
      have h6 : ns'.length ≤ 6 := by
        obtain ⟨ks, hk1, hk2⟩ := hf.2.2.2
        exact Nat.le_trans (nm_le hN' fun m hm => hk2 m (f4 m hm)) hk1
      refine ite2 (fun h3 => absurd (of_decide_eq_true h3) (by rw [List.length_map]; omega)) (fun _ => ?_)
      exact ⟨st', nm', _, ss ++ us, ns', _, _, _, _, rfl, But.trans b0 (But.trans bA9 bX), hppX, nst', nnm'p, hstX, Paired.mapP hss4 fun _ _ => stR.mono (cutB (But.trans b9 bX)), hnmX, hN', rfl⟩
    · refine ⟨_, rfl, true, rfl, iteF (iteF ?_)⟩
      refine ⟨_, rfl, p, D, dx, _, _, rfl, hppA, T.iD.cl, T.aS, sf_steps _ _ _ _, ?_⟩
      refine ⟨_, rfl, _, _, rfl, StL.mono (cut_sub _ _) hxA, fun H2 t us s2 ht hu => ?_⟩
      have hpp2 := s2 _ _ hppA
      have husl : us.length = (rls (takeE 1 (dropE i e))).length := (Paired.length hu).symm
      have hssl : ss.length = (rls (takeE i e)).length := (Paired.length hss).symm
      rw [hrls, List.length_append] at hcnt
      refine catA_any (s2 _ _ hstA) ht (Nat.le_of_lt (small1000 (by omega))) fun H3 st' s3 hst3 => ?_
      have hpp3 := s3 _ _ hpp2
      have nst' : st' ≠ p := ne_of hst3 hpp3 (by intro z; cases z)
      have hss3 : Paired (stR C (cut p H3)) (rls (takeE (i + 1) e)) (ss ++ us) := by
        rw [hrls]
        refine paired_app (Paired.mapP hssA fun _ _ => stR.mono (cutB (But.of (s2.trans s3)))) (Paired.mapP hu fun r v hv => stR.mono (cutB (But.of s3)) ?_)
        obtain ⟨q1, dq, tq1, e1, h1, h2⟩ := hv
        refine ⟨q1, dq, tq1, e1, cut_of (fun z => ?_) h1, cut_of (ne_of h2 hpp2 (by intro z; cases z)) h2⟩
        rw [z, hpp2] at h1
        injection h1 with h1
        injection h1 with h1
        have k1 := T.kCC
        have k2 := T.kCD
        rw [h1] at k2
        rw [k2] at k1
        cases k1
      refine ⟨_, rfl, p, D, dx, _, rfl, hpp3, T.iD.cl, T.aS, by show 4 < 1000; decide, ?_⟩
      rw [sf_put_steps]
      have b4 : But p H3 (upd H3 p (.ins D dx (sf pa st' nm d))) := But.at (But.refl _)
      generalize hH4 : upd H3 p (.ins D dx (sf pa st' nm d)) = H4 at b4
      have hpp4 : H4 p = some (.ins D dx (sf pa st' nm d)) := by rw [← hH4]; exact upd_same
      have hst4 := b4 _ _ nst' hst3
      have hss4 : Paired (stR C (cut p H4)) (rls (takeE (i + 1) e)) (ss ++ us) := Paired.mapP hss3 fun _ _ => stR.mono (cutB b4)
      have hnm4 := b4 _ _ nnmp (s3 _ _ (s2 _ _ hnmA))
      -- names
      refine ⟨_, rfl, p, D, dx, _, _, rfl, hpp4, T.iD.cl, T.aS, sf_steps _ _ _ _, st', rfl, ⟨_, SqT.of hst4⟩, fun D' nD' => ?_⟩
      refine lc_tup (K := K) (a := st') (xs := ss ++ us) (fun k H5 => Same H4 H5 ∧ H5 D' = some (.lst (((mods (takeE (i + 1) e)).take k).map V.str))) ⟨Same.new (Same.refl _) nD', upd_same⟩ (fun k H5 _ ⟨s, _⟩ => SqT.of (s _ _ hst4)) ?_ ?_
      · rintro k y H5 hk ⟨s5, hD5⟩
        obtain ⟨rl, hrl, q1, dq, tq1, rfl, h1, h2⟩ := paired_get hss4 hk
        obtain ⟨_, h1⟩ := cut_some h1
        have hm : (mods (takeE (i + 1) e))[k]? = some rl.1 := by show ((rls _).map (·.1))[k]? = _; rw [List.getElem?_map, hrl]; rfl
        refine ⟨rfl, ?_⟩
        refine ⟨_, rfl, q1, C, dq, _, _, rfl, s5 _ _ h1, T.iC.cl, T.aA, rf_asks _ _, ?_⟩
        refine ⟨_, hD5, ?_, Same.own s5 nD', ?_⟩
        · rw [List.length_map, List.length_take]
          have := get_len hk
          rw [List.length_append] at this
          exact small1000 (by omega)
        · rw [upd_same, take_snoc' hm, List.map_append]
          rfl
      rintro H5 ⟨s5, hD5⟩
      have eml : (ss ++ us).length = (mods (takeE (i + 1) e)).length := by
        rw [← Paired.length hss4]
        show _ = ((rls _).map (·.1)).length
        rw [List.length_map]
      rw [eml, List.take_length] at hD5
      have hml : (mods (takeE (i + 1) e)).length ≤ 12 := by rw [← eml, List.length_append]; omega
      refine ⟨D', mods (takeE (i + 1) e), rfl, .inl (SqL.of hD5), by omega, fun sa n nsa hn => ?_⟩
      refine ⟨sa, _, n, rfl, upd_same, by omega, fun ns' lp hs hnd hmem hln nlp => ?_⟩
      refine ⟨lp, _, rfl, .inl ⟨SqL.of upd_same, fun nm' nnm' => ?_⟩⟩
      have s8 := Same.new (o := HO.tup (ns'.map V.str)) (Same.new (Same.new s5 nsa) nlp) nnm'
      generalize hH8 : upd (upd (upd H5 sa _) lp _) nm' _ = H8
      rw [hH8] at s8
      have hnm8 : H8 nm' = some (.tup (ns'.map V.str)) := by rw [← hH8]; exact upd_same
      have hN' : Nm ns' (mods (takeE (i + 1) e)) := ⟨hs, hnd, fun m => by rw [hmem m]; exact decide_eq_true_iff⟩
      have hpp8 := s8 _ _ hpp4
      have nnm'p : nm' ≠ p := ne_of hnm8 hpp8 (by intro z; cases z)
      refine ⟨_, rfl, p, D, dx, _, rfl, hpp8, T.iD.cl, T.aN, by show 4 < 1000; decide, ?_⟩
      rw [sf_put_names]
      have b9 : But p H4 (upd H8 p (.ins D dx (sf pa st' nm' d))) := But.at (But.of s8)
      have hnm9 : (upd H8 p (.ins D dx (sf pa st' nm' d))) nm' = some (.tup (ns'.map V.str)) := by rw [upd_ne nnm'p]; exact hnm8
      have hpp9 : (upd H8 p (.ins D dx (sf pa st' nm' d))) p = some (.ins D dx (sf pa st' nm' d)) := upd_same
      generalize hH9 : upd H8 p (.ins D dx (sf pa st' nm' d)) = H9 at b9 hnm9 hpp9
      have bA9 : But p HA H9 := But.trans (But.of (s2.trans s3)) (But.trans b4 b9)
      -- depth
      refine ⟨_, rfl, p, D, dx, _, _, rfl, hpp9, T.iD.cl, T.aD, sf_depth _ _ _ _, ?_⟩
      refine ⟨_, rfl, true, rfl, iteT ⟨_, rfl, q', D, dx', _, _, rfl, bA9 _ _ nq' hq', T.iD.cl, T.aD, sf_depth _ _ _ _, _, _, rfl, rfl, ?_⟩⟩
      refine ⟨_, _, rfl, ?_⟩
      refine ⟨_, rfl, p, D, dx, _, rfl, hpp9, T.iD.cl, T.aD, by show 4 < 1000; decide, ?_⟩
      rw [sf_put_depth]
      have hdm : (if (((dep j : Nat) : Int) + 1) > d then (((dep j : Nat) : Int) + 1) else d) = ((dep (takeE (i + 1) e) : Nat) : Int) := by
        rw [hdep, hd, hdE]
        split <;> omega
      rw [hdm]
      have bX : But p H9 (upd H9 p (.ins D dx (sf pa st' nm' ((dep (takeE (i + 1) e) : Nat) : Int)))) := But.at (But.refl _)
      have hppX : (upd H9 p (.ins D dx (sf pa st' nm' ((dep (takeE (i + 1) e) : Nat) : Int)))) p = some (.ins D dx (sf pa st' nm' ((dep (takeE (i + 1) e) : Nat) : Int))) := upd_same
      generalize hHX : upd H9 p (.ins D dx (sf pa st' nm' ((dep (takeE (i + 1) e) : Nat) : Int))) = HX at bX hppX
      have hstX := bX _ _ nst' (b9 _ _ nst' hst4)
      have hnmX := bX _ _ nnm'p hnm9
      refine ⟨_, rfl, p, D, dx, _, _, rfl, hppX, T.iD.cl, T.aD, sf_depth _ _ _ _, _, _, rfl, rfl, _, rfl, ?_⟩
      refine ite2 (fun h3 => absurd (of_decide_eq_true h3) (by omega)) (fun _ => ?_)
      refine ⟨_, rfl, p, D, dx, _, _, rfl, hppX, T.iD.cl, T.aS, sf_steps _ _ _ _, st', _, rfl, .inr (SqT.of hstX), _, _, rfl, rfl, _, rfl, ?_⟩
      refine ite2 (fun h3 => absurd (of_decide_eq_true h3) (by rw [List.length_append]; omega)) (fun _ => ?_)
      refine ⟨_, rfl, p, D, dx, _, _, rfl, hppX, T.iD.cl, T.aN, sf_names _ _ _ _, nm', _, rfl, .inr (SqT.of hnmX), _, _, rfl, rfl, _, rfl, ?_⟩
      have h6 : ns'.length ≤ 6 := by
        obtain ⟨ks, hk1, hk2⟩ := hf.2.2.2
        exact Nat.le_trans (nm_le hN' fun m hm => hk2 m (f4 m hm)) hk1
      refine ite2 (fun h3 => absurd (of_decide_eq_true h3) (by rw [List.length_map]; omega)) (fun _ => ?_)
      exact ⟨st', nm', _, ss ++ us, ns', _, _, _, _, rfl, But.trans b0 (But.trans bA9 bX), hppX, nst', nnm'p, hstX, Paired.mapP hss4 fun _ _ => stR.mono (cutB (But.trans b9 bX)), hnmX, hN', rfl⟩
  · rintro σ H' ⟨st, nm, d, ss, ns, v2, v3, v4, v5, rfl, b, hpp, nstp, nnmp, hst, hss, hnm, hN, hd⟩
    rw [take_all hP] at hss hN hd
    refine q H' b ⟨p, dx, pa, st, nm, rest, ss, ns, rfl, by rw [hpp, hd], b _ _ npa hpa, StL.mono (cut_sub _ _) (StL.mono (cutB b) hP), hst, Paired.mapP hss fun _ _ => stR.mono (cut_sub _ _), hnm, hN⟩
end
end K9
end
section
set_option Elab.async false
set_option linter.all false
set_option maxRecDepth 100000
set_option maxHeartbeats 8000000
/-! Stacks added; the law's stacks made. -/
namespace K9
open PySem PySem.Spec PyProof.Rows L2
/-- as a row of a plain stack: every level small, every rule whole -/
def Whole (e : Es) : Prop := len e ≤ 12 ∧ wid e ≤ 12 ∧ dep e ≤ 3 ∧ cnt e ≤ 12 ∧ (∃ ks : List Str, ks.length ≤ 6 ∧ ∀ m ∈ mods e, m ∈ ks) ∧ ∀ q ∈ rls e, WordOk q.1 ∧ q.2.length = 4 ∧ ∀ x ∈ q.2, ActOk x
theorem Whole.fits {e : Es} (h : Whole e) : Fits e := ⟨h.2.2.1, h.2.2.2.1, h.1, h.2.2.2.2.1⟩
theorem Whole.in_ {e j r : Es} {n : Nat} (h : Whole e) (hd : dropE n e = .stk j r) : Whole j := by
  obtain ⟨h1, h2, h3, h4, ⟨ks, h5, h6⟩, h7⟩ := h
  have a := wid_in hd
  have b := dep_in hd
  have c := cnt_in hd
  refine ⟨by omega, by omega, by omega, by omega, ⟨ks, h5, fun m hm => h6 m ?_⟩, fun q hq => h7 q (mem_in hd hq)⟩
  obtain ⟨q, hq, e⟩ := List.mem_map.mp hm
  exact List.mem_map.mpr ⟨q, mem_in hd hq, e⟩
def spMade (C D : Addr) (d : Nat) : Sp := fun vs H Q _ => ∃ (a : Addr) (xs : List V) (e : Es), vs = [.ref a] ∧ H a = some (.lst xs) ∧ PlL H e xs ∧ dep e ≤ d ∧ Whole e ∧ ∀ (H' : Hp) (v : V), Same H H' → SkAt C D H' e v → Q v H'
section
variable {P : Program} {w : World} {K : PySem.W.Frag} {mg : Str → Option Value} {base : Heap} {C D : Addr}
theorem ok_sa {f fI : Addr} {fd : FuncData} (F : Fun K "__add__" "Stack.__add__" sSA f fd) (T : Tst C D K mg) (M : Mk K D fI) (FI : FnR P w K mg base CX0 2 fI (spSI C D)) : FnOk P w K mg base CX0 4 f fd ["self", "other"] (spSA C D) := by
  refine F.ok scSA (fun vs H Q E h => ?_) (fun cdv A' outer s H vs Q E hr h => ?_)
  · obtain ⟨_, _, _, _, rfl, _⟩ := h
    rfl
  · obtain ⟨v, u, i, j, rfl, hv, hu, hf, q⟩ := h
    refine ⟨_, pss_cons (ps_set (i := 2) scSA.nd rfl (Or.inl rfl) (pe_op op_catA (pe_fld (pv 0) rfl) (pe_fld (pv 1) rfl))) (pss_one (ps_ret (pe_makeRS M FI hr rfl T.gD pass0 (pv 2)))), ?_⟩
    obtain ⟨p, dx, pa, st, nm, zs, ss, ns, rfl, hp, hpa, hP, _⟩ := hv
    obtain ⟨p2, dx2, pa2, st2, nm2, zs2, ss2, ns2, rfl, hp2, hpa2, hP2, _⟩ := hu
    refine ⟨_, rfl, p, D, dx, _, _, rfl, hp, T.iD.cl, T.aP, sf_parts _ _ _ _, _, rfl, p2, D, dx2, _, _, rfl, hp2, T.iD.cl, T.aP, sf_parts _ _ _ _, ?_⟩
    have hz1 : zs.length = len i := EL.length _ _ hP
    have hz2 : zs2.length = len j := EL.length _ _ hP2
    have hl : len i + len j ≤ 12 := by rw [← len_app]; exact hf.2.2.1
    refine catA_any hpa hpa2 (Nat.le_of_lt (small1000 (by omega))) fun H3 pt s3 hpt => ?_
    refine ⟨_, rfl, pt, _, rfl, .inl (SqT.of hpt), fun x dx' nx ndx nex => ?_⟩
    have hStL : StL C D H3 (appE i j) (zs ++ zs2) := EL.app (StL.mono s3 hP) (StL.mono s3 hP2)
    refine ⟨x, dx', _, appE i j, rfl, upd_same, StL.mono (fun b o z => ?_) hStL, hf, fun H' b k => ⟨rfl, q H' (.ref x) (s3.trans (Same.made nx ndx fun b' o e n => b b' o n e)) k⟩⟩
    have n1 := ne_of_none z nx
    exact cut_of n1 (by rw [upd_ne n1, upd_ne (ne_of_none z ndx)]; exact z)
theorem made_cut {H : Hp} {x dx : Addr} {o : HO} (nx : H x = none) (ndx : H dx = none) : Same H (cut x (upd (upd H dx (.own x)) x o)) := fun b u z => by
  have n1 := ne_of_none z nx
  exact cut_of n1 (by rw [upd_ne n1, upd_ne (ne_of_none z ndx)]; exact z)
theorem SkAt.ins {H : Hp} {i : Es} {v : V} (h : SkAt C D H i v) : ∃ a dx fs, v = .ref a ∧ H a = some (.ins D dx fs) := by
  obtain ⟨p, dx, pa, st, nm, zs, ss, ns, rfl, hp, _⟩ := h
  exact ⟨p, dx, _, rfl, hp⟩
theorem ok_made {f fI fR fA : Addr} {fd fdR fdA : FuncData} (F : Fun K "_law_made" "_law_made" lMade f fd) (zi : mg "isinstance" = none) (zl : mg "list" = none) (g : mg "_law_made" = some (.ref f)) (bF : Binds K fd ["_law_plain_here"] [])
    (T : Tst C D K mg) (M : Mk K D fI) (FI : FnR P w K mg base CX0 2 fI (spSI C D)) (MR : Mk K C fR) (GR : FnOk P w K mg base CX0 4 fR fdR ["self", "module", "control"] (spRI C)) (bR : Binds K fdR ["self", "module", "control"] [])
    (sf1 : PySem.W.selfFirst K D = true) (mA : PySem.W.findIn K (.ref D) "__add__" = some (some (.ref fA))) (iA : PySem.W.isFn K (.ref fA) = true) (GA : FnOk P w K mg base CX0 4 fA fdA ["self", "other"] (spSA C D)) (bA : Binds K fdA ["self", "other"] []) :
    ∀ d : Nat, FnOk P w K mg base CX0 (d + 6) f fd ["_law_plain_here"] (spMade C D d) := by
  intro d
  induction d with
  | zero =>
    refine F.ok scMade (fun vs H Q E h => ?_) (fun cdv A outer s H vs Q E hr h => ?_)
    · obtain ⟨_, _, _, rfl, _⟩ := h
      rfl
    · obtain ⟨a, xs, e, rfl, hA, hP, hd, _⟩ := h
      have := one_le_dep e
      omega
  | succ d ih =>
    refine F.ok scMade (fun vs H Q E h => ?_) (fun cdv A outer s H vs Q E hr h => ?_)
    · obtain ⟨_, _, _, rfl, _⟩ := h
      rfl
    · obtain ⟨a, xs, e, rfl, hA, hP, hd, hW, q⟩ := h
      have hr3 : Room 3 _ := hr.mono (by omega)
      have hr4 : Room 4 _ := hr.mono (by omega)
      have hr5 : Room 5 _ := hr.mono (by omega)
      refine ⟨_, pss_cons (ps_set (i := 1) scMade.nd rfl (Or.inl rfl) (pe_makeR0 M FI hr3 rfl T.gD pass0))
        (pss_cons (ps_for PassesOwn.never rfl (pi_list (pv 0)) (pg_name (i := 2) scMade.nd rfl (Or.inl rfl))
          (pss_one (ps_set (i := 1) scMade.nd rfl (Or.inl rfl) (pe_op (op_addOwn (E := E0) sf1 mA iA (GA.raw bA .nil) hr4 pass0) (pv 1)
            (StX.pe_makeR M FI hr3 rfl T.gD pass0 (pa_cons (pe_ifExp (pt_val (pe_callB call_isi (by rfl) zi (by decide +kernel) (pa_cons (pv 2) (pa_cons (pe_bltn (v := .ty "list") (u := .type "list") (by rfl) zl (by decide +kernel) rfl) pa_nil))))
              (pe_call ih hr rfl g F.kp bF .nil pass0 (pa_cons (pv 2) pa_nil))
              (pe_make MR GR hr5 rfl T.gC bR .nil pass0 (pa_cons (pe_ix ix_tup (pv 2) pe_int (fun _ _ => rfl)) (pa_cons (pe_ix ix_tup (pv 2) pe_int (fun _ _ => rfl)) pa_nil)))) pa_nil))))))
        (pss_one (ps_ret (pv 1)))), ?_⟩
      have fit0 : Fits .nil := ⟨by decide, by decide, by decide, [], by decide, fun m hm => nomatch hm⟩
      intro x dx nx ndx nex
      refine ⟨x, dx, [], .nil, rfl, upd_same, rfl, fit0, fun H1 b1 k1 => ⟨rfl, ?_⟩⟩
      have s1 : Same H H1 := Same.made nx ndx fun b' o e n => b1 b' o n e
      have hfits := hW.fits
      refine ⟨_, rfl, a, rfl, ⟨_, SqL.of (s1 _ _ hA)⟩, for_list (K := K) (a := a) (xs := xs) (fun i σ H' => ∃ (v : V) (v2 : Option V), σ = [some (.ref a), some v, v2] ∧ Same H H' ∧ SkAt C D H' (takeE i e) v)
        ⟨.ref x, _, rfl, s1, k1⟩ (fun i σ H' _ ⟨_, _, _, s, _⟩ => SqL.of (s _ _ hA)) ?_ ?_⟩
      · rintro i y σ H' hi ⟨v, v2, rfl, s, hv⟩
        have ets0 := take_succ i e
        obtain ⟨f1, f2, f3, f4⟩ := hfits.take (i + 1)
        have fitI : Fits (takeE (i + 1) e) := ⟨f1, f2, f3, by obtain ⟨ks, h1, h2⟩ := hfits.2.2.2; exact ⟨ks, h1, fun m hm => h2 m (f4 m hm)⟩⟩
        have fitR : ∀ {e1 : Es}, takeE (i + 1) e = appE (takeE i e) e1 → Fits e1 := by
          intro e1 he
          obtain ⟨g1, g2, g3, ks, g4, g5⟩ := fitI
          rw [he] at g1 g2 g3 g5
          rw [dep_app] at g1
          rw [len_app] at g3
          have g2 : (rls (appE (takeE i e) e1)).length ≤ 12 := g2
          rw [rls_app, List.length_append] at g2
          rw [mods_app] at g5
          exact ⟨by omega, by show (rls e1).length ≤ 12; omega, by omega, ks, g4, fun m hm => g5 m (List.mem_append_right _ hm)⟩
        rcases EL.at hP hi with ⟨m, as, ed, p, t, rfl, hp, ht⟩ | ⟨j, ed, fs⟩
        · have hp' := s _ _ hp
          have ht' := s _ _ ht
          obtain ⟨hw, hl4, hok⟩ := hW.2.2.2.2.2 _ (mem_at ed)
          have ets : takeE (i + 1) e = appE (takeE i e) (.rule m as .nil) := by rw [ets0, ed]; rfl
          have fit1 := fitR ets
          refine ⟨_, rfl, _, rfl, _, .ty "list", _, _, false, rfl, .ty "list", .base (.tup hp'), kit_ty (by decide +kernel), false, rfl, iteF ?_⟩
          refine ⟨_, rfl, p, _, 0, _, rfl, rfl, SqT.of hp', rfl, _, rfl, p, _, 1, _, rfl, rfl, SqT.of hp', rfl, fun x dx nx ndx nex => ?_⟩
          refine ⟨x, dx, t, m, as, rfl, upd_same, by rw [upd_ne (ne_of_none ht' nx), upd_ne (ne_of_none ht' ndx)]; exact ht', hl4, hok, hw, fun H1 b1 h1 => ⟨rfl, ?_⟩⟩
          have s1 : Same H' H1 := Same.made nx ndx fun b' o e n => b1 b' o n e
          have hS1 : StL C D H1 (.rule m as .nil) [.ref x] := ⟨_, [], rfl, ⟨x, dx, t, rfl, h1, s1 _ _ ht'⟩, rfl⟩
          refine fun x2 dx2 nx2 ndx2 nex2 => ⟨x2, dx2, [.ref x], (.rule m as .nil), rfl, upd_same, StL.mono (made_cut nx2 ndx2) hS1, fit1, fun H2 b2 k2 => ⟨rfl, ?_⟩⟩
          have s2 : Same H1 H2 := Same.made nx2 ndx2 fun b' o e n => b2 b' o n e
          obtain ⟨a1, dx1, fs1, ev, h1⟩ := SkAt.ins hv
          subst ev
          obtain ⟨a2, dx2', fs2, ev2, h2⟩ := SkAt.ins k2
          cases ev2
          refine ⟨a1, dx1, fs1, x2, dx2', fs2, rfl, rfl, s2 _ _ (s1 _ _ h1), h2, .ref a1, .ref x2, takeE i e, (.rule m as .nil), rfl, SkAt.mono (s1.trans s2) hv, k2, by rw [← ets]; exact fitI, fun H3 v3 s3 k3 => ?_⟩
          rw [← ets] at k3
          exact ⟨v3, _, rfl, s.trans (s1.trans (s2.trans s3)), k3⟩
        · obtain ⟨p, zs, rfl, hp, hPj⟩ := fs
          have hp' := s _ _ hp
          have ets : takeE (i + 1) e = appE (takeE i e) (.stk j .nil) := by rw [ets0, ed]; rfl
          have fit1 := fitR ets
          refine ⟨_, rfl, _, rfl, _, .ty "list", _, _, true, rfl, .ty "list", .base (.lst hp'), kit_ty (by decide +kernel), true, rfl, iteT ?_⟩
          refine ⟨_, rfl, p, zs, j, rfl, hp', PlL.mono s hPj, by have := dep_in ed; omega, hW.in_ ed, fun H1 v1 s1 k1 => ?_⟩
          have hS1 : StL C D H1 (.stk j .nil) [v1] := ⟨_, [], rfl, k1, rfl⟩
          refine fun x2 dx2 nx2 ndx2 nex2 => ⟨x2, dx2, [v1], (.stk j .nil), rfl, upd_same, StL.mono (made_cut nx2 ndx2) hS1, fit1, fun H2 b2 k2 => ⟨rfl, ?_⟩⟩
          have s2 : Same H1 H2 := Same.made nx2 ndx2 fun b' o e n => b2 b' o n e
          obtain ⟨a1, dx1, fs1, ev, h1⟩ := SkAt.ins hv
          subst ev
          obtain ⟨a2, dx2', fs2, ev2, h2⟩ := SkAt.ins k2
          cases ev2
          refine ⟨a1, dx1, fs1, x2, dx2', fs2, rfl, rfl, s2 _ _ (s1 _ _ h1), h2, .ref a1, .ref x2, takeE i e, (.stk j .nil), rfl, SkAt.mono (s1.trans s2) hv, k2, by rw [← ets]; exact fitI, fun H3 v3 s3 k3 => ?_⟩
          rw [← ets] at k3
          exact ⟨v3, _, rfl, s.trans (s1.trans (s2.trans s3)), k3⟩
      · rintro σ H' ⟨v, v2, rfl, s, hv⟩
        rw [take_all hP] at hv
        exact ⟨_, rfl, q _ v s hv⟩
end
end K9
end
section
set_option Elab.async false
set_option linter.all false
set_option maxRecDepth 100000
set_option maxHeartbeats 8000000
/-! The program: runs. -/
namespace K9
open PySem PySem.Spec PyProof.Rows L2
/-- all but lists is as it was -/
def NL (A B : Hp) : Prop := ∀ b o, (∀ xs, o ≠ HO.lst xs) → A b = some o → B b = some o
theorem NL.of {A B : Hp} (s : Same A B) : NL A B := fun b o _ e => s b o e
theorem NL.trans {A B G : Hp} (a : NL A B) (b : NL B G) : NL A G := fun c o n e => b c o n (a c o n e)
theorem NL.but {A B : Hp} {l : Addr} {zs : List V} (h : But l A B) (hl : A l = some (.lst zs)) : NL A B := fun b o n e => h b o (fun z => by
  rw [z, hl] at e
  exact n zs (Option.some.inj e).symm) e
theorem stR.nl {C : Addr} {A B : Hp} (s : NL A B) {r : Rl} {v : V} : stR C A r v → stR C B r v := fun ⟨p, dx, t, e, a, b⟩ => ⟨p, dx, t, e, s _ _ (fun _ z => nomatch z) a, s _ _ (fun _ z => nomatch z) b⟩
theorem stS.nl {C D : Addr} {A B : Hp} (s : NL A B) {P P' : List V → Prop} {i : Es} {v : V} (k : ∀ xs, P xs → P' xs) : stS C D A P i v → stS C D B P' i v :=
  fun ⟨p, dx, pa, st, nm, zs, ss, ns, e, a, b, c, d, f, g, h⟩ => ⟨p, dx, pa, st, nm, zs, ss, ns, e, s _ _ (fun _ z => nomatch z) a, s _ _ (fun _ z => nomatch z) b, k _ c, s _ _ (fun _ z => nomatch z) d, Paired.mapP f fun _ _ => stR.nl s, s _ _ (fun _ z => nomatch z) g, h⟩
theorem StL.nl {C D : Addr} {A B : Hp} (s : NL A B) {e : Es} {xs : List V} (h : StL C D A e xs) : StL C D B e xs :=
  EL.mono (fr := stR C A) (fr' := stR C B) (fs := stS C D A) (fs' := stS C D B) (fun _ _ q => stR.nl s q) (fun _ _ _ _ k q => stS.nl s k q) e xs h
theorem SkAt.nl {C D : Addr} {A B : Hp} (s : NL A B) {i : Es} {v : V} (h : SkAt C D A i v) : SkAt C D B i v := stS.nl s (fun _ => StL.nl s) h
theorem AnsOk.nl {A B : Hp} (s : NL A B) {d : Addr} {f : Str → Nat} {ms ls : List Str} (h : AnsOk A d f ms) (k : ∀ m ∈ ls, m ∈ ms) : AnsOk B d f ls := by
  obtain ⟨kvs, h1, h2⟩ := h
  exact ⟨kvs, s _ _ (fun _ z => nomatch z) h1, fun m hm => h2 m (k m hm)⟩
theorem MkAt.nl {K : PySem.W.Frag} {A B : Hp} (s : NL A B) {v : V} {mk : Mk3} : MkAt K A v mk → MkAt K B v mk := fun ⟨p, z, e, h, k⟩ => ⟨p, z, e, by
  rcases h with (h | ⟨o, h⟩) | h
  · exact .inl (.inl (s _ _ (fun _ z => nomatch z) h))
  · exact .inl (.inr ⟨o, s _ _ (fun _ z => nomatch z) h⟩)
  · exact .inr h, k⟩
/-- a mark as data -/
theorem MkAt.data {K : PySem.W.Frag} {H : Hp} {v : V} {mk : Mk3} (h : MkAt K H v mk) : ∃ d, Dp K H v d ∧ SeqAt.shaped d = true ∧ PyData.eqv d (.tuple [.str "none", .none]) = decide (mk = .none) ∧ PyData.eqv d (.tuple [.str "good", .none]) = decide (mk = .good) := by
  obtain ⟨p, z, rfl, hp, k1, k2⟩ := h
  cases mk with
  | none =>
    rw [k2 (by decide)] at hp
    exact ⟨_, .tup hp (.cons (.str _) (.cons .non .nil)), by decide +kernel, by decide +kernel, by decide +kernel⟩
  | good =>
    rw [k2 (by decide)] at hp
    exact ⟨_, .tup hp (.cons (.str _) (.cons .non .nil)), by decide +kernel, by decide +kernel, by decide +kernel⟩
  | bad =>
    obtain ⟨n, e⟩ := k1 rfl
    rw [e] at hp
    refine ⟨_, .tup hp (.cons (.str _) (.cons (.int n) .nil)), by simp [SeqAt.shaped, PyData.canLay0, PyData.canLayAll0, PyData.depth, PyData.depthAll]; decide +kernel, ?_, ?_⟩
    · show PyData.eqv (.tuple [.str "bad", .int n]) (.tuple [.str "none", .none]) = false
      have e1 : (("bad" : Str) == "none") = false := by decide +kernel
      simp [PyData.eqv, PyData.eqvAll]
    · show PyData.eqv (.tuple [.str "bad", .int n]) (.tuple [.str "good", .none]) = false
      have e1 : (("bad" : Str) == "good") = false := by decide +kernel
      simp [PyData.eqv, PyData.eqvAll]
/-- the words and marks of the top -/
structure Tmk (K : PySem.W.Frag) (mg : Str → Option Value) : Prop where
  ok : ∃ t, mg "OK" = some (.str "ok" t)
  bad : ∃ t, mg "BAD" = some (.str "bad" t)
  die : ∃ t, mg "DIE" = some (.str "die" t)
  done : ∃ t, mg "DONE" = some (.str "done" t)
  rst : ∃ t, mg "RESET" = some (.str "reset" t)
  in_ : ∃ t, mg "IN" = some (.str "in" t)
  out : ∃ t, mg "OUT" = some (.str "out" t)
  none_ : KTup K mg "NONE" [.str "none", .non]
  good : KTup K mg "GOOD" [.str "good", .non]
theorem kdata {K : PySem.W.Frag} {H : Hp} {a : Addr} {s : Str} (h : SqT K H a [.str s, .non]) : Dp K H (.ref a) (.tuple [.str s, .none]) := .tup h (.cons (.str _) (.cons .non .nil))
section
variable {P : Program} {w : World} {K : PySem.W.Frag} {mg : Str → Option Value} {base : Heap} {C D N : Addr}
theorem ok_marked {f : Addr} {fd : FuncData} (F : Fun K "marked" "marked" sMarked f fd) (T : Tmk K mg) : FnOk P w K mg base CX0 1 f fd ["action", "mark", "begin", "number"] (spActed K) := by
  refine F.ok scMarked (fun vs H Q E h => ?_) (fun cdv A outer s H vs Q E hr h => ?_)
  · obtain ⟨_, _, _, _, _, _, rfl, _⟩ := h
    rfl
  · obtain ⟨a, m, b, n, mk, bg, rfl, ha, hm, hb, q⟩ := h
    obtain ⟨t1, gok⟩ := T.ok
    obtain ⟨t2, gbad⟩ := T.bad
    obtain ⟨t3, gdie⟩ := T.die
    obtain ⟨t4, gdone⟩ := T.done
    obtain ⟨t5, grst⟩ := T.rst
    obtain ⟨aN, oN, gN, hN, _⟩ := T.none_
    obtain ⟨aG, oG, gG, hG, _⟩ := T.good
    refine ⟨_, pss_cons (ps_if (pt_cmpR op_in_seq (pv 0) (pe_tup (pa_cons (pe_glob (v := .str "ok") rfl gok ⟨_, rfl⟩) (pa_cons (pe_glob (v := .str "done") rfl gdone ⟨_, rfl⟩) pa_nil))) (by rfl))
        (pss_one (ps_ret (pe_ifExp (pt_cmpR (op_eqD hr.units) (pv 1) (pe_glob (v := .ref aN) rfl gN rfl) (nomark _)) (pe_glob (v := .ref aG) rfl gG rfl) (pv 1)))) pss_nil)
      (pss_cons (ps_if (pt_cmpR op_in_seq (pv 0) (pe_tup (pa_cons (pe_glob (v := .str "bad") rfl gbad ⟨_, rfl⟩) (pa_cons (pe_glob (v := .str "die") rfl gdie ⟨_, rfl⟩) pa_nil))) (by rfl))
        (pss_one (ps_ret (pe_ifExp (pt_cmpR op_eq (pe_ix ix_tup (pv 1) pe_int (fun _ _ => rfl)) (pe_glob (v := .str "bad") rfl gbad ⟨_, rfl⟩) (nomark _)) (pv 1) (pe_tup (pa_cons (pe_glob (v := .str "bad") rfl gbad ⟨_, rfl⟩) (pa_cons (pv 3) pa_nil)))))) pss_nil)
      (pss_one (ps_ret (pe_ifExp (pt_cmpR op_eq (pv 0) (pe_glob (v := .str "reset") rfl grst ⟨_, rfl⟩) (nomark _)) (pv 2) (pv 1))))), ?_⟩
    refine ⟨_, rfl, by show 2 ≤ sizeLine; decide, fun p1 n1 => ?_⟩
    have s1 : Same H (upd H p1 (.tup [.str "ok", .str "done"])) := Same.new (Same.refl _) n1
    refine ⟨p1, _, rfl, .inr (SqT.of upd_same), act_flat ha, rfl, _, rfl, ?_⟩
    show if inV a [.str "ok", .str "done"] = true then _ else _
    rw [inV2 ha]
    refine ite2 (fun h1 => ?_) (fun h1 => ?_)
    · have h1 := of_decide_eq_true h1
      have ea : act a mk bg = if mk = .none then .good else mk := by unfold act; rw [if_pos h1]
      obtain ⟨dm, hd1, hd2, hd3, hd4⟩ := (hm.mono s1).data
      refine ⟨_, rfl, dm, _, hd1, kdata (hN _), hd2, by decide +kernel, _, rfl, ?_⟩
      rw [hd3]
      refine ite2 (fun h2 => ?_) (fun h2 => ?_)
      · have h2 := of_decide_eq_true h2
        refine q _ _ s1 ?_
        rw [ea, if_pos h2]
        exact ⟨aG, .non, rfl, hG _, (fun z => by cases z), fun _ => rfl⟩
      · have h2 : ¬ mk = .none := fun z => h2 (decide_eq_true z)
        refine ⟨_, rfl, q _ _ s1 ?_⟩
        rw [ea, if_neg h2]
        exact hm.mono s1
    have h1 : ¬ (a = .str "ok" ∨ a = .str "done") := fun z => h1 (decide_eq_true z)
    refine ⟨_, rfl, by show 2 ≤ sizeLine; decide, fun p3 n3 => ?_⟩
    have s3 := Same.new (o := HO.tup [.str "bad", .str "die"]) s1 n3
    refine ⟨p3, _, rfl, .inr (SqT.of upd_same), act_flat ha, rfl, _, rfl, ?_⟩
    show if inV a [.str "bad", .str "die"] = true then _ else _
    rw [inV2 ha]
    refine ite2 (fun h2 => ?_) (fun h2 => ?_)
    · have h2 := of_decide_eq_true h2
      obtain ⟨p, z, e, hp, k1, k2⟩ := id hm
      subst e
      have ea : act a mk bg = .bad := by unfold act; rw [if_neg h1, if_pos h2]
      refine ⟨_, rfl, p, _, 0, _, rfl, rfl, SqT.same s3 hp, rfl, rfl, _, rfl, ?_⟩
      rw [(mkS_dec mk).2.2]
      refine ite2 (fun h4 => ?_) (fun h4 => ?_)
      · have h4 := of_decide_eq_true h4
        refine ⟨_, rfl, q _ _ s3 ?_⟩
        rw [ea, ← h4]
        exact hm.mono s3
      · refine ⟨_, rfl, by show 2 ≤ sizeLine; decide, fun p4 n4 => q _ _ (Same.new s3 n4) ?_⟩
        rw [ea]
        exact ⟨p4, .int n, rfl, SqT.of upd_same, fun _ => ⟨n, rfl⟩, fun z => absurd rfl z⟩
    have h2 : ¬ (a = .str "bad" ∨ a = .str "die") := fun z => h2 (decide_eq_true z)
    refine ⟨_, rfl, act_scal ha _, _, rfl, ?_⟩
    refine ite2 (fun h3 => ?_) (fun h3 => ?_)
    · have h3 := of_decide_eq_true h3
      refine ⟨_, rfl, q _ _ s3 ?_⟩
      have ea : act a mk bg = bg := by unfold act; rw [if_neg h1, if_neg h2, if_pos h3]
      rw [ea]; exact hb.mono s3
    · have h3 : ¬ a = .str "reset" := fun z => h3 (decide_eq_true z)
      refine ⟨_, rfl, q _ _ s3 ?_⟩
      have ea : act a mk bg = mk := by unfold act; rw [if_neg h1, if_neg h2, if_neg h3]
      rw [ea]; exact hm.mono s3
end
end K9
end
section
set_option Elab.async false
set_option linter.all false
set_option maxRecDepth 100000
set_option maxHeartbeats 8000000
/-! The program: a run ended. -/
namespace K9
open PySem PySem.Spec PyProof.Rows L2
/-- a run's fields while it runs, and behind it -/
def nf (dd l : Addr) : List (Str × V) := [("told", V.ref dd), ("asked_rules", V.ref l)]
def nf3 (dd l : Addr) (m : V) : List (Str × V) := [("told", V.ref dd), ("asked_rules", V.ref l), ("mark", m)]
theorem nf_told (dd l : Addr) : (nf dd l).lookup ("told" : Str) = some (.ref dd) := by
  show List.lookup _ (_ :: _) = _
  rw [List.lookup_cons_self]
theorem nf_asked (dd l : Addr) : (nf dd l).lookup ("asked_rules" : Str) = some (.ref l) := by
  show List.lookup _ (_ :: _ :: _) = _
  rw [List.lookup_cons, eF (by decide +kernel), List.lookup_cons_self]
theorem nf_no (dd l : Addr) {f : Str} (h1 : ¬ ("told" : Str) = f) (h2 : ¬ ("asked_rules" : Str) = f) : (nf dd l).lookup f = none := by
  show List.lookup _ (_ :: _ :: _) = _
  rw [List.lookup_cons, eF h1, List.lookup_cons, eF h2]
  rfl
theorem nf3_mark (dd l : Addr) (m : V) : (nf3 dd l m).lookup ("mark" : Str) = some m := by
  show List.lookup _ (_ :: _ :: _ :: _) = _
  rw [List.lookup_cons, eF (by decide +kernel), List.lookup_cons, eF (by decide +kernel), List.lookup_cons_self]
theorem nf3_no (dd l : Addr) (m : V) {f : Str} (h1 : ¬ ("told" : Str) = f) (h2 : ¬ ("asked_rules" : Str) = f) (h3 : ¬ ("mark" : Str) = f) : (nf3 dd l m).lookup f = none := by
  show List.lookup _ (_ :: _ :: _ :: _) = _
  rw [List.lookup_cons, eF h1, List.lookup_cons, eF h2, List.lookup_cons, eF h3]
  rfl
theorem nf_put1 (dd l : Addr) : putF "asked_rules" (.ref l) (putF "told" (.ref dd) []) = nf dd l := by
  repeat (first | rw [putF_nil] | rw [putF_miss (by decide +kernel)])
  rfl
theorem nf_put2 (dd l : Addr) (m : V) : putF "mark" m (nf dd l) = nf3 dd l m := by
  unfold nf
  repeat (first | rw [putF_nil] | rw [putF_miss (by decide +kernel)])
  rfl
/-- what is known of a stack that runs -/
def Runs (e : Es) (d : Nat) : Prop := dep e ≤ d ∧ cnt e ≤ 100 ∧ len e ≤ 100 ∧ wid e ≤ 100 ∧ ∀ q ∈ rls e, q.2.length = 4 ∧ ∀ x ∈ q.2, ActOk x
theorem Runs.in_ {e j r : Es} {n d : Nat} (h : Runs e (d + 1)) (hd : dropE n e = .stk j r) : Runs j d := by
  obtain ⟨h1, h2, h3, h4, h5⟩ := h
  have a := wid_in hd
  have b := dep_in hd
  have c := cnt_in hd
  exact ⟨by omega, by omega, by omega, by omega, fun q hq => h5 q (mem_in hd hq)⟩
def spEnded (K : PySem.W.Frag) (C D N : Addr) (d : Nat) : Sp := fun vs H Q _ => ∃ (p dx dd l : Addr) (v mv : V) (n : Int) (zs : List V) (e : Es) (f : Str → Nat) (mk : Mk3), vs = [.ref p, v, .int n, mv] ∧ H p = some (.ins N dx (nf dd l)) ∧ H l = some (.lst zs) ∧ zs.length + cnt e ≤ 1000 ∧
  SkAt C D H e v ∧ Runs e d ∧ AnsOk H dd f (mods e) ∧ MkAt K H mv mk ∧
  ∀ (H' : Hp) (mv' : V) (zs' : List V), But l H H' → H' l = some (.lst zs') → zs'.length ≤ zs.length + cnt e → MkAt K H' mv' (ran f e mk 0 mk) → Q mv' H'
def spNI (C D N : Addr) (K : PySem.W.Frag) : Sp := fun vs H Q _ => ∃ (p dx dd : Addr) (v : V) (e : Es) (f : Str → Nat), vs = [.ref p, v, .ref dd] ∧ H p = some (.ins N dx []) ∧ SkAt C D (cut p H) e v ∧ Runs e 3 ∧ AnsOk H dd f (mods e) ∧
  ∀ (H' : Hp) (l : Addr) (mv : V), But p H H' → H' p = some (.ins N dx (nf3 dd l mv)) → MkAt K H' mv (ran f e .none 0 .none) → Q .non H'
def spNO (N : Addr) (K : PySem.W.Frag) : Sp := fun vs H Q _ => ∃ (p dx dd l : Addr) (mv : V) (mk : Mk3), vs = [.ref p] ∧ H p = some (.ins N dx (nf3 dd l mv)) ∧ MkAt K H mv mk ∧ ∀ H', Same H H' → Q (.str (inW (decide (mk = .good)))) H'
structure Tn (K : PySem.W.Frag) (mg : Str → Option Value) (N : Addr) : Prop where
  cl : Cls K N
  aT : NoAttr K N "told"
  aR : NoAttr K N "asked_rules"
  aM : NoAttr K N "mark"
  gN : mg "Run" = some (.ref N)
section
variable {P : Program} {w : World} {K : PySem.W.Frag} {mg : Str → Option Value} {base : Heap} {C D N : Addr}
abbrev psEnded : List Str := ["self", "stack", "first", "mark"]
theorem ok_ended {f fF fA fM : Addr} {fd fdF fdA fdM : FuncData} (F : Fun K "ended" "Run.ended" sNE f fd) (zl : mg "len" = none) (zi : mg "isinstance" = none) (zt : mg "int" = none) (bF : Binds K fd psEnded []) (mE : Meth K N "ended" f) (Tm : Tmk K mg) (T : Tst C D K mg) (TN : Tn K mg N)
    (FS : Cl P w K mg base CX0 2 "firsts_of" ["stack", "first"] (spFirsts C D) fF fdF) (GA : FnOk P w K mg base CX0 1 fA fdA ["self", "result"] (spRA C)) (bA : Binds K fdA ["self", "result"] []) (mA : Meth K C "action_for" fA)
    (MK : Cl P w K mg base CX0 1 "marked" ["action", "mark", "begin", "number"] (spActed K) fM fdM) : ∀ d : Nat, FnOk P w K mg base CX0 (d + 3) f fd psEnded (spEnded K C D N d) := by
  intro d
  induction d with
  | zero =>
    refine F.ok scNE (fun vs H Q E h => ?_) (fun cdv A outer s H vs Q E hr h => ?_)
    · obtain ⟨_, _, _, _, _, _, _, _, _, _, _, rfl, _⟩ := h
      rfl
    · obtain ⟨p, dx, dd, l, v, mv, n, zs, e, fn, mk, rfl, _, _, _, _, hR, _⟩ := h
      have := one_le_dep e
      have := hR.1
      omega
  | succ d ih =>
    refine F.ok scNE (fun vs H Q E h => ?_) (fun cdv A outer s H vs Q E hr h => ?_)
    · obtain ⟨_, _, _, _, _, _, _, _, _, _, _, rfl, _⟩ := h
      rfl
    · obtain ⟨p, dx, dd, l, v, mv, n, zs, e, fn, mk, rfl, hp, hl, hz, hS, hR, hans, hm, q⟩ := h
      have hr1 : Room 1 _ := hr.mono (by omega)
      have hr2 : Room 2 _ := hr.mono (by omega)
      have hu := hu_of hr
      obtain ⟨tdie, gdie⟩ := Tm.die
      obtain ⟨tdone, gdone⟩ := Tm.done
      obtain ⟨aG, oG, gG, hG, _⟩ := Tm.good
      refine ⟨_, pss_cons (ps_par rfl scNE.nd rfl rfl (by decide) rfl rfl (pa_cons (pv 3) (pa_cons pe_int pa_nil)) (by rfl) (i := 4) (j := 5))
        (pss_cons (ps_set (i := 6) scNE.nd rfl (Or.inl rfl) (pe_call FS.ok hr2 rfl FS.g FS.kp FS.b .nil pass0 (pa_cons (pv 1) (pa_cons (pv 2) pa_nil))))
        (pss_cons (ps_while PassesOwn.never (pt_cmpR op_lt (pv 5) (pe_callB call_len_seq (by rfl) zl PySem.boot_len (pa_cons (pe_fld (pv 1) rfl) pa_nil)) (nomark _))
          (pss_cons (ps_par rfl scNE.nd rfl rfl (by decide) rfl rfl (pa_cons (pe_ix ix_tup (pe_fld (pv 1) rfl) (pv 5) (fun _ _ => rfl)) (pa_cons (pe_ix ix_list (pv 6) (pv 5) (fun _ _ => rfl)) pa_nil)) (by rfl) (i := 7) (j := 8))
          (pss_cons (ps_aug (i := 5) scNE.nd rfl (.inl rfl) pe_int ip_add)
          (pss_cons (ps_if (pt_val (pe_callB call_isi (by rfl) zi (by decide +kernel) (pa_cons (pv 7) (pa_cons (pe_glob (v := .ref D) rfl T.gD rfl) pa_nil))))
            (pss_cons (ps_set (i := 3) scNE.nd rfl (Or.inl rfl) (pe_meth (pv 0) TN.cl mE ih hr bF .nil pass0 (pa_cons (pv 7) (pa_cons (pv 8) (pa_cons (pv 3) pa_nil))))) (pss_one ps_continue)) pss_nil)
          (pss_cons (ps_expr (pe_bm PySem.F.plainAttrs_list PySem.F.slot_list_append PySem.F.type_list_append mt_append (pe_fld (pv 0) rfl) (pa_cons (pv 8) pa_nil)))
          (pss_cons (ps_set (i := 9) scNE.nd rfl (Or.inl rfl) (pe_meth (pv 7) T.iC.cl mA GA hr1 bA .nil pass0 (pa_cons (pe_dget hu (pe_fld (pv 0) rfl) (pe_fld (pv 7) rfl) (fun _ _ => rfl)) pa_nil)))
          (pss_cons (ps_set (i := 3) scNE.nd rfl (Or.inl rfl) (pe_call MK.ok hr1 rfl MK.g MK.kp MK.b .nil pass0 (pa_cons (pv 9) (pa_cons (pv 3) (pa_cons (pv 4) (pa_cons (pv 8) pa_nil))))))
          (pss_cons (ps_if (PW.pt (pw_or (pt_cmpR op_eq (pv 9) (pe_glob (v := .str "die") rfl gdie ⟨_, rfl⟩) (nomark _)) (pw_or1 (PW.pt (pw_and (pt_cmpR op_eq (pv 9) (pe_glob (v := .str "done") rfl gdone ⟨_, rfl⟩) (nomark _)) (pw_and1 (pt_cmpR (op_eqD hr.units) (pv 3) (pe_glob (v := .ref aG) rfl gG rfl) (nomark _))))))))
            (pss_one (ps_ret (pv 3))) pss_nil)
          (pss_one (ps_if (pt_val (pe_callB call_isi (by rfl) zi (by decide +kernel) (pa_cons (pv 9) (pa_cons (pe_bltn (v := .ty "int") (u := .type "int") (by rfl) zt (by decide +kernel) rfl) pa_nil))))
            (pss_one (ps_aug (i := 5) scNE.nd rfl (.inl rfl) (pv 9) ip_add)) pss_nil))))))))))
        (pss_one (ps_ret (pv 3))))), ?_⟩
      obtain ⟨ps, dxs, pa, st, nm, xs, ss, ns, rfl, hps, hpa, hP, hst, hss, hnm, hN⟩ := id hS
      have hxl : xs.length = len e := EL.length _ _ hP
      obtain ⟨hR1, hR2, hR3, hR4, hR5⟩ := id hR
      refine ⟨_, rfl, _, _, rfl, ?_⟩
      refine ⟨_, rfl, _, rfl, .ref ps, n, e, rfl, hS, hR2, hR3, fun H1 fp fs s1 nfp hfp hfl => ?_⟩
      have nlp : fp ≠ l := (ne_of_none hl nfp).symm
      refine ⟨fun m σ H' => ∃ (mv' : V) (mk' : Mk3) (i : Nat) (li : Int) (zs' : List V) (v7 v8 v9 : Option V), σ = [some (.ref p), some (.ref ps), some (.int n), some mv', some mv, some (.int li), some (.ref fp), v7, v8, v9] ∧ li = (i : Nat) ∧ m = len e - i ∧ But l H1 H' ∧ H' l = some (.lst zs') ∧
          zs'.length + cnt (dropE i e) ≤ zs.length + cnt e ∧ MkAt K H' mv' mk' ∧ ran fn (dropE i e) mk 0 mk' = ran fn e mk 0 mk,
        ⟨len e, mv, mk, 0, 0, zs, _, _, _, rfl, rfl, rfl, But.refl _, s1 _ _ hl, Nat.le_refl _, hm.mono s1, rfl⟩, ?_⟩
      rintro m σ H' ⟨mv', mk', i, li, zs', v7, v8, v9, rfl, rfl, rfl, b, hl', hz', hm', hran⟩
      have b1 : But l H H' := But.trans (But.of s1) b
      have nlH : NL H H' := NL.but b1 hl
      have hps' := nlH _ _ (by intro _ z; cases z) hps
      have hpa' := nlH _ _ (by intro _ z; cases z) hpa
      have hp' := nlH _ _ (by intro _ z; cases z) hp
      refine ⟨_, rfl, _, rfl, ps, D, dxs, _, _, rfl, hps', T.iD.cl, T.aP, sf_parts _ _ _ _, pa, xs, rfl, .inr (SqT.of hpa'), _, _, rfl, rfl, _, rfl, ?_⟩
      refine ite2 (fun hlt => ?_) (fun hge => ?_)
      rotate_left
      · have hge : ¬ ((i : Nat) : Int) < (xs.length : Nat) := fun z => hge (decide_eq_true z)
        have e0 := EL.end_ (n := i) hP (by omega)
        rw [e0] at hran hz'
        refine ⟨_, rfl, q H' mv' zs' b1 hl' (by have : zs'.length + 0 ≤ _ := hz'; omega) ?_⟩
        rw [← hran]
        exact hm'
      have hlt : ((i : Nat) : Int) < (xs.length : Nat) := of_decide_eq_true hlt
      have hil : i < xs.length := by omega
      have hx : xs[i]? = some xs[i] := List.getElem?_eq_getElem hil
      have hfl' : i < fs.length := by omega
      refine ⟨fun σ' H'' => ∃ m', m' < len e - i ∧ ∃ (mv' : V) (mk' : Mk3) (i' : Nat) (li : Int) (zs' : List V) (v7 v8 v9 : Option V), σ' = [some (.ref p), some (.ref ps), some (.int n), some mv', some mv, some (.int li), some (.ref fp), v7, v8, v9] ∧ li = (i' : Nat) ∧ m' = len e - i' ∧ But l H1 H'' ∧ H'' l = some (.lst zs') ∧
          zs'.length + cnt (dropE i' e) ≤ zs.length + cnt e ∧ MkAt K H'' mv' mk' ∧ ran fn (dropE i' e) mk 0 mk' = ran fn e mk 0 mk, fun σ' H'' h => h, ?_⟩
      refine ⟨_, rfl, ps, D, dxs, _, _, rfl, hps', T.iD.cl, T.aP, sf_parts _ _ _ _, _, rfl, pa, xs, _, _, rfl, rfl, SqT.of hpa', at_of (j := i) rfl hx, ?_⟩
      refine ⟨_, rfl, _, rfl, fp, _, _, V.int fs[i], rfl, rfl, SqL.of (b _ _ nlp hfp), at_of (j := i) rfl (by rw [List.getElem?_map, List.getElem?_eq_getElem hfl']; rfl), ?_⟩
      refine ⟨_, _, rfl, ?_⟩
      refine ⟨_, rfl, _, _, rfl, rfl, ?_⟩
      have fin : ∀ (H'' : Hp) (w1 w2 w3 : Option V) (mv2 : V) (mk2 : Mk3) (k : Nat) (z : Int) (zs2 : List V), z = ((i + 1 + k : Nat) : Int) → But l H1 H'' → H'' l = some (.lst zs2) → zs2.length + cnt (dropE (i + 1) e) ≤ zs.length + cnt e → MkAt K H'' mv2 mk2 → ran fn (dropE (i + 1) e) mk k mk2 = ran fn e mk 0 mk →
          ∃ m', m' < len e - i ∧ ∃ (mv' : V) (mk' : Mk3) (i' : Nat) (li : Int) (zs' : List V) (v7 v8 v9 : Option V), [some (V.ref p), some (V.ref ps), some (V.int n), some mv2, some mv, some (V.int z), some (V.ref fp), w1, w2, w3] = [some (.ref p), some (.ref ps), some (.int n), some mv', some mv, some (.int li), some (.ref fp), v7, v8, v9] ∧ li = (i' : Nat) ∧ m' = len e - i' ∧ But l H1 H'' ∧ H'' l = some (.lst zs') ∧
          zs'.length + cnt (dropE i' e) ≤ zs.length + cnt e ∧ MkAt K H'' mv' mk' ∧ ran fn (dropE i' e) mk 0 mk' = ran fn e mk 0 mk := by
        intro H'' w1 w2 w3 mv2 mk2 k z zs2 hz2 b2 h2 hc2 hm2 hr2
        have ed := dropE_add (i + 1) k e
        have c1 := cnt_drop k (dropE (i + 1) e)
        rw [← ed] at c1
        refine ⟨len e - (i + 1 + k), by omega, mv2, mk2, i + 1 + k, z, zs2, w1, w2, w3, rfl, hz2, rfl, b2, h2, by omega, hm2, ?_⟩
        rw [ed, ran_drop]
        exact hr2
      have hcd : cnt (dropE i e) ≤ cnt e := cnt_drop i e
      rcases EL.at hP hx with ⟨m, as, ed, q1, dq, t, ex, hq1, ht⟩ | ⟨j, ed, hj⟩
      · rw [ex]
        have hq1' := nlH _ _ (by intro _ z; cases z) hq1
        have ht' := nlH _ _ (by intro _ z; cases z) ht
        obtain ⟨hl4, hok⟩ := hR5 _ (mem_at ed)
        have hcn : cnt (dropE i e) = cnt (dropE (i + 1) e) + 1 := by rw [ed]; rfl
        refine ⟨_, rfl, _, .ref D, _, _, false, rfl, .own D, T.iC.ty T.i0 hq1', T.kCD, false, rfl, iteF ?_⟩
        refine ⟨_, rfl, p, N, dx, _, _, rfl, hp', TN.cl, TN.aR, nf_asked _ _, .inl ⟨rfl, _, SqL.of hl'⟩, _, rfl, l, _, _, rfl, rfl, hl', small1000 (by omega), ?_⟩
        have b3 : But l H' (upd H' l (.lst (zs' ++ [.int fs[i]]))) := But.at (But.refl _)
        have nl3 : NL H' (upd H' l (.lst (zs' ++ [.int fs[i]]))) := NL.but b3 hl'
        have hl3 : (upd H' l (.lst (zs' ++ [.int fs[i]]))) l = some (.lst (zs' ++ [.int fs[i]])) := upd_same
        generalize hH3 : upd H' l (.lst (zs' ++ [.int fs[i]])) = H3 at b3 nl3 hl3
        have hq3 := nl3 _ _ (by intro _ z; cases z) hq1'
        have ht3 := nl3 _ _ (by intro _ z; cases z) ht'
        have hp3 := nl3 _ _ (by intro _ z; cases z) hp'
        obtain ⟨kvs, hdd, hval⟩ := hans
        have hdd3 := nl3 _ _ (by intro _ z; cases z) (nlH _ _ (by intro _ z; cases z) hdd)
        obtain ⟨r, hr1', hr2', hr3'⟩ := hval m (List.mem_map.mpr ⟨_, mem_at ed, rfl⟩)
        obtain ⟨i1, i2, i3⟩ := ress_ix hr2'
        have hal : rix r < as.length := by rw [hl4]; exact i1
        have hact : actAt fn m as = as[rix r] := by unfold actAt; rw [← hr3', List.getD_eq_getElem?_getD, List.getElem?_eq_getElem hal]; rfl
        have haok : ActOk (actAt fn m as) := by rw [hact]; exact hok _ (List.getElem_mem hal)
        refine ⟨_, rfl, q1, dq, _, rfl, hq3, rf_no _ _ (by decide +kernel) (by decide +kernel), ?_⟩
        refine ⟨_, rfl, p, N, dx, _, _, rfl, hp3, TN.cl, TN.aT, nf_told _ _, _, rfl, q1, C, dq, _, _, rfl, hq3, T.iC.cl, T.aA, rf_asks _ _, dd, .str r, rfl, ?_, ?_⟩
        · have := DGet.k (k := Sum.inr m) hdd3
          rw [hr1'] at this
          exact this
        refine ⟨q1, dq, t, m, as, r, actAt fn m as, rfl, hq3, ht3, hr2', by rw [List.getElem?_eq_getElem hal, hact], fun H4 s4 => ?_⟩
        refine ⟨_, rfl, _, rfl, _, rfl, _, rfl, _, mv', mv, fs[i], mk', mk, rfl, haok, (hm'.nl nl3).mono s4, ((hm.nl nlH).nl nl3).mono s4, fun H5 mv5 s5 hm5 => ?_⟩
        have b5 : But l H1 H5 := But.trans b (But.trans b3 (But.of (s4.trans s5)))
        have hl5 : H5 l = some (.lst (zs' ++ [.int fs[i]])) := s5 _ _ (s4 _ _ hl3)
        have hzl5 : (zs' ++ [V.int fs[i]]).length + cnt (dropE (i + 1) e) ≤ zs.length + cnt e := by rw [List.length_append]; show zs'.length + 1 + _ ≤ _; omega
        rw [ed] at hran
        generalize hgen : actAt fn m as = ac at *
        have hran' : (if stops ac (act ac mk' mk) = true then act ac mk' mk else ran fn (dropE (i + 1) e) mk (jump ac) (act ac mk' mk)) = ran fn e mk 0 mk := by rw [← hran]; show _ = (if stops (actAt fn m as) _ = true then _ else _); rw [hgen]
        have stop : stops ac (act ac mk' mk) = true → Q mv5 H5 := by
          intro hst
          refine q H5 mv5 _ (But.trans (But.of s1) b5) hl5 (by omega) ?_
          rw [← hran', if_pos hst]
          exact hm5
        have hranF : stops ac (act ac mk' mk) = false → ran fn (dropE (i + 1) e) mk (jump ac) (act ac mk' mk) = ran fn e mk 0 mk := by
          intro hst
          rw [← hran', if_neg (by rw [hst]; exact Bool.false_ne_true)]
        refine ⟨_, rfl, act_scal haok _, _, rfl, ?_⟩
        have jv := jump_val haok
        refine ite2 (fun h1 => ?_) (fun h1 => ?_)
        · refine iteT ⟨_, rfl, stop ?_⟩
          rw [stops_val, h1, Bool.true_or]
        have h1' : decide (ac = V.str "die") = false := by cases hh : decide (ac = V.str "die") with
          | false => rfl
          | true => exact absurd hh h1
        refine ⟨_, rfl, act_scal haok _, _, rfl, ?_⟩
        have tl : stops ac (act ac mk' mk) = false → ∀ {w1 w2 : Option V}, True := fun _ _ _ => trivial
        refine ite2 (fun h2 => ?_) (fun h2 => ?_)
        · obtain ⟨dm, hd1, hd2, hd3, hd4⟩ := hm5.data
          refine ⟨_, rfl, dm, _, hd1, kdata (hG _), hd2, by decide +kernel, _, rfl, ?_⟩
          rw [hd4]
          refine ite2 (fun h3 => ?_) (fun h3 => ?_)
          · refine ⟨_, rfl, stop ?_⟩
            rw [stops_val, h2, h3, Bool.true_and, Bool.or_true]
          · have h3' : decide (act ac mk' mk = .good) = false := by cases hh : decide (act ac mk' mk = .good) with
              | false => rfl
              | true => exact absurd hh h3
            have hst : stops ac (act ac mk' mk) = false := by rw [stops_val, h1', h3', Bool.and_false, Bool.or_false]
            rcases jv with ⟨sw, ew, jw⟩ | ⟨z, ez, jz⟩
            · subst ew
              refine ⟨_, rfl, _, .ty "int", _, _, false, rfl, .ty "int", .base (.str sw), kit_ty (by decide +kernel), false, rfl, iteF ?_⟩
              exact fin H5 _ _ _ mv5 _ 0 _ _ rfl b5 hl5 hzl5 hm5 (by have := hranF hst; rw [jw] at this; exact this)
            · subst ez
              refine ⟨_, rfl, _, .ty "int", _, _, true, rfl, .ty "int", .base (.int z), kit_ty (by decide +kernel), true, rfl, iteT ?_⟩
              refine ⟨_, rfl, _, rfl, _, _, rfl, rfl, ?_⟩
              exact fin H5 _ _ _ mv5 _ (jump (.int z)) _ _ (show ((i : Nat) : Int) + 1 + z = ((i + 1 + jump (.int z) : Nat) : Int) from by omega) b5 hl5 hzl5 hm5 (hranF hst)
        · have h2' : decide (ac = V.str "done") = false := by cases hh : decide (ac = V.str "done") with
            | false => rfl
            | true => exact absurd hh h2
          have hst : stops ac (act ac mk' mk) = false := by rw [stops_val, h1', h2', Bool.false_and, Bool.or_false]
          refine iteF ?_
          rcases jv with ⟨sw, ew, jw⟩ | ⟨z, ez, jz⟩
          · subst ew
            refine ⟨_, rfl, _, .ty "int", _, _, false, rfl, .ty "int", .base (.str sw), kit_ty (by decide +kernel), false, rfl, iteF ?_⟩
            exact fin H5 _ _ _ mv5 _ 0 _ _ rfl b5 hl5 hzl5 hm5 (by have := hranF hst; rw [jw] at this; exact this)
          · subst ez
            refine ⟨_, rfl, _, .ty "int", _, _, true, rfl, .ty "int", .base (.int z), kit_ty (by decide +kernel), true, rfl, iteT ?_⟩
            refine ⟨_, rfl, _, rfl, _, _, rfl, rfl, ?_⟩
            exact fin H5 _ _ _ mv5 _ (jump (.int z)) _ _ (show ((i : Nat) : Int) + 1 + z = ((i + 1 + jump (.int z) : Nat) : Int) from by omega) b5 hl5 hzl5 hm5 (hranF hst)
      · have hj' : SkAt C D H' j xs[i] := stS.nl nlH (fun _ => StL.nl nlH) hj
        obtain ⟨q1, dq, pa1, st1, nm1, zs1, ss1, ns1, ex, hq1, _⟩ := id hj'
        have hce : cnt (dropE i e) = cnt j + cnt (dropE (i + 1) e) := by rw [ed]; exact List.length_append
        refine ⟨_, rfl, _, .ref D, _, _, true, rfl, .own D, by rw [ex]; exact T.iD.ty T.i0 hq1, T.kDD, true, rfl, iteT ?_⟩
        refine ⟨_, rfl, p, dx, _, rfl, hp', nf_no _ _ (by decide +kernel) (by decide +kernel), _, rfl, _, rfl, _, rfl, ?_⟩
        refine ⟨p, dx, dd, l, xs[i], mv', fs[i], zs', j, fn, mk', rfl, hp', hl', by omega, hj', hR.in_ ed, ?_, hm', fun H2 mv2 zs2 b2 hl2 hz2 hm2 => ?_⟩
        · refine AnsOk.nl nlH hans fun x hx => ?_
          obtain ⟨y, hy, e1⟩ := List.mem_map.mp hx
          exact List.mem_map.mpr ⟨y, mem_in ed hy, e1⟩
        rw [ed] at hran
        exact fin H2 _ _ _ mv2 _ 0 _ zs2 rfl (But.trans b b2) hl2 (by omega) hm2 hran
end
end K9
end
section
set_option Elab.async false
set_option linter.all false
set_option maxRecDepth 100000
set_option maxHeartbeats 8000000
/-! The program: a run made, its outcome; all answers. -/
namespace K9
open PySem PySem.Spec PyProof.Rows L2
theorem lc_tupW {K : PySem.W.Frag} {a : Addr} {xs : List V} {g : TG} {tt : TT} {te : TE} {vs : List Nat} {σ : L2.St} {H0 : Hp} {D : Addr} {Qd : Hp → Prop} (Pv : Nat → Hp → Prop) (h0 : Pv 0 H0) (hl : ∀ i H, i ≤ xs.length → Pv i H → SqT K H a xs)
    (hs : ∀ i x H, xs[i]? = some x → Pv i H → g x (wipe σ vs) H fun σ2 H2 => wipe σ2 vs = wipe σ vs ∧ tt σ2 H2 fun b H3 =>
      if b = true then te σ2 H3 fun y H4 => ∃ acc, H4 D = some (.lst acc) ∧ acc.length < sizeLine ∧ Pv (i + 1) (upd H4 D (.lst (acc ++ [y]))) else Pv (i + 1) H3) (hd : ∀ H, Pv xs.length H → Qd H) :
    ∃ W : Nat → Nat → Hp → Prop, (∃ m, W 0 m H0) ∧ ∀ i m H, W i m H →
      ((Itt K a).stop i H ∧ Qd H) ∨ ((Itt K a).go i H ∧ ∃ Nx : Hp → Prop, (∀ H', Nx H' → ∃ m', m' < m ∧ W (i + 1) m' H') ∧ ∀ x H', (Itt K a).yld i H x H' → g x (wipe σ vs) H' fun σ2 H2 => wipe σ2 vs = wipe σ vs ∧ tt σ2 H2 fun b H3 =>
        if b = true then te σ2 H3 fun y H4 => ∃ acc, H4 D = some (.lst acc) ∧ acc.length < sizeLine ∧ Nx (upd H4 D (.lst (acc ++ [y]))) else Nx H3) := by
  refine ⟨fun i m H => m = xs.length - i ∧ i ≤ xs.length ∧ Pv i H, ⟨xs.length, by simp, Nat.zero_le _, h0⟩, ?_⟩
  rintro i m H ⟨rfl, hi, p⟩
  have q := hl i H hi p
  by_cases hlt : i < xs.length
  · refine .inr ⟨⟨xs, xs[i], q, by simp [hlt]⟩, Pv (i + 1), fun H' p' => ⟨xs.length - (i + 1), by omega, rfl, hlt, p'⟩, fun x H' y => ?_⟩
    obtain ⟨e, y⟩ := y
    subst e
    exact hs i x _ (y xs q) p
  · have e : i = xs.length := by omega
    subst e
    exact .inl ⟨⟨xs, q, Nat.le_refl _⟩, hd H p⟩
theorem pi_tupK {X : Cx} {K : PySem.W.Frag} {tg l : Expr} {tl : TE} (hl : PE X l tl) (e : X.K = K := by rfl) : PI X tg l (iTup K tl) := by subst e; exact pi_tup hl
theorem MkAt.upd {K : PySem.W.Frag} {H : Hp} {p N dx : Addr} {fs : List (Str × V)} {o : HO} {v : V} {mk : Mk3} (hp : H p = some (.ins N dx fs)) : MkAt K H v mk → MkAt K (upd H p o) v mk := fun ⟨p', z, e, h, k⟩ => ⟨p', z, e, by
  rcases h with (h | ⟨o', h⟩) | h
  · exact .inl (.inl (by rw [upd_ne (ne_of h hp (by intro z; cases z))]; exact h))
  · exact .inl (.inr ⟨o', by rw [upd_ne (ne_of h hp (by intro z; cases z))]; exact h⟩)
  · exact .inr h, k⟩
def spAllA : Sp := spAll
section
variable {P : Program} {w : World} {K : PySem.W.Frag} {mg : Str → Option Value} {base : Heap} {C D N : Addr}
theorem ok_ni {f fE : Addr} {fd fdE : FuncData} (F : Fun K "__init__" "Run.__init__" sNI f fd) (TN : Tn K mg N) (Tm : Tmk K mg) (GE : FnOk P w K mg base CX0 6 fE fdE psEnded (spEnded K C D N 3)) (bE : Binds K fdE psEnded []) (mE : Meth K N "ended" fE) :
    FnOk P w K mg base CX0 7 f fd ["self", "stack", "results"] (spNI C D N K) := by
  refine F.ok scNI (fun vs H Q E h => ?_) (fun cdv A outer s H vs Q E hr h => ?_)
  · obtain ⟨_, _, _, _, _, _, rfl, _⟩ := h
    rfl
  · obtain ⟨p, dx, dd, v, e, fn, rfl, hp, hS, hR, hans, q⟩ := h
    obtain ⟨aN, oN, gN, hN, _⟩ := Tm.none_
    refine ⟨_, pss_cons (ps_fld (pv 0) (pv 2) rfl) (pss_cons (ps_fld (pv 0) (pe_lst pa_nil) rfl)
      (pss_one (ps_fld (pv 0) (pe_meth (pv 0) TN.cl mE GE hr bE .nil pass0 (pa_cons (pv 1) (pa_cons pe_int (pa_cons (pe_glob (v := .ref aN) rfl gN rfl) pa_nil)))) rfl))), ?_⟩
    refine ⟨_, rfl, _, rfl, p, N, dx, [], rfl, hp, TN.cl, TN.aT, by decide, ?_⟩
    refine ⟨Nat.zero_le _, fun l nl => ?_⟩
    have npl : p ≠ l := ne_of_none (show upd H p _ p = some _ from upd_same) nl
    have nl0 : H l = none := by rw [upd_ne npl.symm] at nl; exact nl
    refine ⟨_, rfl, p, N, dx, _, rfl, by rw [upd_ne npl]; exact upd_same, TN.cl, TN.aR, by show 1 < 1000; decide, ?_⟩
    rw [nf_put1]
    have b1 : But p H (upd (upd (upd H p (.ins N dx (putF "told" (.ref dd) []))) l (.lst [])) p (.ins N dx (nf dd l))) := But.at (But.own (But.at (But.refl H)) nl0)
    have hp1 : (upd (upd (upd H p (.ins N dx (putF "told" (.ref dd) []))) l (.lst [])) p (.ins N dx (nf dd l))) p = some (.ins N dx (nf dd l)) := upd_same
    have hl1 : (upd (upd (upd H p (.ins N dx (putF "told" (.ref dd) []))) l (.lst [])) p (.ins N dx (nf dd l))) l = some (.lst []) := by rw [upd_ne npl.symm]; exact upd_same
    generalize hH1 : upd (upd (upd H p (.ins N dx (putF "told" (.ref dd) []))) l (.lst [])) p (.ins N dx (nf dd l)) = H1 at b1 hp1 hl1
    have sc : Same (cut p H) H1 := fun b o z => by
      obtain ⟨z1, z2⟩ := cut_some z
      exact b1 b o z1 z2
    obtain ⟨kvs, hdd, hv⟩ := id hans
    have ndp : dd ≠ p := ne_of hdd hp (by intro z; cases z)
    refine ⟨_, rfl, p, dx, _, rfl, hp1, nf_no _ _ (by decide +kernel) (by decide +kernel), _, rfl, ?_⟩
    have hcn : cnt e ≤ 100 := hR.2.1
    refine ⟨p, dx, dd, l, v, .ref aN, 0, [], e, fn, .none, rfl, hp1, hl1, by show 0 + cnt e ≤ 1000; omega, SkAt.mono sc hS, hR, ⟨kvs, b1 _ _ ndp hdd, hv⟩, ⟨aN, .non, rfl, hN _, (fun z => by cases z), fun _ => rfl⟩, fun H2 mv zs' b2 hl2 hz2 hm2 => ?_⟩
    have hp2 : H2 p = some (.ins N dx (nf dd l)) := b2 _ _ npl hp1
    refine ⟨_, rfl, p, N, dx, _, rfl, hp2, TN.cl, TN.aM, by show 2 < 1000; decide, ?_⟩
    rw [nf_put2]
    refine q _ l mv (fun b o n e' => ?_) upd_same ?_
    · rw [upd_ne n]
      have n2 : b ≠ l := ne_of_none e' nl0
      exact b2 b o n2 (b1 b o n e')
    · exact hm2.upd hp2
theorem ok_no {f : Addr} {fd : FuncData} (F : Fun K "outcome" "Run.outcome" sNO f fd) (TN : Tn K mg N) (Tm : Tmk K mg) : FnOk P w K mg base CX0 1 f fd ["self"] (spNO N K) := by
  refine F.ok scNO (fun vs H Q E h => ?_) (fun cdv A outer s H vs Q E hr h => ?_)
  · obtain ⟨_, _, _, _, _, _, rfl, _⟩ := h
    rfl
  · obtain ⟨p, dx, dd, l, mv, mk, rfl, hp, hm, q⟩ := h
    obtain ⟨aG, oG, gG, hG, _⟩ := Tm.good
    obtain ⟨t1, gin⟩ := Tm.in_
    obtain ⟨t2, gout⟩ := Tm.out
    refine ⟨_, pss_one (ps_ret (pe_ifExp (pt_cmpR (op_eqD hr.units) (pe_fld (pv 0) rfl) (pe_glob (v := .ref aG) rfl gG rfl) (nomark _)) (pe_glob (v := .str "in") rfl gin ⟨_, rfl⟩) (pe_glob (v := .str "out") rfl gout ⟨_, rfl⟩))), ?_⟩
    obtain ⟨dm, hd1, hd2, hd3, hd4⟩ := hm.data
    refine ⟨_, rfl, p, N, dx, _, _, rfl, hp, TN.cl, TN.aM, nf3_mark _ _ _, dm, _, hd1, kdata (hG _), hd2, by decide +kernel, _, rfl, ?_⟩
    rw [hd4]
    have z := q H (Same.refl _)
    refine ite2 (fun h => ?_) (fun h => ?_)
    · rw [h] at z; exact z
    · have h' : decide (mk = .good) = false := by cases hh : decide (mk = .good) with
        | false => rfl
        | true => exact absurd hh h
      rw [h'] at z; exact z
theorem ok_alla {f : Addr} {fd : FuncData} (F : Fun K "all_answers" "all_answers" sAllA f fd) (R : KTup K mg "RESULTS" (ress.map V.str)) : FnOk P w K mg base CX0 1 f fd ["modules"] spAllA := by
  refine F.ok scAllA (fun vs H Q E h => ?_) (fun cdv A outer s H vs Q E hr h => ?_)
  · obtain ⟨_, _, rfl, _⟩ := h
    rfl
  · obtain ⟨a, ns, rfl, hA, hnd, hn6, q⟩ := h
    obtain ⟨aR, oR, gR, hR, _⟩ := R
    refine ⟨_, pss_cons (ps_set (i := 1) scAllA.nd rfl (Or.inl rfl) (pe_lst (pa_cons pe_dnewK pa_nil)))
      (pss_cons (ps_for PassesOwn.never rfl (pi_list (pv 0)) (pg_name (i := 2) scAllA.nd rfl (Or.inr rfl))
        (pss_one (ps_setLc2 (i := 1) (own := [("answers", 3), ("result", 4)]) (vs1 := [4]) (g := gName 3) (tt := tYes) (g1 := gName 4) (tt1 := tYes) rfl scAllA.nd rfl rfl (sw_true rfl rfl rfl (by decide +kernel)) (pi_list (pv 1))
          (blkOk_by (own := [("answers", 3), ("result", 4)]) (N := ["modules", "found", "name", "answers", "result"]) (sc := defScope sAllA) (by decide +kernel)) (by decide)
          (fun _ _ _ _ _ => pg_name (i := 3) scAllA.nd rfl (Or.inl rfl)) (fun _ _ _ _ _ => pts_nil)
          (fun _ _ _ _ _ => pi_tupK (K := K) (pe_glob (v := .ref aR) rfl gR rfl)) (fun _ _ _ _ _ => pg_name (i := 4) scAllA.nd rfl (Or.inl rfl)) (fun _ _ _ _ _ => pts_nil)
          (fun _ _ _ _ _ => pe_op op_orD (pv 3) (pe_disp (pps_cons (pv 2) (pv 4) pps_nil) (by rfl) (by rfl) (fun z => by cases z) (by decide))))))
      (pss_one (ps_ret (pv 1)))), ?_⟩
    intro d0 nd0
    refine ⟨by show 1 ≤ sizeLine; decide, fun fo nfo => ?_⟩
    have s1 : Same H (upd (upd H d0 (.dK [])) fo (.lst [.ref d0])) := Same.new (Same.new (Same.refl H) nd0) nfo
    have h0f : d0 ≠ fo := ne_of_none (show (upd H d0 (.dK [])) d0 = some _ from upd_same) nfo
    have nfo0 : H fo = none := by rw [upd_ne h0f.symm] at nfo; exact nfo
    refine ⟨_, rfl, a, rfl, ⟨_, SqL.of (s1 _ _ hA)⟩, for_list (K := K) (a := a) (xs := ns.map V.str) (fun i σ H' => ∃ (fo : Addr) (xs : List V) (v2 v3 v4 : Option V), σ = [some (.ref a), some (.ref fo), v2, v3, v4] ∧ Same H H' ∧ H fo = none ∧ H' fo = some (.lst xs) ∧ AnL H' (ns.take i) (allC i) xs)
      ⟨fo, _, _, _, _, rfl, s1, nfo0, upd_same, .cons ⟨d0, rfl, by rw [upd_ne h0f]; exact upd_same⟩ .nil⟩ (fun i σ H' _ ⟨_, _, _, _, _, _, s, _⟩ => SqL.of (s _ _ hA)) ?_ ?_⟩
    · rintro i x σ H' hi ⟨fo, xs, v2, v3, v4, rfl, s, nfo, hfo, hT⟩
      have hi6 : i < 6 := by have := get_len hi; rw [List.length_map] at this; omega
      have hxl : xs.length = 4 ^ i := by rw [← Paired.length hT, allC_len]
      have h4i : 4 ^ i * 4 ≤ 4096 := by rw [← Nat.pow_succ]; exact four_le (by omega)
      rw [List.getElem?_map] at hi
      obtain ⟨m, hm, rfl⟩ : ∃ m, ns[i]? = some m ∧ x = V.str m := by
        cases e : ns[i]? with
        | none => rw [e] at hi; cases hi
        | some m => rw [e] at hi; exact ⟨m, rfl, (Option.some.inj hi).symm⟩
      have hmt : m ∉ ns.take i := by
        intro z
        have hs := take_snoc' hm
        have nd1 : (ns.take (i + 1)).Nodup := hnd.sublist (List.take_sublist _ _)
        rw [hs] at nd1
        have := (List.nodup_append.mp nd1).2.2 m z m (List.mem_singleton_self _)
        exact this rfl
      have hil : (ns.take i).length = i := by rw [List.length_take, Nat.min_eq_left (Nat.le_of_lt (get_len hm))]
      refine ⟨_, rfl, fo, rfl, ⟨_, SqL.of hfo⟩, fun D nD => ?_⟩
      have hDo : H' D = none := nD
      refine ⟨fun j k H2 => k = xs.length - j ∧ j ≤ xs.length ∧ Same H' H2 ∧ ∃ ys, H2 D = some (.lst ys) ∧ AnL H2 (ns.take (i + 1)) (((allC i).take j).flatMap fun c => ress.map fun r => c ++ [r]) ys, ⟨xs.length, by simp, Nat.zero_le _, Same.new (Same.refl _) nD, [], upd_same, .nil⟩, ?_⟩
      rintro j k H2 ⟨rfl, hj, s2, ys, hD, hY⟩
      by_cases hlt : j < xs.length
      · have hxj : xs[j]? = some xs[j] := List.getElem?_eq_getElem hlt
        refine .inr ⟨⟨xs, xs[j], SqL.of (s2 _ _ hfo), hxj⟩, fun H3 => j + 1 ≤ xs.length ∧ Same H' H3 ∧ ∃ ys, H3 D = some (.lst ys) ∧ AnL H3 (ns.take (i + 1)) (((allC i).take (j + 1)).flatMap fun c => ress.map fun r => c ++ [r]) ys, fun H3 ⟨h1, h2, h3⟩ => ⟨xs.length - (j + 1), by omega, rfl, h1, h2, h3⟩, fun y H3 hy => ?_⟩
        obtain ⟨e3, hy⟩ := hy
        subst e3
        have hy := hy xs (SqL.of (s2 _ _ hfo))
        rw [hxj] at hy
        obtain ⟨c, hcj, dc, exj, hdc⟩ := paired_get hT hxj
        have ey : y = .ref dc := by rw [← Option.some.inj hy]; exact exj
        subst ey
        have hcl : c.length = i := (allC_mem i c (List.mem_of_getElem? hcj)).1
        have hyl : ys.length = 4 * j := by
          rw [← Paired.length hY, List.length_flatMap]
          have e1 : ((allC i).take j).map (fun c => (ress.map fun r => c ++ [r]).length) = List.replicate j 4 := by
            rw [List.eq_replicate_iff]
            refine ⟨?_, fun z hz => ?_⟩
            · rw [List.length_map, List.length_take, Nat.min_eq_left]
              exact Nat.le_of_lt (get_len hcj)
            · obtain ⟨c, _, e⟩ := List.mem_map.mp hz
              rw [← e, List.length_map]; rfl
          rw [e1, List.sum_replicate_nat]; omega
        refine ⟨rfl, ?_⟩
        refine ⟨aR, rfl, ⟨_, hR _⟩, lc_tupW (K := K) (a := aR) (xs := ress.map V.str) (fun k H4 => Same H' H4 ∧ ∃ zs, H4 D = some (.lst (ys ++ zs)) ∧ AnL H4 (ns.take (i + 1)) (((allC i).take j).flatMap fun c => ress.map fun r => c ++ [r]) ys ∧ AnL H4 (ns.take (i + 1)) ((ress.take k).map fun r => c ++ [r]) zs)
          ⟨s2, [], by rw [List.append_nil]; exact hD, hY, .nil⟩ (fun k H4 _ _ => hR _) ?_ ?_⟩
        · rintro k z H4 hk ⟨s4, zs, hD4, hY4, hZ4⟩
          have hk' := hk
          rw [List.getElem?_map] at hk'
          obtain ⟨rr, hrr, rfl⟩ : ∃ rr, ress[k]? = some rr ∧ z = V.str rr := by
            cases e : ress[k]? with
            | none => rw [e] at hk'; cases hk'
            | some rr => rw [e] at hk'; exact ⟨rr, rfl, (Option.some.inj hk').symm⟩
          have hdc4 := s4 _ _ hdc
          have hzl : zs.length ≤ 4 := by rw [← Paired.length hZ4, List.length_map, List.length_take]; exact Nat.min_le_right _ _
          refine ⟨rfl, ?_⟩
          refine ⟨_, rfl, fun dp ndp => ?_⟩
          refine ⟨_, rfl, _, rfl, upd_same, [(Sum.inr m, .str rr)], rfl, by show 1 ≤ 15; decide, ?_⟩
          have sA : Same H4 (upd H4 dp (.dK [])) := Same.new (Same.refl _) ndp
          have sB : Same H4 (upd (upd H4 dp (.dK [])) dp (.dK (mergeK [] [(Sum.inr m, V.str rr)]))) := Same.own sA ndp
          have emg : mergeK [] [((Sum.inr m : Key), V.str rr)] = [(Sum.inr m, .str rr)] := merge_one valV_nil
          have ekv : mergeK (kvsOf (ns.take i) c) [((Sum.inr m : Key), V.str rr)] = kvsOf (ns.take (i + 1)) (c ++ [rr]) := by
            rw [merge_one (kvs_none hmt), take_snoc' hm, kvs_snoc (by rw [hcl, hil])]
          refine ⟨dc, dp, _, _, rfl, rfl, sB _ _ hdc4, by rw [upd_same, emg], ?_, fun p np => ?_⟩
          · rw [kvs_len (by rw [hcl, hil]), hil]; exact Nat.le_of_lt (small1000 (by show i + 1 ≤ 1000; omega))
          rw [ekv]
          have sP : Same H4 (upd (upd (upd H4 dp (.dK [])) dp (.dK (mergeK [] [(Sum.inr m, V.str rr)]))) p (.dK (kvsOf (ns.take (i + 1)) (c ++ [rr])))) := Same.new sB np
          have npD : p ≠ D := fun z => by have := sB _ _ hD4; rw [← z, np] at this; cases this
          have keepD : ∀ {cs : List (List Str)} {us : List V}, AnL H4 (ns.take (i + 1)) cs us → AnL (upd (upd (upd (upd H4 dp (.dK [])) dp (.dK (mergeK [] [(Sum.inr m, V.str rr)]))) p (.dK (kvsOf (ns.take (i + 1)) (c ++ [rr])))) D (.lst ((ys ++ zs) ++ [.ref p]))) (ns.take (i + 1)) cs us := fun h => Paired.mapP h fun c' v ⟨t', e, h'⟩ => ⟨t', e, by
            have : t' ≠ D := fun z => by rw [z, hD4] at h'; cases h'
            rw [upd_ne this]; exact sP _ _ h'⟩
          refine ⟨ys ++ zs, sP _ _ hD4, le_line (by rw [List.length_append]; omega), Same.own (s4.trans sP) hDo, zs ++ [.ref p], ?_, keepD hY4, ?_⟩
          · rw [upd_same, List.append_assoc]
          · rw [take_snoc' hrr, List.map_append]
            exact paired_app (keepD hZ4) (.cons ⟨p, rfl, by rw [upd_ne npD]; exact upd_same⟩ .nil)
        · rintro H4 ⟨s4, zs, hD4, hY4, hZ4⟩
          refine ⟨hlt, s4, ys ++ zs, hD4, ?_⟩
          rw [take_snoc' hcj, List.flatMap_append]
          refine paired_app hY4 ?_
          rw [List.flatMap_cons, List.flatMap_nil, List.append_nil]
          exact hZ4
      · have ej : j = xs.length := by omega
        subst ej
        refine .inl ⟨⟨xs, SqL.of (s2 _ _ hfo), Nat.le_refl _⟩, ?_⟩
        refine ⟨D, ys, _, _, _, rfl, s.trans s2, s.free hDo, hD, ?_⟩
        have e : (allC i).take xs.length = allC i := by rw [hxl, ← allC_len i, List.take_length]
        rw [e] at hY
        exact hY
    · rintro σ H' ⟨fo, xs, v2, v3, v4, rfl, s, nfo, hfo, hT⟩
      rw [List.length_map, List.take_length] at hT
      exact ⟨_, rfl, q H' fo xs s nfo hfo hT⟩
end
end K9
end
section
set_option Elab.async false
set_option linter.all false
set_option maxRecDepth 100000
set_option maxHeartbeats 8000000
/-! The program: two stacks beside one another. -/
namespace K9
open PySem PySem.Spec PyProof.Rows L2
/-- answers, and where they lead in both -/
def boR (H : Hp) (ns : List Str) (e f : Es) (c : List Str) (v : V) : Prop := ∃ t d, v = .ref t ∧ H t = some (.tup [.ref d, .str (inW (win (lk ns c) e)), .str (inW (win (lk ns c) f))]) ∧ H d = some (.dK (kvsOf ns c))
def BoL (H : Hp) (ns : List Str) (e f : Es) (cs : List (List Str)) (xs : List V) : Prop := Paired (fun c v => boR H ns e f c v) cs xs
theorem boR.mono {A B : Hp} (s : Same A B) {ns : List Str} {e f : Es} {c : List Str} {v : V} : boR A ns e f c v → boR B ns e f c v := fun ⟨t, d, h, a, b⟩ => ⟨t, d, h, s _ _ a, s _ _ b⟩
theorem BoL.mono {A B : Hp} (s : Same A B) {ns : List Str} {e f : Es} {cs : List (List Str)} {xs : List V} (h : BoL A ns e f cs xs) : BoL B ns e f cs xs := Paired.mapP h fun _ _ => boR.mono s
section
variable (K : PySem.W.Frag) (C D : Addr)
/-- two stacks that are compared -/
def Two (H : Hp) (v u : V) (e f : Es) : Prop := SkAt C D H e v ∧ SkAt C D H f u ∧ Runs e 3 ∧ Runs f 3 ∧ cnt e + cnt f ≤ 60
/-- the answer behind two stacks: told for the modules of both, or TooMany -/
def spCmp (TM : Addr) (R : Hp → List Str → Es → Es → V → Prop) : Sp := fun vs H Q E => ∃ (v u : V) (e f : Es), vs = [v, u] ∧ Two C D H v u e f ∧ (∀ ns, Nm ns (mods e ++ mods f) → ns.length ≤ 6 → ∀ (H' : Hp) (x : V), Same H H' → R H' ns e f x → Q x H') ∧
  (∀ ns, Nm ns (mods e ++ mods f) → 6 < ns.length → ∀ H', Same H H' → E (.ref TM) none H')
abbrev RBoth : Hp → List Str → Es → Es → V → Prop := fun H ns e f x => ∃ p xs, x = .ref p ∧ H p = some (.lst xs) ∧ BoL H ns e f (allC ns.length) xs
/-- the first answers that lead elsewhere, and where -/
abbrev RDiff : Hp → List Str → Es → Es → V → Prop := fun H ns e f x => match firstD e f ns with
  | none => x = .non
  | some c => ∃ t d, x = .ref t ∧ H t = some (.tup [.ref d, .str (inW (win (lk ns c) e))]) ∧ H d = some (.dK (kvsOf ns c))
abbrev RAlike : Hp → List Str → Es → Es → V → Prop := fun _ ns e f x => x = .bl (firstD e f ns).isNone
abbrev RStrict : Hp → List Str → Es → Es → V → Prop := fun _ ns e f x => x = .bl (strict e f ns)
end
structure Texc (K : PySem.W.Frag) (mg : Str → Option Value) (TM : Addr) : Prop where
  g : mg "TooMany" = some (.ref TM)
  x : PySem.W.excIn K TM [.type "ValueError", .type "Exception", .type "BaseException", .type "object"] "ValueError.__new__" = true
  kp : PySem.W.keepIn K (.ref TM) = true
  b : PySem.W.subIn K (.ref TM) (.type "BaseException") = some true
  t : PySem.W.typeIn K (.ref TM) = some (.type "type")
theorem mods_len (e : Es) : (mods e).length = cnt e := by unfold mods; rw [List.length_map]
section
variable {P : Program} {w : World} {K : PySem.W.Frag} {mg : Str → Option Value} {base : Heap} {C D N TM : Addr}
theorem ok_both {f fI fO fA : Addr} {fd fdI fdO fdA : FuncData} (F : Fun K "both_outcomes" "both_outcomes" sBoth f fd) (zs : mg "sorted" = none) (zset : mg "set" = none) (zl : mg "len" = none) (mM : ∃ t, mg "MOST_MODULES" = some (.int 6 t)) (T : Tst C D K mg) (TN : Tn K mg N) (TX : Texc K mg TM)
    (MN : Mk K N fI) (GI : FnOk P w K mg base CX0 7 fI fdI ["self", "stack", "results"] (spNI C D N K)) (bI : Binds K fdI ["self", "stack", "results"] []) (mO : Meth K N "outcome" fO) (GO : FnOk P w K mg base CX0 1 fO fdO ["self"] (spNO N K)) (bO : Binds K fdO ["self"] [])
    (AA : Cl P w K mg base CX0 1 "all_answers" ["modules"] spAllA fA fdA) : FnOk P w K mg base (L2.CX P w) 9 f fd ["one", "other"] (spCmp C D TM RBoth) := by
  refine F.okX scBoth (fun vs H Q E h => ?_) (fun cdv A outer s H vs Q E hr h => ?_)
  · obtain ⟨_, _, _, _, rfl, _⟩ := h
    rfl
  · obtain ⟨v, u, e, g, rfl, ⟨hv, hu, hRe, hRg, hc⟩, q1, q2⟩ := h
    obtain ⟨tM, gM⟩ := mM
    have hr1 : Room 1 _ := hr.mono (by decide)
    refine ⟨_, pss_cons (ps_set (i := 2) scBoth.nd rfl (Or.inl rfl) (pe_callB (cr_sortSetS rfl) (by rfl) zs (by decide +kernel) (pa_cons (pe_callTy (cr_setS rfl) (by rfl) zset (by decide +kernel) (pa_cons (pe_op op_catA (pe_fld (pv 0) rfl) (pe_fld (pv 1) rfl)) pa_nil)) pa_nil)))
      (pss_cons (ps_if (pt_cmpR op_gt (pe_callB call_len_seq (by rfl) zl PySem.boot_len (pa_cons (pv 2) pa_nil)) (pe_glob (v := .int 6) rfl gM ⟨_, rfl⟩) (nomark _))
        (pss_one (ps_raise rfl (takes_of rfl rfl rfl rfl) (pmk_own PySem.F.excBase_ValueError TX.x TX.g TX.kp (raises_own TX.b TX.t) rfl))) pss_nil)
      (pss_one (ps_ret (pe_lc (own := [("answers", 3)]) (g := gName 3) (tt := tYes) rfl scBoth.nd (pi_list (pe_call AA.ok hr1 rfl AA.g AA.kp AA.b .nil pass0 (pa_cons (pv 2) pa_nil)))
        (blkOk_by (own := [("answers", 3)]) (N := ["one", "other", "names", "answers"]) (sc := defScope sBoth) (by decide +kernel)) (fun _ _ _ _ _ => pg_name (i := 3) scBoth.nd rfl (Or.inl rfl)) (fun _ _ _ _ _ => pts_nil)
        (fun _ _ _ _ _ => pe_tup (pa_cons (pv 3) (pa_cons (pe_meth0 (pe_make MN GI hr rfl TN.gN bI .nil pass0 (pa_cons (pv 0) (pa_cons (pv 3) pa_nil))) TN.cl mO GO hr1 bO .nil pass0)
          (pa_cons (pe_meth0 (pe_make MN GI hr rfl TN.gN bI .nil pass0 (pa_cons (pv 1) (pa_cons (pv 3) pa_nil))) TN.cl mO GO hr1 bO .nil pass0) pa_nil)))))))), ?_⟩
    obtain ⟨p1, dx1, pa1, st1, nm1, zs1, ss1, ns1, rfl, hp1, _, _, _, _, hnm1, hN1⟩ := id hv
    obtain ⟨p2, dx2, pa2, st2, nm2, zs2, ss2, ns2, rfl, hp2, _, _, _, _, hnm2, hN2⟩ := id hu
    have hl1 : ns1.length ≤ cnt e := by rw [← mods_len]; exact nm_le hN1 fun m h => h
    have hl2 : ns2.length ≤ cnt g := by rw [← mods_len]; exact nm_le hN2 fun m h => h
    refine ⟨_, rfl, p1, D, dx1, _, _, rfl, hp1, T.iD.cl, T.aN, sf_names _ _ _ _, _, rfl, p2, D, dx2, _, _, rfl, hp2, T.iD.cl, T.aN, sf_names _ _ _ _, ?_⟩
    refine catA_any hnm1 hnm2 (Nat.le_of_lt (small1000 (by rw [List.length_map, List.length_map]; omega))) fun H1 pt s1 hpt => ?_
    rw [← List.map_append] at hpt
    refine ⟨pt, ns1 ++ ns2, rfl, .inr (SqT.of hpt), by rw [List.length_append]; omega, fun sa n nsa hn => ?_⟩
    rw [List.length_append] at hn
    refine ⟨sa, _, n, rfl, upd_same, by omega, fun ns lp hs hnd hmem hln nlp => ?_⟩
    have hNm : Nm ns (mods e ++ mods g) := ⟨hs, hnd, fun m => by
      rw [hmem m, decide_eq_true_iff, List.mem_append, List.mem_append, hN1.2.2 m, hN2.2.2 m]⟩
    have s2 := Same.new (o := HO.lst (ns.map V.str)) (Same.new s1 nsa) nlp
    have hlp : (upd (upd H1 sa _) lp (.lst (ns.map V.str))) lp = some (.lst (ns.map V.str)) := upd_same (H := upd H1 sa (SetSO w sa (fun k => decide (k ∈ ns1 ++ ns2)) n))
    refine ⟨_, rfl, lp, _, rfl, .inl (SqL.of upd_same), _, _, rfl, rfl, _, rfl, ?_⟩
    refine ite2 (fun h6 => ?_) (fun h6 => ?_)
    · have h6 := of_decide_eq_true h6
      rw [List.length_map] at h6
      exact q2 ns hNm (by omega) _ s2
    have h6 : ns.length ≤ 6 := by
      have : ¬ (6 : Int) < ((List.map V.str ns).length : Nat) := fun z => h6 (decide_eq_true z)
      rw [List.length_map] at this
      omega
    refine ⟨_, rfl, lp, ns, rfl, upd_same, hnd, h6, fun H3 ap xs s3 nap hap hAn => ?_⟩
    have s0 : Same H H3 := s2.trans s3
    have hxl : xs.length = 4 ^ ns.length := by rw [← Paired.length hAn, allC_len]
    refine ⟨ap, rfl, ⟨_, SqL.of hap⟩, fun Dl nD => ?_⟩
    refine lc_list (K := K) (a := ap) (xs := xs) (fun i H' => Same H3 H' ∧ ∃ ys, H' Dl = some (.lst ys) ∧ BoL H' ns e g ((allC ns.length).take i) ys) ⟨Same.new (Same.refl _) nD, [], upd_same, .nil⟩ (fun i H' _ ⟨s, _⟩ => SqL.of (s _ _ hap)) ?_ ?_
    · rintro i x H' hi ⟨s', ys, hD, hY⟩
      obtain ⟨c, hci, d, rfl, hd⟩ := paired_get hAn hi
      obtain ⟨hcl, hcr⟩ := allC_mem _ c (List.mem_of_getElem? hci)
      have hyl : ys.length ≤ 4096 := by
        rw [← Paired.length hY]
        refine Nat.le_trans (List.length_take_le _ _) ?_
        have := get_len hi
        rw [hxl] at this
        exact Nat.le_trans (Nat.le_of_lt this) (four_le h6)
      refine ⟨rfl, ?_⟩
      refine ⟨_, rfl, ?_⟩
      · refine ⟨_, rfl, _, rfl, fun x1 dx1 nx1 ndx1 nex1 => ?_⟩
        have sm : Same H' (cut x1 (upd (upd H' dx1 (.own x1)) x1 (.ins N dx1 []))) := made_cut nx1 ndx1
        have hk : SkAt C D H' e (.ref p1) := SkAt.mono (s0.trans s') hv
        refine ⟨x1, dx1, d, .ref p1, e, lk ns c, rfl, upd_same, SkAt.mono sm hk, hRe, ?_, fun H5 l1 mv1 b5 h5 hm5 => ⟨rfl, ?_⟩⟩
        · refine AnsOk.mono (cut_sub _ _) (AnsOk.mono (sm) (ls := mods e) (ms := mods e) ⟨kvsOf ns c, s' _ _ hd, fun m hm => kvs_val hcl hcr (hNm.2.2 m |>.mpr (List.mem_append_left _ hm))⟩ fun _ h => h) fun _ h => h
        have sr : Same H' H5 := Same.made nx1 ndx1 fun b' o e n => b5 b' o n e
        refine ⟨x1, dx1, _, rfl, h5, nf3_no _ _ _ (by decide +kernel) (by decide +kernel) (by decide +kernel), x1, dx1, d, l1, mv1, _, rfl, h5, hm5, fun H6 s6 => ?_⟩
        have sA := sr.trans s6
        clear sr hk sm
        refine ⟨_, rfl, _, rfl, fun x2 dx2 nx2 ndx2 nex2 => ?_⟩
        have sm : Same H6 (cut x2 (upd (upd H6 dx2 (.own x2)) x2 (.ins N dx2 []))) := made_cut nx2 ndx2
        have hk : SkAt C D H6 g (.ref p2) := SkAt.mono ((s0.trans s').trans sA) hu
        refine ⟨x2, dx2, d, .ref p2, g, lk ns c, rfl, upd_same, SkAt.mono sm hk, hRg, ?_, fun H7 l2 mv2 b7 h7 hm7 => ⟨rfl, ?_⟩⟩
        · refine AnsOk.mono (cut_sub _ _) (AnsOk.mono (sm) (ls := mods g) (ms := mods g) ⟨kvsOf ns c, sA _ _ (s' _ _ hd), fun m hm => kvs_val hcl hcr (hNm.2.2 m |>.mpr (List.mem_append_right _ hm))⟩ fun _ h => h) fun _ h => h
        have sr : Same H6 H7 := Same.made nx2 ndx2 fun b' o e n => b7 b' o n e
        refine ⟨x2, dx2, _, rfl, h7, nf3_no _ _ _ (by decide +kernel) (by decide +kernel) (by decide +kernel), x2, dx2, d, l2, mv2, _, rfl, h7, hm7, fun H8 s8 => ?_⟩
        have sB := sr.trans s8
        clear sr hk sm
        refine ⟨by show 3 ≤ sizeLine; decide, fun t nt => ?_⟩
        have hD8 : H8 Dl = some (.lst ys) := sB _ _ (sA _ _ hD)
        have ntD : t ≠ Dl := fun z => by rw [z, hD8] at nt; cases nt
        have sT := Same.new (o := HO.tup [.ref d, .str (inW (win (lk ns c) e)), .str (inW (win (lk ns c) g))]) (sA.trans sB) nt
        refine ⟨ys, sT _ _ hD, le_line hyl, Same.own (s'.trans sT) nD, ys ++ [.ref t], upd_same, ?_⟩
        rw [take_snoc' hci]
        have hdt : d ≠ Dl := fun z => by have := s' _ _ hd; rw [z, hD] at this; cases this
        refine paired_app ?_ (.cons ⟨t, d, rfl, by rw [upd_ne ntD]; exact upd_same, by rw [upd_ne hdt]; exact sT _ _ (s' _ _ hd)⟩ .nil)
        refine Paired.mapP hY fun c' v' ⟨t', d', e', h1, h2⟩ => ⟨t', d', e', ?_, ?_⟩
        · rw [upd_ne (fun z => by rw [z, hD] at h1; cases h1)]; exact sT _ _ h1
        · rw [upd_ne (fun z => by rw [z, hD] at h2; cases h2)]; exact sT _ _ h2
    · rintro H' ⟨s', ys, hD, hY⟩
      have el : (allC ns.length).take xs.length = allC ns.length := by rw [hxl, ← allC_len ns.length, List.take_length]
      rw [el] at hY
      exact q1 ns hNm h6 H' (.ref Dl) (s0.trans s') ⟨Dl, ys, rfl, hD, hY⟩
end
end K9
end
section
set_option Elab.async false
set_option linter.all false
set_option maxRecDepth 100000
set_option maxHeartbeats 8000000
/-! The program: differences, likeness, strictness. -/
namespace K9
open PySem PySem.Spec PyProof.Rows L2
theorem pg_tupK {X : Cx} {K : PySem.W.Frag} {ts : List Expr} {k : Nat} {pos : Pos} {n : Nat} {t : TGs} (h : ∀ {X' : Cx}, X' = X → PG X' (.Tuple ts k pos) (gTup X'.K n t)) (e : X.K = K := by rfl) : PG X (.Tuple ts k pos) (gTup K n t) := by subst e; exact h rfl
theorem find_at {α : Type} {p : α → Bool} {l : List α} {i : Nat} {c : α} (hi : l[i]? = some c) (hn : ∀ x ∈ l.take i, p x = false) (hc : p c = true) : l.find? p = some c := by
  obtain ⟨h1, h2⟩ := List.getElem?_eq_some_iff.mp hi
  rw [← List.take_append_drop i l, List.find?_append]
  have e1 : (l.take i).find? p = none := by
    rw [List.find?_eq_none]
    intro x hx
    rw [hn x hx]
    exact Bool.false_ne_true
  rw [e1, Option.none_or, List.drop_eq_getElem_cons h1, h2, List.find?_cons_of_pos hc]
theorem inW_dec (b : Bool) : decide (V.str (inW b) = V.str "in") = b := by cases b <;> decide +kernel
theorem inW_ne (a b : Bool) : (!decide (V.str (inW a) = V.str (inW b))) = (a != b) := by cases a <;> cases b <;> decide +kernel
section
variable {P : Program} {w : World} {K : PySem.W.Frag} {mg : Str → Option Value} {base : Heap} {C D N TM : Addr}
theorem ok_diff {f fB : Addr} {fd fdB : FuncData} (F : Fun K "first_difference" "first_difference" sDiff f fd) (B : Cl P w K mg base (L2.CX P w) 9 "both_outcomes" ["one", "other"] (spCmp C D TM RBoth) fB fdB) : FnOk P w K mg base (L2.CX P w) 10 f fd ["one", "other"] (spCmp C D TM RDiff) := by
  refine F.okX scDiff (fun vs H Q E h => ?_) (fun cdv A outer s H vs Q E hr h => ?_)
  · obtain ⟨_, _, _, _, rfl, _⟩ := h
    rfl
  · obtain ⟨v, u, e, g, rfl, hT, q1, q2⟩ := h
    refine ⟨_, pss_cons (ps_for (passes_of rfl) rfl (pi_list (pe_call B.ok hr rfl B.g B.kp B.b .nil (passes_call (takes_of rfl rfl rfl rfl) (fun _ _ _ _ z => z)) (pa_cons (pv 0) (pa_cons (pv 1) pa_nil))))
        (pg_tup (by rfl) (pgs_cons (pg_name (i := 2) scDiff.nd rfl (.inl rfl)) (pgs_cons (pg_name (i := 3) scDiff.nd rfl (.inl rfl)) (pgs_cons (pg_name (i := 4) scDiff.nd rfl (.inl rfl)) pgs_nil))))
        (pss_one (ps_if (pt_cmpR op_ne (pv 3) (pv 4) (nomark _)) (pss_one (ps_ret (pe_tup (pa_cons (pv 2) (pa_cons (pv 3) pa_nil))))) pss_nil)))
      (pss_one (ps_ret pe_non)), ?_⟩
    refine ⟨_, rfl, _, rfl, v, u, e, g, rfl, hT, fun ns hN h6 H1 x s1 hR => ?_, q2⟩
    obtain ⟨p, xs, rfl, hp, hB⟩ := hR
    refine ⟨p, rfl, ⟨_, SqL.of hp⟩, for_list (K := K) (a := p) (xs := xs) (fun i σ H' => ∃ (v2 v3 v4 : Option V), σ = [some v, some u, v2, v3, v4] ∧ H' = H1 ∧ ∀ c ∈ (allC ns.length).take i, (win (lk ns c) e != win (lk ns c) g) = false)
      ⟨_, _, _, rfl, rfl, fun c hc => nomatch hc⟩ (fun i σ H' _ ⟨_, _, _, _, eH, _⟩ => by rw [eH]; exact SqL.of hp) ?_ ?_⟩
    · rintro i x σ H' hi ⟨v2, v3, v4, rfl, eH, hn⟩
      rw [eH]
      obtain ⟨c, hci, t, d, rfl, ht, hd⟩ := paired_get hB hi
      refine ⟨t, _, rfl, SqT.of ht, rfl, _, _, rfl, _, _, rfl, _, _, rfl, rfl, ?_⟩
      refine ⟨_, rfl, _, rfl, rfl, _, rfl, ?_⟩
      rw [inW_ne]
      refine ite2 (fun h => ?_) (fun h => ?_)
      · have hf : firstD e g ns = some c := find_at hci hn h
        refine ⟨_, rfl, _, rfl, by show 2 ≤ sizeLine; decide, fun t2 n2 => ?_⟩
        have s2 := Same.new (o := HO.tup [.ref d, .str (inW (win (lk ns c) e))]) s1 n2
        refine q1 ns hN h6 _ _ s2 ?_
        show (match firstD e g ns with | none => _ | some c => _)
        rw [hf]
        exact ⟨t2, d, rfl, upd_same, by rw [upd_ne (ne_of_none hd n2)]; exact hd⟩
      · refine ⟨_, _, _, rfl, rfl, fun c' hc' => ?_⟩
        rw [take_snoc' hci] at hc'
        rcases List.mem_append.mp hc' with hc' | hc'
        · exact hn c' hc'
        · rw [List.mem_singleton.mp hc']
          cases hh : (win (lk ns c) e != win (lk ns c) g) with
          | false => rfl
          | true => exact absurd hh h
    · rintro σ H' ⟨v2, v3, v4, rfl, eH, hn⟩
      rw [eH]
      have el : (allC ns.length).take xs.length = allC ns.length := by rw [← Paired.length hB, List.take_length]
      rw [el] at hn
      have hf : firstD e g ns = none := by
        unfold firstD
        rw [List.find?_eq_none]
        intro c hc
        rw [hn c hc]
        exact Bool.false_ne_true
      refine q1 ns hN h6 H1 _ s1 ?_
      show (match firstD e g ns with | none => _ | some c => _)
      rw [hf]
theorem ok_alike {f fB : Addr} {fd fdB : FuncData} (F : Fun K "alike" "alike" sAlike f fd) (B : Cl P w K mg base (L2.CX P w) 10 "first_difference" ["one", "other"] (spCmp C D TM RDiff) fB fdB) : FnOk P w K mg base (L2.CX P w) 11 f fd ["one", "other"] (spCmp C D TM RAlike) := by
  refine F.okX scAlike (fun vs H Q E h => ?_) (fun cdv A outer s H vs Q E hr h => ?_)
  · obtain ⟨_, _, _, _, rfl, _⟩ := h
    rfl
  · obtain ⟨v, u, e, g, rfl, hT, q1, q2⟩ := h
    refine ⟨_, pss_one (ps_ret (pe_cmp (pc_isN (pe_call B.ok hr rfl B.g B.kp B.b .nil (passes_call (takes_of rfl rfl rfl rfl) (fun _ _ _ _ z => z)) (pa_cons (pv 0) (pa_cons (pv 1) pa_nil)))))), ?_⟩
    refine ⟨_, rfl, _, rfl, v, u, e, g, rfl, hT, fun ns hN h6 H1 x s1 hR => ?_, q2⟩
    refine q1 ns hN h6 H1 _ s1 ?_
    have hR : (match firstD e g ns with | none => x = V.non | some c => ∃ t d, x = .ref t ∧ H1 t = some (.tup [.ref d, .str (inW (win (lk ns c) e))]) ∧ H1 d = some (.dK (kvsOf ns c))) := hR
    show V.bl (decide (x = .non)) = .bl (firstD e g ns).isNone
    cases hf : firstD e g ns with
    | none => rw [hf] at hR; rw [hR]; rfl
    | some c => rw [hf] at hR; obtain ⟨t, d, rfl, _⟩ := hR; rfl
theorem ok_strict {f fB : Addr} {fd fdB : FuncData} (F : Fun K "is_stricter" "is_stricter" sStrict f fd) (za : mg "all" = none) (gI : ∃ t, mg "IN" = some (.str "in" t)) (B : Cl P w K mg base (L2.CX P w) 9 "both_outcomes" ["one", "other"] (spCmp C D TM RBoth) fB fdB) :
    FnOk P w K mg base (L2.CX P w) 10 f fd ["one", "other"] (spCmp C D TM RStrict) := by
  refine F.okX scStrict (fun vs H Q E h => ?_) (fun cdv A outer s H vs Q E hr h => ?_)
  · obtain ⟨_, _, _, _, rfl, _⟩ := h
    rfl
  · obtain ⟨v, u, e, g, rfl, hT, q1, q2⟩ := h
    obtain ⟨tI, gI⟩ := gI
    refine ⟨_, pss_one (ps_ret (pe_callB (cr_all rfl) (by rfl) za (by decide +kernel) (pa_cons
      (pe_lc (own := [("answers", 2), ("here", 3), ("there", 4)]) (g := gTup K 3 (gCons (gName 2) (gCons (gName 3) (gCons (gName 4) gNil)))) rfl scStrict.nd
        (pi_list (pe_call B.ok hr rfl B.g B.kp B.b .nil (passes_call (takes_of rfl rfl rfl rfl) (fun _ _ _ _ z => z)) (pa_cons (pv 0) (pa_cons (pv 1) pa_nil))))
        (blkOk_by (own := [("answers", 2), ("here", 3), ("there", 4)]) (N := ["one", "other", "answers", "here", "there"]) (sc := defScope sStrict) (by decide +kernel))
        (fun _ _ _ _ _ => pg_tup (by rfl) (pgs_cons (pg_name (i := 2) scStrict.nd rfl (.inl rfl)) (pgs_cons (pg_name (i := 3) scStrict.nd rfl (.inl rfl)) (pgs_cons (pg_name (i := 4) scStrict.nd rfl (.inl rfl)) pgs_nil))))
        (fun _ _ _ _ _ => pts_one (pt_cmpR op_eq (pv 3) (pe_glob (v := .str "in") rfl gI ⟨_, rfl⟩) (nomark _)))
        (fun _ _ _ _ _ => pe_cmpR op_eq (pv 4) (pe_glob (v := .str "in") rfl gI ⟨_, rfl⟩) (nomark _))) pa_nil))), ?_⟩
    refine ⟨_, rfl, _, rfl, v, u, e, g, rfl, hT, fun ns hN h6 H1 x s1 hR => ?_, q2⟩
    obtain ⟨p, xs, rfl, hp, hB⟩ := hR
    have hxl : xs.length = 4 ^ ns.length := by rw [← Paired.length hB, allC_len]
    refine ⟨p, rfl, ⟨_, SqL.of hp⟩, fun Dl nD => ?_⟩
    refine lc_list (K := K) (a := p) (xs := xs) (fun i H' => Same H1 H' ∧ H' Dl = some (.lst (((((allC ns.length).take i).filter fun c => win (lk ns c) e).map fun c => win (lk ns c) g).map V.bl))) ⟨Same.new (Same.refl _) nD, upd_same⟩ (fun i H' _ ⟨s, _⟩ => SqL.of (s _ _ hp)) ?_ ?_
    · rintro i x H' hi ⟨s', hD⟩
      obtain ⟨c, hci, t, d, rfl, ht, hd⟩ := paired_get hB hi
      refine ⟨t, _, rfl, SqT.of (s' _ _ ht), rfl, _, _, rfl, _, _, rfl, _, _, rfl, rfl, ?_⟩
      refine ⟨rfl, ?_⟩
      refine ⟨_, rfl, rfl, _, rfl, ?_⟩
      rw [inW_dec]
      have hlen : ((((allC ns.length).take i).filter fun c => win (lk ns c) e).map fun c => win (lk ns c) g).length ≤ 4096 := by
        rw [List.length_map]
        refine Nat.le_trans (List.length_filter_le _ _) ?_
        refine Nat.le_trans (List.length_take_le _ _) ?_
        have := get_len hi
        rw [hxl] at this
        exact Nat.le_trans (Nat.le_of_lt this) (four_le h6)
      refine ite2 (fun h => ?_) (fun h => ?_)
      · refine ⟨_, rfl, rfl, _, hD, le_line (by rw [List.length_map]; exact hlen), Same.own s' nD, ?_⟩
        have ef : ([c].filter fun c => win (lk ns c) e) = [c] := by simp [h]
        rw [upd_same, inW_dec, take_snoc' hci, List.filter_append, List.map_append, List.map_append, ef]
        rfl
      · refine ⟨s', ?_⟩
        have ef : ([c].filter fun c => win (lk ns c) e) = [] := by simp [h]
        rw [take_snoc' hci, List.filter_append, ef, List.append_nil]
        exact hD
    · rintro H' ⟨s', hD⟩
      have el : (allC ns.length).take xs.length = allC ns.length := by rw [hxl, ← allC_len ns.length, List.take_length]
      rw [el] at hD
      refine ⟨Dl, _, rfl, SqL.of hD, ?_⟩
      refine q1 ns hN h6 H' _ (s1.trans s') ?_
      show V.bl _ = V.bl _
      rw [List.all_map]
      rfl
end
end K9
end
section
set_option Elab.async false
set_option linter.all false
set_option maxRecDepth 100000
set_option maxHeartbeats 8000000
/-! The law's word for what a call raises. -/
namespace K9
open PySem PySem.Spec PyProof.Rows L2
theorem pss_imp {X : Cx} {st : List Stmt} {t t' : TS} (h : PSs X st t) (k : ∀ D σ H, t' D σ H → t D σ H) : PSs X st t' := ⟨fun pins s σ H D I q => h.run pins s σ H D I (k D σ H q)⟩
theorem pss_len {X : Cx} {st : List Stmt} {t : TS} (h : PSs X st t) : PSs X st (fun D σ H => σ.length = X.N.length → t D σ H) := ⟨fun pins s σ H D I q => h.run pins s σ H D I (q I.len)⟩
theorem pss_when {X : Cx} {st : List Stmt} {t : TS} {p : Prop} (h : p → PSs X st t) : PSs X st (fun D σ H => p ∧ t D σ H) := ⟨fun pins s σ H D I q => (h q.1).run pins s σ H D I q.2⟩
/-- the classes that the law asks an error for -/
structure Tcs (K : PySem.W.Frag) (mg : Str → Option Value) (TM SE c0 c1 c2 c3 c4 c5 c7 c8 c9 : Addr) : Prop where
  gTM : mg "TooMany" = some (.ref TM)
  gSE : mg "StackError" = some (.ref SE)
  g0 : mg "InvalidRule" = some (.ref c0)
  g1 : mg "InvalidStack" = some (.ref c1)
  g2 : mg "InvalidAnswers" = some (.ref c2)
  g3 : mg "InvalidWeights" = some (.ref c3)
  g4 : mg "UnknownRule" = some (.ref c4)
  g5 : mg "InvalidPlace" = some (.ref c5)
  g7 : mg "UnknownModule" = some (.ref c7)
  g8 : mg "InvalidMode" = some (.ref c8)
  g9 : mg "UnknownView" = some (.ref c9)
  zV : mg "ValueError" = none
  zi : mg "isinstance" = none
  k0 : PySem.W.kitOne K (.ref TM) (.ref c0) = some false
  k1 : PySem.W.kitOne K (.ref TM) (.ref c1) = some false
  k2 : PySem.W.kitOne K (.ref TM) (.ref c2) = some false
  k3 : PySem.W.kitOne K (.ref TM) (.ref c3) = some false
  k4 : PySem.W.kitOne K (.ref TM) (.ref c4) = some false
  k5 : PySem.W.kitOne K (.ref TM) (.ref c5) = some false
  k6 : PySem.W.kitOne K (.ref TM) (.ref TM) = some true
  k7 : PySem.W.kitOne K (.ref TM) (.ref c7) = some false
  k8 : PySem.W.kitOne K (.ref TM) (.ref c8) = some false
  k9 : PySem.W.kitOne K (.ref TM) (.ref c9) = some false
  kV : PySem.W.kitOne K (.ref TM) (.type "ValueError") = some true
  ex : ExcC K TM
  em : PySem.W.exmOne K (.ref TM) (.ref SE) = some true
def TTr (TM : Addr) : (XK → Hp → VK → Prop) → Hp → VK → Prop := fun tl H Q =>
  tl (fun cls d H' => (cls = .ref TM ∧ d = none) ∧ ∀ (H'' : Hp) (t : Addr), Same H' H'' → H'' t = some (.tup [.str "many"]) → Q (.ref t) H'') H (fun _ H' => Q .non H')
theorem four_of {σ : L2.St} {x : Option V} (h : (σ.set 1 x).length = 4) : ∃ a b c, σ.set 1 x = [a, x, b, c] := by
  rw [List.length_set] at h
  match σ, h with
  | [a, y, b, c], _ => exact ⟨a, b, c, rfl⟩
abbrev nRaised : List Str := ["_law_work", "e", "_law_kinds", "_law_at"]
def bls : List V := [.bl false, .bl false, .bl false, .bl false, .bl false, .bl false, .bl true, .bl false, .bl false, .bl false]
theorem raised_gives {X : Cx} {g : Addr} {cdg : Value} {q : Str} {TM SE c0 c1 c2 c3 c4 c5 c7 c8 c9 : Addr} (T : Tcs X.K X.mg TM SE c0 c1 c2 c3 c4 c5 c7 c8 c9) :
    LamX.GivesTo X nRaised "_law_raised" (defScope lRaised) g cdg (defBody lRaised) "_law_work" q (TTr TM) := by
  intro f c' s H Q tl act hc h
  refine ⟨_, pss_cons (ps_try_as (X := (cxOf C8.CX0 X.prog X.w X.K X.mg X.base nRaised "_law_raised" (defScope lRaised) g cdg X.A X.stack s H C8.E0).nox) (i := 1) (c := .ref SE)
      (tb := fun W D σ H => ∃ Ech : XK, (∀ cls d σ' H', Ech cls d H' → W cls d σ' H') ∧ σ[0]? = some (some (.ref f)) ∧ H c' = some (LamX.CodeO c' q) ∧ tl Ech H (fun _ H1 => D.nx σ H1))
      (ts := fun a cls d D σ H => (cls = .ref TM ∧ d = none) ∧ (∃ σ' : L2.St, σ = σ'.set 1 (some (V.ref a))) ∧ ∀ (H'' : Hp) (t : Addr), Same H H'' → H'' t = some (.tup [.str "many"]) → D.rt (.ref t) H'')
      rfl rfl scRaised.nd rfl rfl ⟨rfl, by decide, .inl T.gSE⟩ takes0 (fun W pn xe tk _ => ?_) (fun a oe cls d pn hz hf => ?_)) (pss_one (ps_ret pe_non)), ?_⟩
  · refine ⟨fun pins s' σ H' D I h' => ?_⟩
    obtain ⟨Ech, hW, h1, h2, h3⟩ := h'
    exact (pss_one (ps_expr (act W pn xe Ech _ _ tk hW))).run pins s' σ H' D I ⟨h1, h2, h3⟩
  · refine pss_when fun e => ?_
    obtain ⟨e1, e2⟩ := e
    subst e1 e2
    have E := fun (_ : Unit) => call_isE (X := (cxOf C8.CX0 X.prog X.w X.K X.mg X.base nRaised "_law_raised" (defScope lRaised) g cdg X.A X.stack s H C8.E0).nox) (a := a) (D := TM) (oe := oe) (pn := pn) T.ex hz hf
    refine pss_imp (pss_len (pss_cons (ps_set (i := 2) scRaised.nd rfl (Or.inl rfl) (pe_lst (pa_cons (pe_callB (E ()) (by rfl) T.zi (by decide +kernel) (pa_cons (pv 1) (pa_cons (pe_glob (v := .ref c0) rfl T.g0 rfl) pa_nil)))
          (pa_cons (pe_callB (E ()) (by rfl) T.zi (by decide +kernel) (pa_cons (pv 1) (pa_cons (pe_glob (v := .ref c1) rfl T.g1 rfl) pa_nil))) (pa_cons (pe_callB (E ()) (by rfl) T.zi (by decide +kernel) (pa_cons (pv 1) (pa_cons (pe_glob (v := .ref c2) rfl T.g2 rfl) pa_nil))) pa_nil)))))
      (pss_cons (ps_set (i := 2) scRaised.nd rfl (Or.inl rfl) (pe_op op_cat (pv 2) (pe_lst (pa_cons (pe_callB (E ()) (by rfl) T.zi (by decide +kernel) (pa_cons (pv 1) (pa_cons (pe_glob (v := .ref c3) rfl T.g3 rfl) pa_nil)))
          (pa_cons (pe_callB (E ()) (by rfl) T.zi (by decide +kernel) (pa_cons (pv 1) (pa_cons (pe_glob (v := .ref c4) rfl T.g4 rfl) pa_nil))) (pa_cons (pe_callB (E ()) (by rfl) T.zi (by decide +kernel) (pa_cons (pv 1) (pa_cons (pe_glob (v := .ref c5) rfl T.g5 rfl) pa_nil))) pa_nil))))))
      (pss_cons (ps_set (i := 2) scRaised.nd rfl (Or.inl rfl) (pe_op op_cat (pv 2) (pe_lst (pa_cons (pe_callB (E ()) (by rfl) T.zi (by decide +kernel) (pa_cons (pv 1) (pa_cons (pe_glob (v := .ref TM) rfl T.gTM rfl) pa_nil)))
          (pa_cons (pe_callB (E ()) (by rfl) T.zi (by decide +kernel) (pa_cons (pv 1) (pa_cons (pe_glob (v := .ref c7) rfl T.g7 rfl) pa_nil))) (pa_cons (pe_callB (E ()) (by rfl) T.zi (by decide +kernel) (pa_cons (pv 1) (pa_cons (pe_glob (v := .ref c8) rfl T.g8 rfl) pa_nil))) pa_nil))))))
      (pss_cons (ps_expr (pe_bm PySem.F.plainAttrs_list PySem.F.slot_list_append PySem.F.type_list_append mt_append (pv 2) (pa_cons (pe_callB (E ()) (by rfl) T.zi (by decide +kernel) (pa_cons (pv 1) (pa_cons (pe_glob (v := .ref c9) rfl T.g9 rfl) pa_nil))) pa_nil)))
      (pss_cons (ps_if (PW.pt (pw_or (pt_cmpR op_ne (pe_bm PySem.F.plainAttrs_list PySem.F.slot_list_count PySem.F.type_list_count mt_countF (pv 2) (pa_cons pe_bl pa_nil)) pe_int (nomark _))
          (pw_or1 (pt_not (pt_val (pe_callB (E ()) (by rfl) T.zi (by decide +kernel) (pa_cons (pv 1) (pa_cons (pe_bltn (v := .ty "ValueError") (u := .type "ValueError") (by rfl) T.zV (by decide +kernel) rfl) pa_nil)))))))) pss_never pss_nil)
      (pss_cons (ps_set (i := 3) scRaised.nd rfl (Or.inl rfl) (pe_bm PySem.F.plainAttrs_list PySem.F.slot_list_index PySem.F.type_list_index mt_index (pv 2) (pa_cons pe_bl pa_nil)))
      (pss_cons (ps_if (pt_cmpR op_eq (pv 3) pe_int (nomark _)) pss_never pss_nil)
      (pss_cons (ps_if (pt_cmpR op_in_seq (pv 3) (pe_tup (pa_cons pe_int (pa_cons pe_int pa_nil))) (by rfl)) pss_never pss_nil)
      (pss_cons (ps_if (pt_cmpR op_in_seq (pv 3) (pe_tup (pa_cons pe_int (pa_cons pe_int pa_nil))) (by rfl)) pss_never pss_nil)
      (pss_one (ps_ret (pe_tup (pa_cons (pe_ix ix_list (pe_lst (pa_cons pe_str (pa_cons pe_str (pa_cons pe_str (pa_cons pe_str (pa_cons pe_str pa_nil)))))) (pe_op op_sub (pv 3) pe_int) (fun _ _ => rfl)) pa_nil)))))))))))))) fun D σ H2 hh hlen => ?_
    obtain ⟨⟨σ', eσ⟩, hq⟩ := hh
    subst eσ
    obtain ⟨x0, x2, x3, e4⟩ := four_of hlen
    rw [e4]
    refine ⟨_, rfl, .ref c0, _, false, rfl, fun u r => r, T.k0, _, rfl, .ref c1, _, false, rfl, fun u r => r, T.k1, _, rfl, .ref c2, _, false, rfl, fun u r => r, T.k2, by show 3 ≤ sizeLine; decide, fun l1 m1 => ?_⟩
    refine ⟨_, rfl, _, rfl, .ref c3, _, false, rfl, fun u r => r, T.k3, _, rfl, .ref c4, _, false, rfl, fun u r => r, T.k4, _, rfl, .ref c5, _, false, rfl, fun u r => r, T.k5, by show 3 ≤ sizeLine; decide, fun l2 m2 => ?_⟩
    have s1 := Same.new (o := HO.lst [.bl false, .bl false, .bl false]) (Same.refl H2) m1
    have s2 := Same.new (o := HO.lst [.bl false, .bl false, .bl false]) s1 m2
    have n12 : l1 ≠ l2 := ne_of_none upd_same m2
    refine ⟨l1, l2, _, _, rfl, rfl, by rw [upd_ne n12]; exact upd_same, upd_same, by show 6 ≤ sizeLine; decide, fun l3 m3 => ?_⟩
    have s3 := Same.new (o := HO.lst ([V.bl false, .bl false, .bl false] ++ [.bl false, .bl false, .bl false])) s2 m3
    refine ⟨_, rfl, _, rfl, .ref TM, _, true, rfl, fun u r => r, T.k6, _, rfl, .ref c7, _, false, rfl, fun u r => r, T.k7, _, rfl, .ref c8, _, false, rfl, fun u r => r, T.k8, by show 3 ≤ sizeLine; decide, fun l4 m4 => ?_⟩
    have s4 := Same.new (o := HO.lst [.bl true, .bl false, .bl false]) s3 m4
    have n34 : l3 ≠ l4 := ne_of_none upd_same m4
    refine ⟨l3, l4, _, _, rfl, rfl, by rw [upd_ne n34]; exact upd_same, upd_same, by show 9 ≤ sizeLine; decide, fun l5 m5 => ?_⟩
    have s5 := Same.new (o := HO.lst (([V.bl false, .bl false, .bl false] ++ [.bl false, .bl false, .bl false]) ++ [.bl true, .bl false, .bl false])) s4 m5
    refine ⟨_, rfl, .inl ⟨rfl, _, SqL.of upd_same⟩, _, rfl, .ref c9, _, false, rfl, fun u r => r, T.k9, l5, _, _, rfl, rfl, upd_same, by show 9 < sizeLine; decide, ?_⟩
    have n5 : H2 l5 = none := s4.free m5
    have s6 : Same H2 (upd (upd (upd (upd (upd (upd H2 l1 (.lst [.bl false, .bl false, .bl false])) l2 (.lst [.bl false, .bl false, .bl false])) l3 (.lst ([V.bl false, .bl false, .bl false] ++ [.bl false, .bl false, .bl false]))) l4 (.lst [.bl true, .bl false, .bl false])) l5 (.lst (([V.bl false, .bl false, .bl false] ++ [.bl false, .bl false, .bl false]) ++ [.bl true, .bl false, .bl false]))) l5 (.lst bls)) := Same.own s5 n5
    refine ⟨_, rfl, .inl ⟨rfl, _, SqL.of upd_same⟩, l5, bls, _, rfl, rfl, SqL.of upd_same, rfl, rfl, rfl, _, rfl, ?_⟩
    refine iteNS (by decide +kernel) ?_
    refine ⟨_, rfl, .ty "ValueError", _, true, rfl, fun u r => r, T.kV, true, rfl, iteF ?_⟩
    refine ⟨_, rfl, .inl ⟨rfl, _, SqL.of upd_same⟩, l5, bls, .bl true, 6, .bl true, rfl, rfl, SqL.of upd_same, rfl, rfl, rfl, rfl, fun m z hm hz => ?_, ?_⟩
    · match m, hm with
      | 0, _ => cases hz; rfl
      | 1, _ => cases hz; rfl
      | 2, _ => cases hz; rfl
      | 3, _ => cases hz; rfl
      | 4, _ => cases hz; rfl
      | 5, _ => cases hz; rfl
    refine ⟨_, rfl, rfl, _, rfl, ?_⟩
    refine ite2 (fun h => absurd (of_decide_eq_true h) (by decide +kernel)) (fun _ => ?_)
    refine ⟨_, rfl, by show 2 ≤ sizeLine; decide, fun t1 w1 => ⟨t1, _, rfl, .inr (SqT.of upd_same), rfl, rfl, _, rfl, ?_⟩⟩
    have s7 := Same.new (o := HO.tup [.int 1, .int 4]) s6 w1
    refine ite2 (fun h => absurd h (by decide +kernel)) (fun _ => ?_)
    refine ⟨_, rfl, by show 2 ≤ sizeLine; decide, fun t2 w2 => ⟨t2, _, rfl, .inr (SqT.of upd_same), rfl, rfl, _, rfl, ?_⟩⟩
    have s8 := Same.new (o := HO.tup [.int 2, .int 3]) s7 w2
    refine ite2 (fun h => absurd h (by decide +kernel)) (fun _ => ?_)
    refine ⟨by show 5 ≤ sizeLine; decide, fun l6 w6 => ?_⟩
    have s9 := Same.new (o := HO.lst [.str "place", .str "many", .str "module", .str "mode", .str "view"]) s8 w6
    refine ⟨_, rfl, _, _, rfl, rfl, l6, _, _, .str "many", rfl, rfl, SqL.of upd_same, at_of (j := 1) (by decide) rfl, by show 1 ≤ sizeLine; decide, fun t9 w9 => ?_⟩
    exact hq _ t9 (Same.new s9 w9) upd_same
  · refine ⟨_, fun cls d σ' H' hE => ?_, rfl, hc, h⟩
    obtain ⟨⟨e1, e2⟩, hq⟩ := hE
    refine ⟨true, by rw [e1]; exact T.em, fun _ a _ => ⟨⟨e1, e2⟩, ⟨σ', rfl⟩, hq⟩, fun z => nomatch z⟩
end K9
end
section
set_option Elab.async false
set_option linter.all false
set_option maxRecDepth 100000
set_option maxHeartbeats 8000000
/-! The law's first difference. -/
namespace K9
open PySem PySem.Spec PyProof.Rows L2
section
variable {X : Cx}
/-- xs != [] -/
def rNeNil (K : PySem.W.Frag) : R2 := fun x y H Q => ∃ a b xs, x = .ref a ∧ y = .ref b ∧ SqL K H a xs ∧ SqL K H b [] ∧ Q (.bl (!xs.isEmpty)) H
theorem op_neNil (hu : X.A.units + 2 < cLine) : OpR X (compareOp .NotEq) (rNeNil X.K) := by
  intro pins s σ H x y v u Q I rx ry h
  obtain ⟨a, b, xs, rfl, rfl, ha, hb, q⟩ := h
  cases (show v = Value.ref a from rx)
  cases (show u = Value.ref b from ry)
  obtain ⟨us, r1, p1, _⟩ := I.list ha
  obtain ⟨ws, r2, p2, _⟩ := I.list hb
  cases r2
  cases r1 with
  | nil =>
    refine SeqAt.RcNeAt.lists (A := X.A) (e := fun _ => true) p1.isList p2.isList rfl (by omega) (fun j h1 h2 => absurd h1 (Nat.not_lt_zero j)) _ _ _ _ ?_
    exact ⟨.bl false, H, I, rfl, q⟩
  | cons r rr =>
    refine SeqAt.RcNeAt.lists_lengths p1.isList p2.isList rfl (by omega) _ _ _ _ ?_
    exact ⟨.bl true, H, I, rfl, q⟩
end
/-- a plain stack, as the law's defs want it -/
def Pln (e : Es) : Prop := dep e ≤ 3 ∧ cnt e ≤ 12 ∧ ∀ q ∈ rls e, q.2.length = 4 ∧ ∀ x ∈ q.2, ActOk x
def spSame : Sp := fun vs H Q _ => ∃ (a b : Addr) (xs ys : List V) (e f : Es), vs = [.ref a, .ref b] ∧ H a = some (.lst xs) ∧ PlL H e xs ∧ H b = some (.lst ys) ∧ PlL H f ys ∧ Pln e ∧ Pln f ∧ (∃ ks : List Str, ks.length ≤ 6 ∧ ∀ m ∈ mods e ++ mods f, m ∈ ks) ∧
  ∀ ns, Nm ns (mods e ++ mods f) → ∀ (H' : Hp) (x : V), Same H H' → RDiff H' ns e f x → Q x H'
theorem ans_ok {H : Hp} {d : Addr} {ns c : List Str} {n : Nat} {ms : List Str} (hc : c ∈ allC ns.length) (hd : H d = some (.dK (kvsOf ns c))) (hm : ∀ m ∈ ms, m ∈ ns) : AnsOk H d (lk ns c) ms := by
  obtain ⟨h1, h2⟩ := allC_mem _ c hc
  exact ⟨kvsOf ns c, hd, fun m h => kvs_val h1 h2 (hm m h)⟩
section
variable {P : Program} {w : World} {K : PySem.W.Frag} {mg : Str → Option Value} {base : Heap}
theorem ok_same {f fM fA fW : Addr} {fd fdM fdA fdW : FuncData} (F : Fun K "_law_same" "_law_same" lSame f fd) (zs : mg "sorted" = none) (zset : mg "set" = none) (M : Cl P w K mg base CX0 5 "_law_modules" ["_law_plain_here"] spModules fM fdM)
    (A : Cl P w K mg base CX0 1 "_law_all" ["_law_names_here"] spAll fA fdA) (W : Cl P w K mg base CX0 7 "_law_where" ["_law_plain_here", "_law_answers"] (spWhere K) fW fdW) : FnOk P w K mg base CX0 8 f fd ["_law_one", "_law_other_here"] spSame := by
  refine F.ok scSame (fun vs H Q E h => ?_) (fun cdv A' outer s H vs Q E hr h => ?_)
  · obtain ⟨_, _, _, _, _, _, rfl, _⟩ := h
    rfl
  · obtain ⟨a, b, xs, ys, e, g, rfl, hA, hP, hB, hG, ⟨he1, he2, he3⟩, ⟨hg1, hg2, hg3⟩, ⟨ks, hk1, hk2⟩, q⟩ := h
    have hr1 : Room 1 _ := hr.mono (by decide)
    have hr5 : Room 5 _ := hr.mono (by decide)
    refine ⟨_, pss_cons (ps_for PassesOwn.never rfl (pi_list (pe_call A.ok hr1 rfl A.g A.kp A.b .nil pass0 (pa_cons (pe_callB (cr_sortSetS rfl) (by rfl) zs (by decide +kernel) (pa_cons (pe_callTy (cr_setS rfl) (by rfl) zset (by decide +kernel) (pa_cons
          (pe_op op_cat (pe_call M.ok hr5 rfl M.g M.kp M.b .nil pass0 (pa_cons (pv 0) pa_nil)) (pe_call M.ok hr5 rfl M.g M.kp M.b .nil pass0 (pa_cons (pv 1) pa_nil))) pa_nil)) pa_nil)) pa_nil))) (pg_name (i := 2) scSame.nd rfl (Or.inl rfl))
        (pss_one (ps_if (pt_cmpR op_ne (pe_call W.ok hr rfl W.g W.kp W.b .nil pass0 (pa_cons (pv 0) (pa_cons (pv 2) pa_nil))) (pe_call W.ok hr rfl W.g W.kp W.b .nil pass0 (pa_cons (pv 1) (pa_cons (pv 2) pa_nil))) (nomark _))
          (pss_one (ps_ret (pe_tup (pa_cons (pv 2) (pa_cons (pe_call W.ok hr rfl W.g W.kp W.b .nil pass0 (pa_cons (pv 0) (pa_cons (pv 2) pa_nil))) pa_nil))))) pss_nil)))
      (pss_one (ps_ret pe_non)), ?_⟩
    refine ⟨_, rfl, a, xs, e, rfl, hA, hP, he1, he2, fun H1 p1 ns1 s1 n1 h1 hN1 => ?_⟩
    refine ⟨_, rfl, b, ys, g, rfl, s1 _ _ hB, PlL.mono s1 hG, hg1, hg2, fun H2 p2 ns2 s2 n2 h2 hN2 => ?_⟩
    have hl1 : ns1.length ≤ cnt e := by rw [← mods_len]; exact nm_le hN1 fun m h => h
    have hl2 : ns2.length ≤ cnt g := by rw [← mods_len]; exact nm_le hN2 fun m h => h
    refine ⟨p1, p2, _, _, rfl, rfl, s2 _ _ h1, h2, Nat.le_of_lt (small1000 (by rw [List.length_map, List.length_map]; omega)), fun p3 n3 => ?_⟩
    rw [← List.map_append]
    have s3 := Same.new (o := HO.lst ((ns1 ++ ns2).map V.str)) (s1.trans s2) n3
    refine ⟨p3, ns1 ++ ns2, rfl, .inl (SqL.of upd_same), by rw [List.length_append]; omega, fun sa n nsa hn => ?_⟩
    rw [List.length_append] at hn
    refine ⟨sa, _, n, rfl, upd_same, by omega, fun ns lp hs hnd hmem hln nlp => ?_⟩
    have hNm : Nm ns (mods e ++ mods g) := ⟨hs, hnd, fun m => by
      rw [hmem m, decide_eq_true_iff, List.mem_append, List.mem_append, hN1.2.2 m, hN2.2.2 m]⟩
    have h6 : ns.length ≤ 6 := Nat.le_trans (nm_le hNm hk2) hk1
    have s5 := Same.new (o := HO.lst (ns.map V.str)) (Same.new s3 nsa) nlp
    refine ⟨lp, ns, rfl, upd_same, hnd, h6, fun H6 ap us s6 nap hap hAn => ?_⟩
    have s0 := s5.trans s6
    have mE : ∀ m ∈ mods e, m ∈ ns := fun m h => (hNm.2.2 m).mpr (List.mem_append_left _ h)
    have mG : ∀ m ∈ mods g, m ∈ ns := fun m h => (hNm.2.2 m).mpr (List.mem_append_right _ h)
    refine ⟨ap, rfl, ⟨_, SqL.of hap⟩, for_list (K := K) (a := ap) (xs := us) (fun i σ H' => ∃ (v2 : Option V), σ = [some (.ref a), some (.ref b), v2] ∧ Same H6 H' ∧ ∀ c ∈ (allC ns.length).take i, (win (lk ns c) e != win (lk ns c) g) = false)
      ⟨_, rfl, Same.refl _, fun c hc => nomatch hc⟩ (fun i σ H' _ ⟨_, _, s, _⟩ => SqL.of (s _ _ hap)) ?_ ?_⟩
    · rintro i x σ H' hi ⟨v2, rfl, s', hn⟩
      obtain ⟨c, hci, d, rfl, hd⟩ := paired_get hAn hi
      have hcm := List.mem_of_getElem? hci
      have sH := s0.trans s'
      refine ⟨_, rfl, _, rfl, a, d, xs, e, lk ns c, rfl, sH _ _ hA, PlL.mono sH hP, he1, by omega, he3, ans_ok (n := 0) hcm (s' _ _ hd) mE, fun H7 s7 => ?_⟩
      have sH7 := sH.trans s7
      refine ⟨_, rfl, _, rfl, b, d, ys, g, lk ns c, rfl, sH7 _ _ hB, PlL.mono sH7 hG, hg1, by omega, hg3, ans_ok (n := 0) hcm (s7 _ _ (s' _ _ hd)) mG, fun H8 s8 => ?_⟩
      refine ⟨rfl, _, rfl, ?_⟩
      rw [inW_ne]
      have s78 := s7.trans s8
      refine ite2 (fun h => ?_) (fun h => ?_)
      · have hf : firstD e g ns = some c := find_at hci hn h
        have sH8 := sH.trans s78
        refine ⟨_, rfl, _, rfl, _, rfl, a, d, xs, e, lk ns c, rfl, sH8 _ _ hA, PlL.mono sH8 hP, he1, by omega, he3, ans_ok (n := 0) hcm (s78 _ _ (s' _ _ hd)) mE, fun H9 s9 => ?_⟩
        refine ⟨by show 2 ≤ sizeLine; decide, fun t2 n2 => ?_⟩
        have hd9 := s9 _ _ (s78 _ _ (s' _ _ hd))
        refine q ns hNm _ _ (Same.new (sH8.trans s9) n2) ?_
        show (match firstD e g ns with | none => _ | some c => _)
        rw [hf]
        exact ⟨t2, d, rfl, upd_same, by rw [upd_ne (ne_of_none hd9 n2)]; exact hd9⟩
      · refine ⟨_, rfl, s'.trans s78, fun c' hc' => ?_⟩
        rw [take_snoc' hci] at hc'
        rcases List.mem_append.mp hc' with hc' | hc'
        · exact hn c' hc'
        · rw [List.mem_singleton.mp hc']
          cases hh : (win (lk ns c) e != win (lk ns c) g) with
          | false => rfl
          | true => exact absurd hh h
    · rintro σ H' ⟨v2, rfl, s', hn⟩
      have el : (allC ns.length).take us.length = allC ns.length := by rw [← Paired.length hAn, List.take_length]
      rw [el] at hn
      have hf : firstD e g ns = none := by
        unfold firstD
        rw [List.find?_eq_none]
        intro c hc
        rw [hn c hc]
        exact Bool.false_ne_true
      refine q ns hNm H' _ (s0.trans s') ?_
      show (match firstD e g ns with | none => _ | some c => _)
      rw [hf]
end
end K9
end
section
set_option Elab.async false
set_option linter.all false
set_option maxRecDepth 100000
set_option maxHeartbeats 16000000
/-! The law. -/
namespace K9
open PySem PySem.Spec PyProof.Rows L2
/-! ### across the lambda's table -/
theorem stR.ext {C : Addr} {A B : Hp} (s : LamX.ExtN A B) {r : Rl} {v : V} : stR C A r v → stR C B r v := fun ⟨p, dx, t, e, a, b⟩ => ⟨p, dx, t, e, s _ _ a (by intro _ z; cases z), s _ _ b (by intro _ z; cases z)⟩
theorem stS.ext {C D : Addr} {A B : Hp} (s : LamX.ExtN A B) {P P' : List V → Prop} {i : Es} {v : V} (k : ∀ xs, P xs → P' xs) : stS C D A P i v → stS C D B P' i v :=
  fun ⟨p, dx, pa, st, nm, zs, ss, ns, e, a, b, c, d, f, g, h⟩ => ⟨p, dx, pa, st, nm, zs, ss, ns, e, s _ _ a (by intro _ z; cases z), s _ _ b (by intro _ z; cases z), k _ c, s _ _ d (by intro _ z; cases z), Paired.mapP f fun _ _ => stR.ext s, s _ _ g (by intro _ z; cases z), h⟩
theorem StL.ext {C D : Addr} {A B : Hp} (s : LamX.ExtN A B) {e : Es} {xs : List V} (h : StL C D A e xs) : StL C D B e xs :=
  EL.mono (fr := stR C A) (fr' := stR C B) (fs := stS C D A) (fs' := stS C D B) (fun _ _ q => stR.ext s q) (fun _ _ _ _ k q => stS.ext s k q) e xs h
theorem SkAt.ext {C D : Addr} {A B : Hp} (s : LamX.ExtN A B) {i : Es} {v : V} (h : SkAt C D A i v) : SkAt C D B i v := stS.ext s (fun _ => StL.ext s) h
theorem PlL.ext {A B : Hp} (s : LamX.ExtN A B) {e : Es} {xs : List V} (h : PlL A e xs) : PlL B e xs :=
  EL.mono (fr := plR A) (fr' := plR B) (fs := plS A) (fs' := plS B) (fun _ _ ⟨p, t, e, a, b⟩ => ⟨p, t, e, s _ _ a (by intro _ z; cases z), s _ _ b (by intro _ z; cases z)⟩)
    (fun _ _ _ _ k ⟨a, zs, q, x, y⟩ => ⟨a, zs, q, s _ _ x (by intro _ z; cases z), k _ y⟩) e xs h
/-! ### equal answers -/
theorem val_mem : ∀ {kvs : List (Key × V)}, (kvs.map (·.1)).Nodup → ∀ p ∈ kvs, valV kvs p.1 = some p.2
  | [], _, p, h => nomatch h
  | q :: kvs, nd, p, h => by
    rw [List.map_cons, List.nodup_cons] at nd
    rcases List.mem_cons.mp h with e | h
    · rw [e]; exact valV_pos rfl
    · rw [valV_neg (fun z => nd.1 (by rw [z]; exact List.mem_map_of_mem h))]
      exact val_mem nd.2 p h
theorem kvs_flat : ∀ {ns c : List Str}, ∀ p ∈ kvsOf ns c, flatB p.2 = true
  | [], _, p, h => nomatch h
  | _ :: _, [], p, h => nomatch h
  | n :: ns, c :: cs, p, h => by
    rcases List.mem_cons.mp (show p ∈ (Sum.inr n, V.str c) :: kvsOf ns cs from h) with e | h
    · rw [e]; rfl
    · exact kvs_flat p h
theorem eq_dicts {K : PySem.W.Frag} {H : Hp} {d d' : Addr} {ns c : List Str} (hn : ns.Nodup) (hc : c.length = ns.length) (h : H d = some (.dK (kvsOf ns c))) (h' : H d' = some (.dK (kvsOf ns c))) : EqV K H 2 (.ref d) (.ref d') := by
  refine .inr (.inr (.inr ⟨d, d', _, _, rfl, rfl, h, h', rfl, fun p hp => ⟨p.2, ?_, .inl ⟨rfl, kvs_flat p hp⟩⟩⟩))
  refine val_mem ?_ p hp
  rw [keys_kvs hc]
  exact List.pairwise_map.mpr (hn.imp fun h z => h (Sum.inr.inj z))
theorem RDiff.mono {A B : Hp} (s : Same A B) {ns : List Str} {e f : Es} {x : V} (h : RDiff A ns e f x) : RDiff B ns e f x := by
  have h : (match firstD e f ns with | none => x = V.non | some c => ∃ t d, x = .ref t ∧ A t = some (.tup [.ref d, .str (inW (win (lk ns c) e))]) ∧ A d = some (.dK (kvsOf ns c))) := h
  show (match firstD e f ns with | none => x = V.non | some c => ∃ t d, x = .ref t ∧ B t = some (.tup [.ref d, .str (inW (win (lk ns c) e))]) ∧ B d = some (.dK (kvsOf ns c)))
  cases hf : firstD e f ns with
  | none => rw [hf] at h; exact h
  | some c => rw [hf] at h; obtain ⟨t, d, h1, h2, h3⟩ := h; exact ⟨t, d, h1, s _ _ h2, s _ _ h3⟩
theorem RDiff.non {H : Hp} {ns : List Str} {e f : Es} {x : V} (h : RDiff H ns e f x) : decide (x = .non) = (firstD e f ns).isNone := by
  have h : (match firstD e f ns with | none => x = V.non | some c => ∃ t d, x = .ref t ∧ H t = some (.tup [.ref d, .str (inW (win (lk ns c) e))]) ∧ H d = some (.dK (kvsOf ns c))) := h
  cases hf : firstD e f ns with
  | none => rw [hf] at h; rw [h]; rfl
  | some c => rw [hf] at h; obtain ⟨t, d, rfl, _⟩ := h; rfl
theorem ne_due {K : PySem.W.Frag} {H : Hp} {ns : List Str} {e f : Es} {x y : V} {Q : VK} (hn : ns.Nodup) (hx : RDiff H ns e f x) (hy : RDiff H ns e f y) (q : Q (.bl false) H) : rNe x y H Q ∨ rNeTup K x y H Q := by
  have hx : (match firstD e f ns with | none => x = V.non | some c => ∃ t d, x = .ref t ∧ H t = some (.tup [.ref d, .str (inW (win (lk ns c) e))]) ∧ H d = some (.dK (kvsOf ns c))) := hx
  have hy : (match firstD e f ns with | none => y = V.non | some c => ∃ t d, y = .ref t ∧ H t = some (.tup [.ref d, .str (inW (win (lk ns c) e))]) ∧ H d = some (.dK (kvsOf ns c))) := hy
  cases hf : firstD e f ns with
  | none =>
    rw [hf] at hx hy
    rw [hx, hy]
    exact .inl ⟨rfl, q⟩
  | some c =>
    rw [hf] at hx hy
    obtain ⟨t, d, rfl, h1, h2⟩ := hx
    obtain ⟨t', d', rfl, h1', h2'⟩ := hy
    have hc := (allC_mem _ c (firstD_mem hf)).1
    exact .inr ⟨2, t, t', _, _, by decide, rfl, rfl, SqT.of h1, SqT.of h1', .cons (eq_dicts hn hc h2 h2') (.cons (.inl ⟨rfl, rfl⟩) .nil), q⟩
/-! ### the wide stack -/
def oks : List V := [.str "ok", .str "ok", .str "ok", .str "ok"]
def mkW : List Str → Es
  | [] => .nil
  | m :: r => .rule m oks (mkW r)
def six : List Str := ["a", "b", "c", "d", "e", "f"]
theorem mkW_rls : ∀ l, rls (mkW l) = l.map fun m => (m, oks)
  | [] => rfl
  | m :: r => by show (m, oks) :: rls (mkW r) = _; rw [mkW_rls r]; rfl
theorem mkW_len : ∀ l, len (mkW l) = l.length
  | [] => rfl
  | m :: r => by show len (mkW r) + 1 = _; rw [mkW_len r]; rfl
theorem mkW_dep : ∀ l, dep (mkW l) = 1
  | [] => rfl
  | m :: r => mkW_dep r
theorem mkW_wid : ∀ l, wid (mkW l) = 0
  | [] => rfl
  | m :: r => mkW_wid r
theorem mkW_mods (l : List Str) : mods (mkW l) = l := by unfold mods; rw [mkW_rls, List.map_map]; exact List.map_id l
theorem mkW_pl {A : Hp} : ∀ {l : List Str} {us : List V}, Paired (fun m v => plR A (m, oks) v) l us → PlL A (mkW l) us
  | _, _, .nil => rfl
  | _, _, .cons h t => ⟨_, _, rfl, h, mkW_pl t⟩
theorem oks_ok : oks.length = 4 ∧ ∀ x ∈ oks, ActOk x := by
  refine ⟨rfl, fun x hx => ?_⟩
  have : x = .str "ok" := by
    rcases List.mem_cons.mp hx with e | hx
    · exact e
    rcases List.mem_cons.mp hx with e | hx
    · exact e
    rcases List.mem_cons.mp hx with e | hx
    · exact e
    exact List.mem_singleton.mp hx
  rw [this]
  exact wOk (by decide +kernel)
instance (m : Str) : Decidable (WordOk m) := by unfold WordOk; infer_instance
theorem six_ok : ∀ m ∈ six, WordOk m := by decide +kernel
theorem five_ok : ∀ m ∈ names5, WordOk m := by decide +kernel
theorem wide_rls : ∀ q ∈ rls (mkW six), WordOk q.1 ∧ q.2.length = 4 ∧ ∀ x ∈ q.2, ActOk x := by
  intro q hq
  rw [mkW_rls] at hq
  obtain ⟨m, hm, e⟩ := List.mem_map.mp hq
  subst e
  exact ⟨six_ok m hm, oks_ok⟩
theorem wide_cnt : cnt (mkW six) = 6 := by show (rls _).length = 6; rw [mkW_rls, List.length_map]; rfl
theorem wide_whole : Whole (mkW six) := ⟨by rw [mkW_len]; decide, by rw [mkW_wid]; decide, by rw [mkW_dep]; decide, by rw [wide_cnt]; decide, ⟨six, by decide, fun m hm => by rw [mkW_mods] at hm; exact hm⟩, wide_rls⟩
theorem wide_runs : Runs (mkW six) 3 := ⟨by rw [mkW_dep]; decide, by rw [wide_cnt]; decide, by rw [mkW_len]; decide, by rw [mkW_wid]; decide, fun q hq => (wide_rls q hq).2⟩
/-- beside the six names of the wide stack there is no room -/
theorem wide_many {ns : List Str} {e : Es} (h : Nm ns (mods (mkW six) ++ mods e)) (he : ∀ m ∈ mods e, m ∈ names4) : (mods e = [] → ns.length ≤ 6) ∧ (mods e ≠ [] → 6 < ns.length) := by
  rw [mkW_mods] at h
  constructor
  · intro z
    rw [z, List.append_nil] at h
    exact nm_le h fun m hm => hm
  · intro z
    obtain ⟨m, hm⟩ := List.exists_mem_of_ne_nil _ z
    have h4 := he m hm
    have nd : (six ++ [m]).Nodup := by
      have : ∀ m ∈ names4, (six ++ [m]).Nodup := by decide +kernel
      exact this m h4
    have := nodup_le nd (k := ns) fun x hx => by
      rw [h.2.2 x]
      rcases List.mem_append.mp hx with hx | hx
      · exact List.mem_append_left _ hx
      · rw [List.mem_singleton.mp hx]; exact List.mem_append_right _ hm
    exact this
/-- what stands while the law asks -/
def St8 (C D : Addr) (H : Hp) (p p' : Addr) (xs ys : List V) (e g : Es) (v1 v2 : V) : Prop := H p = some (.lst xs) ∧ PlL H e xs ∧ H p' = some (.lst ys) ∧ PlL H g ys ∧ SkAt C D H e v1 ∧ SkAt C D H g v2
theorem St8.mono {C D : Addr} {A B : Hp} (s : Same A B) {p p' : Addr} {xs ys : List V} {e g : Es} {v1 v2 : V} (h : St8 C D A p p' xs ys e g v1 v2) : St8 C D B p p' xs ys e g v1 v2 :=
  ⟨s _ _ h.1, PlL.mono s h.2.1, s _ _ h.2.2.1, PlL.mono s h.2.2.2.1, SkAt.mono s h.2.2.2.2.1, SkAt.mono s h.2.2.2.2.2⟩
theorem St8.ext {C D : Addr} {A B : Hp} (s : LamX.ExtN A B) {p p' : Addr} {xs ys : List V} {e g : Es} {v1 v2 : V} (h : St8 C D A p p' xs ys e g v1 v2) : St8 C D B p p' xs ys e g v1 v2 :=
  ⟨s _ _ h.1 (by intro _ z; cases z), PlL.ext s h.2.1, s _ _ h.2.2.1 (by intro _ z; cases z), PlL.ext s h.2.2.2.1, SkAt.ext s h.2.2.2.2.1, SkAt.ext s h.2.2.2.2.2⟩
theorem emp_len {α β : Type} : ∀ {a : List α} {b : List β}, a.length = b.length → a.isEmpty = b.isEmpty
  | [], [], _ => rfl
  | [], _ :: _, h => nomatch h
  | _ :: _, [], h => nomatch h
  | _ :: _, _ :: _, _ => rfl
theorem inW_out (b : Bool) : decide (V.str (inW b) = V.str "out") = !b := by cases b <;> decide +kernel
/-- a def by its name -/
def Hs (P : Program) (w : World) (K : PySem.W.Frag) (mg : Str → Option Value) (base : Heap) (CX : CXT) (k : Nat) (x : Str) (ps : List Str) (sp : Sp) : Prop := ∃ f fd, Cl P w K mg base CX k x ps sp f fd
structure Defs (P : Program) (w : World) (K : PySem.W.Frag) (mg : Str → Option Value) (base : Heap) (C D TM : Addr) : Prop where
  dr : Hs P w K mg base CX0 7 "_law_drawn" ["_law_row"] (spDrawn K)
  ot : Hs P w K mg base CX0 8 "_law_other" ["_law_row", "_law_plain_here"] (spOther K)
  ru : Hs P w K mg base CX0 4 "_law_rules" ["_law_plain_here"] (spRules 3)
  md : Hs P w K mg base CX0 9 "_law_made" ["_law_plain_here"] (spMade C D 3)
  sm : Hs P w K mg base CX0 8 "_law_same" ["_law_one", "_law_other_here"] spSame
  df : Hs P w K mg base (L2.CX P w) 10 "first_difference" ["one", "other"] (spCmp C D TM RDiff)
  al : Hs P w K mg base (L2.CX P w) 11 "alike" ["one", "other"] (spCmp C D TM RAlike)
  st : Hs P w K mg base (L2.CX P w) 10 "is_stricter" ["one", "other"] (spCmp C D TM RStrict)
  mo : Hs P w K mg base CX0 5 "_law_modules" ["_law_plain_here"] spModules
  aa : Hs P w K mg base CX0 1 "_law_all" ["_law_names_here"] spAll
  wh : Hs P w K mg base CX0 7 "_law_where" ["_law_plain_here", "_law_answers"] (spWhere K)
def spLaw (K : PySem.W.Frag) (Pt : Addr) : Sp := fun vs H Q _ => ∃ (a : Addr) (ns : List Int), vs = [.ref a] ∧ SqL K H a (ns.map V.int) ∧ ns.length ≤ 63 ∧ H Pt = some (.tbl #[]) ∧ ∀ H', Q (.bl true) H'
abbrev nLaw : List Str := ["_law_script", "_law_row", "_law_plain_here", "_law_other_here", "_law_two", "_law_due", "_law_again", "_law_names_here", "_law_bad", "_law_answers", "_law_word", "_law_one", "_law_wide", "_law_name"]
theorem hu64 {A : Around} {k : Nat} (hr : Room k A) : A.units + 64 < cLine := hr.units
section
variable {P : Program} {w : World} {K : PySem.W.Frag} {mg : Str → Option Value} {base : Heap} {C D TM SE c0 c1 c2 c3 c4 c5 c7 c8 c9 : Addr}
theorem ok_law {f c Pt fR : Addr} {oc kV doc pm ct ocR kVR docR pmR ctR cdR : Value} {od an odR anR : Option Addr} {osl oslR : Array (Option Value)}
    (lkL : K.lookup f = some ⟨oc, od, .func (PySem.W.fnOf "law" "law" (defArgs lLaw) (defBody lLaw) (defScope lLaw) .none kV doc pm an (.ref c) ct), osl⟩) (hcd : PySem.W.codeIn K (.ref c) "law" = true)
    (lkR : K.lookup fR = some ⟨ocR, odR, .func (PySem.W.fnOf "_law_raised" "_law_raised" (defArgs lRaised) (defBody lRaised) (defScope lRaised) .none kVR docR pmR anR cdR ctR), oslR⟩) (hcR : PySem.W.codeIn K cdR "_law_raised" = true) (kpR : PySem.W.keepIn K (.ref fR) = true) (gR : mg "_law_raised" = some (.ref fR))
    (bR : Binds K (PySem.W.fnOf "_law_raised" "_law_raised" (defArgs lRaised) (defBody lRaised) (defScope lRaised) .none kVR docR pmR anR cdR ctR) ["_law_work"] [])
    (TB : LamX.TabB base mg c Pt) (zl : mg "len" = none) (zs : mg "sorted" = none) (zset : mg "set" = none) (TC : Tcs K mg TM SE c0 c1 c2 c3 c4 c5 c7 c8 c9) (DD : Defs P w K mg base C D TM) :
    FnOk P w K mg base CX0 14 f (PySem.W.fnOf "law" "law" (defArgs lLaw) (defBody lLaw) (defScope lLaw) .none kV doc pm an (.ref c) ct) ["_law_script"] (spLaw K Pt) := by
  refine fn_of lkL hcd scLaw (fun vs H Q E h => ?_) fun A outer s H vs Q E hr h => ?_
  · obtain ⟨_, _, rfl, _⟩ := h
    rfl
  obtain ⟨a, ns0, rfl, hS, hl63, hPt, q⟩ := h
  obtain ⟨⟨_, _, DR⟩, ⟨_, _, OT⟩, ⟨_, _, RU⟩, ⟨_, _, MD⟩, ⟨_, _, SM⟩, ⟨_, _, DF⟩, ⟨_, _, AL⟩, ⟨_, _, ST⟩, ⟨_, _, MO⟩, ⟨_, _, AA⟩, ⟨_, _, WH⟩⟩ := DD
  have r1 : Room 1 _ := hr.mono (by decide)
  have r4 : Room 4 _ := hr.mono (by decide)
  have r5 : Room 5 _ := hr.mono (by decide)
  have r7 : Room 7 _ := hr.mono (by decide)
  have r8 : Room 8 _ := hr.mono (by decide)
  have r9 : Room 9 _ := hr.mono (by decide)
  have r10 : Room 10 _ := hr.mono (by decide)
  have r11 : Room 11 _ := hr.mono (by decide)
  suffices hs : ∃ t, PSs (cxOf CX0 P w K mg base nLaw "law" (defScope lLaw) f (.ref c) A outer s H E).nox (defBody lLaw) t ∧ t { nx := fun _ H' => Q .non H', rt := Q } (start nLaw [.ref a]) H by
    obtain ⟨t, h1, h2⟩ := hs
    exact ⟨t, h1.nox, h2⟩
  refine ⟨_, pss_cons (ps_set (i := 1) scLaw.nd rfl (Or.inl rfl) (pe_lst (pa_cons (pv 0) (pa_cons pe_int (pa_cons pe_int (pa_cons pe_int pa_nil))))))
    (pss_cons (ps_set (i := 2) scLaw.nd rfl (Or.inl rfl) (pe_call DR.ok r7 rfl DR.g DR.kp DR.b .nil pass0 (pa_cons (pv 1) pa_nil)))
    (pss_cons (ps_set (i := 3) scLaw.nd rfl (Or.inl rfl) (pe_call OT.ok r8 rfl OT.g OT.kp OT.b .nil pass0 (pa_cons (pv 1) (pa_cons (pv 2) pa_nil))))
    (pss_cons (ps_if (pt_cmpR op_gt (pe_callB call_len_seq (by rfl) zl PySem.boot_len (pa_cons (pe_call RU.ok r4 rfl RU.g RU.kp RU.b .nil pass0 (pa_cons (pv 3) pa_nil)) pa_nil)) pe_int (nomark _)) (pss_one (ps_ret pe_bl)) pss_nil)
    (pss_cons (ps_asg (pe_tup (pa_cons (pe_call MD.ok r9 rfl MD.g MD.kp MD.b .nil pass0 (pa_cons (pv 2) pa_nil)) (pa_cons (pe_call MD.ok r9 rfl MD.g MD.kp MD.b .nil pass0 (pa_cons (pv 3) pa_nil)) (pa_cons (pe_call SM.ok r8 rfl SM.g SM.kp SM.b .nil pass0 (pa_cons (pv 2) (pa_cons (pv 3) pa_nil))) pa_nil))))
      (pg_tup (by rfl) (pgs_cons (pg_name (i := 11) scLaw.nd rfl (.inr rfl)) (pgs_cons (pg_name (i := 4) scLaw.nd rfl (.inl rfl)) (pgs_cons (pg_name (i := 5) scLaw.nd rfl (.inl rfl)) pgs_nil)))))
    (pss_cons (ps_if (PW.pt (pw_or (pt_cmpR (op_neLaw (hu64 hr)) (pe_call DF.ok r10 rfl DF.g DF.kp DF.b .nil passL (pa_cons (pv 11) (pa_cons (pv 4) pa_nil))) (pv 5) (nomark _))
        (pw_or1 (pt_cmpR op_ne (pe_call AL.ok r11 rfl AL.g AL.kp AL.b .nil passL (pa_cons (pv 11) (pa_cons (pv 4) pa_nil))) (pe_cmp (pc_isN (pv 5))) (nomark _))))) (pss_one (ps_ret pe_bl)) pss_nil)
    (pss_cons (ps_set (i := 6) scLaw.nd rfl (Or.inl rfl) (pe_call SM.ok r8 rfl SM.g SM.kp SM.b .nil pass0 (pa_cons (pv 3) (pa_cons (pv 2) pa_nil))))
    (pss_cons (ps_if (PW.pt (pw_or (pt_cmpR (op_neLaw (hu64 hr)) (pe_call DF.ok r10 rfl DF.g DF.kp DF.b .nil passL (pa_cons (pv 4) (pa_cons (pv 11) pa_nil))) (pv 6) (nomark _))
        (pw_or1 (pt_cmpR op_ne (pe_call AL.ok r11 rfl AL.g AL.kp AL.b .nil passL (pa_cons (pv 4) (pa_cons (pv 11) pa_nil))) (pe_call AL.ok r11 rfl AL.g AL.kp AL.b .nil passL (pa_cons (pv 11) (pa_cons (pv 4) pa_nil))) (nomark _))))) (pss_one (ps_ret pe_bl)) pss_nil)
    (pss_cons (ps_par rfl scLaw.nd rfl rfl (by decide) rfl rfl (pa_cons (pe_callB (cr_sortSetS rfl) (by rfl) zs (by decide +kernel) (pa_cons (pe_callTy (cr_setS rfl) (by rfl) zset (by decide +kernel) (pa_cons
        (pe_op op_cat (pe_call MO.ok r5 rfl MO.g MO.kp MO.b .nil pass0 (pa_cons (pv 2) pa_nil)) (pe_call MO.ok r5 rfl MO.g MO.kp MO.b .nil pass0 (pa_cons (pv 3) pa_nil))) pa_nil)) pa_nil)) (pa_cons (pe_lst pa_nil) pa_nil)) (by rfl) (i := 7) (j := 8))
    (pss_cons (ps_for PassesOwn.never rfl (pi_list (pe_call AA.ok r1 rfl AA.g AA.kp AA.b .nil pass0 (pa_cons (pv 7) pa_nil))) (pg_name (i := 9) scLaw.nd rfl (Or.inl rfl))
      (pss_one (ps_if (PW.pt (pw_and (pt_cmpR op_eq (pe_call WH.ok r7 rfl WH.g WH.kp WH.b .nil pass0 (pa_cons (pv 2) (pa_cons (pv 9) pa_nil))) pe_str (nomark _)) (pw_and1 (pt_cmpR op_eq (pe_call WH.ok r7 rfl WH.g WH.kp WH.b .nil pass0 (pa_cons (pv 3) (pa_cons (pv 9) pa_nil))) pe_str (nomark _)))))
        (pss_one (ps_expr (pe_bm PySem.F.plainAttrs_list PySem.F.slot_list_append PySem.F.type_list_append mt_append (pv 8) (pa_cons (pv 9) pa_nil)))) pss_nil)))
    (pss_cons (ps_if (pt_cmpR op_ne (pe_call ST.ok r10 rfl ST.g ST.kp ST.b .nil passL (pa_cons (pv 11) (pa_cons (pv 4) pa_nil))) (pe_cmpR (op_eqNil (hu2_of hr)) (pv 8) (pe_lst pa_nil) (nomark _)) (nomark _)) (pss_one (ps_ret pe_bl)) pss_nil)
    (pss_cons (ps_if (PW.pt (pw_and (pt_val (pe_call ST.ok r10 rfl ST.g ST.kp ST.b .nil passL (pa_cons (pv 11) (pa_cons (pv 4) pa_nil)))) (pw_and (pt_val (pe_call ST.ok r10 rfl ST.g ST.kp ST.b .nil passL (pa_cons (pv 4) (pa_cons (pv 11) pa_nil))))
        (pw_and1 (pt_not (pt_val (pe_call AL.ok r11 rfl AL.g AL.kp AL.b .nil passL (pa_cons (pv 11) (pa_cons (pv 4) pa_nil))))))))) (pss_one (ps_ret pe_bl)) pss_nil)
    (pss_cons (ps_set (i := 12) scLaw.nd rfl (Or.inr rfl) (pe_call MD.ok r9 rfl MD.g MD.kp MD.b .nil pass0 (pa_cons
        (pe_lc (own := [("_law_name", 13)]) (g := gName 13) (tt := tYes) rfl scLaw.nd (pi_list (pe_lst (pa_cons pe_str (pa_cons pe_str (pa_cons pe_str (pa_cons pe_str (pa_cons pe_str (pa_cons pe_str pa_nil)))))))) (blkOk_by (own := [("_law_name", 13)]) (N := nLaw) (sc := defScope lLaw) (by decide +kernel))
          (fun _ _ _ _ _ => pg_name (i := 13) scLaw.nd rfl (Or.inl rfl)) (fun _ _ _ _ _ => pts_nil) (fun _ _ _ _ _ => pe_tup (pa_cons (pv 13) (pa_cons (pe_tup (pa_cons pe_str (pa_cons pe_str (pa_cons pe_str (pa_cons pe_str pa_nil))))) pa_nil)))) pa_nil)))
    (pss_cons (ps_set (i := 10) scLaw.nd rfl (Or.inl rfl) (LamX.pe_lamcall (T := [(Pt, (envOfC "law" (defScope lLaw) s.heap.objs.size f (.ref c)).qual ++ "<lambda>")]) (TT := TTr TM) (c := c) (P := Pt) (k := 11) (Ng := nRaised) (t := fun E => tCall (spCmp C D TM RAlike) [] E (tCons (tVar 12) (tCons (tVar 11) tNil)))
        rfl gR kpR lkR hcR bR scRaised rfl (.inl rfl) (raised_gives TC) TB rfl (List.mem_singleton_self _) (fun p hp _ => by rw [List.mem_singleton.mp hp]; rfl) hr (LamX.lamS_by (sc := defScope lLaw) (by decide +kernel)) rfl (fun _ _ _ _ _ => rfl)
        (fun A outer s H E f c' hr => pe_call AL.ok hr rfl AL.g AL.kp AL.b .nil (passes_call (takes_of rfl rfl rfl rfl) (fun _ _ _ _ z => z)) (pa_cons (pv 12) (pa_cons (pv 11) pa_nil)))))
    (pss_one (ps_ret (pe_and (pe_cmpR (op_eqD (hu64 hr)) (pv 10) (pe_ifExp (pt_cmpR (op_neNil (hu2_of hr)) (pe_call MO.ok r5 rfl MO.g MO.kp MO.b .nil pass0 (pa_cons (pv 2) pa_nil)) (pe_lst pa_nil) (nomark _)) (pe_tup (pa_cons pe_str pa_nil)) pe_non) (nomark _))
        (pe_one (pe_call AL.ok r11 rfl AL.g AL.kp AL.b .nil passL (pa_cons (pv 11) (pa_cons (pv 11) pa_nil)))))))))))))))))))), ?_⟩
  -- the row, the draws
  refine ⟨_, rfl, by show 4 ≤ sizeLine; decide, fun r nr => ?_⟩
  have s1 : Same H (upd H r (.lst [.ref a, .int 0, .int 0, .int 0])) := Same.new (Same.refl H) nr
  have hH1r : (upd H r (.lst [.ref a, .int 0, .int 0, .int 0])) r = some (.lst [.ref a, .int 0, .int 0, .int 0]) := upd_same
  have hRow1 : RowAt (upd H r (.lst [.ref a, .int 0, .int 0, .int 0])) r a := RowAt.put (by decide) (by decide) (by decide)
  have hScr1 : Scr K (upd H r (.lst [.ref a, .int 0, .int 0, .int 0])) r a := by
    refine ⟨ns0, hl63, ?_⟩
    rcases hS with h | h
    · refine .inl ⟨?_, Same.seq s1 (.inl h)⟩
      rcases h with h | ⟨o, h⟩
      · exact ne_of_none h nr
      · exact ne_of_none h nr
    · exact .inr fun H' => .inr h
  generalize hH1 : upd H r (.lst [.ref a, .int 0, .int 0, .int 0]) = H1 at s1 hH1r hRow1 hScr1
  refine ⟨_, rfl, r, a, rfl, hRow1, hScr1, fun H2 p xs e b2 r2 np hp hP hd hc hle hwd hro => ?_⟩
  have npr : p ≠ r := (ne_of_none hH1r np).symm
  have hPc : PlL (cut r H2) e xs := PlL.mono (fresh_cut hH1r) hP
  refine ⟨_, rfl, _, rfl, r, a, p, xs, e, rfl, r2, hScr1.keep b2, npr, hp, hPc, hd, hc, hle, hwd, hro, fun H3 p' ys g b3 hp' hG hd' hc' hle' hwd' hro' => ?_⟩
  have s03 : Same H H3 := fun b o z => (But.trans b2 b3) b o (ne_of_none z nr) (s1 b o z)
  have hp3 : H3 p = some (.lst xs) := b3 _ _ npr hp
  have hP3 : PlL H3 e xs := PlL.mono (cut_sub _ _) (PlL.mono (fun b o z => by
    obtain ⟨z1, z2⟩ := cut_some z
    exact cut_of z1 (b3 _ _ z1 z2)) hPc)
  -- what is known of both rows
  have hce : cnt e ≤ 6 := hc
  have m4 : ∀ m ∈ mods e, m ∈ names4 := fun m hm => by
    obtain ⟨x, hx, z⟩ := List.mem_map.mp hm
    rw [← z]; exact (hro x hx).1
  have m5 : ∀ m ∈ mods e, m ∈ names5 := fun m hm => by
    obtain ⟨x, hx, z⟩ := List.mem_map.mp hm
    rw [← z]; exact (n45 (hro x hx)).1
  have m5' : ∀ m ∈ mods g, m ∈ names5 := fun m hm => by
    obtain ⟨x, hx, z⟩ := List.mem_map.mp hm
    rw [← z]; exact (hro' x hx).1
  have mEG : ∀ m ∈ mods e ++ mods g, m ∈ names5 := fun m hm => (List.mem_append.mp hm).elim (m5 m) (m5' m)
  have mGE : ∀ m ∈ mods g ++ mods e, m ∈ names5 := fun m hm => (List.mem_append.mp hm).elim (m5' m) (m5 m)
  have mEE : ∀ m ∈ mods e ++ mods e, m ∈ names5 := fun m hm => (List.mem_append.mp hm).elim (m5 m) (m5 m)
  have le5 : ∀ {ns ms : List Str}, Nm ns ms → (∀ m ∈ ms, m ∈ names5) → ns.length ≤ 5 := fun h k => nm_le h k
  have ple : Pln e := ⟨hd, by omega, fun x hx => (hro x hx).2⟩
  have plg : Pln g := ⟨hd', by omega, fun x hx => (hro' x hx).2⟩
  have whe : Whole e := ⟨by omega, by omega, hd, by omega, ⟨names5, by decide, m5⟩, fun x hx => ⟨five_ok _ (n45 (hro x hx)).1, (hro x hx).2⟩⟩
  have whg : Whole g := ⟨by omega, by omega, hd', by omega, ⟨names5, by decide, m5'⟩, fun x hx => ⟨five_ok _ (hro' x hx).1, (hro' x hx).2⟩⟩
  have rue : Runs e 3 := ⟨hd, by omega, by omega, by omega, ple.2.2⟩
  have rug : Runs g 3 := ⟨hd', by omega, by omega, by omega, plg.2.2⟩
  -- not too many rules
  refine ⟨_, rfl, p', ys, g, rfl, hp', hG, hd', by omega, fun H4 p4 us4 s4 n4 h4 hu4 => ?_⟩
  refine ⟨p4, _, rfl, .inl (SqL.of h4), _, _, rfl, rfl, _, rfl, ?_⟩
  refine ite2 (fun _ => q _) (fun _ => ?_)
  -- both stacks, what is due
  refine ⟨_, rfl, p, xs, e, rfl, s4 _ _ hp3, PlL.mono s4 hP3, hd, whe, fun H5 v1 s5 k1 => ?_⟩
  have s45 := s4.trans s5
  refine ⟨_, rfl, p', ys, g, rfl, s45 _ _ hp', PlL.mono s45 hG, hd', whg, fun H6 v2 s6 k2 => ?_⟩
  have s46 := s45.trans s6
  refine ⟨_, rfl, _, rfl, p, p', xs, ys, e, g, rfl, s46 _ _ hp3, PlL.mono s46 hP3, s46 _ _ hp', PlL.mono s46 hG, ple, plg, ⟨names5, by decide, mEG⟩, fun ns hN H7 x7 s7 hx7 => ?_⟩
  refine ⟨by show 3 ≤ sizeLine; decide, fun t8 n8 => ?_⟩
  refine ⟨t8, _, rfl, SqT.of upd_same, rfl, _, _, rfl, _, _, rfl, _, _, rfl, rfl, ?_⟩
  have s78 : Same H7 (upd H7 t8 (.tup [v1, v2, x7])) := Same.new (Same.refl _) n8
  have S8 : St8 C D (upd H7 t8 (.tup [v1, v2, x7])) p p' xs ys e g v1 v2 := by
    have sA := s46.trans (s7.trans s78)
    exact ⟨sA _ _ hp3, PlL.mono sA hP3, sA _ _ hp', PlL.mono sA hG, SkAt.mono (s6.trans (s7.trans s78)) k1, SkAt.mono (s7.trans s78) k2⟩
  have s08 : Same H (upd H7 t8 (.tup [v1, v2, x7])) := s03.trans (s46.trans (s7.trans s78))
  have hx8 := RDiff.mono s78 hx7
  generalize upd H7 t8 (.tup [v1, v2, x7]) = H8 at S8 s08 hx8
  clear k1 k2 hx7 s78 s7 s46 s45 s6 s5 s4 hu4 h4 n4 hP3 hp3 hPc hG hp' hP hp hRow1 hScr1 r2 b2 b3 np s1 hH1r hH1 nr s03
  have two : ∀ {H' : Hp}, St8 C D H' p p' xs ys e g v1 v2 → Two C D H' v1 v2 e g := fun S => ⟨S.2.2.2.2.1, S.2.2.2.2.2, rue, rug, by omega⟩
  have two' : ∀ {H' : Hp}, St8 C D H' p p' xs ys e g v1 v2 → Two C D H' v2 v1 g e := fun S => ⟨S.2.2.2.2.2, S.2.2.2.2.1, rug, rue, by omega⟩
  have two1 : ∀ {H' : Hp}, St8 C D H' p p' xs ys e g v1 v2 → Two C D H' v1 v1 e e := fun S => ⟨S.2.2.2.2.1, S.2.2.2.2.1, rue, rue, by omega⟩
  have inj : ∀ {ns' : List Str}, Nm ns' (mods e ++ mods g) → ns' = ns := fun h => Nm.inj h hN fun m => Iff.rfl
  have inj' : ∀ {ns' : List Str}, Nm ns' (mods g ++ mods e) → ns' = ns := fun h => Nm.inj h hN fun m => by rw [List.mem_append, List.mem_append]; exact Or.comm
  have ns6 : ns.length ≤ 6 := Nat.le_succ_of_le (le5 hN mEG)
  have no : ∀ {ns' : List Str}, Nm ns' (mods e ++ mods g) → 6 < ns'.length → ∀ H', Same H8 H' → False := fun h k _ _ => by have := le5 h mEG; omega
  -- the first test
  refine ⟨_, rfl, _, rfl, v1, v2, e, g, rfl, two S8, fun ns' hN' _ H9 x9 s9 hx9 => ?_, fun ns' hN' h' _ _ => by have := le5 hN' mEG; omega⟩
  rw [inj hN'] at hx9
  refine ⟨_, rfl, ne_due hN.2.1 hx9 (hx8.mono s9) ⟨false, rfl, iteF ?_⟩⟩
  have S9 := St8.mono s9 S8
  refine ⟨_, rfl, _, rfl, v1, v2, e, g, rfl, two S9, fun ns' hN' _ H10 x10 s10 hx10 => ?_, fun ns' hN' h' _ _ => by have := le5 hN' mEG; omega⟩
  have hx10 : x10 = .bl (firstD e g ns').isNone := hx10
  rw [inj hN'] at hx10
  subst hx10
  refine ⟨_, rfl, rfl, _, rfl, ?_⟩
  refine iteNS (congrArg V.bl hx8.non.symm) ?_
  have S10 := St8.mono s10 S9
  -- the other way round
  refine ⟨_, rfl, _, rfl, p', p, ys, xs, g, e, rfl, S10.2.2.1, S10.2.2.2.1, S10.1, S10.2.1, plg, ple, ⟨names5, by decide, mGE⟩, fun ns2 hN2 H11 x11 s11 hx11 => ?_⟩
  rw [inj' hN2] at hx11
  have S11 := St8.mono s11 S10
  refine ⟨_, rfl, _, rfl, v2, v1, g, e, rfl, two' S11, fun ns' hN' _ H12 x12 s12 hx12 => ?_, fun ns' hN' h' _ _ => by have := le5 hN' mGE; omega⟩
  rw [inj' hN'] at hx12
  refine ⟨_, rfl, ne_due hN.2.1 hx12 (hx11.mono s12) ⟨false, rfl, iteF ?_⟩⟩
  have S12 := St8.mono s12 S11
  refine ⟨_, rfl, _, rfl, v2, v1, g, e, rfl, two' S12, fun ns' hN' _ H13 x13 s13 hx13 => ?_, fun ns' hN' h' _ _ => by have := le5 hN' mGE; omega⟩
  have hx13 : x13 = .bl (firstD g e ns').isNone := hx13
  rw [inj' hN', firstD_comm] at hx13
  subst hx13
  have S13 := St8.mono s13 S12
  refine ⟨_, rfl, _, rfl, v1, v2, e, g, rfl, two S13, fun ns' hN' _ H14 x14 s14 hx14 => ?_, fun ns' hN' h' _ _ => by have := le5 hN' mEG; omega⟩
  have hx14 : x14 = .bl (firstD e g ns').isNone := hx14
  rw [inj hN'] at hx14
  subst hx14
  refine ⟨rfl, _, rfl, ?_⟩
  refine iteNS rfl ?_
  have S14 := St8.mono s14 S13
  have s014 : Same H H14 := s08.trans (s9.trans (s10.trans (s11.trans (s12.trans (s13.trans s14)))))
  clear S8 S9 S10 S11 S12 S13 hx9 hx12 s08 s9 s10 s11 s12 s13 s14 no
  -- the names, the bad ones
  refine ⟨_, rfl, p, xs, e, rfl, S14.1, S14.2.1, hd, by omega, fun H15 p15 n15 s15 _ h15 hN15 => ?_⟩
  have S15 := St8.mono s15 S14
  refine ⟨_, rfl, p', ys, g, rfl, S15.2.2.1, S15.2.2.2.1, hd', by omega, fun H16 p16 n16 s16 _ h16 hN16 => ?_⟩
  have hl15 : n15.length ≤ cnt e := by rw [← mods_len]; exact nm_le hN15 fun m h => h
  have hl16 : n16.length ≤ cnt g := by rw [← mods_len]; exact nm_le hN16 fun m h => h
  refine ⟨p15, p16, _, _, rfl, rfl, s16 _ _ h15, h16, Nat.le_of_lt (small1000 (by rw [List.length_map, List.length_map]; omega)), fun p17 n17 => ?_⟩
  rw [← List.map_append]
  have s17 := Same.new (o := HO.lst ((n15 ++ n16).map V.str)) (s15.trans s16) n17
  refine ⟨p17, n15 ++ n16, rfl, .inl (SqL.of upd_same), by rw [List.length_append]; omega, fun sa n nsa hn => ?_⟩
  rw [List.length_append] at hn
  refine ⟨sa, _, n, rfl, upd_same, by omega, fun ns3 lp hs3 hnd3 hmem3 hln3 nlp => ?_⟩
  have hN3 : Nm ns3 (mods e ++ mods g) := ⟨hs3, hnd3, fun m => by
    rw [hmem3 m, decide_eq_true_iff, List.mem_append, List.mem_append, hN15.2.2 m, hN16.2.2 m]⟩
  have e3 : ns3 = ns := inj hN3
  have s18 := Same.new (o := HO.lst (ns3.map V.str)) (Same.new s17 nsa) nlp
  refine ⟨Nat.zero_le _, fun bl nbl => ⟨_, _, rfl, ?_⟩⟩
  have nlb : lp ≠ bl := ne_of_none upd_same nbl
  have s19 := Same.new (o := HO.lst []) s18 nbl
  have nbl14 : H14 bl = none := s18.free nbl
  refine ⟨_, rfl, lp, ns, rfl, (by rw [upd_ne nlb, upd_same, e3]), hN.2.1, ns6, fun H20 ap us20 s20 nap hap hAn => ?_⟩
  have s14_20 : Same H14 H20 := s19.trans s20
  have S20 := St8.mono s14_20 S14
  have hbl20 : H20 bl = some (.lst []) := s20 _ _ upd_same
  have mE : ∀ m ∈ mods e, m ∈ ns := fun m h => (hN.2.2 m).mpr (List.mem_append_left _ h)
  have mG : ∀ m ∈ mods g, m ∈ ns := fun m h => (hN.2.2 m).mpr (List.mem_append_right _ h)
  have nab : ap ≠ bl := (ne_of_none (show _ = some (HO.lst []) from upd_same) nap).symm
  refine ⟨ap, rfl, ⟨_, SqL.of hap⟩, for_list (K := K) (a := ap) (xs := us20) (fun i σ H' => ∃ (v9 : Option V) (us : List V), σ = [some (.ref a), some (.ref r), some (.ref p), some (.ref p'), some v2, some x7, some x11, some (.ref lp), some (.ref bl), v9, none, some v1, none, none] ∧ Same H14 H' ∧ AnL H' ns (allC ns.length) us20 ∧ H' ap = some (.lst us20) ∧ H' bl = some (.lst us) ∧
      us.length = (((allC ns.length).take i).filter fun c => win (lk ns c) e && !win (lk ns c) g).length)
    ⟨_, [], rfl, s14_20, hAn, hap, hbl20, rfl⟩ (fun i σ H' _ ⟨_, _, _, _, _, h, _⟩ => SqL.of h) ?_ ?_⟩
  · rintro i x σ H' hi ⟨v9, us, rfl, s', hAn', hap', hbl', hus⟩
    obtain ⟨c, hci, d, rfl, hd'⟩ := paired_get hAn' hi
    have hcm := List.mem_of_getElem? hci
    have S' := St8.mono s' S14
    have hlen : us.length ≤ 4096 := by
      rw [hus]
      refine Nat.le_trans (List.length_filter_le _ _) (Nat.le_trans (List.length_take_le _ _) ?_)
      have h1 := get_len hi
      rw [← Paired.length hAn', allC_len] at h1
      exact Nat.le_trans (Nat.le_of_lt h1) (four_le ns6)
    have hfs := take_snoc' hci
    have stay : ∀ {H2 : Hp} {v : Option V}, Same H' H2 → (win (lk ns c) e && !win (lk ns c) g) = false → ∃ (v9 : Option V) (us : List V), [some (V.ref a), some (.ref r), some (.ref p), some (.ref p'), some v2, some x7, some x11, some (.ref lp), some (.ref bl), v, none, some v1, none, none] = [some (.ref a), some (.ref r), some (.ref p), some (.ref p'), some v2, some x7, some x11, some (.ref lp), some (.ref bl), v9, none, some v1, none, none] ∧ Same H14 H2 ∧ AnL H2 ns (allC ns.length) us20 ∧ H2 ap = some (.lst us20) ∧ H2 bl = some (.lst us) ∧
        us.length = (((allC ns.length).take (i + 1)).filter fun c => win (lk ns c) e && !win (lk ns c) g).length := by
      intro H2 v s2 hf
      have ef : ([c].filter fun c => win (lk ns c) e && !win (lk ns c) g) = [] := by simp [hf]
      exact ⟨v, us, rfl, s'.trans s2, hAn'.mono s2, s2 _ _ hap', s2 _ _ hbl', by rw [hfs, List.filter_append, ef, List.append_nil]; exact hus⟩
    refine ⟨_, rfl, _, rfl, p, d, xs, e, lk ns c, rfl, S'.1, S'.2.1, hd, by omega, ple.2.2, ans_ok (n := 0) hcm hd' mE, fun H21 s21 => ?_⟩
    refine ⟨rfl, _, rfl, ?_⟩
    rw [inW_dec]
    refine ite2 (fun hw => ?_) (fun hw => ?_)
    · have S21 := St8.mono s21 S'
      refine ⟨_, rfl, _, rfl, p', d, ys, g, lk ns c, rfl, S21.2.2.1, S21.2.2.2.1, plg.1, by omega, plg.2.2, ans_ok (n := 0) hcm (s21 _ _ hd') mG, fun H22 s22 => ?_⟩
      have s2122 := s21.trans s22
      refine ⟨rfl, _, rfl, ?_⟩
      rw [inW_out]
      refine ite2 (fun hw2 => ?_) (fun hw2 => ?_)
      · have hf : (win (lk ns c) e && !win (lk ns c) g) = true := by rw [hw, hw2]; rfl
        have ef : ([c].filter fun c => win (lk ns c) e && !win (lk ns c) g) = [c] := by simp [hf]
        have hbl22 := s2122 _ _ hbl'
        refine ⟨_, rfl, .inl ⟨rfl, _, SqL.of hbl22⟩, _, rfl, bl, us, _, rfl, rfl, hbl22, le_line hlen, ?_⟩
        refine ⟨_, us ++ [.ref d], rfl, Same.own (s'.trans s2122) nbl14, Paired.mapP hAn' fun c' v ⟨t', e', h'⟩ => ⟨t', e', ?_⟩, by rw [upd_ne nab]; exact s2122 _ _ hap', upd_same, ?_⟩
        · have : t' ≠ bl := fun z => by rw [z, hbl'] at h'; cases h'
          rw [upd_ne this]; exact s2122 _ _ h'
        · rw [hfs, List.filter_append, ef, List.length_append, List.length_append, hus]
          rfl
      · exact stay s2122 (by rw [show (!win (lk ns c) g) = false from by cases hh : (!win (lk ns c) g) with
            | false => rfl
            | true => exact absurd hh hw2, Bool.and_false])
    · exact iteF (stay s21 (by rw [show win (lk ns c) e = false from by cases hh : win (lk ns c) e with
            | false => rfl
            | true => exact absurd hh hw, Bool.false_and]))
  rintro σ H' ⟨v9, us, rfl, s', hAn', hap', hbl', hus⟩
  have el : (allC ns.length).take us20.length = allC ns.length := by rw [← Paired.length hAn', List.take_length]
  rw [el] at hus
  have hstrict : us.isEmpty = strict e g ns := by
    rw [strict_bad]
    exact emp_len hus
  have S' := St8.mono s' S14
  have s0' := s014.trans s'
  -- strictness
  refine ⟨_, rfl, _, rfl, v1, v2, e, g, rfl, two S', fun ns' hN' _ H23 x23 s23 hx23 => ?_, fun ns' hN' h' _ _ => by have := le5 hN' mEG; omega⟩
  have hx23 : x23 = .bl (strict e g ns') := hx23
  rw [inj hN'] at hx23
  subst hx23
  refine ⟨_, rfl, Nat.zero_le _, fun el23 nel => ?_⟩
  have s24 := Same.new (o := HO.lst []) s23 nel
  refine ⟨bl, el23, us, rfl, rfl, SqL.of (s24 _ _ hbl'), SqL.of upd_same, rfl, _, rfl, ?_⟩
  refine iteNS (congrArg V.bl hstrict.symm) ?_
  have S24 := St8.mono s24 S'
  refine ⟨_, rfl, _, rfl, v1, v2, e, g, rfl, two S24, fun ns' hN' _ H25 x25 s25 hx25 => ?_, fun ns' hN' h' _ _ => by have := le5 hN' mEG; omega⟩
  have hx25 : x25 = .bl (strict e g ns') := hx25
  rw [inj hN'] at hx25
  subst hx25
  have S25 := St8.mono s25 S24
  have s025 := s0'.trans (s24.trans s25)
  refine ⟨_, rfl, ?_⟩
  refine ite2 (fun hs1 => ?_) (fun _ => iteF ?_)
  rotate_left
  · -- the wide stack
    refine ⟨by show 6 ≤ sizeLine; decide, fun l31 n31 => ⟨l31, rfl, ⟨_, SqL.of upd_same⟩, fun D31 nD => ?_⟩⟩
    refine lc_list (K := K) (a := l31) (xs := six.map V.str) (fun i H2 => Same _ H2 ∧ ∃ us, H2 D31 = some (.lst us) ∧ Paired (fun m v => plR H2 (m, oks) v) (six.take i) us) ⟨Same.new (Same.refl _) nD, [], upd_same, .nil⟩ (fun i H2 _ ⟨s, _⟩ => SqL.of (s _ _ upd_same)) ?_ ?_
    · rintro i x H2 hi ⟨s2, us, hD, hU⟩
      have hi' := hi
      rw [List.getElem?_map] at hi'
      obtain ⟨m, hm, rfl⟩ : ∃ m, six[i]? = some m ∧ x = V.str m := by
        cases z : six[i]? with
        | none => rw [z] at hi'; cases hi'
        | some m => rw [z] at hi'; exact ⟨m, rfl, (Option.some.inj hi').symm⟩
      have hul : us.length ≤ 6 := by rw [← Paired.length hU, List.length_take]; exact Nat.min_le_right _ _
      refine ⟨rfl, ?_⟩
      refine ⟨_, rfl, by show 4 ≤ sizeLine; decide, fun t nt => ⟨by show 2 ≤ sizeLine; decide, fun q2 nq => ?_⟩⟩
      have sT : Same H2 (upd (upd H2 t (.tup oks)) q2 (.tup [.str m, .ref t])) := Same.new (Same.new (Same.refl _) nt) nq
      have ntq : t ≠ q2 := ne_of_none (show (upd H2 t (.tup oks)) t = some _ from upd_same) nq
      have ntD : t ≠ D31 := fun z => by rw [z, hD] at nt; cases nt
      have nqD : q2 ≠ D31 := (ne_of_none ((Same.new (o := HO.tup oks) (Same.refl H2) nt) _ _ hD) nq).symm
      refine ⟨us, sT _ _ hD, small1000 (by omega), Same.own (s2.trans sT) nD, us ++ [.ref q2], upd_same, ?_⟩
      rw [take_snoc' hm]
      refine paired_app (Paired.mapP hU fun m' v ⟨p1, t1, e1, h1, h2⟩ => ⟨p1, t1, e1, ?_, ?_⟩) (.cons ⟨q2, t, rfl, by rw [upd_ne nqD]; exact upd_same, by rw [upd_ne ntD, upd_ne ntq]; exact upd_same⟩ .nil)
      · rw [upd_ne (fun z => by rw [z, hD] at h1; cases h1)]; exact sT _ _ h1
      · rw [upd_ne (fun z => by rw [z, hD] at h2; cases h2)]; exact sT _ _ h2
    rintro H2 ⟨s2, us, hD, hU⟩
    have s2' := (Same.new (o := HO.lst (six.map V.str)) (Same.refl _) n31).trans s2
    have S2 := St8.mono s2' S25
    refine ⟨D31, us, mkW six, rfl, hD, mkW_pl (l := six) hU, by rw [mkW_dep]; decide, wide_whole, fun H32 vW s32 kW => ?_⟩
    have S32 := St8.mono s32 S2
    have s032 := s025.trans (s2'.trans s32)
    -- the word
    have tabs : LamX.Tabs [(Pt, (envOfC "law" (defScope lLaw) s.heap.objs.size f (.ref c)).qual ++ "<lambda>")] H := fun z hz => by
      rw [List.mem_singleton.mp hz]
      exact LamX.TabS.nil hPt
    refine ⟨tabs.ext s032, fun H33 eN _ => ?_⟩
    have S33 := St8.ext eN S32
    have twoW : Two C D H33 vW v1 (mkW six) e := ⟨SkAt.ext eN kW, S33.2.2.2.2.1, wide_runs, rue, by rw [wide_cnt]; omega⟩
    refine ⟨_, rfl, _, rfl, vW, v1, mkW six, e, rfl, twoW, fun ns' hN' h6 H34 x34 s34 hx34 => ?_, fun ns' hN' h7 H34 s34 => ⟨⟨rfl, rfl⟩, fun H35 t s35 ht => ?_⟩⟩
    · have em : mods e = [] := by
        cases z : mods e with
        | nil => rfl
        | cons m l => exact absurd ((wide_many hN' m4).2 (by rw [z]; exact List.cons_ne_nil _ _)) (by omega)
      have S35 := St8.mono s34 S33
      refine ⟨_, rfl, _, rfl, p, xs, e, rfl, S35.1, S35.2.1, hd, by omega, fun H36 pm nsm s36 _ hm hNm => ⟨Nat.zero_le _, fun l37 n37 => ⟨pm, l37, _, rfl, rfl, SqL.of (Same.new (Same.refl _) n37 _ _ hm), SqL.of upd_same, _, rfl, ?_⟩⟩⟩
      have s37 := Same.new (o := HO.lst []) s36 n37
      have S37 := St8.mono s37 S35
      have e0 : nsm = [] := List.eq_nil_iff_forall_not_mem.mpr fun m hm' => by
        have := (hNm.2.2 m).mp hm'
        rw [em] at this; exact absurd this List.not_mem_nil
      subst e0
      refine iteF ?_
      refine ⟨.none, .none, .non, .non, by decide +kernel, by decide +kernel, true, congrArg V.bl (show PyData.eqv .none .none = true from by decide +kernel), iteT ?_⟩
      refine ⟨_, rfl, _, rfl, v1, v1, e, e, rfl, two1 S37, fun ns' hN' _ H38 x38 s38 hx38 => ?_, fun ns' hN' h' _ _ => by have := le5 hN' mEE; omega⟩
      have hx38 : x38 = .bl (firstD e e ns').isNone := hx38
      rw [firstD_self] at hx38
      subst hx38
      exact q H38
    · have em : mods e ≠ [] := fun z => by have := (wide_many hN' m4).1 z; omega
      have S35 := St8.mono (s34.trans s35) S33
      refine ⟨_, rfl, _, rfl, p, xs, e, rfl, S35.1, S35.2.1, hd, by omega, fun H36 pm nsm s36 _ hm hNm => ⟨Nat.zero_le _, fun l37 n37 => ⟨pm, l37, _, rfl, rfl, SqL.of (Same.new (Same.refl _) n37 _ _ hm), SqL.of upd_same, _, rfl, ?_⟩⟩⟩
      have s37 := Same.new (o := HO.lst []) s36 n37
      have S37 := St8.mono s37 S35
      have e0 : ((nsm.map V.str).isEmpty) = false := by
        cases nsm with
        | nil =>
          obtain ⟨m, hm'⟩ := List.exists_mem_of_ne_nil _ em
          exact absurd ((hNm.2.2 m).mpr hm') List.not_mem_nil
        | cons m l => rfl
      rw [e0]
      refine iteT ?_
      refine ⟨by show 1 ≤ sizeLine; decide, fun tm ntm => ?_⟩
      have s39 := Same.new (o := HO.tup [.str "many"]) s37 ntm
      refine ⟨.tuple [.str "many"], .tuple [.str "many"], .tup (SqT.of (s39 _ _ ht)) (.cons (.str _) .nil), .tup (SqT.of upd_same) (.cons (.str _) .nil), by decide +kernel, by decide +kernel, true, congrArg V.bl (show PyData.eqv (.tuple [.str "many"]) (.tuple [.str "many"]) = true from by decide +kernel), iteT ?_⟩
      refine ⟨_, rfl, _, rfl, v1, v1, e, e, rfl, two1 (St8.mono s39 S35), fun ns' hN' _ H38 x38 s38 hx38 => ?_, fun ns' hN' h' _ _ => by have := le5 hN' mEE; omega⟩
      have hx38 : x38 = .bl (firstD e e ns').isNone := hx38
      rw [firstD_self] at hx38
      subst hx38
      exact q H38
  refine ⟨_, rfl, _, rfl, v2, v1, g, e, rfl, two' S25, fun ns' hN' _ H26 x26 s26 hx26 => ?_, fun ns' hN' h' _ _ => by have := le5 hN' mGE; omega⟩
  have hx26 : x26 = .bl (strict g e ns') := hx26
  rw [inj' hN'] at hx26
  subst hx26
  have S26 := St8.mono s26 S25
  have s026 := s025.trans s26
  refine ⟨_, rfl, ?_⟩
  refine ite2 (fun hs2 => ?_) (fun _ => iteF ?_)
  rotate_left
  · replace S25 := S26
    replace s025 := s026
    -- the wide stack
    refine ⟨by show 6 ≤ sizeLine; decide, fun l31 n31 => ⟨l31, rfl, ⟨_, SqL.of upd_same⟩, fun D31 nD => ?_⟩⟩
    refine lc_list (K := K) (a := l31) (xs := six.map V.str) (fun i H2 => Same _ H2 ∧ ∃ us, H2 D31 = some (.lst us) ∧ Paired (fun m v => plR H2 (m, oks) v) (six.take i) us) ⟨Same.new (Same.refl _) nD, [], upd_same, .nil⟩ (fun i H2 _ ⟨s, _⟩ => SqL.of (s _ _ upd_same)) ?_ ?_
    · rintro i x H2 hi ⟨s2, us, hD, hU⟩
      have hi' := hi
      rw [List.getElem?_map] at hi'
      obtain ⟨m, hm, rfl⟩ : ∃ m, six[i]? = some m ∧ x = V.str m := by
        cases z : six[i]? with
        | none => rw [z] at hi'; cases hi'
        | some m => rw [z] at hi'; exact ⟨m, rfl, (Option.some.inj hi').symm⟩
      have hul : us.length ≤ 6 := by rw [← Paired.length hU, List.length_take]; exact Nat.min_le_right _ _
      refine ⟨rfl, ?_⟩
      refine ⟨_, rfl, by show 4 ≤ sizeLine; decide, fun t nt => ⟨by show 2 ≤ sizeLine; decide, fun q2 nq => ?_⟩⟩
      have sT : Same H2 (upd (upd H2 t (.tup oks)) q2 (.tup [.str m, .ref t])) := Same.new (Same.new (Same.refl _) nt) nq
      have ntq : t ≠ q2 := ne_of_none (show (upd H2 t (.tup oks)) t = some _ from upd_same) nq
      have ntD : t ≠ D31 := fun z => by rw [z, hD] at nt; cases nt
      have nqD : q2 ≠ D31 := (ne_of_none ((Same.new (o := HO.tup oks) (Same.refl H2) nt) _ _ hD) nq).symm
      refine ⟨us, sT _ _ hD, small1000 (by omega), Same.own (s2.trans sT) nD, us ++ [.ref q2], upd_same, ?_⟩
      rw [take_snoc' hm]
      refine paired_app (Paired.mapP hU fun m' v ⟨p1, t1, e1, h1, h2⟩ => ⟨p1, t1, e1, ?_, ?_⟩) (.cons ⟨q2, t, rfl, by rw [upd_ne nqD]; exact upd_same, by rw [upd_ne ntD, upd_ne ntq]; exact upd_same⟩ .nil)
      · rw [upd_ne (fun z => by rw [z, hD] at h1; cases h1)]; exact sT _ _ h1
      · rw [upd_ne (fun z => by rw [z, hD] at h2; cases h2)]; exact sT _ _ h2
    rintro H2 ⟨s2, us, hD, hU⟩
    have s2' := (Same.new (o := HO.lst (six.map V.str)) (Same.refl _) n31).trans s2
    have S2 := St8.mono s2' S25
    refine ⟨D31, us, mkW six, rfl, hD, mkW_pl (l := six) hU, by rw [mkW_dep]; decide, wide_whole, fun H32 vW s32 kW => ?_⟩
    have S32 := St8.mono s32 S2
    have s032 := s025.trans (s2'.trans s32)
    -- the word
    have tabs : LamX.Tabs [(Pt, (envOfC "law" (defScope lLaw) s.heap.objs.size f (.ref c)).qual ++ "<lambda>")] H := fun z hz => by
      rw [List.mem_singleton.mp hz]
      exact LamX.TabS.nil hPt
    refine ⟨tabs.ext s032, fun H33 eN _ => ?_⟩
    have S33 := St8.ext eN S32
    have twoW : Two C D H33 vW v1 (mkW six) e := ⟨SkAt.ext eN kW, S33.2.2.2.2.1, wide_runs, rue, by rw [wide_cnt]; omega⟩
    refine ⟨_, rfl, _, rfl, vW, v1, mkW six, e, rfl, twoW, fun ns' hN' h6 H34 x34 s34 hx34 => ?_, fun ns' hN' h7 H34 s34 => ⟨⟨rfl, rfl⟩, fun H35 t s35 ht => ?_⟩⟩
    · have em : mods e = [] := by
        cases z : mods e with
        | nil => rfl
        | cons m l => exact absurd ((wide_many hN' m4).2 (by rw [z]; exact List.cons_ne_nil _ _)) (by omega)
      have S35 := St8.mono s34 S33
      refine ⟨_, rfl, _, rfl, p, xs, e, rfl, S35.1, S35.2.1, hd, by omega, fun H36 pm nsm s36 _ hm hNm => ⟨Nat.zero_le _, fun l37 n37 => ⟨pm, l37, _, rfl, rfl, SqL.of (Same.new (Same.refl _) n37 _ _ hm), SqL.of upd_same, _, rfl, ?_⟩⟩⟩
      have s37 := Same.new (o := HO.lst []) s36 n37
      have S37 := St8.mono s37 S35
      have e0 : nsm = [] := List.eq_nil_iff_forall_not_mem.mpr fun m hm' => by
        have := (hNm.2.2 m).mp hm'
        rw [em] at this; exact absurd this List.not_mem_nil
      subst e0
      refine iteF ?_
      refine ⟨.none, .none, .non, .non, by decide +kernel, by decide +kernel, true, congrArg V.bl (show PyData.eqv .none .none = true from by decide +kernel), iteT ?_⟩
      refine ⟨_, rfl, _, rfl, v1, v1, e, e, rfl, two1 S37, fun ns' hN' _ H38 x38 s38 hx38 => ?_, fun ns' hN' h' _ _ => by have := le5 hN' mEE; omega⟩
      have hx38 : x38 = .bl (firstD e e ns').isNone := hx38
      rw [firstD_self] at hx38
      subst hx38
      exact q H38
    · have em : mods e ≠ [] := fun z => by have := (wide_many hN' m4).1 z; omega
      have S35 := St8.mono (s34.trans s35) S33
      refine ⟨_, rfl, _, rfl, p, xs, e, rfl, S35.1, S35.2.1, hd, by omega, fun H36 pm nsm s36 _ hm hNm => ⟨Nat.zero_le _, fun l37 n37 => ⟨pm, l37, _, rfl, rfl, SqL.of (Same.new (Same.refl _) n37 _ _ hm), SqL.of upd_same, _, rfl, ?_⟩⟩⟩
      have s37 := Same.new (o := HO.lst []) s36 n37
      have S37 := St8.mono s37 S35
      have e0 : ((nsm.map V.str).isEmpty) = false := by
        cases nsm with
        | nil =>
          obtain ⟨m, hm'⟩ := List.exists_mem_of_ne_nil _ em
          exact absurd ((hNm.2.2 m).mpr hm') List.not_mem_nil
        | cons m l => rfl
      rw [e0]
      refine iteT ?_
      refine ⟨by show 1 ≤ sizeLine; decide, fun tm ntm => ?_⟩
      have s39 := Same.new (o := HO.tup [.str "many"]) s37 ntm
      refine ⟨.tuple [.str "many"], .tuple [.str "many"], .tup (SqT.of (s39 _ _ ht)) (.cons (.str _) .nil), .tup (SqT.of upd_same) (.cons (.str _) .nil), by decide +kernel, by decide +kernel, true, congrArg V.bl (show PyData.eqv (.tuple [.str "many"]) (.tuple [.str "many"]) = true from by decide +kernel), iteT ?_⟩
      refine ⟨_, rfl, _, rfl, v1, v1, e, e, rfl, two1 (St8.mono s39 S35), fun ns' hN' _ H38 x38 s38 hx38 => ?_, fun ns' hN' h' _ _ => by have := le5 hN' mEE; omega⟩
      have hx38 : x38 = .bl (firstD e e ns').isNone := hx38
      rw [firstD_self] at hx38
      subst hx38
      exact q H38
  have hnone : (firstD e g ns).isNone = true := by rw [strict_both hs1 hs2]; rfl
  refine ⟨_, rfl, _, rfl, v1, v2, e, g, rfl, two S26, fun ns' hN' _ H27 x27 s27 hx27 => ?_, fun ns' hN' h' _ _ => by have := le5 hN' mEG; omega⟩
  have hx27 : x27 = .bl (firstD e g ns').isNone := hx27
  rw [inj hN', hnone] at hx27
  subst hx27
  refine ⟨_, rfl, iteF ?_⟩
  replace S25 := St8.mono s27 S26
  replace s025 := s026.trans s27
  -- the wide stack
  refine ⟨by show 6 ≤ sizeLine; decide, fun l31 n31 => ⟨l31, rfl, ⟨_, SqL.of upd_same⟩, fun D31 nD => ?_⟩⟩
  refine lc_list (K := K) (a := l31) (xs := six.map V.str) (fun i H2 => Same _ H2 ∧ ∃ us, H2 D31 = some (.lst us) ∧ Paired (fun m v => plR H2 (m, oks) v) (six.take i) us) ⟨Same.new (Same.refl _) nD, [], upd_same, .nil⟩ (fun i H2 _ ⟨s, _⟩ => SqL.of (s _ _ upd_same)) ?_ ?_
  · rintro i x H2 hi ⟨s2, us, hD, hU⟩
    have hi' := hi
    rw [List.getElem?_map] at hi'
    obtain ⟨m, hm, rfl⟩ : ∃ m, six[i]? = some m ∧ x = V.str m := by
      cases z : six[i]? with
      | none => rw [z] at hi'; cases hi'
      | some m => rw [z] at hi'; exact ⟨m, rfl, (Option.some.inj hi').symm⟩
    have hul : us.length ≤ 6 := by rw [← Paired.length hU, List.length_take]; exact Nat.min_le_right _ _
    refine ⟨rfl, ?_⟩
    refine ⟨_, rfl, by show 4 ≤ sizeLine; decide, fun t nt => ⟨by show 2 ≤ sizeLine; decide, fun q2 nq => ?_⟩⟩
    have sT : Same H2 (upd (upd H2 t (.tup oks)) q2 (.tup [.str m, .ref t])) := Same.new (Same.new (Same.refl _) nt) nq
    have ntq : t ≠ q2 := ne_of_none (show (upd H2 t (.tup oks)) t = some _ from upd_same) nq
    have ntD : t ≠ D31 := fun z => by rw [z, hD] at nt; cases nt
    have nqD : q2 ≠ D31 := (ne_of_none ((Same.new (o := HO.tup oks) (Same.refl H2) nt) _ _ hD) nq).symm
    refine ⟨us, sT _ _ hD, small1000 (by omega), Same.own (s2.trans sT) nD, us ++ [.ref q2], upd_same, ?_⟩
    rw [take_snoc' hm]
    refine paired_app (Paired.mapP hU fun m' v ⟨p1, t1, e1, h1, h2⟩ => ⟨p1, t1, e1, ?_, ?_⟩) (.cons ⟨q2, t, rfl, by rw [upd_ne nqD]; exact upd_same, by rw [upd_ne ntD, upd_ne ntq]; exact upd_same⟩ .nil)
    · rw [upd_ne (fun z => by rw [z, hD] at h1; cases h1)]; exact sT _ _ h1
    · rw [upd_ne (fun z => by rw [z, hD] at h2; cases h2)]; exact sT _ _ h2
  rintro H2 ⟨s2, us, hD, hU⟩
  have s2' := (Same.new (o := HO.lst (six.map V.str)) (Same.refl _) n31).trans s2
  have S2 := St8.mono s2' S25
  refine ⟨D31, us, mkW six, rfl, hD, mkW_pl (l := six) hU, by rw [mkW_dep]; decide, wide_whole, fun H32 vW s32 kW => ?_⟩
  have S32 := St8.mono s32 S2
  have s032 := s025.trans (s2'.trans s32)
  -- the word
  have tabs : LamX.Tabs [(Pt, (envOfC "law" (defScope lLaw) s.heap.objs.size f (.ref c)).qual ++ "<lambda>")] H := fun z hz => by
    rw [List.mem_singleton.mp hz]
    exact LamX.TabS.nil hPt
  refine ⟨tabs.ext s032, fun H33 eN _ => ?_⟩
  have S33 := St8.ext eN S32
  have twoW : Two C D H33 vW v1 (mkW six) e := ⟨SkAt.ext eN kW, S33.2.2.2.2.1, wide_runs, rue, by rw [wide_cnt]; omega⟩
  refine ⟨_, rfl, _, rfl, vW, v1, mkW six, e, rfl, twoW, fun ns' hN' h6 H34 x34 s34 hx34 => ?_, fun ns' hN' h7 H34 s34 => ⟨⟨rfl, rfl⟩, fun H35 t s35 ht => ?_⟩⟩
  · have em : mods e = [] := by
      cases z : mods e with
      | nil => rfl
      | cons m l => exact absurd ((wide_many hN' m4).2 (by rw [z]; exact List.cons_ne_nil _ _)) (by omega)
    have S35 := St8.mono s34 S33
    refine ⟨_, rfl, _, rfl, p, xs, e, rfl, S35.1, S35.2.1, hd, by omega, fun H36 pm nsm s36 _ hm hNm => ⟨Nat.zero_le _, fun l37 n37 => ⟨pm, l37, _, rfl, rfl, SqL.of (Same.new (Same.refl _) n37 _ _ hm), SqL.of upd_same, _, rfl, ?_⟩⟩⟩
    have s37 := Same.new (o := HO.lst []) s36 n37
    have S37 := St8.mono s37 S35
    have e0 : nsm = [] := List.eq_nil_iff_forall_not_mem.mpr fun m hm' => by
      have := (hNm.2.2 m).mp hm'
      rw [em] at this; exact absurd this List.not_mem_nil
    subst e0
    refine iteF ?_
    refine ⟨.none, .none, .non, .non, by decide +kernel, by decide +kernel, true, congrArg V.bl (show PyData.eqv .none .none = true from by decide +kernel), iteT ?_⟩
    refine ⟨_, rfl, _, rfl, v1, v1, e, e, rfl, two1 S37, fun ns' hN' _ H38 x38 s38 hx38 => ?_, fun ns' hN' h' _ _ => by have := le5 hN' mEE; omega⟩
    have hx38 : x38 = .bl (firstD e e ns').isNone := hx38
    rw [firstD_self] at hx38
    subst hx38
    exact q H38
  · have em : mods e ≠ [] := fun z => by have := (wide_many hN' m4).1 z; omega
    have S35 := St8.mono (s34.trans s35) S33
    refine ⟨_, rfl, _, rfl, p, xs, e, rfl, S35.1, S35.2.1, hd, by omega, fun H36 pm nsm s36 _ hm hNm => ⟨Nat.zero_le _, fun l37 n37 => ⟨pm, l37, _, rfl, rfl, SqL.of (Same.new (Same.refl _) n37 _ _ hm), SqL.of upd_same, _, rfl, ?_⟩⟩⟩
    have s37 := Same.new (o := HO.lst []) s36 n37
    have S37 := St8.mono s37 S35
    have e0 : ((nsm.map V.str).isEmpty) = false := by
      cases nsm with
      | nil =>
        obtain ⟨m, hm'⟩ := List.exists_mem_of_ne_nil _ em
        exact absurd ((hNm.2.2 m).mpr hm') List.not_mem_nil
      | cons m l => rfl
    rw [e0]
    refine iteT ?_
    refine ⟨by show 1 ≤ sizeLine; decide, fun tm ntm => ?_⟩
    have s39 := Same.new (o := HO.tup [.str "many"]) s37 ntm
    refine ⟨.tuple [.str "many"], .tuple [.str "many"], .tup (SqT.of (s39 _ _ ht)) (.cons (.str _) .nil), .tup (SqT.of upd_same) (.cons (.str _) .nil), by decide +kernel, by decide +kernel, true, congrArg V.bl (show PyData.eqv (.tuple [.str "many"]) (.tuple [.str "many"]) = true from by decide +kernel), iteT ?_⟩
    refine ⟨_, rfl, _, rfl, v1, v1, e, e, rfl, two1 (St8.mono s39 S35), fun ns' hN' _ H38 x38 s38 hx38 => ?_, fun ns' hN' h' _ _ => by have := le5 hN' mEE; omega⟩
    have hx38 : x38 = .bl (firstD e e ns').isNone := hx38
    rw [firstD_self] at hx38
    subst hx38
    exact q H38
end
end K9
end
section
set_option Elab.async false
set_option linter.all false
set_option maxRecDepth 100000
set_option maxHeartbeats 16000000
/-! What the top has written, and the law's promise from it. -/
namespace K9
open PySem PySem.Spec PyProof.Rows L2
def HdK (K : PySem.W.Frag) (nm : Str) (st : Stmt) : Prop := ∃ f fd, PySem.W.nsIn K mainGlobals nm = some (some (.ref f)) ∧ Fun K nm nm st f fd
theorem hdK_mk {K : PySem.W.Frag} {nm : Str} {st : Stmt} {f : Addr} {oc : Value} {od an : Option Addr} {osl : Array (Option Value)} {kV doc pm cdv ct : Value} (a : PySem.W.nsIn K mainGlobals nm = some (some (.ref f)))
    (l : K.lookup f = some ⟨oc, od, .func (PySem.W.fnOf nm nm (defArgs st) (defBody st) (defScope st) .none kV doc pm an cdv ct), osl⟩) (c : PySem.W.codeIn K cdv nm = true) (k : PySem.W.keepIn K (.ref f) = true) : HdK K nm st := ⟨f, _, a, fun_mk l c k⟩
def MdK (K : PySem.W.Frag) (C : Addr) (nm qual : Str) (st : Stmt) : Prop := ∃ f fd, PySem.W.findIn K (.ref C) nm = some (some (.ref f)) ∧ PySem.W.isFn K (.ref f) = true ∧ Fun K nm qual st f fd
theorem mdK_mk {K : PySem.W.Frag} {C : Addr} {nm qual : Str} {st : Stmt} {f : Addr} {oc : Value} {od an : Option Addr} {osl : Array (Option Value)} {kV doc pm cdv ct : Value} (a : PySem.W.findIn K (.ref C) nm = some (some (.ref f))) (i : PySem.W.isFn K (.ref f) = true)
    (l : K.lookup f = some ⟨oc, od, .func (PySem.W.fnOf nm qual (defArgs st) (defBody st) (defScope st) .none kV doc pm an cdv ct), osl⟩) (c : PySem.W.codeIn K cdv qual = true) (k : PySem.W.keepIn K (.ref f) = true) : MdK K C nm qual st := ⟨f, _, a, i, fun_mk l c k⟩
def KTupK (K : PySem.W.Frag) (nm : Str) (xs : List V) : Prop := ∃ a its n sl, PySem.W.nsIn K mainGlobals nm = some (some (.ref a)) ∧ K.lookup a = some ⟨.type "tuple", none, .seq its n, sl⟩ ∧ its.size ≤ sizeLine ∧ Vals xs its.toList
theorem ktupK_mk {K : PySem.W.Frag} {nm : Str} {xs : List V} {a : Addr} {its : Array Value} {n : Nat} {sl : Array (Option Value)} (g : PySem.W.nsIn K mainGlobals nm = some (some (.ref a))) (l : K.lookup a = some ⟨.type "tuple", none, .seq its n, sl⟩) (z : its.size ≤ sizeLine) (r : Vals xs its.toList) : KTupK K nm xs := ⟨a, its, n, sl, g, l, z, r⟩
theorem KTupK.tup {K : PySem.W.Frag} {nm : Str} {xs : List V} {h : Heap} {mg : Str → Option Value} (X : K.In h) (G : h.Ns mainGlobals mg) (t : KTupK K nm xs) : KTup K mg nm xs := by
  obtain ⟨a, its, n, sl, g, l, z, r⟩ := t
  exact ⟨a, _, PySem.W.mg_of X G g, fun H => .inr ⟨_, its, n, l, rfl, rfl, z, r⟩, l, rfl, rfl⟩
/-- what is asked of the written part -/
structure AllK (K : PySem.W.Frag) (C D N TM SE c0 c1 c2 c3 c4 c5 c7 c8 c9 : Addr) : Prop where
  gC : PySem.W.nsIn K mainGlobals "Rule" = some (some (.ref C))
  gD : PySem.W.nsIn K mainGlobals "Stack" = some (some (.ref D))
  gN : PySem.W.nsIn K mainGlobals "Run" = some (some (.ref N))
  gTM : PySem.W.nsIn K mainGlobals "TooMany" = some (some (.ref TM))
  gSE : PySem.W.nsIn K mainGlobals "StackError" = some (some (.ref SE))
  gc0 : PySem.W.nsIn K mainGlobals "InvalidRule" = some (some (.ref c0))
  gc1 : PySem.W.nsIn K mainGlobals "InvalidStack" = some (some (.ref c1))
  gc2 : PySem.W.nsIn K mainGlobals "InvalidAnswers" = some (some (.ref c2))
  gc3 : PySem.W.nsIn K mainGlobals "InvalidWeights" = some (some (.ref c3))
  gc4 : PySem.W.nsIn K mainGlobals "UnknownRule" = some (some (.ref c4))
  gc5 : PySem.W.nsIn K mainGlobals "InvalidPlace" = some (some (.ref c5))
  gc7 : PySem.W.nsIn K mainGlobals "UnknownModule" = some (some (.ref c7))
  gc8 : PySem.W.nsIn K mainGlobals "InvalidMode" = some (some (.ref c8))
  gc9 : PySem.W.nsIn K mainGlobals "UnknownView" = some (some (.ref c9))
  pgC : PySem.W.plainGet K C Str.empty = true
  hdC : PySem.W.hasDictIn K C = true
  poC : PySem.W.plainOver K C = true
  saC : PySem.W.findIn K (.ref C) "__setattr__" = some (some (.builtin "object.__setattr__"))
  mkC : PySem.W.makesIn K C = true
  kcC : PySem.W.keepIn K (.ref C) = true
  nC_asks : PySem.W.findIn K (.ref C) "asks" = some none
  nC_acts : PySem.W.findIn K (.ref C) "acts" = some none
  pgD : PySem.W.plainGet K D Str.empty = true
  hdD : PySem.W.hasDictIn K D = true
  poD : PySem.W.plainOver K D = true
  saD : PySem.W.findIn K (.ref D) "__setattr__" = some (some (.builtin "object.__setattr__"))
  mkD : PySem.W.makesIn K D = true
  kcD : PySem.W.keepIn K (.ref D) = true
  nD_parts : PySem.W.findIn K (.ref D) "parts" = some none
  nD_steps : PySem.W.findIn K (.ref D) "steps" = some none
  nD_names : PySem.W.findIn K (.ref D) "names" = some none
  nD_depth : PySem.W.findIn K (.ref D) "depth" = some none
  pgN : PySem.W.plainGet K N Str.empty = true
  hdN : PySem.W.hasDictIn K N = true
  poN : PySem.W.plainOver K N = true
  saN : PySem.W.findIn K (.ref N) "__setattr__" = some (some (.builtin "object.__setattr__"))
  mkN : PySem.W.makesIn K N = true
  kcN : PySem.W.keepIn K (.ref N) = true
  nN_told : PySem.W.findIn K (.ref N) "told" = some none
  nN_asked_rules : PySem.W.findIn K (.ref N) "asked_rules" = some none
  nN_mark : PySem.W.findIn K (.ref N) "mark" = some none
  ccC : PySem.W.findIn K (.ref C) "__class__" = some (some (.builtin "object.__class__"))
  moC : PySem.W.mroIn K C (.type "object") = some true
  ccD : PySem.W.findIn K (.ref D) "__class__" = some (some (.builtin "object.__class__"))
  moD : PySem.W.mroIn K D (.type "object") = some true
  ccTM : PySem.W.findIn K (.ref TM) "__class__" = some (some (.builtin "object.__class__"))
  moTM : PySem.W.mroIn K TM (.type "object") = some true
  hn : PySem.W.specialIn K (.builtin "object.__class__") "__get__" = some (some (.builtin "getset_descriptor.__get__"))
  htk : PySem.W.takesIn K (.builtin "object.__class__") = some true
  kCC : PySem.W.kitOne K (.ref C) (.ref C) = some true
  kCD : PySem.W.kitOne K (.ref C) (.ref D) = some false
  kDD : PySem.W.kitOne K (.ref D) (.ref D) = some true
  sf : PySem.W.selfFirst K D = true
  xTM : PySem.W.excIn K TM [.type "ValueError", .type "Exception", .type "BaseException", .type "object"] "ValueError.__new__" = true
  kpTM : PySem.W.keepIn K (.ref TM) = true
  bTM : PySem.W.subIn K (.ref TM) (.type "BaseException") = some true
  tTM : PySem.W.typeIn K (.ref TM) = some (.type "type")
  gaTM : PySem.W.findIn K (.ref TM) "__getattribute__" = some (some (.builtin "BaseException.__getattribute__"))
  gtTM : PySem.W.findIn K (.ref TM) "__getattr__" = some none
  hdTM : PySem.W.hasDictIn K TM = true
  emTM : PySem.W.exmOne K (.ref TM) (.ref SE) = some true
  qc0 : PySem.W.kitOne K (.ref TM) (.ref c0) = some false
  qc1 : PySem.W.kitOne K (.ref TM) (.ref c1) = some false
  qc2 : PySem.W.kitOne K (.ref TM) (.ref c2) = some false
  qc3 : PySem.W.kitOne K (.ref TM) (.ref c3) = some false
  qc4 : PySem.W.kitOne K (.ref TM) (.ref c4) = some false
  qc5 : PySem.W.kitOne K (.ref TM) (.ref c5) = some false
  qc7 : PySem.W.kitOne K (.ref TM) (.ref c7) = some false
  qc8 : PySem.W.kitOne K (.ref TM) (.ref c8) = some false
  qc9 : PySem.W.kitOne K (.ref TM) (.ref c9) = some false
  q6 : PySem.W.kitOne K (.ref TM) (.ref TM) = some true
  qV : PySem.W.kitOne K (.ref TM) (.type "ValueError") = some true
  z_isinstance : PySem.W.nsIn K mainGlobals "isinstance" = some none
  z_int : PySem.W.nsIn K mainGlobals "int" = some none
  z_bool : PySem.W.nsIn K mainGlobals "bool" = some none
  z_str : PySem.W.nsIn K mainGlobals "str" = some none
  z_len : PySem.W.nsIn K mainGlobals "len" = some none
  z_all : PySem.W.nsIn K mainGlobals "all" = some none
  z_tuple : PySem.W.nsIn K mainGlobals "tuple" = some none
  z_list : PySem.W.nsIn K mainGlobals "list" = some none
  z_range : PySem.W.nsIn K mainGlobals "range" = some none
  z_min : PySem.W.nsIn K mainGlobals "min" = some none
  z_max : PySem.W.nsIn K mainGlobals "max" = some none
  z_enumerate : PySem.W.nsIn K mainGlobals "enumerate" = some none
  z_sorted : PySem.W.nsIn K mainGlobals "sorted" = some none
  z_set : PySem.W.nsIn K mainGlobals "set" = some none
  z_dict : PySem.W.nsIn K mainGlobals "dict" = some none
  z_zip : PySem.W.nsIn K mainGlobals "zip" = some none
  z_ValueError : PySem.W.nsIn K mainGlobals "ValueError" = some none
  s_OK : ∃ t, PySem.W.nsIn K mainGlobals "OK" = some (some (.str "ok" t))
  s_BAD : ∃ t, PySem.W.nsIn K mainGlobals "BAD" = some (some (.str "bad" t))
  s_DIE : ∃ t, PySem.W.nsIn K mainGlobals "DIE" = some (some (.str "die" t))
  s_DONE : ∃ t, PySem.W.nsIn K mainGlobals "DONE" = some (some (.str "done" t))
  s_RESET : ∃ t, PySem.W.nsIn K mainGlobals "RESET" = some (some (.str "reset" t))
  s_IN : ∃ t, PySem.W.nsIn K mainGlobals "IN" = some (some (.str "in" t))
  s_OUT : ∃ t, PySem.W.nsIn K mainGlobals "OUT" = some (some (.str "out" t))
  s_LETTERS : ∃ t, PySem.W.nsIn K mainGlobals "LETTERS" = some (some (.str letters t))
  i_MOST_JUMP : ∃ t, PySem.W.nsIn K mainGlobals "MOST_JUMP" = some (some (.int 9 t))
  i_MOST_LETTERS : ∃ t, PySem.W.nsIn K mainGlobals "MOST_LETTERS" = some (some (.int 8 t))
  i_MOST_ENTRIES : ∃ t, PySem.W.nsIn K mainGlobals "MOST_ENTRIES" = some (some (.int 12 t))
  i_MOST_RULES : ∃ t, PySem.W.nsIn K mainGlobals "MOST_RULES" = some (some (.int 12 t))
  i_MOST_MODULES : ∃ t, PySem.W.nsIn K mainGlobals "MOST_MODULES" = some (some (.int 6 t))
  i_MOST_DEPTH : ∃ t, PySem.W.nsIn K mainGlobals "MOST_DEPTH" = some (some (.int 3 t))
  t_RESULTS : KTupK K "RESULTS" (ress.map V.str)
  t_ACTIONS : KTupK K "ACTIONS" (actWs.map V.str)
  t_NONE : KTupK K "NONE" [.str "none", .non]
  t_GOOD : KTupK K "GOOD" [.str "good", .non]
  d_is_number : HdK K "is_number" sNum
  d_is_word : HdK K "is_word" sWord
  d_is_action : HdK K "is_action" sAct
  d_table_of : HdK K "table_of" sTab
  d_steps_of : HdK K "steps_of" sSteps
  d_firsts_of : HdK K "firsts_of" sFirsts
  d_marked : HdK K "marked" sMarked
  d_all_answers : HdK K "all_answers" sAllA
  d_both_outcomes : HdK K "both_outcomes" sBoth
  d_first_difference : HdK K "first_difference" sDiff
  d_alike : HdK K "alike" sAlike
  d_is_stricter : HdK K "is_stricter" sStrict
  d__law_taken : HdK K "_law_taken" lTaken
  d__law_pick : HdK K "_law_pick" lPick
  d__law_table : HdK K "_law_table" lTable
  d__law_plain : HdK K "_law_plain" lPlain
  d__law_names : HdK K "_law_names" lNames
  d__law_rules : HdK K "_law_rules" lRules
  d__law_modules : HdK K "_law_modules" lModules
  d__law_made : HdK K "_law_made" lMade
  d__law_all : HdK K "_law_all" lAll
  d__law_acted : HdK K "_law_acted" lActed
  d__law_ran : HdK K "_law_ran" lRan
  d__law_run : HdK K "_law_run" lRun
  d__law_where : HdK K "_law_where" lWhere
  d__law_drawn : HdK K "_law_drawn" lDrawn
  d__law_same : HdK K "_law_same" lSame
  d__law_other : HdK K "_law_other" lOther
  m_Rule___init__ : MdK K C "__init__" "Rule.__init__" sRI
  m_Rule_action_for : MdK K C "action_for" "Rule.action_for" sRA
  m_Stack___add__ : MdK K D "__add__" "Stack.__add__" sSA
  m_Run___init__ : MdK K N "__init__" "Run.__init__" sNI
  m_Run_ended : MdK K N "ended" "Run.ended" sNE
  m_Run_outcome : MdK K N "outcome" "Run.outcome" sNO
  m_Stack___init__ : MdK K D "__init__" "Stack.__init__" sSI
section
variable {K : PySem.W.Frag} {C D N TM SE c0 c1 c2 c3 c4 c5 c7 c8 c9 : Addr}
theorem mk_of {C f : Addr} (mk : PySem.W.makesIn K C = true) (kc : PySem.W.keepIn K (.ref C) = true) (a : PySem.W.findIn K (.ref C) "__init__" = some (some (.ref f))) (i : PySem.W.isFn K (.ref f) = true) : Mk K C f := ⟨mk, a, i, kc⟩
theorem fin_mk {l : PySem.W.OpenLaw} {w : World} {h : Heap} {mg : Str → Option Value} {fa f75 c fR : Addr} (X : K.In h) (G : h.Ns mainGlobals mg) (hfa : mg "law" = some (.ref fa)) {oc kV doc pm ct ocR kVR docR pmR ctR cdR : Value} {od an odR anR : Option Addr} {osl oslR : Array (Option Value)}
    (T : AllK K C D N TM SE c0 c1 c2 c3 c4 c5 c7 c8 c9)
    (a75 : PySem.W.nsIn K mainGlobals "law" = some (some (.ref f75))) (l75 : K.lookup f75 = some ⟨oc, od, .func (PySem.W.fnOf "law" "law" (defArgs lLaw) (defBody lLaw) (defScope lLaw) .none kV doc pm an (.ref c) ct), osl⟩) (c75 : PySem.W.codeIn K (.ref c) "law" = true)
    (aR : PySem.W.nsIn K mainGlobals "_law_raised" = some (some (.ref fR))) (lR : K.lookup fR = some ⟨ocR, odR, .func (PySem.W.fnOf "_law_raised" "_law_raised" (defArgs lRaised) (defBody lRaised) (defScope lRaised) .none kVR docR pmR anR cdR ctR), oslR⟩) (cR : PySem.W.codeIn K cdR "_law_raised" = true) (kR : PySem.W.keepIn K (.ref fR) = true)
    (hT : h.get? 573 = some { cls := .none, data := .fields #[] }) (nT : K.lookup 573 = none) (hc : PySem.W.CodeHd h c 573) :
    LamX.LawAtS l w K CX0 14 63 "_law_script" mg fa h := by
  have e := hfa.symm.trans (PySem.W.mg_of X G a75)
  cases e
  obtain ⟨fis_number, fdis_number, gis_number, Fis_number⟩ := T.d_is_number
  have gis_number := PySem.W.mg_of X G gis_number
  have bis_number := Fis_number.binds (ps := ["thing", "low", "high"]) fun _ _ _ _ _ _ us hl => match us, hl with | [_, _, _], _ => rfl
  obtain ⟨fis_word, fdis_word, gis_word, Fis_word⟩ := T.d_is_word
  have gis_word := PySem.W.mg_of X G gis_word
  have bis_word := Fis_word.binds (ps := ["thing"]) fun _ _ _ _ _ _ us hl => match us, hl with | [_], _ => rfl
  obtain ⟨fis_action, fdis_action, gis_action, Fis_action⟩ := T.d_is_action
  have gis_action := PySem.W.mg_of X G gis_action
  have bis_action := Fis_action.binds (ps := ["thing"]) fun _ _ _ _ _ _ us hl => match us, hl with | [_], _ => rfl
  obtain ⟨ftable_of, fdtable_of, gtable_of, Ftable_of⟩ := T.d_table_of
  have gtable_of := PySem.W.mg_of X G gtable_of
  have btable_of := Ftable_of.binds (ps := ["control"]) fun _ _ _ _ _ _ us hl => match us, hl with | [_], _ => rfl
  obtain ⟨fsteps_of, fdsteps_of, gsteps_of, Fsteps_of⟩ := T.d_steps_of
  have gsteps_of := PySem.W.mg_of X G gsteps_of
  have bsteps_of := Fsteps_of.binds (ps := ["entry"]) fun _ _ _ _ _ _ us hl => match us, hl with | [_], _ => rfl
  obtain ⟨ffirsts_of, fdfirsts_of, gfirsts_of, Ffirsts_of⟩ := T.d_firsts_of
  have gfirsts_of := PySem.W.mg_of X G gfirsts_of
  have bfirsts_of := Ffirsts_of.binds (ps := ["stack", "first"]) fun _ _ _ _ _ _ us hl => match us, hl with | [_, _], _ => rfl
  obtain ⟨fmarked, fdmarked, gmarked, Fmarked⟩ := T.d_marked
  have gmarked := PySem.W.mg_of X G gmarked
  have bmarked := Fmarked.binds (ps := ["action", "mark", "begin", "number"]) fun _ _ _ _ _ _ us hl => match us, hl with | [_, _, _, _], _ => rfl
  obtain ⟨fall_answers, fdall_answers, gall_answers, Fall_answers⟩ := T.d_all_answers
  have gall_answers := PySem.W.mg_of X G gall_answers
  have ball_answers := Fall_answers.binds (ps := ["modules"]) fun _ _ _ _ _ _ us hl => match us, hl with | [_], _ => rfl
  obtain ⟨fboth_outcomes, fdboth_outcomes, gboth_outcomes, Fboth_outcomes⟩ := T.d_both_outcomes
  have gboth_outcomes := PySem.W.mg_of X G gboth_outcomes
  have bboth_outcomes := Fboth_outcomes.binds (ps := ["one", "other"]) fun _ _ _ _ _ _ us hl => match us, hl with | [_, _], _ => rfl
  obtain ⟨ffirst_difference, fdfirst_difference, gfirst_difference, Ffirst_difference⟩ := T.d_first_difference
  have gfirst_difference := PySem.W.mg_of X G gfirst_difference
  have bfirst_difference := Ffirst_difference.binds (ps := ["one", "other"]) fun _ _ _ _ _ _ us hl => match us, hl with | [_, _], _ => rfl
  obtain ⟨falike, fdalike, galike, Falike⟩ := T.d_alike
  have galike := PySem.W.mg_of X G galike
  have balike := Falike.binds (ps := ["one", "other"]) fun _ _ _ _ _ _ us hl => match us, hl with | [_, _], _ => rfl
  obtain ⟨fis_stricter, fdis_stricter, gis_stricter, Fis_stricter⟩ := T.d_is_stricter
  have gis_stricter := PySem.W.mg_of X G gis_stricter
  have bis_stricter := Fis_stricter.binds (ps := ["one", "other"]) fun _ _ _ _ _ _ us hl => match us, hl with | [_, _], _ => rfl
  obtain ⟨f_law_taken, fd_law_taken, g_law_taken, F_law_taken⟩ := T.d__law_taken
  have g_law_taken := PySem.W.mg_of X G g_law_taken
  have b_law_taken := F_law_taken.binds (ps := ["_law_row", "_law_many"]) fun _ _ _ _ _ _ us hl => match us, hl with | [_, _], _ => rfl
  obtain ⟨f_law_pick, fd_law_pick, g_law_pick, F_law_pick⟩ := T.d__law_pick
  have g_law_pick := PySem.W.mg_of X G g_law_pick
  have b_law_pick := F_law_pick.binds (ps := ["_law_row", "_law_some"]) fun _ _ _ _ _ _ us hl => match us, hl with | [_, _], _ => rfl
  obtain ⟨f_law_table, fd_law_table, g_law_table, F_law_table⟩ := T.d__law_table
  have g_law_table := PySem.W.mg_of X G g_law_table
  have b_law_table := F_law_table.binds (ps := ["_law_row", "_law_plain_here"]) fun _ _ _ _ _ _ us hl => match us, hl with | [_, _], _ => rfl
  obtain ⟨f_law_plain, fd_law_plain, g_law_plain, F_law_plain⟩ := T.d__law_plain
  have g_law_plain := PySem.W.mg_of X G g_law_plain
  have b_law_plain := F_law_plain.binds (ps := ["_law_row", "_law_names_here", "_law_most", "_law_deep", "_law_plain_here"]) fun _ _ _ _ _ _ us hl => match us, hl with | [_, _, _, _, _], _ => rfl
  obtain ⟨f_law_names, fd_law_names, g_law_names, F_law_names⟩ := T.d__law_names
  have g_law_names := PySem.W.mg_of X G g_law_names
  have b_law_names := F_law_names.binds (ps := ["_law_row", "_law_most"]) fun _ _ _ _ _ _ us hl => match us, hl with | [_, _], _ => rfl
  obtain ⟨f_law_rules, fd_law_rules, g_law_rules, F_law_rules⟩ := T.d__law_rules
  have g_law_rules := PySem.W.mg_of X G g_law_rules
  have b_law_rules := F_law_rules.binds (ps := ["_law_plain_here"]) fun _ _ _ _ _ _ us hl => match us, hl with | [_], _ => rfl
  obtain ⟨f_law_modules, fd_law_modules, g_law_modules, F_law_modules⟩ := T.d__law_modules
  have g_law_modules := PySem.W.mg_of X G g_law_modules
  have b_law_modules := F_law_modules.binds (ps := ["_law_plain_here"]) fun _ _ _ _ _ _ us hl => match us, hl with | [_], _ => rfl
  obtain ⟨f_law_made, fd_law_made, g_law_made, F_law_made⟩ := T.d__law_made
  have g_law_made := PySem.W.mg_of X G g_law_made
  have b_law_made := F_law_made.binds (ps := ["_law_plain_here"]) fun _ _ _ _ _ _ us hl => match us, hl with | [_], _ => rfl
  obtain ⟨f_law_all, fd_law_all, g_law_all, F_law_all⟩ := T.d__law_all
  have g_law_all := PySem.W.mg_of X G g_law_all
  have b_law_all := F_law_all.binds (ps := ["_law_names_here"]) fun _ _ _ _ _ _ us hl => match us, hl with | [_], _ => rfl
  obtain ⟨f_law_acted, fd_law_acted, g_law_acted, F_law_acted⟩ := T.d__law_acted
  have g_law_acted := PySem.W.mg_of X G g_law_acted
  have b_law_acted := F_law_acted.binds (ps := ["_law_action", "_law_mark", "_law_begin", "_law_number"]) fun _ _ _ _ _ _ us hl => match us, hl with | [_, _, _, _], _ => rfl
  obtain ⟨f_law_ran, fd_law_ran, g_law_ran, F_law_ran⟩ := T.d__law_ran
  have g_law_ran := PySem.W.mg_of X G g_law_ran
  have b_law_ran := F_law_ran.binds (ps := ["_law_plain_here", "_law_answers", "_law_first", "_law_begin"]) fun _ _ _ _ _ _ us hl => match us, hl with | [_, _, _, _], _ => rfl
  obtain ⟨f_law_run, fd_law_run, g_law_run, F_law_run⟩ := T.d__law_run
  have g_law_run := PySem.W.mg_of X G g_law_run
  have b_law_run := F_law_run.binds (ps := ["_law_plain_here", "_law_answers"]) fun _ _ _ _ _ _ us hl => match us, hl with | [_, _], _ => rfl
  obtain ⟨f_law_where, fd_law_where, g_law_where, F_law_where⟩ := T.d__law_where
  have g_law_where := PySem.W.mg_of X G g_law_where
  have b_law_where := F_law_where.binds (ps := ["_law_plain_here", "_law_answers"]) fun _ _ _ _ _ _ us hl => match us, hl with | [_, _], _ => rfl
  obtain ⟨f_law_drawn, fd_law_drawn, g_law_drawn, F_law_drawn⟩ := T.d__law_drawn
  have g_law_drawn := PySem.W.mg_of X G g_law_drawn
  have b_law_drawn := F_law_drawn.binds (ps := ["_law_row"]) fun _ _ _ _ _ _ us hl => match us, hl with | [_], _ => rfl
  obtain ⟨f_law_same, fd_law_same, g_law_same, F_law_same⟩ := T.d__law_same
  have g_law_same := PySem.W.mg_of X G g_law_same
  have b_law_same := F_law_same.binds (ps := ["_law_one", "_law_other_here"]) fun _ _ _ _ _ _ us hl => match us, hl with | [_, _], _ => rfl
  obtain ⟨f_law_other, fd_law_other, g_law_other, F_law_other⟩ := T.d__law_other
  have g_law_other := PySem.W.mg_of X G g_law_other
  have b_law_other := F_law_other.binds (ps := ["_law_row", "_law_plain_here"]) fun _ _ _ _ _ _ us hl => match us, hl with | [_, _], _ => rfl
  obtain ⟨fRuleinit, fdRuleinit, gRuleinit, iRuleinit, FRuleinit⟩ := T.m_Rule___init__
  have bRuleinit := FRuleinit.binds (ps := ["self", "module", "control"]) fun _ _ _ _ _ _ us hl => match us, hl with | [_, _, _], _ => rfl
  obtain ⟨fRuleaction_for, fdRuleaction_for, gRuleaction_for, iRuleaction_for, FRuleaction_for⟩ := T.m_Rule_action_for
  have bRuleaction_for := FRuleaction_for.binds (ps := ["self", "result"]) fun _ _ _ _ _ _ us hl => match us, hl with | [_, _], _ => rfl
  obtain ⟨fStackadd, fdStackadd, gStackadd, iStackadd, FStackadd⟩ := T.m_Stack___add__
  have bStackadd := FStackadd.binds (ps := ["self", "other"]) fun _ _ _ _ _ _ us hl => match us, hl with | [_, _], _ => rfl
  obtain ⟨fRuninit, fdRuninit, gRuninit, iRuninit, FRuninit⟩ := T.m_Run___init__
  have bRuninit := FRuninit.binds (ps := ["self", "stack", "results"]) fun _ _ _ _ _ _ us hl => match us, hl with | [_, _, _], _ => rfl
  obtain ⟨fRunended, fdRunended, gRunended, iRunended, FRunended⟩ := T.m_Run_ended
  have bRunended := FRunended.binds (ps := ["self", "stack", "first", "mark"]) fun _ _ _ _ _ _ us hl => match us, hl with | [_, _, _, _], _ => rfl
  obtain ⟨fRunoutcome, fdRunoutcome, gRunoutcome, iRunoutcome, FRunoutcome⟩ := T.m_Run_outcome
  have bRunoutcome := FRunoutcome.binds (ps := ["self"]) fun _ _ _ _ _ _ us hl => match us, hl with | [_], _ => rfl
  obtain ⟨fSI, fdSI, gSI, iSI, FSI⟩ := T.m_Stack___init__
  have z_isinstance := PySem.W.mg_none_of X G T.z_isinstance
  have z_int := PySem.W.mg_none_of X G T.z_int
  have z_bool := PySem.W.mg_none_of X G T.z_bool
  have z_str := PySem.W.mg_none_of X G T.z_str
  have z_len := PySem.W.mg_none_of X G T.z_len
  have z_all := PySem.W.mg_none_of X G T.z_all
  have z_tuple := PySem.W.mg_none_of X G T.z_tuple
  have z_list := PySem.W.mg_none_of X G T.z_list
  have z_range := PySem.W.mg_none_of X G T.z_range
  have z_min := PySem.W.mg_none_of X G T.z_min
  have z_max := PySem.W.mg_none_of X G T.z_max
  have z_enumerate := PySem.W.mg_none_of X G T.z_enumerate
  have z_sorted := PySem.W.mg_none_of X G T.z_sorted
  have z_set := PySem.W.mg_none_of X G T.z_set
  have z_dict := PySem.W.mg_none_of X G T.z_dict
  have z_zip := PySem.W.mg_none_of X G T.z_zip
  have z_ValueError := PySem.W.mg_none_of X G T.z_ValueError
  have s_OK := T.s_OK.imp fun t e => PySem.W.mg_of X G e
  have s_BAD := T.s_BAD.imp fun t e => PySem.W.mg_of X G e
  have s_DIE := T.s_DIE.imp fun t e => PySem.W.mg_of X G e
  have s_DONE := T.s_DONE.imp fun t e => PySem.W.mg_of X G e
  have s_RESET := T.s_RESET.imp fun t e => PySem.W.mg_of X G e
  have s_IN := T.s_IN.imp fun t e => PySem.W.mg_of X G e
  have s_OUT := T.s_OUT.imp fun t e => PySem.W.mg_of X G e
  have s_LETTERS := T.s_LETTERS.imp fun t e => PySem.W.mg_of X G e
  have i_MOST_JUMP := T.i_MOST_JUMP.imp fun t e => PySem.W.mg_of X G e
  have i_MOST_LETTERS := T.i_MOST_LETTERS.imp fun t e => PySem.W.mg_of X G e
  have i_MOST_ENTRIES := T.i_MOST_ENTRIES.imp fun t e => PySem.W.mg_of X G e
  have i_MOST_RULES := T.i_MOST_RULES.imp fun t e => PySem.W.mg_of X G e
  have i_MOST_MODULES := T.i_MOST_MODULES.imp fun t e => PySem.W.mg_of X G e
  have i_MOST_DEPTH := T.i_MOST_DEPTH.imp fun t e => PySem.W.mg_of X G e
  have t_RESULTS := KTupK.tup X G T.t_RESULTS
  have t_ACTIONS := KTupK.tup X G T.t_ACTIONS
  have t_NONE := KTupK.tup X G T.t_NONE
  have t_GOOD := KTupK.tup X G T.t_GOOD
  have hTst : Tst C D K mg := ⟨⟨T.hn, T.htk⟩, ⟨⟨T.pgC, T.hdC, T.poC, T.saC⟩, T.ccC, T.moC⟩, ⟨⟨T.pgD, T.hdD, T.poD, T.saD⟩, T.ccD, T.moD⟩, PySem.W.mg_of X G T.gC, PySem.W.mg_of X G T.gD, T.kCC, T.kCD, T.kDD, T.nC_asks, T.nD_parts, T.nD_steps, T.nD_names, T.nD_depth⟩
  have hTmk : Tmk K mg := ⟨s_OK, s_BAD, s_DIE, s_DONE, s_RESET, s_IN, s_OUT, t_NONE, t_GOOD⟩
  have hTn : Tn K mg N := ⟨⟨T.pgN, T.hdN, T.poN, T.saN⟩, T.nN_told, T.nN_asked_rules, T.nN_mark, PySem.W.mg_of X G T.gN⟩
  have hTx : Texc K mg TM := ⟨PySem.W.mg_of X G T.gTM, T.xTM, T.kpTM, T.bTM, T.tTM⟩
  have hTc : Tcs K mg TM SE c0 c1 c2 c3 c4 c5 c7 c8 c9 := ⟨PySem.W.mg_of X G T.gTM, PySem.W.mg_of X G T.gSE, PySem.W.mg_of X G T.gc0, PySem.W.mg_of X G T.gc1, PySem.W.mg_of X G T.gc2, PySem.W.mg_of X G T.gc3, PySem.W.mg_of X G T.gc4, PySem.W.mg_of X G T.gc5, PySem.W.mg_of X G T.gc7, PySem.W.mg_of X G T.gc8, PySem.W.mg_of X G T.gc9,
    z_ValueError, z_isinstance, T.qc0, T.qc1, T.qc2, T.qc3, T.qc4, T.qc5, T.q6, T.qc7, T.qc8, T.qc9, T.qV, ⟨T.gaTM, T.gtTM, T.bTM, T.hdTM, T.ccTM, T.hn, T.htk, T.moTM⟩, T.emTM⟩
  have MkC : Mk K C fRuleinit := ⟨T.mkC, gRuleinit, iRuleinit, T.kcC⟩
  have MkD : Mk K D fSI := ⟨T.mkD, gSI, iSI, T.kcD⟩
  have MkN : Mk K N fRuninit := ⟨T.mkN, gRuninit, iRuninit, T.kcN⟩
  have bR := (fun_mk (st := lRaised) lR cR kR).binds (ps := ["_law_work"]) fun _ _ _ _ _ _ us hl => match us, hl with | [_], _ => rfl
  refine ⟨PySem.W.fnOf "law" "law" (defArgs lLaw) (defBody lLaw) (defScope lLaw) .none kV doc pm an (.ref c) ct, [(c, 573)], spLaw K 573, fun p hp => ?_, fun p hp => ?_, fun p hp => ?_, fun s v => .of_eq rfl, fun H a ns hl _ hH hS => ?_, fun base kb gb TB => ?_⟩
  · rw [List.mem_singleton.mp hp]; exact hT
  · rw [List.mem_singleton.mp hp]; exact nT
  · rw [List.mem_singleton.mp hp]; exact hc
  · exact ⟨a, ns, rfl, hS, hl, hH (c, 573) (List.mem_singleton_self _), fun _ => rfl⟩
  -- the draws
  have cT : Cl l.prog w K mg base CX0 1 "_law_taken" ["_law_row", "_law_many"] (spTaken K) f_law_taken fd_law_taken := ⟨g_law_taken, ok_taken F_law_taken z_int z_len, b_law_taken, F_law_taken.kp⟩
  have cPk : Cl l.prog w K mg base CX0 2 "_law_pick" ["_law_row", "_law_some"] (spPick K) f_law_pick fd_law_pick := ⟨g_law_pick, ok_pick F_law_pick z_len cT, b_law_pick, F_law_pick.kp⟩
  have cTb : Cl l.prog w K mg base CX0 2 "_law_table" ["_law_row", "_law_plain_here"] (spTable K) f_law_table fd_law_table := ⟨g_law_table, ok_table F_law_table z_tuple z_range cT, b_law_table, F_law_table.kp⟩
  have cNm : Cl l.prog w K mg base CX0 2 "_law_names" ["_law_row", "_law_most"] (spNames K) f_law_names fd_law_names := ⟨g_law_names, ok_names F_law_names z_len z_range cT, b_law_names, F_law_names.kp⟩
  have cRu : ∀ d, Cl l.prog w K mg base CX0 (d + 1) "_law_rules" ["_law_plain_here"] (spRules d) f_law_rules fd_law_rules := fun d => ⟨g_law_rules, ok_rules F_law_rules z_isinstance z_list g_law_rules b_law_rules d, b_law_rules, F_law_rules.kp⟩
  have cPl : Cl l.prog w K mg base CX0 6 "_law_plain" psPlain (spPlain K 3) f_law_plain fd_law_plain := ⟨g_law_plain, ok_plain F_law_plain z_range z_len z_min g_law_plain b_law_plain cT cRu cPk cTb 3, b_law_plain, F_law_plain.kp⟩
  have cDr : Cl l.prog w K mg base CX0 7 "_law_drawn" ["_law_row"] (spDrawn K) f_law_drawn fd_law_drawn := ⟨g_law_drawn, ok_drawn F_law_drawn cNm cPl, b_law_drawn, F_law_drawn.kp⟩
  have cOt : Cl l.prog w K mg base CX0 8 "_law_other" ["_law_row", "_law_plain_here"] (spOther K) f_law_other fd_law_other := ⟨g_law_other, ok_other F_law_other z_len cT cPk cTb cDr, b_law_other, F_law_other.kp⟩
  -- the law's own view
  have cMo : Cl l.prog w K mg base CX0 5 "_law_modules" ["_law_plain_here"] spModules f_law_modules fd_law_modules := ⟨g_law_modules, ok_modules F_law_modules z_sorted z_set (cRu 3), b_law_modules, F_law_modules.kp⟩
  have cAa : Cl l.prog w K mg base CX0 1 "_law_all" ["_law_names_here"] spAll f_law_all fd_law_all := ⟨g_law_all, ok_all F_law_all z_dict z_zip, b_law_all, F_law_all.kp⟩
  have cAc : Cl l.prog w K mg base CX0 1 "_law_acted" ["_law_action", "_law_mark", "_law_begin", "_law_number"] (spActed K) f_law_acted fd_law_acted := ⟨g_law_acted, ok_acted F_law_acted, b_law_acted, F_law_acted.kp⟩
  have cRa : Cl l.prog w K mg base CX0 5 "_law_ran" psRan (spRan K 3) f_law_ran fd_law_ran := ⟨g_law_ran, ok_ran F_law_ran z_isinstance z_list z_len z_int g_law_ran b_law_ran cRu cAc 3, b_law_ran, F_law_ran.kp⟩
  have cRn : Cl l.prog w K mg base CX0 6 "_law_run" ["_law_plain_here", "_law_answers"] (spRun K) f_law_run fd_law_run := ⟨g_law_run, ok_run F_law_run cRa, b_law_run, F_law_run.kp⟩
  have cWh : Cl l.prog w K mg base CX0 7 "_law_where" ["_law_plain_here", "_law_answers"] (spWhere K) f_law_where fd_law_where := ⟨g_law_where, ok_where F_law_where cRn, b_law_where, F_law_where.kp⟩
  have cSm : Cl l.prog w K mg base CX0 8 "_law_same" ["_law_one", "_law_other_here"] spSame f_law_same fd_law_same := ⟨g_law_same, ok_same F_law_same z_sorted z_set cMo cAa cWh, b_law_same, F_law_same.kp⟩
  -- the program
  have cNu : Cl l.prog w K mg base CX0 1 "is_number" ["thing", "low", "high"] spNum fis_number fdis_number := ⟨gis_number, ok_num Fis_number z_isinstance z_int z_bool, bis_number, Fis_number.kp⟩
  have cAt : Cl l.prog w K mg base CX0 2 "is_action" ["thing"] spAct fis_action fdis_action := ⟨gis_action, ok_act Fis_action z_isinstance z_str t_ACTIONS i_MOST_JUMP cNu, bis_action, Fis_action.kp⟩
  have cWo : Cl l.prog w K mg base CX0 1 "is_word" ["thing"] spWord fis_word fdis_word := ⟨gis_word, ok_word Fis_word z_isinstance z_str z_len z_all i_MOST_LETTERS s_LETTERS, bis_word, Fis_word.kp⟩
  have cTa : Cl l.prog w K mg base CX0 3 "table_of" ["control"] spTab ftable_of fdtable_of := ⟨gtable_of, ok_tab Ftable_of z_isinstance z_str z_tuple z_len z_all t_RESULTS cAt, btable_of, Ftable_of.kp⟩
  have oRI : FnOk l.prog w K mg base CX0 4 fRuleinit fdRuleinit ["self", "module", "control"] (spRI C) := ok_ri FRuleinit hTst.iC.cl T.nC_asks T.nC_acts cWo cTa
  have oRA : FnOk l.prog w K mg base CX0 1 fRuleaction_for fdRuleaction_for ["self", "result"] (spRA C) := ok_ra FRuleaction_for hTst.iC.cl T.nC_acts t_RESULTS
  have cSt : Cl l.prog w K mg base CX0 1 "steps_of" ["entry"] (spSteps C D) fsteps_of fdsteps_of := ⟨gsteps_of, ok_steps Fsteps_of z_isinstance hTst, bsteps_of, Fsteps_of.kp⟩
  have cFi : Cl l.prog w K mg base CX0 2 "firsts_of" ["stack", "first"] (spFirsts C D) ffirsts_of fdfirsts_of := ⟨gfirsts_of, ok_firsts Ffirsts_of z_len hTst cSt, bfirsts_of, Ffirsts_of.kp⟩
  have oSI : FnR l.prog w K mg base CX0 2 fSI (spSI C D) := ok_si FSI z_enumerate z_isinstance z_tuple z_sorted z_set z_max z_len hTst cSt i_MOST_ENTRIES i_MOST_DEPTH i_MOST_RULES i_MOST_MODULES
  have oSA : FnOk l.prog w K mg base CX0 4 fStackadd fdStackadd ["self", "other"] (spSA C D) := ok_sa FStackadd hTst MkD oSI
  have cMd : Cl l.prog w K mg base CX0 9 "_law_made" ["_law_plain_here"] (spMade C D 3) f_law_made fd_law_made := ⟨g_law_made, ok_made F_law_made z_isinstance z_list g_law_made b_law_made hTst MkD oSI MkC oRI bRuleinit T.sf gStackadd iStackadd oSA bStackadd 3, b_law_made, F_law_made.kp⟩
  have cMk : Cl l.prog w K mg base CX0 1 "marked" ["action", "mark", "begin", "number"] (spActed K) fmarked fdmarked := ⟨gmarked, ok_marked Fmarked hTmk, bmarked, Fmarked.kp⟩
  have mEn : Meth K N "ended" fRunended := ⟨gRunended, iRunended, FRunended.kp⟩
  have mOu : Meth K N "outcome" fRunoutcome := ⟨gRunoutcome, iRunoutcome, FRunoutcome.kp⟩
  have mAf : Meth K C "action_for" fRuleaction_for := ⟨gRuleaction_for, iRuleaction_for, FRuleaction_for.kp⟩
  have oEn : FnOk l.prog w K mg base CX0 6 fRunended fdRunended psEnded (spEnded K C D N 3) := ok_ended FRunended z_len z_isinstance z_int bRunended mEn hTmk hTst hTn cFi oRA bRuleaction_for mAf cMk 3
  have oNI : FnOk l.prog w K mg base CX0 7 fRuninit fdRuninit ["self", "stack", "results"] (spNI C D N K) := ok_ni FRuninit hTn hTmk oEn bRunended mEn
  have oNO : FnOk l.prog w K mg base CX0 1 fRunoutcome fdRunoutcome ["self"] (spNO N K) := ok_no FRunoutcome hTn hTmk
  have cAn : Cl l.prog w K mg base CX0 1 "all_answers" ["modules"] spAllA fall_answers fdall_answers := ⟨gall_answers, ok_alla Fall_answers t_RESULTS, ball_answers, Fall_answers.kp⟩
  have cBo : Cl l.prog w K mg base (L2.CX l.prog w) 9 "both_outcomes" ["one", "other"] (spCmp C D TM RBoth) fboth_outcomes fdboth_outcomes := ⟨gboth_outcomes, ok_both Fboth_outcomes z_sorted z_set z_len i_MOST_MODULES hTst hTn hTx MkN oNI bRuninit mOu oNO bRunoutcome cAn, bboth_outcomes, Fboth_outcomes.kp⟩
  have cDf : Cl l.prog w K mg base (L2.CX l.prog w) 10 "first_difference" ["one", "other"] (spCmp C D TM RDiff) ffirst_difference fdfirst_difference := ⟨gfirst_difference, ok_diff Ffirst_difference cBo, bfirst_difference, Ffirst_difference.kp⟩
  have cAl : Cl l.prog w K mg base (L2.CX l.prog w) 11 "alike" ["one", "other"] (spCmp C D TM RAlike) falike fdalike := ⟨galike, ok_alike Falike cDf, balike, Falike.kp⟩
  have cSr : Cl l.prog w K mg base (L2.CX l.prog w) 10 "is_stricter" ["one", "other"] (spCmp C D TM RStrict) fis_stricter fdis_stricter := ⟨gis_stricter, ok_strict Fis_stricter z_all s_IN cBo, bis_stricter, Fis_stricter.kp⟩
  exact ok_law l75 c75 lR cR kR (PySem.W.mg_of X G aR) bR (TB (c, 573) (List.mem_singleton_self _)) z_len z_sorted z_set hTc
    ⟨⟨_, _, cDr⟩, ⟨_, _, cOt⟩, ⟨_, _, cRu 3⟩, ⟨_, _, cMd⟩, ⟨_, _, cSm⟩, ⟨_, _, cDf⟩, ⟨_, _, cAl⟩, ⟨_, _, cSr⟩, ⟨_, _, cMo⟩, ⟨_, _, cAa⟩, ⟨_, _, cWh⟩⟩
end
end K9
end
section
open PySem PySem.W PyProof.Rows
set_option Elab.async false
set_option maxRecDepth 100000 in
set_option maxHeartbeats 0 in
open_top hd for PySem.Challenge.rw_loginstacks_k09_whole_stacks_compared
end
section
set_option Elab.async false
set_option linter.all false
open PySem PySem.W PyProof.Rows in
set_option maxRecDepth 100000 in
set_option maxHeartbeats 0 in
theorem PySem.Challenge.cw_loginstacks_k09_whole_stacks_compared_holds : PySem.Challenge.rw_loginstacks_k09_whole_stacks_compared.Holds := by
  refine hd ?_
  k_fill
  refine LamX.walk_ofTs (l := PySem.Challenge.rw_loginstacks_k09_whole_stacks_compared) (n := 63) (k := 14) (x := "_law_script") (CX := fun _ => L2.CX0) rfl (by decide) rfl ⟨rfl, by decide, by decide⟩ (fun w h Y => PySem.W.km_in_of Y) ?F (fun _ _ _ _ _ z => z)
  case F =>
    intro w mg fa h Y KX G hmg
    refine' K9.fin_mk KX G hmg ?A ?a75 ?l75 ?c75 ?aR ?lR ?cR ?kR ?hT ?nT ?hc
    (case hT => exact PySem.W.km_tabs_of Y 573 (List.mem_singleton_self _))
    (case a75 => k_is)
    (case l75 => k_is)
    (case c75 => k_is)
    (case aR => k_is)
    (case lR => k_is)
    (case cR => k_is)
    (case kR => k_is)
    (case nT => kernel_rfl)
    (case hc => exact PySem.W.codeHd_of_K KX (by kernel_rfl))
    case A =>
      refine' K9.AllK.mk ?gC ?gD ?gN ?gTM ?gSE ?gc0 ?gc1 ?gc2 ?gc3 ?gc4 ?gc5 ?gc7 ?gc8 ?gc9 ?pgC ?hdC ?poC ?saC ?mkC ?kcC ?nC_asks ?nC_acts ?pgD ?hdD ?poD ?saD ?mkD ?kcD ?nD_parts ?nD_steps ?nD_names ?nD_depth ?pgN ?hdN ?poN ?saN ?mkN ?kcN ?nN_told ?nN_asked_rules ?nN_mark ?ccC ?moC ?ccD ?moD ?ccTM ?moTM ?hn ?htk ?kCC ?kCD ?kDD ?sf ?xTM ?kpTM ?bTM ?tTM ?gaTM ?gtTM ?hdTM ?emTM ?qc0 ?qc1 ?qc2 ?qc3 ?qc4 ?qc5 ?qc7 ?qc8 ?qc9 ?q6 ?qV ?z_isinstance ?z_int ?z_bool ?z_str ?z_len ?z_all ?z_tuple ?z_list ?z_range ?z_min ?z_max ?z_enumerate ?z_sorted ?z_set ?z_dict ?z_zip ?z_ValueError ?s_OK ?s_BAD ?s_DIE ?s_DONE ?s_RESET ?s_IN ?s_OUT ?s_LETTERS ?i_MOST_JUMP ?i_MOST_LETTERS ?i_MOST_ENTRIES ?i_MOST_RULES ?i_MOST_MODULES ?i_MOST_DEPTH ?t_RESULTS ?t_ACTIONS ?t_NONE ?t_GOOD ?d_is_number ?d_is_word ?d_is_action ?d_table_of ?d_steps_of ?d_firsts_of ?d_marked ?d_all_answers ?d_both_outcomes ?d_first_difference ?d_alike ?d_is_stricter ?d__law_taken ?d__law_pick ?d__law_table ?d__law_plain ?d__law_names ?d__law_rules ?d__law_modules ?d__law_made ?d__law_all ?d__law_acted ?d__law_ran ?d__law_run ?d__law_where ?d__law_drawn ?d__law_same ?d__law_other ?m_Rule___init__ ?m_Rule_action_for ?m_Stack___add__ ?m_Run___init__ ?m_Run_ended ?m_Run_outcome ?m_Stack___init__
      (case gC => k_is)
      (case gD => k_is)
      (case gN => k_is)
      (case gTM => k_is)
      (case gSE => k_is)
      (case gc0 => k_is)
      (case gc1 => k_is)
      (case gc2 => k_is)
      (case gc3 => k_is)
      (case gc4 => k_is)
      (case gc5 => k_is)
      (case gc7 => k_is)
      (case gc8 => k_is)
      (case gc9 => k_is)
      (case pgC => k_is)
      (case hdC => k_is)
      (case poC => k_is)
      (case saC => k_is)
      (case mkC => k_is)
      (case kcC => k_is)
      (case nC_asks => k_is)
      (case nC_acts => k_is)
      (case pgD => k_is)
      (case hdD => k_is)
      (case poD => k_is)
      (case saD => k_is)
      (case mkD => k_is)
      (case kcD => k_is)
      (case nD_parts => k_is)
      (case nD_steps => k_is)
      (case nD_names => k_is)
      (case nD_depth => k_is)
      (case pgN => k_is)
      (case hdN => k_is)
      (case poN => k_is)
      (case saN => k_is)
      (case mkN => k_is)
      (case kcN => k_is)
      (case nN_told => k_is)
      (case nN_asked_rules => k_is)
      (case nN_mark => k_is)
      (case ccC => k_is)
      (case moC => k_is)
      (case ccD => k_is)
      (case moD => k_is)
      (case ccTM => k_is)
      (case moTM => k_is)
      (case hn => k_is)
      (case htk => k_is)
      (case kCC => kernel_rfl)
      (case kCD => kernel_rfl)
      (case kDD => kernel_rfl)
      (case sf => k_is)
      (case xTM => k_exc)
      (case kpTM => k_is)
      (case bTM => k_is)
      (case tTM => k_is)
      (case gaTM => k_is)
      (case gtTM => k_is)
      (case hdTM => k_is)
      (case emTM => kernel_rfl)
      (case qc0 => kernel_rfl)
      (case qc1 => kernel_rfl)
      (case qc2 => kernel_rfl)
      (case qc3 => kernel_rfl)
      (case qc4 => kernel_rfl)
      (case qc5 => kernel_rfl)
      (case qc7 => kernel_rfl)
      (case qc8 => kernel_rfl)
      (case qc9 => kernel_rfl)
      (case q6 => kernel_rfl)
      (case qV => kernel_rfl)
      (case z_isinstance => k_is)
      (case z_int => k_is)
      (case z_bool => k_is)
      (case z_str => k_is)
      (case z_len => k_is)
      (case z_all => k_is)
      (case z_tuple => k_is)
      (case z_list => k_is)
      (case z_range => k_is)
      (case z_min => k_is)
      (case z_max => k_is)
      (case z_enumerate => k_is)
      (case z_sorted => k_is)
      (case z_set => k_is)
      (case z_dict => k_is)
      (case z_zip => k_is)
      (case z_ValueError => k_is)
      (case s_OK => have h : PySem.W.nsIn (hd.heap_39 w.params) mainGlobals "OK" = some (some (.str "ok" _)) := (by k_is); exact ⟨_, h⟩)
      (case s_BAD => have h : PySem.W.nsIn (hd.heap_39 w.params) mainGlobals "BAD" = some (some (.str "bad" _)) := (by k_is); exact ⟨_, h⟩)
      (case s_DIE => have h : PySem.W.nsIn (hd.heap_39 w.params) mainGlobals "DIE" = some (some (.str "die" _)) := (by k_is); exact ⟨_, h⟩)
      (case s_DONE => have h : PySem.W.nsIn (hd.heap_39 w.params) mainGlobals "DONE" = some (some (.str "done" _)) := (by k_is); exact ⟨_, h⟩)
      (case s_RESET => have h : PySem.W.nsIn (hd.heap_39 w.params) mainGlobals "RESET" = some (some (.str "reset" _)) := (by k_is); exact ⟨_, h⟩)
      (case s_IN => have h : PySem.W.nsIn (hd.heap_39 w.params) mainGlobals "IN" = some (some (.str "in" _)) := (by k_is); exact ⟨_, h⟩)
      (case s_OUT => have h : PySem.W.nsIn (hd.heap_39 w.params) mainGlobals "OUT" = some (some (.str "out" _)) := (by k_is); exact ⟨_, h⟩)
      (case s_LETTERS => have h : PySem.W.nsIn (hd.heap_39 w.params) mainGlobals "LETTERS" = some (some (.str K9.letters _)) := (by k_is); exact ⟨_, h⟩)
      (case i_MOST_JUMP => have h : PySem.W.nsIn (hd.heap_39 w.params) mainGlobals "MOST_JUMP" = some (some (.int 9 _)) := (by k_is); exact ⟨_, h⟩)
      (case i_MOST_LETTERS => have h : PySem.W.nsIn (hd.heap_39 w.params) mainGlobals "MOST_LETTERS" = some (some (.int 8 _)) := (by k_is); exact ⟨_, h⟩)
      (case i_MOST_ENTRIES => have h : PySem.W.nsIn (hd.heap_39 w.params) mainGlobals "MOST_ENTRIES" = some (some (.int 12 _)) := (by k_is); exact ⟨_, h⟩)
      (case i_MOST_RULES => have h : PySem.W.nsIn (hd.heap_39 w.params) mainGlobals "MOST_RULES" = some (some (.int 12 _)) := (by k_is); exact ⟨_, h⟩)
      (case i_MOST_MODULES => have h : PySem.W.nsIn (hd.heap_39 w.params) mainGlobals "MOST_MODULES" = some (some (.int 6 _)) := (by k_is); exact ⟨_, h⟩)
      (case i_MOST_DEPTH => have h : PySem.W.nsIn (hd.heap_39 w.params) mainGlobals "MOST_DEPTH" = some (some (.int 3 _)) := (by k_is); exact ⟨_, h⟩)
      (case t_RESULTS => refine' K9.ktupK_mk ?g ?l ?z ?r; (case g => k_is); (case l => k_is); (case z => decide); (case r => exact .cons ⟨_, rfl⟩ (.cons ⟨_, rfl⟩ (.cons ⟨_, rfl⟩ (.cons ⟨_, rfl⟩ .nil)))))
      (case t_ACTIONS => refine' K9.ktupK_mk ?g ?l ?z ?r; (case g => k_is); (case l => k_is); (case z => decide); (case r => exact .cons ⟨_, rfl⟩ (.cons ⟨_, rfl⟩ (.cons ⟨_, rfl⟩ (.cons ⟨_, rfl⟩ (.cons ⟨_, rfl⟩ (.cons ⟨_, rfl⟩ .nil)))))))
      (case t_NONE => refine' K9.ktupK_mk ?g ?l ?z ?r; (case g => k_is); (case l => k_is); (case z => decide); (case r => exact .cons ⟨_, rfl⟩ (.cons rfl .nil)))
      (case t_GOOD => refine' K9.ktupK_mk ?g ?l ?z ?r; (case g => k_is); (case l => k_is); (case z => decide); (case r => exact .cons ⟨_, rfl⟩ (.cons rfl .nil)))
      (case d_is_number => refine' K9.hdK_mk ?a ?l ?c ?k; (case a => k_is); (case l => k_is); (case c => k_is); (case k => k_is))
      (case d_is_word => refine' K9.hdK_mk ?a ?l ?c ?k; (case a => k_is); (case l => k_is); (case c => k_is); (case k => k_is))
      (case d_is_action => refine' K9.hdK_mk ?a ?l ?c ?k; (case a => k_is); (case l => k_is); (case c => k_is); (case k => k_is))
      (case d_table_of => refine' K9.hdK_mk ?a ?l ?c ?k; (case a => k_is); (case l => k_is); (case c => k_is); (case k => k_is))
      (case d_steps_of => refine' K9.hdK_mk ?a ?l ?c ?k; (case a => k_is); (case l => k_is); (case c => k_is); (case k => k_is))
      (case d_firsts_of => refine' K9.hdK_mk ?a ?l ?c ?k; (case a => k_is); (case l => k_is); (case c => k_is); (case k => k_is))
      (case d_marked => refine' K9.hdK_mk ?a ?l ?c ?k; (case a => k_is); (case l => k_is); (case c => k_is); (case k => k_is))
      (case d_all_answers => refine' K9.hdK_mk ?a ?l ?c ?k; (case a => k_is); (case l => k_is); (case c => k_is); (case k => k_is))
      (case d_both_outcomes => refine' K9.hdK_mk ?a ?l ?c ?k; (case a => k_is); (case l => k_is); (case c => k_is); (case k => k_is))
      (case d_first_difference => refine' K9.hdK_mk ?a ?l ?c ?k; (case a => k_is); (case l => k_is); (case c => k_is); (case k => k_is))
      (case d_alike => refine' K9.hdK_mk ?a ?l ?c ?k; (case a => k_is); (case l => k_is); (case c => k_is); (case k => k_is))
      (case d_is_stricter => refine' K9.hdK_mk ?a ?l ?c ?k; (case a => k_is); (case l => k_is); (case c => k_is); (case k => k_is))
      (case d__law_taken => refine' K9.hdK_mk ?a ?l ?c ?k; (case a => k_is); (case l => k_is); (case c => k_is); (case k => k_is))
      (case d__law_pick => refine' K9.hdK_mk ?a ?l ?c ?k; (case a => k_is); (case l => k_is); (case c => k_is); (case k => k_is))
      (case d__law_table => refine' K9.hdK_mk ?a ?l ?c ?k; (case a => k_is); (case l => k_is); (case c => k_is); (case k => k_is))
      (case d__law_plain => refine' K9.hdK_mk ?a ?l ?c ?k; (case a => k_is); (case l => k_is); (case c => k_is); (case k => k_is))
      (case d__law_names => refine' K9.hdK_mk ?a ?l ?c ?k; (case a => k_is); (case l => k_is); (case c => k_is); (case k => k_is))
      (case d__law_rules => refine' K9.hdK_mk ?a ?l ?c ?k; (case a => k_is); (case l => k_is); (case c => k_is); (case k => k_is))
      (case d__law_modules => refine' K9.hdK_mk ?a ?l ?c ?k; (case a => k_is); (case l => k_is); (case c => k_is); (case k => k_is))
      (case d__law_made => refine' K9.hdK_mk ?a ?l ?c ?k; (case a => k_is); (case l => k_is); (case c => k_is); (case k => k_is))
      (case d__law_all => refine' K9.hdK_mk ?a ?l ?c ?k; (case a => k_is); (case l => k_is); (case c => k_is); (case k => k_is))
      (case d__law_acted => refine' K9.hdK_mk ?a ?l ?c ?k; (case a => k_is); (case l => k_is); (case c => k_is); (case k => k_is))
      (case d__law_ran => refine' K9.hdK_mk ?a ?l ?c ?k; (case a => k_is); (case l => k_is); (case c => k_is); (case k => k_is))
      (case d__law_run => refine' K9.hdK_mk ?a ?l ?c ?k; (case a => k_is); (case l => k_is); (case c => k_is); (case k => k_is))
      (case d__law_where => refine' K9.hdK_mk ?a ?l ?c ?k; (case a => k_is); (case l => k_is); (case c => k_is); (case k => k_is))
      (case d__law_drawn => refine' K9.hdK_mk ?a ?l ?c ?k; (case a => k_is); (case l => k_is); (case c => k_is); (case k => k_is))
      (case d__law_same => refine' K9.hdK_mk ?a ?l ?c ?k; (case a => k_is); (case l => k_is); (case c => k_is); (case k => k_is))
      (case d__law_other => refine' K9.hdK_mk ?a ?l ?c ?k; (case a => k_is); (case l => k_is); (case c => k_is); (case k => k_is))
      (case m_Rule___init__ => refine' K9.mdK_mk ?a ?i ?l ?c ?k; (case a => k_is); (case i => k_is); (case l => k_is); (case c => k_is); (case k => k_is))
      (case m_Rule_action_for => refine' K9.mdK_mk ?a ?i ?l ?c ?k; (case a => k_is); (case i => k_is); (case l => k_is); (case c => k_is); (case k => k_is))
      (case m_Stack___add__ => refine' K9.mdK_mk ?a ?i ?l ?c ?k; (case a => k_is); (case i => k_is); (case l => k_is); (case c => k_is); (case k => k_is))
      (case m_Run___init__ => refine' K9.mdK_mk ?a ?i ?l ?c ?k; (case a => k_is); (case i => k_is); (case l => k_is); (case c => k_is); (case k => k_is))
      (case m_Run_ended => refine' K9.mdK_mk ?a ?i ?l ?c ?k; (case a => k_is); (case i => k_is); (case l => k_is); (case c => k_is); (case k => k_is))
      (case m_Run_outcome => refine' K9.mdK_mk ?a ?i ?l ?c ?k; (case a => k_is); (case i => k_is); (case l => k_is); (case c => k_is); (case k => k_is))
      (case m_Stack___init__ => refine' K9.mdK_mk ?a ?i ?l ?c ?k; (case a => k_is); (case i => k_is); (case l => k_is); (case c => k_is); (case k => k_is))
end
