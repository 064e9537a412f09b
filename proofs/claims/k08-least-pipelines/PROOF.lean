import PyProof.Rows.All
import Wide.All
import OpenK.AllK
import Wide.FinOn
import HandS.ForMost
import HandS.ForExc
import HandS.Zip
import HandS.IsInst
import HandS.Deep
import HandS.Strs
import HandS.SetFor
import HandS.TupSets
import HandS.SetTxt0
import PyProof.Rows.SortShellAny
import HandS.Lambda
import HandS.TupAny
import HandS.TupMul
import HandS.Style
import HandS.SortOrd
import PyProof.Rows.SortStr
import KE.LtData
import KE.KSortTup
import KE.KSortAsk
import HandS.EndTab
import KE.KEqDict
import KE.GoesEnum
import KE.KNestM
import KE.KLam
import PySem.Challenge.RW_jobwise_k08_whole_least_pipelines_and_ne
set_option Elab.async false
set_option linter.all false
set_option maxRecDepth 100000
set_option  maxHeartbeats  4000000
namespace JS
open PySem PySem.Spec PyProof.Rows L2
def keyS (e : Int × Value) : Str := match e.2 with | .str k _ => k | _ => Str.empty
def GoodS (w : World) (e : Int × Value) : Prop := ∃ k tk, e.2 = Value.str k tk ∧ e.1 = hashStr w k
/-- the set of the texts L at a; its table rises and can be walked -/
def SetS (w : World) (h : Heap) (a : Addr) (L : List Str) : Prop :=
  ∃ o es ep t, h.get? a = some o ∧ o.ExactSet ∧ o.data = .set es ep t ∧ (∀ e ∈ es.toList, GoodS w e) ∧ L.Nodup ∧ (es.toList.map keyS).Perm L ∧
    es.size < scanBound ∧ t.fits es.size = true ∧ Ris t.place.toList ∧ (w.params.followText "set-order" = true ∨ t.led = true)
section
variable {P : Program} {w : World} {A : Around} {E : Value → Shared → Prop} {s : Shared} {a : Addr} {L : List Str}
theorem SetS.keep {h h' : Heap} (R : SetS w h a L) (k : ∀ o, h.get? a = some o → h'.get? a = some o) : SetS w h' a L := by
  obtain ⟨o, es, ep, t, ho, r⟩ := R
  exact ⟨o, es, ep, t, k o ho, r⟩
theorem isStr (k : Str) (u : Tok) : (strKind P w).is k (.str k u) = true := by
  show Value.isStrOf k (.str k u) = true
  simp [Value.isStrOf]
theorem good_elems {l : List (Int × Value)} (g : ∀ e ∈ l, GoodS w e) : ElemsOf (strKind P w) l := fun e he => by
  obtain ⟨k, tk, h1, h2⟩ := g e he
  exact ⟨⟨k, by rw [h1]; exact isStr k tk, h2⟩, by rw [h1] <;> rfl⟩
theorem good_is {e : Int × Value} (g : GoodS w e) (k : Str) : (strKind P w).is k e.2 = true ↔ keyS e = k := by
  obtain ⟨k0, tk, h1, _⟩ := g
  unfold keyS
  rw [h1]
  show Value.isStrOf k (.str k0 tk) = true ↔ k0 = k
  simp [Value.isStrOf]
theorem good_mem {l : List (Int × Value)} (g : ∀ e ∈ l, GoodS w e) (k : Str) : k ∈ l.map keyS ↔ ∃ e ∈ l, (strKind P w).is k e.2 = true := by
  rw [List.mem_map]
  constructor
  · rintro ⟨e, he, q⟩
    exact ⟨e, he, (good_is (P := P) (g e he) k).2 q⟩
  · rintro ⟨e, he, q⟩
    exact ⟨e, he, (good_is (P := P) (g e he) k).1 q⟩
theorem setS_fresh {h : Heap} (ho : h.get? a = some { cls := .type "set", dict := none, data := .set #[] 0 (.fresh 0 0 (!w.params.followText "set-order")) }) : SetS w h a [] :=
  ⟨_, #[], 0, _, ho, ⟨rfl, rfl, rfl⟩, rfl, (fun e he => by simp at he), List.nodup_nil, List.Perm.nil, (by decide), (by rfl), List.Pairwise.nil, by
    show _ ∨ (!w.params.followText "set-order") = true
    cases w.params.followText "set-order"
    · exact .inr rfl
    · exact .inl rfl⟩
theorem add_tail {g : Bool → Sem Unit} (hg : ∀ (b : Bool) (s₁ : Shared) (Q' : Unit → Shared → Prop), Q' () s₁ → wpAny (model P w) A (g b) Q' E s₁)
    {o : Obj} {es : Array (Int × Value)} {ep : Nat} {t : SetTable} (ho : s.heap.get? a = some o) (hex : o.ExactSet) (hd : o.data = .set es ep t)
    {es1 : Array (Int × Value)} {t2 : SetTable} {L' : List Str} (g1 : ∀ e ∈ es1.toList, GoodS w e) (nd1 : L'.Nodup) (m1 : (es1.toList.map keyS).Perm L')
    (hb1 : es1.size < scanBound) (hf2 : t2.fits es1.size = true) (hr : Ris t2.place.toList) (hl : w.params.followText "set-order" = true ∨ t2.led = true) {wasDummy : Bool} {R : Option Bool → Shared → Prop}
    (hR : ∀ h', Heap.SameBut a s.heap h' → SetS w h' a L' → R (some true) { s with heap := h' }) :
    wpAny (model P w) A (do
        storeSet a es1 t2
        if (!wasDummy && t2.tooFull) = true then do
            g (relayAll t2 es1 (SetTable.grown es1.size)).2.2
            storeSet a (relayAll t2 es1 (SetTable.grown es1.size)).1 (relayAll t2 es1 (SetTable.grown es1.size)).2.1
            pure (some true)
          else pure (some true)) R E s := by
  refine wpAny_bind (wpAny_storeSet_of ho hd ?_ (fits_of_scanBound hb1))
  have ho1 := store_at (es' := es1) (t' := t2) ho hd
  have sb1 := Heap.SameBut.update s.heap a (Obj.putSet es1 t2)
  split
  · have pm := relayAll_perm t2 es1 (SetTable.grown es1.size)
    have hf3 := relayAll_fits t2 es1 (SetTable.grown es1.size)
    have hr3 := relayAll_ris t2 es1 (SetTable.grown es1.size)
    have hl3 := relayAll_led t2 es1 (SetTable.grown es1.size)
    generalize relayAll t2 es1 (SetTable.grown es1.size) = Z at pm hf3 hr3 hl3 ⊢
    obtain ⟨es2, t3, gave⟩ := Z
    dsimp only at pm hf3 hr3 hl3 ⊢
    have hsz : es2.size = es1.size := by rw [← Array.length_toList, pm.length_eq, Array.length_toList]
    have hb2 : es2.size < scanBound := by rw [hsz]; exact hb1
    refine wpAny_bind (hg _ _ _ ?_)
    refine wpAny_bind (wpAny_storeSet_of ho1 rfl ?_ (fits_of_scanBound hb2))
    have ho2 := store_at (es' := es2) (t' := t3) ho1 rfl
    refine wpAny_pure (hR _ (sb1.trans (Heap.SameBut.update _ a _)) ?_)
    exact ⟨_, es2, _, t3, ho2, hex, rfl, fun e he => g1 e (pm.mem_iff.mp he), nd1, (pm.map keyS).trans m1, hb2, hf3, hr3,
      hl.imp id fun z => by rw [hl3]; exact z⟩
  · exact wpAny_pure (hR _ sb1 ⟨_, es1, _, t2, ho1, hex, rfl, g1, nd1, m1, hb1, hf2, hr, hl⟩)
theorem add_str {k : Str} {tk : Tok} {Q : Bool → Shared → Prop} (R : SetS w s.heap a L) (room : L.length + 1 < scanBound)
    (hQ : ∀ b h' L', Heap.SameBut a s.heap h' → SetS w h' a L' → (k ∈ L → L' = L) → (k ∉ L → L'.Perm (k :: L)) → Q b { s with heap := h' }) :
    wpAny (model P w) A (setAddHashed a (.str k tk) (hashStr w k)) Q E s := by
  obtain ⟨o, es, ep, t, ho, hex, hd, g, nd, hm, hb, hf, hr, hl⟩ := R
  have hkey : (strKind P w).is k (.str k tk) = true := isStr k tk
  have hsc : (Value.str k tk).scannable = true := rfl
  have hel : ElemsOf (strKind P w) es.toList := good_elems g
  unfold setAddHashed setAddHashedIn
  refine wpAny_holding (wpAny_bind (wpAny_setState_of ho hd hf ?_))
  dsimp only
  rw [byScan_of hsc hb hel]
  simp only [↓reduceIte]
  unfold setAddByScan
  refine wpAny_bind ?_
  refine wpAny_bind (wpAny_rule ?_)
  refine wpAny_bind (wpAny_setScan_of hkey ho hd hf hel ?_)
  cases hfi : List.findIdx? (fun e => (strKind P w).is k e.2) es.toList with
  | some j =>
    dsimp only
    obtain ⟨hj, pj, _⟩ := List.findIdx?_eq_some_iff_getElem.mp hfi
    have hkL : k ∈ L := hm.mem_iff.mp ((good_mem (P := P) (w := w) g k).2 ⟨es.toList[j], List.getElem_mem hj, pj⟩)
    exact wpAny_pure (wpAny_pure (hQ _ s.heap L (Heap.SameBut.refl a s.heap) ⟨o, es, ep, t, ho, hex, hd, g, nd, hm, hb, hf, hr, hl⟩ (fun _ => rfl) fun z => absurd hkL z))
  | none =>
    dsimp only
    have hnk : k ∉ L := fun z => by
      obtain ⟨e, he, q⟩ := (good_mem (P := P) (w := w) g k).1 (hm.mem_iff.mpr z)
      have c := List.findIdx?_eq_none_iff.mp hfi e he
      rw [q] at c
      cases c
    have hgw : ∀ (b : Bool) {s₁ : Shared} {Q' : Unit → Shared → Prop}, Q' () s₁ → wpAny (model P w) A (match b with | true => rule "set.scan.the-table-gave-way" | false => pure ()) Q' E s₁ :=
      fun b s₁ Q' q => by cases b <;> first | exact wpAny_pure q | exact wpAny_rule q
    have pm := layNew_perm t es (hashStr w k) (.str k tk)
    have hf1 := layNew_fits t es (hashStr w k) (.str k tk)
    have hr1 := layNew_ris t es (hashStr w k) (.str k tk) hr
    have hl1 := layNew_led t es (hashStr w k) (.str k tk)
    generalize layNew t es (hashStr w k) (.str k tk) = Z at pm hf1 hr1 hl1 ⊢
    obtain ⟨es1, t1, wasDummy, gave⟩ := Z
    dsimp only at pm hf1 hr1 hl1 ⊢
    rw [Array.toList_push] at pm
    have pc : es1.toList.Perm ((hashStr w k, Value.str k tk) :: es.toList) := pm.trans (List.perm_append_singleton _ _)
    have pk : (es1.toList.map keyS).Perm (k :: L) := (pc.map keyS).trans (List.Perm.cons k hm)
    have g1 : ∀ e ∈ es1.toList, GoodS w e := fun e he => by
      rcases List.mem_cons.mp (pc.mem_iff.mp he) with z | z
      · rw [z]; exact ⟨k, tk, rfl, rfl⟩
      · exact g e z
    have nd1 : (k :: L).Nodup := List.nodup_cons.mpr ⟨hnk, nd⟩
    have hsz : es1.size = L.length + 1 := by
      have q := pk.length_eq
      rw [List.length_map, Array.length_toList, List.length_cons] at q
      exact q
    have hb1 : es1.size < scanBound := by rw [hsz]; exact room
    have hled : w.params.followText "set-order" = true ∨ t1.led = true := hl.imp id fun z => by rw [hl1]; exact z
    have fin : ∀ h', Heap.SameBut a s.heap h' → SetS w h' a (k :: L) → Q true { s with heap := h' } := fun h' sb r => hQ true h' (k :: L) sb r (fun z => absurd z hnk) fun _ => List.Perm.refl _
    refine wpAny_bind (hgw _ ?_)
    split
    · refine wpAny_bind ?_
      rw [hashByValue_scannable 8 hsc]
      refine wpAny_pure ?_
      refine add_tail ?_ ho hex hd g1 nd1 pk hb1 ?_ ?_ ?_ ?_
      · intro b s₁ Q' q; cases b <;> first | exact wpAny_pure q | exact wpAny_rule q
      · first | (split <;> first | exact hf1 | exact SetTable.fits_plain_off hf1) | exact hf1
      · first | (split <;> exact hr1) | exact hr1
      · first | (split <;> exact hled) | exact hled
      · intro h' sb r; dsimp only; exact wpAny_pure (fin h' sb r)
    · refine wpAny_bind (wpAny_pure ?_)
      simp only [↓reduceIte]
      refine add_tail ?_ ho hex hd g1 nd1 pk hb1 hf1 hr1 hled ?_
      · intro b s₁ Q' q; cases b <;> first | exact wpAny_pure q | exact wpAny_rule q
      · intro h' sb r; dsimp only; exact wpAny_pure (fin h' sb r)
/-- what the set has got from the first i items -/
structure Got (ks : List Str) (i : Nat) (L : List Str) : Prop where
  mem : ∀ p, p ∈ L ↔ p ∈ ks.take i
  len : L.length ≤ i
theorem Got.zero (ks : List Str) : Got ks 0 [] := ⟨fun p => by simp, Nat.le_refl _⟩
theorem Got.same {ks L : List Str} {i : Nat} {x : Str} (g : Got ks i L) (h : ks[i]? = some x) (hm : x ∈ L) : Got ks (i + 1) L := by
  refine ⟨fun p => ?_, Nat.le_succ_of_le g.len⟩
  rw [take_next h, List.mem_append, List.mem_singleton, ← g.mem p]
  exact ⟨.inl, fun z => z.elim id fun e => by rw [e]; exact hm⟩
theorem Got.more {ks L L' : List Str} {i : Nat} {x : Str} (g : Got ks i L) (h : ks[i]? = some x) (pm : L'.Perm (x :: L)) : Got ks (i + 1) L' := by
  refine ⟨fun p => ?_, ?_⟩
  · rw [take_next h, List.mem_append, List.mem_singleton, ← g.mem p, pm.mem_iff, List.mem_cons]
    exact Or.comm
  · rw [pm.length_eq, List.length_cons]
    exact Nat.succ_le_succ g.len
theorem strs_get : ∀ {us : List Value} {xs : List Str} {i : Nat} {v : Value}, StrsAre us xs → us[i]? = some v → ∃ p tk, xs[i]? = some p ∧ v = .str p tk
  | _, _, _, _, .nil, e => by simp at e
  | _, _, 0, _, .cons x t h, e => by simp at e; subst e; exact ⟨x, t, rfl, rfl⟩
  | _, _, i + 1, _, .cons x t h, e => by
    obtain ⟨p, tk, h1, h2⟩ := strs_get (i := i) h (by simpa using e)
    exact ⟨p, tk, by simpa using h1, h2⟩
/-- set.update's loop -/
theorem set_update_strs {I : Addr} {fp wr : List Addr} {G : Array GenState → Array GenState → Prop} {n : Nat} {Pv : Nat → Value → Prop} {St : Nat → Shared → Prop} {R : Result → Shared → Prop}
    (W : WalksS P w A.in1 I fp wr G n Pv St) (S : Addr) (hSf : S ∉ fp) (ks : List Str) (hn : n = ks.length) (hfew : ks.length + 1 < scanBound) (hval : ∀ i v, Pv i v → ∃ p tk, ks[i]? = some p ∧ v = .str p tk)
    (h0 : Heap) (hS0 : h0.get? S = none) (hw0 : ∀ b ∈ wr, h0.get? b = none) :
    ∀ (k i : Nat) (s : Shared), n - i = k → i ≤ n → St i s → (∀ b o, h0.get? b = some o → s.heap.get? b = some o) → (∃ L, SetS w s.heap S L ∧ Got ks i L) →
      (∀ s' L, Moved (S :: wr) G s s' → SetS w s'.heap S L → Got ks n L → (∀ b o, h0.get? b = some o → s'.heap.get? b = some o) → R (.ok (.ret .none)) s') →
      codeAny (model P w) A (.builtin "set.update.loop" ⟨[.ref S, .ref I], []⟩) R s := by
  have hSw : S ∉ wr := fun h => hSf (W.sub _ h)
  have hsub : ∀ b ∈ wr, b ∈ S :: wr := fun b hb => List.mem_cons_of_mem _ hb
  have keepM : ∀ {s s' : Shared}, Moved wr G s s' → (∀ b o, h0.get? b = some o → s.heap.get? b = some o) → ∀ b o, h0.get? b = some o → s'.heap.get? b = some o := fun hm hkp b o e =>
    hm.heap b o (fun hb => by rw [hw0 b hb] at e; cases e) (hkp b o e)
  intro k
  induction k with
  | zero =>
    intro i s hk' hi hst hkp ⟨L, hS, g⟩ hR
    have hin : i = n := by omega
    subst hin
    refine codeAny_builtin F.entry_set_update_loop ?_
    rw [Around.under_plainId F.plain_set_update_loop _]
    show wpAny _ A.in1 (pyNext (.ref I) >>= _) _ _ s
    refine wpAny_bind (W.done s _ _ hst fun s' hm => ?_)
    show wpAny _ A.in1 (ret Value.none) _ _ s'
    have hkp' := keepM hm hkp
    exact wpAny_pure (hR s' L (hm.mono hsub) (hS.keep (fun o e => hm.heap S o hSw e)) g hkp')
  | succ k ih =>
    intro i s hk' hi hst hkp ⟨L, hS, g⟩ hR
    have hlt : i < n := by omega
    refine codeAny_builtin F.entry_set_update_loop ?_
    rw [Around.under_plainId F.plain_set_update_loop _]
    show wpAny _ A.in1 (pyNext (.ref I) >>= _) _ _ s
    refine wpAny_bind (W.item i s _ _ hlt hst fun v s' hP hst' hm => ?_)
    obtain ⟨p, tk, hp, rfl⟩ := hval i v hP
    have hkp' := keepM hm hkp
    have hS' : SetS w s'.heap S L := hS.keep (fun o e => hm.heap S o hSw e)
    show wpAny _ A.in1 (holding [Value.str p tk] (setAdd S (.str p tk)) >>= _) _ _ s'
    refine wpAny_bind (wpAny_holding ?_)
    unfold setAdd
    refine wpAny_holding ?_
    refine wpAny_bind (wpAny_pyHash_str ?_)
    refine add_str (s := { s' with toks := s'.toks + 1 }) hS' (by have := g.len; have := (List.getElem?_eq_some_iff.mp hp).1; omega) fun b h' L' hsb hS2 c1 c2 => ?_
    have g' : Got ks (i + 1) L' := by
      rcases Classical.em (p ∈ L) with c | c
      · rw [c1 c]; exact g.same hp c
      · exact g.more hp (c2 c)
    have hkp2 : ∀ b o, h0.get? b = some o → h'.get? b = some o := fun b o e => (hsb.2 b (fun z => by rw [z, hS0] at e; cases e)).trans (hkp' b o e)
    refine wpAny_pure ⟨plainId_quiet F.plain_set_update_loop _, ih (i + 1) _ (by omega) hlt (W.frame _ s' _ _ hst' (Nat.le_add_right _ _) fun b hb o e => ?_) hkp2 ⟨L', hS2, g'⟩ fun s'' L2 hm'' hS'' g'' hkp'' => ?_⟩
    · rw [hsb.2 b (fun h : b = S => hSf (by rw [← h]; exact hb))]; exact e
    · refine hR s'' L2 (Moved.trans W.gtrans ((hm.mono hsub).then_heap (Nat.le_add_right _ _) fun b o hb e => ?_) hm'') hS'' g'' hkp''
      rw [hsb.2 b (fun h : b = S => hb (by rw [h]; exact List.mem_cons_self))]; exact e

set_option maxHeartbeats 3200000 in
/-- set(xs) -/
theorem call_set_strs {l : Addr} {items : Array Value} (ks : List Str) {Q : Value → Shared → Prop} (hh : A.handled = none) (hl : s.heap.IsList l items) (hit : PyProof.Rows.StrsAre items.toList ks)
    (hfew : ks.length + 1 < scanBound)
    (h : ∀ (h' : Heap) (tk : Nat) L, SetS w h' s.heap.objs.size L → Got ks ks.length L → (∀ b o, s.heap.get? b = some o → h'.get? b = some o) → Q (.ref s.heap.objs.size) { s with heap := h', toks := tk }) :
    wpAny (model P w) A (call (.type "set") [.ref l]) Q E s := by
  have hisz : items.size = ks.length := by
    have q := hit.length
    rw [Array.length_toList] at q
    exact q
  obtain ⟨c, tl, hmro⟩ := F.called_set.mro
  have hmade := F.called_set.made
  have hsub := F.called_set.sub
  refine wpAny_call (codeAny_of_tree ?_)
  show wpAny _ _ (callAny (.type "set") _) _ _ _
  refine wpAny_pure ⟨Code.quiet_builtin _ (by decide +kernel), codeAny_builtin F.entry_type_call ?_⟩
  rw [Around.under_plain (weight_type_call_type "set" [.ref l] []) rfl]
  have h1 := F.called_set.notType
  have h2 := F.called_set.canCreate
  have hct := F.typeCall_set_1 (.ref l)
  repeat (any_goals (first | assumption | wp_step))

  refine codeAny_mono (code_set_led1 (.ref l) (E := E) (Q₁ := fun obj s₁ => obj = .ref s.heap.objs.size ∧ s₁ = { s with heap := s.heap.push { cls := .type "set", dict := none, data := .set #[] 0 (.fresh 0 0 (!w.params.followText "set-order")) } }) ⟨rfl, rfl⟩) fun r s₁ hr => ?_
  cases r with
  | error e => exact hr
  | ok fl =>
    cases fl with
    | ret obj =>
      obtain ⟨rfl, rfl⟩ := hr
      have hS : (s.heap.push { cls := .type "set", dict := none, data := .set #[] 0 (.fresh 0 0 (!w.params.followText "set-order")) }).get? s.heap.objs.size = some { cls := .type "set", dict := none, data := .set #[] 0 (.fresh 0 0 (!w.params.followText "set-order")) } := Heap.get?_push_size _ rfl
      have hT : Shared.TypeIs { s with heap := s.heap.push { cls := .type "set", dict := none, data := .set #[] 0 (.fresh 0 0 (!w.params.followText "set-order")) } } (.ref s.heap.objs.size) "set" := ⟨_, hS, rfl⟩
      have hli := F.called_set.init.lookup
      have hbi := F.called_set.init.bind (.ref s.heap.objs.size)
      repeat (any_goals (first | assumption | wp_step))

      refine codeAny_mono (codeAny_call_builtin (R := wants (fun r s₂ => r = .none ∧ ∃ h' tk L, s₂ = { s with heap := h', toks := tk } ∧ SetS w h' s.heap.objs.size L ∧ Got ks ks.length L ∧
          (∀ b o, s.heap.get? b = some o → h'.get? b = some o)) E) F.called_set.init.plain F.entry_set_init (check_set_init_1 hT ?_)) fun r₂ s₂ hr₂ => ?_
      · obtain ⟨ol, hol, hcl, nl, hdl⟩ := hl
        obtain ⟨ocls, odict, odata, oslots⟩ := ol
        simp only at hcl hdl
        subst hcl; subst hdl
        have hol' : (s.heap.push { cls := .type "set", dict := none, data := .set #[] 0 (.fresh 0 0 (!w.params.followText "set-order")) }).get? l = some { cls := .type "list", dict := odict, data := .seq items nl, slots := oslots } := Heap.get?_push_of_some _ hol
        have hsls := F.sub_list_set
        have hslf := F.sub_list_frozenset
        have hne : (Value.type "list" == Value.type "dict") = false := by decide
        have hl1 : (s.heap.push { cls := .type "set", dict := none, data := .set #[] 0 (.fresh 0 0 (!w.params.followText "set-order")) }).IsList l items := ⟨_, hol', rfl, nl, rfl⟩
        unfold Builtin.«set.__init__» noKeywords Builtin.Frozenset.updateFrom
        generalize hPI : pyIter = PI
        wp_walk
        subst hPI

        refine wpAny_pyIter_list hl1 ?_
        refine wpAny_bind (wpAny_runValue ?_)
        have hlS : l < s.heap.objs.size := Heap.lt_size hol
        have hh3 : A.in1.in1.in1.handled = none := by simp [hh]
        have hz1 : (s.heap.push { cls := .type "set", dict := none, data := .set #[] 0 (.fresh 0 0 (!w.params.followText "set-order")) }).objs.size = s.heap.objs.size + 1 := Heap.size_push ..
        have hneI : l ≠ (s.heap.push { cls := .type "set", dict := none, data := .set #[] 0 (.fresh 0 0 (!w.params.followText "set-order")) }).objs.size := by
          rw [Heap.size_push]; exact Nat.ne_of_lt (Nat.lt_succ_of_lt hlS)
        have hSf : s.heap.objs.size ∉ [(s.heap.push { cls := .type "set", dict := none, data := .set #[] 0 (.fresh 0 0 (!w.params.followText "set-order")) }).objs.size, l] := by
          rw [Heap.size_push]; simp only [List.mem_cons, List.mem_singleton, List.not_mem_nil, or_false, not_or]
          exact ⟨Nat.ne_of_lt (Nat.lt_succ_self _), Nat.ne_of_gt hlS⟩
        have hval : ∀ (i : Nat) (v : Value), items[i]? = some v → ∃ p tk, ks[i]? = some p ∧ v = .str p tk := fun i v hv => by
          have q : items.toList[i]? = some v := by rw [Array.getElem?_toList]; exact hv
          exact strs_get hit q
        have none_of : ∀ b, s.heap.objs.size ≤ b → s.heap.get? b = none := fun b hb => by
          cases q : s.heap.get? b with
          | none => rfl
          | some o => exact absurd (Nat.lt_of_lt_of_le (Heap.lt_size q) hb) (Nat.lt_irrefl _)
        refine set_update_strs ((Walks.list hh3 _ l hneI items).toS) s.heap.objs.size
          hSf ks hisz hfew hval s.heap (none_of _ (Nat.le_refl _)) (fun b hb => none_of b (by
            rw [List.mem_singleton.mp hb, Heap.size_push]
            exact Nat.le_succ _)) (items.size - 0) 0 _ (by omega) (Nat.zero_le _)
          ⟨⟨_, Heap.get?_push_size _ rfl, rfl, rfl⟩, (hl1.push _)⟩ (fun b o e => Heap.get?_push_of_some _ (Heap.get?_push_of_some _ e)) ?hS0 ?hR
        case hS0 =>
          have hget : ((s.heap.push { cls := .type "set", dict := none, data := .set #[] 0 (.fresh 0 0 (!w.params.followText "set-order")) }).push { cls := .type "list_iterator", data := .fields #[.ref l, .int 0 0] }).get? s.heap.objs.size
              = some { cls := .type "set", dict := none, data := .set #[] 0 (.fresh 0 0 (!w.params.followText "set-order")) } := Heap.get?_push_of_some _ hS
          exact ⟨[], setS_fresh hget, Got.zero ks⟩
        case hR =>
          intro s' L hm hS' g' hkp
          obtain ⟨h', g2, d', tk', os'⟩ := s'
          have eg : g2 = s.gens := hm.gens
          have ed : d' = s.drawn := hm.drawn
          have eo : os' = s.os := hm.os
          subst eg; subst ed; subst eo
          show wpAny _ _ _ _ _ _
          refine wpAny_pure ?_
          show wpAny _ _ (ret Value.none) _ _ _
          rw [hisz] at g'
          exact wpAny_pure ⟨rfl, h', tk', L, rfl, hS', g', hkp⟩

      · cases r₂ with
        | error e => exact hr₂
        | ok fl₂ =>
          cases fl₂ with
          | ret r =>
            obtain ⟨rfl, h', tk, L, rfl, hS', g', hk'⟩ := hr₂
            repeat (any_goals (first | assumption | wp_step))
            exact h _ _ _ hS' g' hk'
          | _ => exact hr₂.elim
    | _ => exact hr.elim


theorem strs_of {vs : List Value} {es : List (Int × Value)} (g : ∀ e ∈ es, GoodS w e) (pm : vs.Perm (es.map (·.2))) : StrsAre vs (vs.map strOf) := strsAre_map vs fun v hv => by
  obtain ⟨e, he, q⟩ := List.mem_map.mp (pm.mem_iff.mp hv)
  obtain ⟨k, tk, h1, _⟩ := g e he
  exact ⟨k, tk, by rw [← q]; exact h1⟩
theorem strOf_key {e : Int × Value} (g : GoodS w e) : strOf e.2 = keyS e := by
  obtain ⟨k, tk, h1, _⟩ := g
  unfold keyS
  rw [h1] <;> rfl
theorem sorted_setS {Q : Value → Shared → Prop} (R : SetS w s.heap a L) (hh : A.handled = none)
    (hQ : ∀ s' p (out : Array Value) (c : Nat) (ss : List Str), (∀ b o, s.heap.get? b = some o → s'.heap.get? b = some o) → s'.gens = s.gens → s'.os = s.os → s.heap.objs.size ≤ p →
      s'.heap.get? p = some (seqObj "list" out c) → StrsAre out.toList ss → sortedS ss = true → ss.Perm L → Q (.ref p) s') :
    wpAny (model P w) A (call (.builtin "sorted") [.ref a]) Q E s := by
  obtain ⟨o, es, ep, t, ho, hex, hd, g, nd, hm, hb, hf, hr, hl⟩ := R
  refine Calls.call_function_entry kind_sorted plain_sorted entry_sorted (args_sorted1 _) ?_
  unfold Builtin.«sorted»
  refine wpAny_bind (m := checkCount "sorted" 1 1 _) (wpAny_pure ?_)
  refine wpAny_bind (collect_set (A := A.in1) hh ⟨o, ho, hex.1, hd⟩ hf hb hr hl fun s1 vs k1 hz g1 o1 pm => ?_)
  have hI := strs_of g pm
  have pk : (vs.map strOf).Perm L := by
    have q := pm.map strOf
    rw [List.map_map] at q
    have e : es.toList.map (strOf ∘ fun x => x.2) = es.toList.map keyS := List.map_congr_left fun e he => strOf_key (g e he)
    rw [e] at q
    exact q.trans hm
  have hvl : vs.length ≤ sizeLine := by
    rw [pm.length_eq, List.length_map, Array.length_toList, sizeLine_eq]
    unfold scanBound at hb
    omega
  refine wpAny_bind (wpAny_newList ?_ hvl)
  have hoL : (s1.heap.push (seqObj "list" vs.toArray 0)).get? s1.heap.objs.size = some (seqObj "list" vs.toArray 0) := Heap.get?_push_size _ rfl
  refine wpAny_bind (wpAny_holding (wpAny_call_entry slot_list_sort ⟨_, hoL, rfl⟩ entry_list_sort (list_sort_treeKAny strKind_oneLt hoL hI.keysOf (fun v₁ v₂ rest e => keyKind_strs (by rw [← e]; exact hI)) hvl fun st' hp hs => ⟨_, rfl, ?_⟩) (args_list_sort _)))
  obtain ⟨ss, a1, a2, a3⟩ := sorted_out_str hI hp hs
  obtain ⟨c, hc⟩ := sortedHeap_at (vs := vs) (out := (arrOf st').map (·.2)) hoL
  refine wpAny_pure ⟨_, rfl, hQ _ s1.heap.objs.size _ c ss (fun b u e => ?_) g1 o1 hz hc a1 a3 (a2.trans pk)⟩
  have q := k1 b u e
  have hlt := Heap.lt_size q
  show (sortedHeap (s1.heap.push (seqObj "list" vs.toArray 0)) s1.heap.objs.size vs _).get? b = some u
  rw [sortedHeap_old (Nat.ne_of_lt hlt) (by rw [size_push']; exact Nat.lt_succ_of_lt hlt)]
  exact Heap.get?_push_of_some _ q
end
end JS
namespace JS
open PySem PySem.Spec PyProof.Rows L2
section
variable {P : Program} {w : World} {A : Around} {E : Value → Shared → Prop} {s : Shared} {a : Addr} {L : List Str}
set_option maxHeartbeats 3200000 in
/-- set(xs) -/
theorem call_set_strsT {l : Addr} {items : Array Value} (ks : List Str) {Q : Value → Shared → Prop} (hh : A.handled = none) (hl : s.heap.IsTuple l items) (hit : PyProof.Rows.StrsAre items.toList ks)
    (hfew : ks.length + 1 < scanBound)
    (h : ∀ (h' : Heap) (tk : Nat) L, SetS w h' s.heap.objs.size L → Got ks ks.length L → (∀ b o, s.heap.get? b = some o → h'.get? b = some o) → Q (.ref s.heap.objs.size) { s with heap := h', toks := tk }) :
    wpAny (model P w) A (call (.type "set") [.ref l]) Q E s := by
  have hisz : items.size = ks.length := by
    have q := hit.length
    rw [Array.length_toList] at q
    exact q
  obtain ⟨c, tl, hmro⟩ := F.called_set.mro
  have hmade := F.called_set.made
  have hsub := F.called_set.sub
  refine wpAny_call (codeAny_of_tree ?_)
  show wpAny _ _ (callAny (.type "set") _) _ _ _
  refine wpAny_pure ⟨Code.quiet_builtin _ (by decide +kernel), codeAny_builtin F.entry_type_call ?_⟩
  rw [Around.under_plain (weight_type_call_type "set" [.ref l] []) rfl]
  have h1 := F.called_set.notType
  have h2 := F.called_set.canCreate
  have hct := F.typeCall_set_1 (.ref l)
  repeat (any_goals (first | assumption | wp_step))

  refine codeAny_mono (code_set_led1 (.ref l) (E := E) (Q₁ := fun obj s₁ => obj = .ref s.heap.objs.size ∧ s₁ = { s with heap := s.heap.push { cls := .type "set", dict := none, data := .set #[] 0 (.fresh 0 0 (!w.params.followText "set-order")) } }) ⟨rfl, rfl⟩) fun r s₁ hr => ?_
  cases r with
  | error e => exact hr
  | ok fl =>
    cases fl with
    | ret obj =>
      obtain ⟨rfl, rfl⟩ := hr
      have hS : (s.heap.push { cls := .type "set", dict := none, data := .set #[] 0 (.fresh 0 0 (!w.params.followText "set-order")) }).get? s.heap.objs.size = some { cls := .type "set", dict := none, data := .set #[] 0 (.fresh 0 0 (!w.params.followText "set-order")) } := Heap.get?_push_size _ rfl
      have hT : Shared.TypeIs { s with heap := s.heap.push { cls := .type "set", dict := none, data := .set #[] 0 (.fresh 0 0 (!w.params.followText "set-order")) } } (.ref s.heap.objs.size) "set" := ⟨_, hS, rfl⟩
      have hli := F.called_set.init.lookup
      have hbi := F.called_set.init.bind (.ref s.heap.objs.size)
      repeat (any_goals (first | assumption | wp_step))

      refine codeAny_mono (codeAny_call_builtin (R := wants (fun r s₂ => r = .none ∧ ∃ h' tk L, s₂ = { s with heap := h', toks := tk } ∧ SetS w h' s.heap.objs.size L ∧ Got ks ks.length L ∧
          (∀ b o, s.heap.get? b = some o → h'.get? b = some o)) E) F.called_set.init.plain F.entry_set_init (check_set_init_1 hT ?_)) fun r₂ s₂ hr₂ => ?_
      · obtain ⟨ol, hol, hcl, nl, hdl⟩ := hl
        obtain ⟨ocls, odict, odata, oslots⟩ := ol
        simp only at hcl hdl
        subst hcl; subst hdl
        have hol' : (s.heap.push { cls := .type "set", dict := none, data := .set #[] 0 (.fresh 0 0 (!w.params.followText "set-order")) }).get? l = some { cls := .type "tuple", dict := odict, data := .seq items nl, slots := oslots } := Heap.get?_push_of_some _ hol
        have hsls := F.sub_tuple_set
        have hslf := F.sub_tuple_frozenset
        have hne : (Value.type "tuple" == Value.type "dict") = false := by decide
        have hl1 : (s.heap.push { cls := .type "set", dict := none, data := .set #[] 0 (.fresh 0 0 (!w.params.followText "set-order")) }).IsTuple l items := ⟨_, hol', rfl, nl, rfl⟩
        unfold Builtin.«set.__init__» noKeywords Builtin.Frozenset.updateFrom
        generalize hPI : pyIter = PI
        wp_walk
        subst hPI

        refine wpAny_pyIter_tuple hl1 ?_
        refine wpAny_bind (wpAny_runValue ?_)
        have hlS : l < s.heap.objs.size := Heap.lt_size hol
        have hh3 : A.in1.in1.in1.handled = none := by simp [hh]
        have hz1 : (s.heap.push { cls := .type "set", dict := none, data := .set #[] 0 (.fresh 0 0 (!w.params.followText "set-order")) }).objs.size = s.heap.objs.size + 1 := Heap.size_push ..
        have hneI : l ≠ (s.heap.push { cls := .type "set", dict := none, data := .set #[] 0 (.fresh 0 0 (!w.params.followText "set-order")) }).objs.size := by
          rw [Heap.size_push]; exact Nat.ne_of_lt (Nat.lt_succ_of_lt hlS)
        have hSf : s.heap.objs.size ∉ [(s.heap.push { cls := .type "set", dict := none, data := .set #[] 0 (.fresh 0 0 (!w.params.followText "set-order")) }).objs.size, l] := by
          rw [Heap.size_push]; simp only [List.mem_cons, List.mem_singleton, List.not_mem_nil, or_false, not_or]
          exact ⟨Nat.ne_of_lt (Nat.lt_succ_self _), Nat.ne_of_gt hlS⟩
        have hval : ∀ (i : Nat) (v : Value), items[i]? = some v → ∃ p tk, ks[i]? = some p ∧ v = .str p tk := fun i v hv => by
          have q : items.toList[i]? = some v := by rw [Array.getElem?_toList]; exact hv
          exact strs_get hit q
        have none_of : ∀ b, s.heap.objs.size ≤ b → s.heap.get? b = none := fun b hb => by
          cases q : s.heap.get? b with
          | none => rfl
          | some o => exact absurd (Nat.lt_of_lt_of_le (Heap.lt_size q) hb) (Nat.lt_irrefl _)
        refine set_update_strs ((Walks.tuple hh3 _ l hneI items).toS) s.heap.objs.size
          hSf ks hisz hfew hval s.heap (none_of _ (Nat.le_refl _)) (fun b hb => none_of b (by
            rw [List.mem_singleton.mp hb, Heap.size_push]
            exact Nat.le_succ _)) (items.size - 0) 0 _ (by omega) (Nat.zero_le _)
          ⟨⟨_, Heap.get?_push_size _ rfl, rfl, rfl⟩, (hl1.push _)⟩ (fun b o e => Heap.get?_push_of_some _ (Heap.get?_push_of_some _ e)) ?hS0 ?hR
        case hS0 =>
          have hget : ((s.heap.push { cls := .type "set", dict := none, data := .set #[] 0 (.fresh 0 0 (!w.params.followText "set-order")) }).push { cls := .type "tuple_iterator", data := .fields #[.ref l, .int 0 0] }).get? s.heap.objs.size
              = some { cls := .type "set", dict := none, data := .set #[] 0 (.fresh 0 0 (!w.params.followText "set-order")) } := Heap.get?_push_of_some _ hS
          exact ⟨[], setS_fresh hget, Got.zero ks⟩
        case hR =>
          intro s' L hm hS' g' hkp
          obtain ⟨h', g2, d', tk', os'⟩ := s'
          have eg : g2 = s.gens := hm.gens
          have ed : d' = s.drawn := hm.drawn
          have eo : os' = s.os := hm.os
          subst eg; subst ed; subst eo
          show wpAny _ _ _ _ _ _
          refine wpAny_pure ?_
          show wpAny _ _ (ret Value.none) _ _ _
          rw [hisz] at g'
          exact wpAny_pure ⟨rfl, h', tk', L, rfl, hS', g', hkp⟩

      · cases r₂ with
        | error e => exact hr₂
        | ok fl₂ =>
          cases fl₂ with
          | ret r =>
            obtain ⟨rfl, h', tk, L, rfl, hS', g', hk'⟩ := hr₂
            repeat (any_goals (first | assumption | wp_step))
            exact h _ _ _ hS' g' hk'
          | _ => exact hr₂.elim
    | _ => exact hr.elim


end
end JS
namespace J
open PySem PySem.Spec PyProof.Rows L2

/-- what the store holds at a place: a list, a dict that may still change -/
inductive SO where
  | lst (ds : List PyData)
  | dct (kvs : List (Key × PyData))
/-- an item of a tuple: data, a place of the store -/
inductive S0 where
  | d (x : PyData)
  | r (l : Nat)
/-- values of other kinds: a tuple of texts without attributes, a tuple that holds places -/
inductive XV where
  | tx (ss : List Str)
  | tp (xs : List S0)
/-- a slot's value: data that never changes, or a place of the store -/
inductive SV where
  | d (x : PyData)
  | r (l : Nat)
  /-- the script -/
  | scr (ns : List Int)
  | x (k : XV)
abbrev En := List (Option SV)
abbrev Mu := List SO
def keyD : Key → PyData
  | .inl i => .int i
  | .inr s => .str s
@[simp] def SO.data : SO → PyData
  | .lst ds => .list ds
  | .dct kvs => .dict (kvs.map fun p => (keyD p.1, p.2))

mutual
inductive Rp (K : PySem.W.Frag) (H : Hp) : V → PyData → Prop
  | non : Rp K H .non .none
  | bl (b : Bool) : Rp K H (.bl b) (.bool b)
  | int (i : Int) : Rp K H (.int i) (.int i)
  | str (x : Str) : Rp K H (.str x) (.str x)
  | lst {a : Addr} {xs : List V} {ds : List PyData} : H a = some (.lst xs) → RpAll K H xs ds → Rp K H (.ref a) (.list ds)
  | tup {a : Addr} {xs : List V} {ds : List PyData} : SqT K H a xs → RpAll K H xs ds → Rp K H (.ref a) (.tuple ds)
  | dct {a : Addr} {kvs : List (Key × V)} {ds : List (PyData × PyData)} : H a = some (.dK kvs) → RpKv K H kvs ds → Rp K H (.ref a) (.dict ds)
inductive RpAll (K : PySem.W.Frag) (H : Hp) : List V → List PyData → Prop
  | nil : RpAll K H [] []
  | cons {v : V} {vs : List V} {d : PyData} {ds : List PyData} : Rp K H v d → RpAll K H vs ds → RpAll K H (v :: vs) (d :: ds)
inductive RpKv (K : PySem.W.Frag) (H : Hp) : List (Key × V) → List (PyData × PyData) → Prop
  | nil : RpKv K H [] []
  | cons {k : Key} {v : V} {vs : List (Key × V)} {d : PyData} {ds : List (PyData × PyData)} : Rp K H v d → RpKv K H vs ds → RpKv K H ((k, v) :: vs) ((keyD k, d) :: ds)
end

section
variable {K : PySem.W.Frag} {H H' : Hp}
theorem same_sqT {a : Addr} {xs : List V} (e : Same H H') (h : SqT K H a xs) : SqT K H' a xs := by
  rcases h with (h | ⟨o, h⟩) | h
  · exact .inl (.inl (e _ _ h))
  · exact .inl (.inr ⟨o, e _ _ h⟩)
  · exact .inr h
theorem same_new {p : Addr} {o : HO} (h : H p = none) : Same H (upd H p o) := fun b u q => by
  rw [upd_ne (ne_of_none q h)]; exact q
mutual
theorem Rp.mono (e : Same H H') {v : V} {d : PyData} : Rp K H v d → Rp K H' v d
  | .non => .non
  | .bl b => .bl b
  | .int i => .int i
  | .str x => .str x
  | .lst h r => .lst (e _ _ h) (RpAll.mono e r)
  | .tup h r => .tup (same_sqT e h) (RpAll.mono e r)
  | .dct h r => .dct (e _ _ h) (RpKv.mono e r)
theorem RpAll.mono (e : Same H H') {vs : List V} {ds : List PyData} : RpAll K H vs ds → RpAll K H' vs ds
  | .nil => .nil
  | .cons h r => .cons (Rp.mono e h) (RpAll.mono e r)
theorem RpKv.mono (e : Same H H') {vs : List (Key × V)} {ds : List (PyData × PyData)} : RpKv K H vs ds → RpKv K H' vs ds
  | .nil => .nil
  | .cons h r => .cons (Rp.mono e h) (RpKv.mono e r)
end
theorem RpAll.length : ∀ {vs : List V} {ds : List PyData}, RpAll K H vs ds → vs.length = ds.length
  | _, _, .nil => rfl
  | _, _, .cons _ t => by rw [List.length_cons, List.length_cons, RpAll.length t]
theorem RpAll.get : ∀ {vs : List V} {ds : List PyData} {i : Nat} {d : PyData}, RpAll K H vs ds → ds[i]? = some d → ∃ v, vs[i]? = some v ∧ Rp K H v d
  | _, _, _, _, .nil, e => by simp at e
  | _, _, 0, d, .cons h t, e => by simp at e; subst e; exact ⟨_, rfl, h⟩
  | _, _, i + 1, d, .cons _ t, e => by
    obtain ⟨v, h1, h2⟩ := RpAll.get (i := i) t (by simpa using e)
    exact ⟨v, by simpa using h1, h2⟩
theorem RpAll.getV : ∀ {vs : List V} {ds : List PyData} {i : Nat} {v : V}, RpAll K H vs ds → vs[i]? = some v → ∃ d, ds[i]? = some d ∧ Rp K H v d
  | _, _, _, _, .nil, e => by simp at e
  | _, _, 0, d, .cons h t, e => by simp at e; subst e; exact ⟨_, rfl, h⟩
  | _, _, i + 1, d, .cons _ t, e => by
    obtain ⟨v, h1, h2⟩ := RpAll.getV (i := i) t (by simpa using e)
    exact ⟨v, by simpa using h1, h2⟩
theorem RpAll.append : ∀ {vs ws : List V} {ds es : List PyData}, RpAll K H vs ds → RpAll K H ws es → RpAll K H (vs ++ ws) (ds ++ es)
  | _, _, _, _, .nil, s => s
  | _, _, _, _, .cons r t, s => .cons r (RpAll.append t s)
theorem RpAll.take : ∀ {vs : List V} {ds : List PyData} (n : Nat), RpAll K H vs ds → RpAll K H (vs.take n) (ds.take n)
  | _, _, 0, _ => .nil
  | _, _, _ + 1, .nil => .nil
  | _, _, n + 1, .cons r t => .cons r (RpAll.take n t)
theorem RpAll.drop : ∀ {vs : List V} {ds : List PyData} (n : Nat), RpAll K H vs ds → RpAll K H (vs.drop n) (ds.drop n)
  | _, _, 0, r => r
  | _, _, _ + 1, .nil => .nil
  | _, _, n + 1, .cons _ t => RpAll.drop n t
theorem RpAll.set {v : V} {d : PyData} (r : Rp K H v d) : ∀ {vs : List V} {ds : List PyData} (i : Nat), RpAll K H vs ds → RpAll K H (vs.set i v) (ds.set i d)
  | _, _, _, .nil => .nil
  | _, _, 0, .cons _ t => .cons r t
  | _, _, i + 1, .cons q t => .cons q (RpAll.set r i t)
theorem RpAll.eraseIdx : ∀ {vs : List V} {ds : List PyData} (i : Nat), RpAll K H vs ds → RpAll K H (vs.eraseIdx i) (ds.eraseIdx i)
  | _, _, _, .nil => .nil
  | _, _, 0, .cons _ t => t
  | _, _, i + 1, .cons q t => .cons q (RpAll.eraseIdx i t)
theorem RpAll.one {v : V} {d : PyData} (r : Rp K H v d) : RpAll K H [v] [d] := .cons r .nil
theorem RpAll.rep {vs : List V} {ds : List PyData} (h : RpAll K H vs ds) : ∀ k : Nat, RpAll K H (List.replicate k vs).flatten (List.replicate k ds).flatten
  | 0 => .nil
  | k + 1 => by
    rw [List.replicate_succ, List.replicate_succ, List.flatten_cons, List.flatten_cons]
    exact h.append (RpAll.rep h k)
theorem RpAll.ints : ∀ ns : List Int, RpAll K H (ns.map V.int) (ns.map PyData.int)
  | [] => .nil
  | n :: r => .cons (.int n) (RpAll.ints r)
theorem RpAll.strs : ∀ ns : List Str, RpAll K H (ns.map V.str) (ns.map PyData.str)
  | [] => .nil
  | n :: r => .cons (.str n) (RpAll.strs r)
theorem RpAll.strs_inv : ∀ {ns : List Str} {vs : List V}, RpAll K H vs (ns.map PyData.str) → vs = ns.map V.str
  | [], _, h => by cases h; rfl
  | n :: r, _, h => by
    cases h with
    | cons a b => cases a; rw [RpAll.strs_inv b] <;> rfl
theorem RpAll.ints_inv : ∀ {ns : List Int} {vs : List V}, RpAll K H vs (ns.map PyData.int) → vs = ns.map V.int
  | [], _, h => by cases h; rfl
  | n :: r, _, h => by
    cases h with
    | cons a b => cases a; rw [RpAll.ints_inv b] <;> rfl
theorem RpAll.bls_inv : ∀ {ns : List Bool} {vs : List V}, RpAll K H vs (ns.map PyData.bool) → vs = ns.map V.bl
  | [], _, h => by cases h; rfl
  | n :: r, _, h => by
    cases h with
    | cons a b => cases a; rw [RpAll.bls_inv b] <;> rfl
mutual
/-- data without dicts, as HandS says it -/
theorem Rp.dp {v : V} {d : PyData} : Rp K H v d → d.canLay0 = true → Dp K H v d
  | .non, _ => .non
  | .bl b, _ => .bl b
  | .int i, _ => .int i
  | .str x, _ => .str x
  | .lst h r, c => .lst (.inl (.inl h)) (RpAll.dp r (by simpa [PyData.canLay0] using c))
  | .tup h r, c => .tup h (RpAll.dp r (by simpa [PyData.canLay0] using c))
  | .dct h r, c => by simp [PyData.canLay0] at c
theorem RpAll.dp {vs : List V} {ds : List PyData} : RpAll K H vs ds → PyData.canLayAll0 ds = true → DpAll K H vs ds
  | .nil, _ => .nil
  | .cons h r, c => .cons (Rp.dp h (by simp [PyData.canLayAll0] at c; exact c.1)) (RpAll.dp r (by simp [PyData.canLayAll0] at c; exact c.2))
end
end

structure G where
  F : Hp
  p : List Addr
structure G.le (g g' : G) : Prop where
  f : Same g.F g'.F
  p : ∃ more, g'.p = g.p ++ more
theorem G.le.refl (g : G) : g.le g := ⟨Same.refl _, [], by simp⟩
theorem G.le.trans {a b c : G} (x : a.le b) (y : b.le c) : a.le c := by
  obtain ⟨m, e⟩ := x.p
  obtain ⟨n, e'⟩ := y.p
  exact ⟨x.f.trans y.f, m ++ n, by rw [e', e, List.append_assoc]⟩
abbrev KvOk (K : PySem.W.Frag) (F : Hp) : List (Key × V) → List (Key × PyData) → Prop := Paired fun (p : Key × V) (q : Key × PyData) => p.1 = q.1 ∧ Rp K F p.2 q.2
def SOk (K : PySem.W.Frag) (F H : Hp) (a : Addr) : SO → Prop
  | .lst ds => ∃ vs, H a = some (.lst vs) ∧ RpAll K F vs ds
  | .dct kvs => ∃ ws, H a = some (.dK ws) ∧ KvOk K F ws kvs
/-- the tables of code objects -/
class Tb where
  t : List (Addr × Str)
variable [Tb]
/-- a table of code objects, the codes in F -/
def TbOk (F H : Hp) (P : Addr) (q : Str) : Prop := ∃ ps : Array Value, H P = some (.tbl ps) ∧ TriplesOk ps.toList ∧ ∀ (pos : Pos) (cv : Value), codeAmong pos ps.toList = some cv → ∃ c, cv = .ref c ∧ F c = some (LamX.CodeO c q)
theorem TbOk.up {F F' H H' : Hp} {P : Addr} {q : Str} (h : TbOk F H P q) (e : Same F F') (k : ∀ o, H P = some o → H' P = some o) : TbOk F' H' P q := by
  obtain ⟨ps, h1, h2, h3⟩ := h
  exact ⟨ps, k _ h1, h2, fun pos cv hc => by
    obtain ⟨c, h4, h5⟩ := h3 pos cv hc
    exact ⟨c, h4, e _ _ h5⟩⟩
theorem TbOk.ne {F H : Hp} {P a : Addr} {q : Str} {o : HO} (h : TbOk F H P q) (ha : H a = some o) (hn : ∀ ps, o ≠ .tbl ps) : P ≠ a := fun e => by
  obtain ⟨ps, h1, _⟩ := h
  subst e
  rw [ha] at h1
  cases h1
  exact hn ps rfl
theorem TbOk.ne0 {F H : Hp} {P a : Addr} {q : Str} (h : TbOk F H P q) (ha : H a = none) : P ≠ a := fun e => by
  obtain ⟨ps, h1, _⟩ := h
  subst e
  rw [ha] at h1
  cases h1
structure StOk (K : PySem.W.Frag) (g : G) (μ : Mu) (H : Hp) : Prop where
  ex : Same g.F H
  len : g.p.length = μ.length
  nd : g.p.Nodup
  fr : ∀ a, a ∈ g.p → g.F a = none
  ob : ∀ (l : Nat) (a : Addr) (o : SO), g.p[l]? = some a → μ[l]? = some o → SOk K g.F H a o
  tb : (∀ b ps, g.F b ≠ some (.tbl ps)) ∧ ∀ x ∈ Tb.t, x.1 ∉ g.p ∧ g.F x.1 = none ∧ TbOk g.F H x.1 x.2
def S0.rel (K : PySem.W.Frag) (g : G) (v : V) : S0 → Prop
  | .d x => Rp K g.F v x
  | .r l => ∃ a, g.p[l]? = some a ∧ v = .ref a
def XV.rel (K : PySem.W.Frag) (g : G) (v : V) : XV → Prop
  | .tx ss => ∃ a o, v = .ref a ∧ g.F a = some (.frz o (.tup (ss.map V.str))) ∧ o.dict = none
  | .tp xs => ∃ a vs, v = .ref a ∧ SqT K g.F a vs ∧ Paired (S0.rel K g) vs xs
theorem S0.mono {K : PySem.W.Frag} {g g' : G} {v : V} (e : Same g.F g'.F) (q : ∀ (l : Nat) (a : Addr), g.p[l]? = some a → g'.p[l]? = some a) : ∀ {k : S0}, k.rel K g v → k.rel K g' v
  | .d x, h => Rp.mono e h
  | .r l, ⟨a, h1, h2⟩ => ⟨a, q l a h1, h2⟩
theorem XV.mono {K : PySem.W.Frag} {g g' : G} {v : V} (e : Same g.F g'.F) (q : ∀ (l : Nat) (a : Addr), g.p[l]? = some a → g'.p[l]? = some a) : ∀ {k : XV}, k.rel K g v → k.rel K g' v
  | .tx _, ⟨a, o, h1, h2, h3⟩ => ⟨a, o, h1, e _ _ h2, h3⟩
  | .tp _, ⟨a, vs, h1, h2, h3⟩ => ⟨a, vs, h1, same_sqT e h2, Paired.mapP h3 fun x y z => S0.mono e q z⟩
theorem XV.ref {K : PySem.W.Frag} {g : G} {v : V} : ∀ {k : XV}, k.rel K g v → ∃ a, v = .ref a
  | .tx _, ⟨a, _, h1, _, _⟩ => ⟨a, h1⟩
  | .tp _, ⟨a, _, h1, _, _⟩ => ⟨a, h1⟩
def RS (K : PySem.W.Frag) (g : G) (v : V) : SV → Prop
  | .d x => Rp K g.F v x
  | .r l => ∃ a, g.p[l]? = some a ∧ v = .ref a
  | .scr ns => ∃ a, v = .ref a ∧ SqL K g.F a (ns.map V.int)
  | .x k => k.rel K g v
structure EnOk (K : PySem.W.Frag) (g : G) (ρ : En) (σ : L2.St) : Prop where
  len : ρ.length = σ.length
  at_ : ∀ (i : Nat) (sv : SV), ρ[i]? = some (some sv) → ∃ v, σ[i]? = some (some v) ∧ RS K g v sv
inductive RSs (K : PySem.W.Frag) (g : G) : List V → List SV → Prop
  | nil : RSs K g [] []
  | cons {v : V} {vs : List V} {d : SV} {ds : List SV} : RS K g v d → RSs K g vs ds → RSs K g (v :: vs) (d :: ds)

section
variable {K : PySem.W.Frag} {g g' : G} {H H' : Hp} {μ : Mu} {ρ : En} {σ : L2.St} {v : V} {sv : SV}
theorem pget {l : Nat} {a : Addr} (e : g.le g') (h : g.p[l]? = some a) : g'.p[l]? = some a := by
  obtain ⟨m, e'⟩ := e.p
  rw [e', List.getElem?_append_left (List.getElem?_eq_some_iff.mp h).1]
  exact h
theorem RS.mono (e : g.le g') (h : RS K g v sv) : RS K g' v sv := by
  cases sv with
  | d x => exact Rp.mono e.f h
  | r l => obtain ⟨a, h1, h2⟩ := h; exact ⟨a, pget e h1, h2⟩
  | scr ns => obtain ⟨a, h1, h2⟩ := h; exact ⟨a, h1, e.f.seq h2⟩
  | x k => exact XV.mono (K := K) e.f (fun l a => pget e) h
theorem RSs.mono (e : g.le g') : ∀ {vs : List V} {ds : List SV}, RSs K g vs ds → RSs K g' vs ds
  | _, _, .nil => .nil
  | _, _, .cons h t => .cons (h.mono e) (RSs.mono e t)
theorem RSs.length : ∀ {vs : List V} {ds : List SV}, RSs K g vs ds → vs.length = ds.length
  | _, _, .nil => rfl
  | _, _, .cons _ t => by rw [List.length_cons, List.length_cons, RSs.length t]
theorem RSs.get : ∀ {vs : List V} {ds : List SV} {i : Nat} {d : SV}, RSs K g vs ds → ds[i]? = some d → ∃ v, vs[i]? = some v ∧ RS K g v d
  | _, _, _, _, .nil, e => by simp at e
  | _, _, 0, d, .cons h t, e => by simp at e; subst e; exact ⟨_, rfl, h⟩
  | _, _, i + 1, d, .cons _ t, e => by
    obtain ⟨v, h1, h2⟩ := RSs.get (i := i) t (by simpa using e)
    exact ⟨v, by simpa using h1, h2⟩
theorem EnOk.mono (e : g.le g') (h : EnOk K g ρ σ) : EnOk K g' ρ σ := ⟨h.len, fun i sv q => by
  obtain ⟨v, h1, h2⟩ := h.at_ i sv q
  exact ⟨v, h1, h2.mono e⟩⟩
theorem EnOk.set (h : EnOk K g ρ σ) (i : Nat) (r : RS K g v sv) : EnOk K g (ρ.set i (some sv)) (σ.set i (some v)) := by
  refine ⟨by simp [h.len], fun j s q => ?_⟩
  by_cases e : i = j
  · subst e
    by_cases hi : i < ρ.length
    · rw [List.getElem?_set_self hi] at q
      cases q
      exact ⟨v, by rw [List.getElem?_set_self (by rw [← h.len]; exact hi)], r⟩
    · rw [List.getElem?_eq_none (by simpa using hi)] at q; cases q
  · rw [List.getElem?_set_ne e] at q ⊢
    exact h.at_ j s q
theorem Same.trk {a : Addr} (e : Same H H') (h : H' a = none) : H a = none := e.free h
/-- nothing but a table may stand there -/
def Fr (H : Hp) (a : Addr) : Prop := ∀ o, H a = some o → ∃ ps, o = .tbl ps
theorem Fr.of {H : Hp} {a : Addr} (h : H a = none) : Fr H a := fun o e => by rw [h] at e; cases e
instance {H : Hp} {a : Addr} : Coe (H a = none) (Fr H a) := ⟨Fr.of⟩
/-- what an evaluation may do: F and the places grow by what was not there, all else stands -/
structure Ext (g : G) (H : Hp) (g' : G) (H' : Hp) : Prop where
  le : g.le g'
  fr : ∀ a o, a ∉ g.p → (∀ ps, o ≠ .tbl ps) → H a = some o → H' a = some o
  nw : ∀ a, a ∈ g'.p → a ∈ g.p ∨ Fr H a
  nf : ∀ a xs, a ∉ g.p → g.F a = none → H a = some (.lst xs) → g'.F a = none
theorem Ext.refl (g : G) (H : Hp) : Ext g H g H := ⟨.refl g, fun _ _ _ _ h => h, fun _ h => .inl h, fun _ _ _ h _ => h⟩
theorem Ext.trans {g1 g2 : G} {H1 H2 : Hp} (x : Ext g H g1 H1) (y : Ext g1 H1 g2 H2) : Ext g H g2 H2 := by
  have out : ∀ a o, a ∉ g.p → (∀ ps, o ≠ .tbl ps) → H a = some o → a ∉ g1.p := fun a o h1 hn h2 h3 => by
    rcases x.nw a h3 with z | z
    · exact h1 z
    · obtain ⟨ps, e⟩ := z o h2
      exact hn ps e
  refine ⟨x.le.trans y.le, fun a o h1 hn h2 => y.fr a o (out a o h1 hn h2) hn (x.fr a o h1 hn h2), fun a h => ?_, fun a o h1 h2 h3 => y.nf a o (out a _ h1 (fun _ e => by cases e) h3) (x.nf a o h1 h2 h3) (x.fr a _ h1 (fun _ e => by cases e) h3)⟩
  rcases y.nw a h with z | z
  · exact x.nw a z
  · by_cases q : a ∈ g.p
    · exact .inl q
    · exact .inr fun o e => Classical.byContradiction fun hn => hn (z o (x.fr a o q (fun ps h => hn ⟨ps, h⟩) e))
theorem Ext.there {a : Addr} {o : HO} (x : Ext g H g' H') (h1 : a ∉ g.p) (h2 : H a = some o) (hn : ∀ ps, o ≠ .tbl ps := by intro ps e; cases e) : a ∉ g'.p := fun h3 => by
  rcases x.nw a h3 with z | z
  · exact h1 z
  · obtain ⟨ps, e⟩ := z o h2
    exact hn ps e
theorem Ext.gone {a : Addr} (x : Ext g H g' H') (h1 : a ∉ g.p) (h : H' a = none) : Fr H a := fun o e => Classical.byContradiction fun hn => by
  rw [x.fr a o h1 (fun ps q => hn ⟨ps, q⟩) e] at h; cases h
theorem StOk.notin {a : Addr} (s : StOk K g μ H) (h : H a = none) : a ∉ g.p := fun hm => by
  obtain ⟨l, hl, e⟩ := List.getElem_of_mem hm
  have h1 : g.p[l]? = some a := by rw [List.getElem?_eq_getElem hl, e]
  have hl2 : l < μ.length := by rw [← s.len]; exact hl
  have q := s.ob l a _ h1 (List.getElem?_eq_getElem hl2)
  generalize μ[l] = u at q
  cases u with
  | lst ds => obtain ⟨vs, q1, _⟩ := q; rw [h] at q1; cases q1
  | dct kvs => obtain ⟨vs, q1, _⟩ := q; rw [h] at q1; cases q1
theorem SOk.up {F F' : Hp} {a : Addr} {so : SO} (h : SOk K F H a so) (e : Same F F') (k : ∀ o, H a = some o → H' a = some o) : SOk K F' H' a so := by
  cases so with
  | lst ds => obtain ⟨vs, q1, q2⟩ := h; exact ⟨vs, k _ q1, q2.mono e⟩
  | dct kvs => obtain ⟨vs, q1, q2⟩ := h; exact ⟨vs, k _ q1, Paired.mapP q2 fun a b z => ⟨z.1, z.2.mono e⟩⟩
theorem SOk.kind {F : Hp} {a : Addr} {so : SO} (h : SOk K F H a so) : ∃ o, H a = some o ∧ ∀ ps, o ≠ .tbl ps := by
  cases so with
  | lst ds => obtain ⟨vs, q1, _⟩ := h; exact ⟨_, q1, fun ps e => by cases e⟩
  | dct kvs => obtain ⟨vs, q1, _⟩ := h; exact ⟨_, q1, fun ps e => by cases e⟩
theorem SOk.nt {F : Hp} {a : Addr} {so : SO} {o : HO} (h : SOk K F H a so) (ho : H a = some o) : ∀ ps, o ≠ .tbl ps := by
  obtain ⟨o', h1, h2⟩ := h.kind
  rw [ho] at h1; cases h1
  exact h2
/-- a new object that nobody knows yet -/
theorem StOk.grow {a : Addr} (o : HO) (s : StOk K g μ H) (h : H a = none) : StOk K g μ (upd H a o) ∧ Ext g H g (upd H a o) ∧ g.F a = none ∧ a ∉ g.p := by
  have sm : Same H (upd H a o) := same_new h
  exact ⟨⟨fun b u q => sm _ _ (s.ex b u q), s.len, s.nd, s.fr, fun l b u h1 h2 => (s.ob l b u h1 h2).up (Same.refl _) (sm b), s.tb.1, fun x hx => ⟨(s.tb.2 x hx).1, (s.tb.2 x hx).2.1, (s.tb.2 x hx).2.2.up (Same.refl _) (sm _)⟩⟩, ⟨.refl g, fun b u _ _ q => sm b u q, fun b q => .inl q, fun b u _ q _ => q⟩, s.ex.free h, s.notin h⟩
/-- an object behind H is frozen -/
theorem StOk.frozen {g1 : G} {H1 : Hp} {a : Addr} {o : HO} (s : StOk K g1 μ H1) (x : Ext g H g1 H1) (h0 : Fr H a) (hF : g1.F a = none) (ha : a ∉ g1.p) (hH : H1 a = some o) (hn : ∀ ps, o ≠ .tbl ps := by intro ps e; cases e) :
    StOk K ⟨upd g1.F a o, g1.p⟩ μ H1 ∧ Ext g H ⟨upd g1.F a o, g1.p⟩ H1 := by
  have sm : Same g1.F (upd g1.F a o) := same_new hF
  refine ⟨⟨fun b u q => ?_, s.len, s.nd, fun b hb => ?_, fun l b u h1 h2 => (s.ob l b u h1 h2).up sm fun _ q => q, fun b ps q => ?_, fun y hy => ⟨(s.tb.2 y hy).1, ?_, (s.tb.2 y hy).2.2.up sm fun _ q => q⟩⟩, ⟨⟨x.le.f.trans sm, x.le.p⟩, x.fr, x.nw, fun b u h1 h2 h3 => ?_⟩⟩
  · have q : upd g1.F a o b = some u := q
    by_cases e : b = a
    · subst e; rw [upd_same] at q; cases q; exact hH
    · rw [upd_ne e] at q; exact s.ex b u q
  · show upd g1.F a o b = Option.none
    have hb : b ∈ g1.p := hb
    rw [upd_ne (fun e => ha (by rw [← e]; exact hb))]; exact s.fr b hb
  · have q : upd g1.F a o b = some (.tbl ps) := q
    by_cases e : b = a
    · subst e; rw [upd_same] at q; cases q; exact hn _ rfl
    · rw [upd_ne e] at q; exact s.tb.1 b ps q
  · show upd g1.F a o y.1 = Option.none
    rw [upd_ne ((s.tb.2 y hy).2.2.ne hH hn)]; exact (s.tb.2 y hy).2.1
  · show upd g1.F a o b = Option.none
    rw [upd_ne (fun e => by obtain ⟨ps, z⟩ := h0 _ (by rw [← e]; exact h3); cases z)]
    exact x.nf b u h1 h2 h3
/-- it becomes a place of the store -/
theorem StOk.owned {g1 : G} {H1 : Hp} {a : Addr} {so : SO} (s : StOk K g1 μ H1) (x : Ext g H g1 H1) (h0 : Fr H a) (hF : g1.F a = none) (ha : a ∉ g1.p) (ok : SOk K g1.F H1 a so) :
    StOk K ⟨g1.F, g1.p ++ [a]⟩ (μ ++ [so]) H1 ∧ Ext g H ⟨g1.F, g1.p ++ [a]⟩ H1 ∧ RS K ⟨g1.F, g1.p ++ [a]⟩ (.ref a) (.r μ.length) := by
  refine ⟨⟨s.ex, by simp [s.len], ?_, fun b hb => ?_, fun l b u h1 h2 => ?_, s.tb.1, fun y hy => ⟨fun hm => ?_, (s.tb.2 y hy).2⟩⟩, ⟨⟨x.le.f, ?_⟩, x.fr, fun b hb => ?_, x.nf⟩, a, ?_, rfl⟩
  · refine List.nodup_append.mpr ⟨s.nd, by simp, fun x hx y hy => ?_⟩
    have : y = a := by simpa using hy
    subst this
    exact fun e => ha (by rw [← e]; exact hx)
  · rcases List.mem_append.mp hb with hb | hb
    · exact s.fr b hb
    · have : b = a := by simpa using hb
      subst this; exact hF
  · by_cases hl : l < g1.p.length
    · rw [List.getElem?_append_left hl] at h1
      rw [List.getElem?_append_left (by rw [← s.len]; exact hl)] at h2
      exact s.ob l b u h1 h2
    · have hlen := s.len
      rw [List.getElem?_append_right (by omega)] at h1 h2
      have e : l - g1.p.length = 0 := by
        have := (List.getElem?_eq_some_iff.mp h1).1
        simp at this
        omega
      rw [e] at h1
      rw [show l - μ.length = 0 by rw [← s.len]; exact e] at h2
      simp at h1 h2
      subst h1 h2
      exact ok
  · rcases List.mem_append.mp hm with hm | hm
    · exact (s.tb.2 y hy).1 hm
    · obtain ⟨o, ho, hn⟩ := ok.kind
      exact (s.tb.2 y hy).2.2.ne ho hn (by simpa using hm)
  · obtain ⟨m, e⟩ := x.le.p
    exact ⟨m ++ [a], by rw [e, List.append_assoc]⟩
  · have hb : b ∈ g1.p ++ [a] := hb
    rcases List.mem_append.mp hb with hb | hb
    · exact x.nw b hb
    · have : b = a := by simpa using hb
      subst this; exact .inr h0
  · show (g1.p ++ [a])[μ.length]? = some a
    rw [← s.len]; simp
/-- a place's object is frozen as it is, the places from n on are forgotten -/
theorem StOk.cut (s : StOk K g μ H) (n : Nat) : StOk K ⟨g.F, g.p.take n⟩ (μ.take n) H := by
  refine ⟨s.ex, by simp [s.len], s.nd.sublist (List.take_sublist _ _), fun b hb => s.fr b (List.mem_of_mem_take hb), fun l b u h1 h2 => ?_, s.tb.1, fun x hx => ⟨fun hm => (s.tb.2 x hx).1 (List.mem_of_mem_take hm), (s.tb.2 x hx).2⟩⟩
  have h1' : (g.p.take n)[l]? = some b := h1
  rw [List.getElem?_take] at h1' h2
  split at h1'
  · rename_i hl
    rw [if_pos hl] at h2
    exact s.ob l b u h1' h2
  · cases h1'
theorem kv_data : ∀ {ws : List (Key × V)} {kvs : List (Key × PyData)}, KvOk K H ws kvs → RpKv K H ws (kvs.map fun p => (keyD p.1, p.2))
  | _, _, .nil => .nil
  | (k, v) :: _, (k', d) :: _, .cons ⟨e, r⟩ t => by
    have e' : k = k' := e
    subst e'
    exact .cons r (kv_data t)
theorem SOk.rp {a : Addr} {so : SO} (h : SOk K g.F H a so) (e : Same g.F H) : Rp K H (.ref a) so.data := by
  cases so with
  | lst ds => obtain ⟨vs, h1, h2⟩ := h; exact .lst h1 (h2.mono e)
  | dct kvs => obtain ⟨ws, h1, h2⟩ := h; exact .dct h1 ((kv_data h2).mono e)
theorem SOk.there {a : Addr} {so : SO} (h : SOk K g.F H a so) : ∃ o, H a = some o ∧ ∀ F', Same g.F F' → F' a = some o → Rp K F' (.ref a) so.data := by
  cases so with
  | lst ds => obtain ⟨vs, h1, h2⟩ := h; exact ⟨_, h1, fun F' e h' => .lst h' (h2.mono e)⟩
  | dct kvs => obtain ⟨ws, h1, h2⟩ := h; exact ⟨_, h1, fun F' e h' => .dct h' ((kv_data h2).mono e)⟩
/-- read the store -/
@[simp] def rd (μ : Mu) : SV → Option PyData
  | .d x => some x
  | .r l => (μ[l]?).map SO.data
  | .scr _ => none
  | .x _ => none
theorem RS.rep {d : PyData} (s : StOk K g μ H) (r : RS K g v sv) (h : rd μ sv = some d) : Rp K H v d := by
  cases sv with
  | d x => cases h; exact Rp.mono s.ex r
  | r l =>
    obtain ⟨a, h1, rfl⟩ := r
    have h' : (μ[l]?).map SO.data = some d := h
    cases e : μ[l]? with
    | none => rw [e] at h'; cases h'
    | some so =>
      rw [e] at h'
      cases h'
      exact (s.ob l a so h1 e).rp s.ex
  | scr ns => cases h
  | x k => cases h
/-- a list or a tuple's items -/
@[simp] def sq (μ : Mu) : SV → Option (List PyData)
  | .d (.list ds) => some ds
  | .d (.tuple ds) => some ds
  | .r l => match μ[l]? with
    | some (.lst ds) => some ds
    | _ => none
  | .scr ns => some (ns.map PyData.int)
  | _ => none
theorem RS.seq {ds : List PyData} (s : StOk K g μ H) (r : RS K g v sv) (h : sq μ sv = some ds) : ∃ a xs, v = .ref a ∧ (SqL K H a xs ∨ SqT K H a xs) ∧ RpAll K g.F xs ds := by
  cases sv with
  | d x =>
    cases x with
    | list es =>
      cases h
      cases r with
      | lst h1 h2 => exact ⟨_, _, rfl, .inl (.inl (.inl (s.ex _ _ h1))), h2⟩
    | tuple es =>
      cases h
      cases r with
      | tup h1 h2 => exact ⟨_, _, rfl, .inr (same_sqT s.ex h1), h2⟩
    | _ => cases h
  | r l =>
    obtain ⟨a, h1, rfl⟩ := r
    have h' : (match μ[l]? with
      | some (.lst ds) => some ds
      | _ => none) = some ds := h
    cases e : μ[l]? with
    | none => rw [e] at h'; cases h'
    | some so =>
      rw [e] at h'
      cases so with
      | lst es =>
        cases h'
        obtain ⟨vs, q1, q2⟩ := s.ob l a _ h1 e
        exact ⟨a, vs, rfl, .inl (.inl (.inl q1)), q2⟩
      | dct kvs => cases h'
  | scr ns =>
    cases h
    obtain ⟨a, rfl, h1⟩ := r
    exact ⟨a, _, rfl, .inl (s.ex.seq h1), RpAll.ints ns⟩
  | x k => cases h
theorem RS.list {ds : List PyData} (s : StOk K g μ H) (r : RS K g v sv) (h : rd μ sv = some (.list ds)) : ∃ a xs, v = .ref a ∧ H a = some (.lst xs) ∧ RpAll K g.F xs ds := by
  cases sv with
  | d x =>
    cases h
    cases r with
    | lst h1 h2 => exact ⟨_, _, rfl, s.ex _ _ h1, h2⟩
  | r l =>
    obtain ⟨a, h1, rfl⟩ := r
    have h' : (μ[l]?).map SO.data = some (.list ds) := h
    cases e : μ[l]? with
    | none => rw [e] at h'; cases h'
    | some so =>
      rw [e] at h'
      cases so with
      | lst es =>
        cases h'
        obtain ⟨vs, q1, q2⟩ := s.ob l a _ h1 e
        exact ⟨a, vs, rfl, q1, q2⟩
      | dct kvs => cases h'
  | scr ns => cases h
  | x k => cases h
theorem RS.tup {ds : List PyData} (s : StOk K g μ H) (r : RS K g v sv) (h : rd μ sv = some (.tuple ds)) : ∃ a xs, v = .ref a ∧ SqT K H a xs ∧ SqT K g.F a xs ∧ RpAll K g.F xs ds := by
  cases sv with
  | d x =>
    cases h
    cases r with
    | tup h1 h2 => exact ⟨_, _, rfl, same_sqT s.ex h1, h1, h2⟩
  | r l =>
    obtain ⟨a, h1, rfl⟩ := r
    have h' : (μ[l]?).map SO.data = some (.tuple ds) := h
    cases e : μ[l]? with
    | none => rw [e] at h'; cases h'
    | some so =>
      rw [e] at h'
      cases so with
      | lst es => cases h'
      | dct kvs => cases h'
  | scr ns => cases h
  | x k => cases h
end
/-- run on, if there is a value -/
def oP {α : Type} (o : Option α) (k : α → Prop) : Prop := match o with
  | some a => k a
  | none => False
theorem oP.of {α : Type} {o : Option α} {k : α → Prop} (h : oP o k) : ∃ a, o = some a ∧ k a := by
  cases o with
  | none => exact h.elim
  | some a => exact ⟨a, rfl, h⟩
@[simp] theorem oP_some {α : Type} {a : α} {k : α → Prop} : oP (some a) k = k a := rfl
@[simp] theorem oP_none {α : Type} {k : α → Prop} : oP none k = False := rfl
end J
namespace J
open PySem PySem.Spec PyProof.Rows L2
variable [Tb]

theorem _root_.L2.PE.weak {X : Cx} {e : Expr} {t t' : TE} (h : PE X e t) (w : ∀ σ H Q, t' σ H Q → t σ H Q) : PE X e t' := ⟨fun pins s σ H Q I q => h.run pins s σ H Q I (w σ H Q q)⟩
theorem _root_.L2.PT.weak {X : Cx} {e : Expr} {t t' : TT} (h : PT X e t) (w : ∀ σ H Q, t' σ H Q → t σ H Q) : PT X e t' := ⟨fun pins s σ H Q I q => h.run pins s σ H Q I (w σ H Q q)⟩
theorem _root_.L2.PA.weak {X : Cx} {e : List Expr} {t t' : TA} (h : PA X e t) (w : ∀ σ H Q, t' σ H Q → t σ H Q) : PA X e t' := ⟨fun pos pins s σ H Q I q => h.run pos pins s σ H Q I (w σ H Q q)⟩
theorem _root_.L2.PS.weak {X : Cx} {e : Stmt} {t t' : TS} (h : PS X e t) (w : ∀ D σ H, t' D σ H → t D σ H) : PS X e t' := ⟨fun pins s σ H D I q => h.run pins s σ H D I (w D σ H q)⟩
theorem _root_.L2.PSs.weak {X : Cx} {e : List Stmt} {t t' : TS} (h : PSs X e t) (w : ∀ D σ H, t' D σ H → t D σ H) : PSs X e t' := ⟨fun pins s σ H D I q => h.run pins s σ H D I (w D σ H q)⟩

abbrev DT := En → Mu → (SV → Mu → Prop) → Prop
abbrev DTB := En → Mu → (Bool → Mu → Prop) → Prop
abbrev DTA := En → Mu → (List SV → Mu → Prop) → Prop
abbrev DTN := En → Mu → (SO → Mu → Prop) → Prop
section
variable (K : PySem.W.Frag)
def LE (T : DT) : TE := fun σ H Q => ∃ (g : G) (ρ : En) (μ : Mu) (QD : SV → Mu → Prop), StOk K g μ H ∧ EnOk K g ρ σ ∧ T ρ μ QD ∧ ∀ g' v sv μ' H', Ext g H g' H' → StOk K g' μ' H' → RS K g' v sv → QD sv μ' → Q v H'
def LB (T : DTB) : TT := fun σ H Q => ∃ (g : G) (ρ : En) (μ : Mu) (QD : Bool → Mu → Prop), StOk K g μ H ∧ EnOk K g ρ σ ∧ T ρ μ QD ∧ ∀ g' b μ' H', Ext g H g' H' → StOk K g' μ' H' → QD b μ' → Q b H'
def LA (T : DTA) : TA := fun σ H Q => ∃ (g : G) (ρ : En) (μ : Mu) (QD : List SV → Mu → Prop), StOk K g μ H ∧ EnOk K g ρ σ ∧ T ρ μ QD ∧ ∀ g' vs svs μ' H', Ext g H g' H' → StOk K g' μ' H' → RSs K g' vs svs → QD svs μ' → Q vs H'
/-- a new object, that nobody knows yet -/
def LN (T : DTN) : TE := fun σ H Q => ∃ (g : G) (ρ : En) (μ : Mu) (QD : SO → Mu → Prop), StOk K g μ H ∧ EnOk K g ρ σ ∧ T ρ μ QD ∧ ∀ g' a so μ' H', Ext g H g' H' → StOk K g' μ' H' → Fr H a → g'.F a = none → a ∉ g'.p → SOk K g'.F H' a so → QD so μ' → Q (.ref a) H'
/-- operators on data: a value, a bool -/
def LO (h : PyData → PyData → Option PyData) : R2 := fun x y H Q => ∃ (g : G) (μ : Mu) (sx sy : SV) (QD : PyData → Prop), StOk K g μ H ∧ RS K g x sx ∧ RS K g y sy ∧ (oP (rd μ sx) fun dx => oP (rd μ sy) fun dy => oP (h dx dy) QD) ∧
  ∀ g' v z H', Ext g H g' H' → StOk K g' μ H' → Rp K g'.F v z → QD z → Q v H'
def LOB (h : PyData → PyData → Option Bool) : R2 := fun x y H Q => ∃ (g : G) (μ : Mu) (sx sy : SV) (QD : Bool → Prop), StOk K g μ H ∧ RS K g x sx ∧ RS K g y sy ∧ (oP (rd μ sx) fun dx => oP (rd μ sy) fun dy => oP (h dx dy) QD) ∧ ∀ k, QD k → Q (.bl k) H
/-- calls of built-ins: data, or a new object -/
def LC (h : Mu → List SV → Option PyData) : List V → Hp → VK → Prop := fun xs H Q => ∃ (g : G) (μ : Mu) (svs : List SV) (QD : PyData → Prop), StOk K g μ H ∧ RSs K g xs svs ∧ oP (h μ svs) QD ∧ ∀ g' v z H', Ext g H g' H' → StOk K g' μ H' → Rp K g'.F v z → QD z → Q v H'
def LCN (h : Mu → List SV → Option SO) : List V → Hp → VK → Prop := fun xs H Q => ∃ (g : G) (μ : Mu) (svs : List SV) (QD : SO → Prop), StOk K g μ H ∧ RSs K g xs svs ∧ oP (h μ svs) QD ∧
  ∀ g' a so H', Ext g H g' H' → StOk K g' μ H' → H a = none → g'.F a = none → a ∉ g'.p → SOk K g'.F H' a so → QD so → Q (.ref a) H'
end
structure DE (X : Cx) (e : Expr) (T : DT) : Prop where pe : PE X e (LE X.K T)
structure DB (X : Cx) (e : Expr) (T : DTB) : Prop where pt : PT X e (LB X.K T)
structure DW (X : Cx) (e : Expr) (T : DTB) : Prop where pw : PW X e (LB X.K T)
structure DA (X : Cx) (es : List Expr) (T : DTA) : Prop where pa : PA X es (LA X.K T)
structure DN (X : Cx) (e : Expr) (T : DTN) : Prop where pe : PE X e (LN X.K T)

section
variable {X : Cx} {a b c e : Expr} {es : List Expr} {pos : Pos} {Ta Tb Tc T : DT} {U U' : DTB} {Es : DTA} {N : DTN}

def vT (i : Nat) : DT := fun ρ μ Q => match ρ[i]? with
  | some (some sv) => Q sv μ
  | _ => False
def cT (x : PyData) : DT := fun _ μ Q => Q (.d x) μ
theorem de_var {i : Nat} {x : Str} (h : PE X (.Name x pos) (tVar i)) : DE X (.Name x pos) (vT i) := ⟨h.weak fun σ H Q ⟨g, ρ, μ, QD, ok, en, t, q⟩ => by
  have t' : (match ρ[i]? with
    | some (some sv) => QD sv μ
    | _ => False) := t
  cases e : ρ[i]? with
  | none => rw [e] at t'; exact t'.elim
  | some o =>
    cases o with
    | none => rw [e] at t'; exact t'.elim
    | some sv =>
      rw [e] at t'
      obtain ⟨v, h1, h2⟩ := en.at_ i sv e
      exact ⟨v, h1, q g v sv μ H (.refl g H) ok h2 t'⟩⟩
theorem de_c {v : V} {x : PyData} (h : PE X e (tC v)) (r : ∀ F, Rp X.K F v x) : DE X e (cT x) := ⟨h.weak fun σ H Q ⟨g, ρ, μ, QD, ok, en, t, q⟩ => q g v (.d x) μ H (.refl g H) ok (r _) t⟩
theorem de_int {i j} : DE X (.Constant (.int i) j pos) (cT (.int i)) := de_c pe_int fun _ => .int i
theorem de_bl {b j} : DE X (.Constant (.bool b) j pos) (cT (.bool b)) := de_c pe_bl fun _ => .bl b
theorem de_non {j} : DE X (.Constant .none j pos) (cT .none) := de_c pe_non fun _ => .non
theorem de_str {x j} : DE X (.Constant (.str x) j pos) (cT (.str x)) := de_c pe_str fun _ => .str x

def opT (h : PyData → PyData → Option PyData) (Ta Tb : DT) : DT := fun ρ μ Q => Ta ρ μ fun x μ1 => Tb ρ μ1 fun y μ2 => oP (rd μ2 x) fun dx => oP (rd μ2 y) fun dy => oP (h dx dy) fun z => Q (.d z) μ2
def cmT (h : PyData → PyData → Option Bool) (Ta Tb : DT) : DT := fun ρ μ Q => Ta ρ μ fun x μ1 => Tb ρ μ1 fun y μ2 => oP (rd μ2 x) fun dx => oP (rd μ2 y) fun dy => oP (h dx dy) fun z => Q (.d (.bool z)) μ2
def cmB (h : PyData → PyData → Option Bool) (Ta Tb : DT) : DTB := fun ρ μ Q => Ta ρ μ fun x μ1 => Tb ρ μ1 fun y μ2 => oP (rd μ2 x) fun dx => oP (rd μ2 y) fun dy => oP (h dx dy) fun z => Q z μ2
theorem de_op {op : Operator} {h : PyData → PyData → Option PyData} (ho : OpR X (binaryOp op) (LO X.K h)) (ha : DE X a Ta) (hb : DE X b Tb) : DE X (.BinOp a op b pos) (opT h Ta Tb) :=
  ⟨(pe_op ho ha.pe hb.pe).weak fun σ H Q ⟨g, ρ, μ, QD, ok, en, t, q⟩ => ⟨g, ρ, μ, _, ok, en, t, fun g1 v sv μ1 H1 x1 ok1 r1 t1 => ⟨g1, ρ, μ1, _, ok1, en.mono x1.le, t1, fun g2 u su μ2 H2 x2 ok2 r2 t2 =>
    ⟨g2, μ2, sv, su, _, ok2, r1.mono x2.le, r2, t2, fun g3 w z H3 x3 ok3 r3 q3 => q g3 w (.d z) μ2 H3 ((x1.trans x2).trans x3) ok3 r3 q3⟩⟩⟩⟩
theorem de_cmp {op : CmpOp} {h : PyData → PyData → Option Bool} (ho : OpR X (compareOp op) (LOB X.K h)) (ha : DE X a Ta) (hb : DE X b Tb) (hm : behindInMarks op b = false) : DE X (.Compare a [op] [b] pos) (cmT h Ta Tb) :=
  ⟨(pe_cmpR ho ha.pe hb.pe hm).weak fun σ H Q ⟨g, ρ, μ, QD, ok, en, t, q⟩ => ⟨g, ρ, μ, _, ok, en, t, fun g1 v sv μ1 H1 x1 ok1 r1 t1 => ⟨g1, ρ, μ1, _, ok1, en.mono x1.le, t1, fun g2 u su μ2 H2 x2 ok2 r2 t2 =>
    ⟨g2, μ2, sv, su, _, ok2, r1.mono x2.le, r2, t2, fun k q3 => q g2 (.bl k) (.d (.bool k)) μ2 H2 (x1.trans x2) ok2 (.bl k) q3⟩⟩⟩⟩
theorem db_cmp {op : CmpOp} {h : PyData → PyData → Option Bool} (ho : OpR X (compareOp op) (LOB X.K h)) (ha : DE X a Ta) (hb : DE X b Tb) (hm : behindInMarks op b = false) : DB X (.Compare a [op] [b] pos) (cmB h Ta Tb) :=
  ⟨(pt_cmpR ho ha.pe hb.pe hm).weak fun σ H Q ⟨g, ρ, μ, QD, ok, en, t, q⟩ => ⟨g, ρ, μ, _, ok, en, t, fun g1 v sv μ1 H1 x1 ok1 r1 t1 => ⟨g1, ρ, μ1, _, ok1, en.mono x1.le, t1, fun g2 u su μ2 H2 x2 ok2 r2 t2 =>
    ⟨g2, μ2, sv, su, _, ok2, r1.mono x2.le, r2, t2, fun k q3 => ⟨k, rfl, q g2 k μ2 H2 (x1.trans x2) ok2 q3⟩⟩⟩⟩⟩
/-- a < b < c -/
def chT (h h' : PyData → PyData → Option Bool) (Ta Tb Tc : DT) : DT := fun ρ μ Q => Ta ρ μ fun x μ1 => Tb ρ μ1 fun y μ2 => oP (rd μ2 x) fun dx => oP (rd μ2 y) fun dy => oP (h dx dy) fun k =>
  match k with
  | true => Tc ρ μ2 fun z μ3 => oP (rd μ3 y) fun dy => oP (rd μ3 z) fun dz => oP (h' dy dz) fun k' => Q (.d (.bool k')) μ3
  | false => Q (.d (.bool false)) μ2
def chB (h h' : PyData → PyData → Option Bool) (Ta Tb Tc : DT) : DTB := fun ρ μ Q => Ta ρ μ fun x μ1 => Tb ρ μ1 fun y μ2 => oP (rd μ2 x) fun dx => oP (rd μ2 y) fun dy => oP (h dx dy) fun k =>
  match k with
  | true => Tc ρ μ2 fun z μ3 => oP (rd μ3 y) fun dy => oP (rd μ3 z) fun dz => oP (h' dy dz) fun k' => Q k' μ3
  | false => Q false μ2
theorem de_chain {op op' : CmpOp} {h h' : PyData → PyData → Option Bool} (ho : OpR X (compareOp op) (LOB X.K h)) (ho' : OpR X (compareOp op') (LOB X.K h')) (ha : DE X a Ta) (hb : DE X b Tb) (hc : DE X c Tc)
    (hm : lastMarks [op, op'] [b, c] = false := by with_unfolding_all rfl) : DE X (.Compare a [op, op'] [b, c] pos) (chT h h' Ta Tb Tc) :=
  ⟨(pe_chain ho ho' ha.pe hb.pe hc.pe hm).weak fun σ H Q ⟨g, ρ, μ, QD, ok, en, t, q⟩ => ⟨g, ρ, μ, _, ok, en, t, fun g1 v sv μ1 H1 x1 ok1 r1 t1 => ⟨g1, ρ, μ1, _, ok1, en.mono x1.le, t1, fun g2 u su μ2 H2 x2 ok2 r2 t2 =>
    ⟨g2, μ2, sv, su, _, ok2, r1.mono x2.le, r2, t2, fun k q3 => ⟨k, rfl, by
      cases k with
      | false => exact q g2 (.bl false) (.d (.bool false)) μ2 H2 (x1.trans x2) ok2 (.bl false) q3
      | true => exact ⟨g2, ρ, μ2, _, ok2, (en.mono x1.le).mono x2.le, q3, fun g3 w sw μ3 H3 x3 ok3 r3 t3 => ⟨g3, μ3, su, sw, _, ok3, r2.mono x3.le, r3, t3, fun k q4 => q g3 (.bl k) (.d (.bool k)) μ3 H3 ((x1.trans x2).trans x3) ok3 (.bl k) q4⟩⟩⟩⟩⟩⟩⟩
theorem db_chain {op op' : CmpOp} {h h' : PyData → PyData → Option Bool} (ho : OpR X (compareOp op) (LOB X.K h)) (ho' : OpR X (compareOp op') (LOB X.K h')) (ha : DE X a Ta) (hb : DE X b Tb) (hc : DE X c Tc)
    (hm : lastMarks [op, op'] [b, c] = false := by with_unfolding_all rfl) : DB X (.Compare a [op, op'] [b, c] pos) (chB h h' Ta Tb Tc) :=
  ⟨(pt_chain ho ho' ha.pe hb.pe hc.pe hm).weak fun σ H Q ⟨g, ρ, μ, QD, ok, en, t, q⟩ => ⟨g, ρ, μ, _, ok, en, t, fun g1 v sv μ1 H1 x1 ok1 r1 t1 => ⟨g1, ρ, μ1, _, ok1, en.mono x1.le, t1, fun g2 u su μ2 H2 x2 ok2 r2 t2 =>
    ⟨g2, μ2, sv, su, _, ok2, r1.mono x2.le, r2, t2, fun k q3 => ⟨k, rfl, by
      cases k with
      | false => exact ⟨false, rfl, q g2 false μ2 H2 (x1.trans x2) ok2 q3⟩
      | true => exact ⟨g2, ρ, μ2, _, ok2, (en.mono x1.le).mono x2.le, q3, fun g3 w sw μ3 H3 x3 ok3 r3 t3 => ⟨g3, μ3, su, sw, _, ok3, r2.mono x3.le, r3, t3, fun k q4 => ⟨k, rfl, q g3 k μ3 H3 ((x1.trans x2).trans x3) ok3 q4⟩⟩⟩⟩⟩⟩⟩⟩
/-- -a of an int -/
def negT (Ta : DT) : DT := fun ρ μ Q => Ta ρ μ fun x μ1 => match x with
  | .d (.int i) => Q (.d (.int (-i))) μ1
  | _ => False
theorem de_neg (ha : DE X a Ta) : DE X (.UnaryOp .USub a pos) (negT Ta) :=
  ⟨(pe_un un_neg ha.pe).weak fun σ H Q ⟨g, ρ, μ, QD, ok, en, t, q⟩ => ⟨g, ρ, μ, _, ok, en, t, fun g1 v sv μ1 H1 x1 ok1 r1 t1 => by
    cases sv with
    | d x =>
      cases x with
      | int i =>
        cases r1
        exact ⟨i, rfl, q g1 _ (.d (.int (-i))) μ1 H1 x1 ok1 (.int _) t1⟩
      | _ => exact t1.elim
    | _ => exact t1.elim⟩⟩
/-- is None, is not None -/
@[simp] def isNone : SV → Bool
  | .d .none => true
  | _ => false
theorem RS.non {K : PySem.W.Frag} {g : G} {v : V} {sv : SV} (r : RS K g v sv) : decide (v = .non) = isNone sv := by
  cases sv with
  | d x => cases r <;> rfl
  | r l => obtain ⟨a, _, rfl⟩ := r; rfl
  | scr ns => obtain ⟨a, rfl, _⟩ := r; rfl
  | x k => obtain ⟨a, rfl⟩ := XV.ref (K := K) r; rfl
def isnT (Ta : DT) : DT := fun ρ μ Q => Ta ρ μ fun x μ1 => Q (.d (.bool (isNone x))) μ1
def nonT (Ta : DT) : DT := fun ρ μ Q => Ta ρ μ fun x μ1 => Q (.d (.bool (!isNone x))) μ1
theorem de_isN {j pos'} (ha : DE X a Ta) : DE X (.Compare a [.Is] [.Constant .none j pos'] pos) (isnT Ta) :=
  ⟨(pe_cmp (pc_isN ha.pe) rfl).weak fun σ H Q ⟨g, ρ, μ, QD, ok, en, t, q⟩ => ⟨g, ρ, μ, _, ok, en, t, fun g1 v sv μ1 H1 x1 ok1 r1 t1 => by
    show Q (.bl (decide (v = .non))) H1
    rw [r1.non]; exact q g1 _ (.d (.bool _)) μ1 H1 x1 ok1 (.bl _) t1⟩⟩
theorem de_notN {j pos'} (ha : DE X a Ta) : DE X (.Compare a [.IsNot] [.Constant .none j pos'] pos) (nonT Ta) :=
  ⟨(pe_cmp (pc_notN ha.pe) rfl).weak fun σ H Q ⟨g, ρ, μ, QD, ok, en, t, q⟩ => ⟨g, ρ, μ, _, ok, en, t, fun g1 v sv μ1 H1 x1 ok1 r1 t1 => by
    show Q (.bl (!decide (v = .non))) H1
    rw [r1.non]; exact q g1 _ (.d (.bool _)) μ1 H1 x1 ok1 (.bl _) t1⟩⟩

/-- an expression that gives a bool, as a test -/
def bT (Ta : DT) : DTB := fun ρ μ Q => Ta ρ μ fun x μ1 => match x with
  | .d (.bool k) => Q k μ1
  | _ => False
theorem db_val (ha : DE X e Ta) (he : ∀ whole, isTrue e X.env whole = (do let v ← whole; standAt e.pos; holding [v] (truthy v)) := by intro _; rfl) : DB X e (bT Ta) :=
  ⟨(pt_val ha.pe he).weak fun σ H Q ⟨g, ρ, μ, QD, ok, en, t, q⟩ => ⟨g, ρ, μ, _, ok, en, t, fun g1 v sv μ1 H1 x1 ok1 r1 t1 => by
    cases sv with
    | d x =>
      cases x with
      | bool k =>
        cases r1
        exact ⟨k, rfl, q g1 k μ1 H1 x1 ok1 t1⟩
      | _ => exact t1.elim
    | _ => exact t1.elim⟩⟩
/-- a bool's is / is not None as a test -/
theorem db_isN {j pos'} (ha : DE X a Ta) : DB X (.Compare a [.Is] [.Constant .none j pos'] pos) (bT (isnT Ta)) :=
  ⟨(pt_cmp (pc_isN ha.pe) rfl).weak fun σ H Q ⟨g, ρ, μ, QD, ok, en, t, q⟩ => ⟨g, ρ, μ, _, ok, en, t, fun g1 v sv μ1 H1 x1 ok1 r1 t1 => by
    show ∃ c, V.bl (decide (v = .non)) = .bl c ∧ Q c H1
    rw [r1.non]; exact ⟨_, rfl, q g1 _ μ1 H1 x1 ok1 t1⟩⟩⟩
theorem db_notN {j pos'} (ha : DE X a Ta) : DB X (.Compare a [.IsNot] [.Constant .none j pos'] pos) (bT (nonT Ta)) :=
  ⟨(pt_cmp (pc_notN ha.pe) rfl).weak fun σ H Q ⟨g, ρ, μ, QD, ok, en, t, q⟩ => ⟨g, ρ, μ, _, ok, en, t, fun g1 v sv μ1 H1 x1 ok1 r1 t1 => by
    show ∃ c, V.bl (!decide (v = .non)) = .bl c ∧ Q c H1
    rw [r1.non]; exact ⟨_, rfl, q g1 _ μ1 H1 x1 ok1 t1⟩⟩⟩
def andB (U U' : DTB) : DTB := fun ρ μ Q => U ρ μ fun b μ1 => match b with
  | true => U' ρ μ1 Q
  | false => Q false μ1
def orB (U U' : DTB) : DTB := fun ρ μ Q => U ρ μ fun b μ1 => match b with
  | true => Q true μ1
  | false => U' ρ μ1 Q
def notB (U : DTB) : DTB := fun ρ μ Q => U ρ μ fun b μ1 => Q (!b) μ1
theorem lb_and {K : PySem.W.Frag} {σ : L2.St} {H : Hp} {Q : Bool → Hp → Prop} : LB K (andB U U') σ H Q → tAnd (LB K U) (LB K U') σ H Q := fun ⟨g, ρ, μ, QD, ok, en, t, q⟩ => ⟨g, ρ, μ, _, ok, en, t, fun g1 b μ1 H1 x1 ok1 t1 => by
  cases b with
  | true => exact ⟨g1, ρ, μ1, QD, ok1, en.mono x1.le, t1, fun g2 b μ2 H2 x2 ok2 t2 => q g2 b μ2 H2 (x1.trans x2) ok2 t2⟩
  | false => exact q g1 false μ1 H1 x1 ok1 t1⟩
theorem lb_or {K : PySem.W.Frag} {σ : L2.St} {H : Hp} {Q : Bool → Hp → Prop} : LB K (orB U U') σ H Q → tOr (LB K U) (LB K U') σ H Q := fun ⟨g, ρ, μ, QD, ok, en, t, q⟩ => ⟨g, ρ, μ, _, ok, en, t, fun g1 b μ1 H1 x1 ok1 t1 => by
  cases b with
  | false => exact ⟨g1, ρ, μ1, QD, ok1, en.mono x1.le, t1, fun g2 b μ2 H2 x2 ok2 t2 => q g2 b μ2 H2 (x1.trans x2) ok2 t2⟩
  | true => exact q g1 true μ1 H1 x1 ok1 t1⟩
theorem _root_.L2.PW.weak {X : Cx} {e : Expr} {t t' : TT} (h : PW X e t) (w : ∀ σ H Q, t' σ H Q → t σ H Q) : PW X e t' := ⟨fun wh pins s σ H Q I q => h.run wh pins s σ H Q I (w σ H Q q)⟩
theorem dw_and1 (ha : DB X a U) : DW X (.BoolOp .And [a] pos) U := ⟨pw_and1 ha.pt⟩
theorem dw_or1 (ha : DB X a U) : DW X (.BoolOp .Or [a] pos) U := ⟨pw_or1 ha.pt⟩
theorem dw_and (ha : DB X a U) (hb : DW X (.BoolOp .And (b :: es) pos) U') : DW X (.BoolOp .And (a :: b :: es) pos) (andB U U') := ⟨(pw_and ha.pt hb.pw).weak fun _ _ _ => lb_and⟩
theorem dw_or (ha : DB X a U) (hb : DW X (.BoolOp .Or (b :: es) pos) U') : DW X (.BoolOp .Or (a :: b :: es) pos) (orB U U') := ⟨(pw_or ha.pt hb.pw).weak fun _ _ _ => lb_or⟩
theorem db_w (h : DW X e U) : DB X e U := ⟨h.pw.pt⟩
theorem db_not (ha : DB X a U) : DB X (.UnaryOp .Not a pos) (notB U) := ⟨(pt_not ha.pt).weak fun σ H Q ⟨g, ρ, μ, QD, ok, en, t, q⟩ => ⟨g, ρ, μ, _, ok, en, t, fun g1 b μ1 H1 x1 ok1 t1 => q g1 (!b) μ1 H1 x1 ok1 t1⟩⟩
/-- .. as values -/
def andT (Ta Tb : DT) : DT := fun ρ μ Q => Ta ρ μ fun x μ1 => match x with
  | .d (.bool true) => Tb ρ μ1 Q
  | .d (.bool false) => Q (.d (.bool false)) μ1
  | _ => False
def orT (Ta Tb : DT) : DT := fun ρ μ Q => Ta ρ μ fun x μ1 => match x with
  | .d (.bool true) => Q (.d (.bool true)) μ1
  | .d (.bool false) => Tb ρ μ1 Q
  | _ => False
def notT (Ta : DT) : DT := fun ρ μ Q => Ta ρ μ fun x μ1 => match x with
  | .d (.bool k) => Q (.d (.bool (!k))) μ1
  | _ => False
theorem de_one {op} (h : DE X a Ta) : DE X (.BoolOp op [a] pos) Ta := ⟨pe_one h.pe⟩
theorem de_and (ha : DE X a Ta) (hb : DE X (.BoolOp .And (b :: es) pos) Tb) : DE X (.BoolOp .And (a :: b :: es) pos) (andT Ta Tb) :=
  ⟨(pe_and ha.pe hb.pe).weak fun σ H Q ⟨g, ρ, μ, QD, ok, en, t, q⟩ => ⟨g, ρ, μ, _, ok, en, t, fun g1 v sv μ1 H1 x1 ok1 r1 t1 => by
    cases sv with
    | d x =>
      cases x with
      | bool k =>
        cases r1
        cases k with
        | true => exact ⟨true, rfl, g1, ρ, μ1, QD, ok1, en.mono x1.le, t1, fun g2 v sv μ2 H2 x2 ok2 r2 t2 => q g2 v sv μ2 H2 (x1.trans x2) ok2 r2 t2⟩
        | false => exact ⟨false, rfl, q g1 _ (.d (.bool false)) μ1 H1 x1 ok1 (.bl _) t1⟩
      | _ => exact t1.elim
    | _ => exact t1.elim⟩⟩
theorem de_or (ha : DE X a Ta) (hb : DE X (.BoolOp .Or (b :: es) pos) Tb) : DE X (.BoolOp .Or (a :: b :: es) pos) (orT Ta Tb) :=
  ⟨(pe_or ha.pe hb.pe).weak fun σ H Q ⟨g, ρ, μ, QD, ok, en, t, q⟩ => ⟨g, ρ, μ, _, ok, en, t, fun g1 v sv μ1 H1 x1 ok1 r1 t1 => by
    cases sv with
    | d x =>
      cases x with
      | bool k =>
        cases r1
        cases k with
        | false => exact ⟨false, rfl, g1, ρ, μ1, QD, ok1, en.mono x1.le, t1, fun g2 v sv μ2 H2 x2 ok2 r2 t2 => q g2 v sv μ2 H2 (x1.trans x2) ok2 r2 t2⟩
        | true => exact ⟨true, rfl, q g1 _ (.d (.bool true)) μ1 H1 x1 ok1 (.bl _) t1⟩
      | _ => exact t1.elim
    | _ => exact t1.elim⟩⟩
/-- not, and / or of tests, as values -/
theorem de_not (ha : DE X a Ta) : DE X (.UnaryOp .Not a pos) (notT Ta) :=
  ⟨(pe_not ha.pe).weak fun σ H Q ⟨g, ρ, μ, QD, ok, en, t, q⟩ => ⟨g, ρ, μ, _, ok, en, t, fun g1 v sv μ1 H1 x1 ok1 r1 t1 => by
    cases sv with
    | d x =>
      cases x with
      | bool k =>
        cases r1
        exact ⟨k, rfl, q g1 _ (.d (.bool (!k))) μ1 H1 x1 ok1 (.bl _) t1⟩
      | _ => exact t1.elim
    | _ => exact t1.elim⟩⟩
def ifT (U : DTB) (Ta Tb : DT) : DT := fun ρ μ Q => U ρ μ fun b μ1 => match b with
  | true => Ta ρ μ1 Q
  | false => Tb ρ μ1 Q
theorem de_if (hc : DB X c U) (ha : DE X a Ta) (hb : DE X b Tb) : DE X (.IfExp c a b pos) (ifT U Ta Tb) :=
  ⟨(pe_ifExp hc.pt ha.pe hb.pe).weak fun σ H Q ⟨g, ρ, μ, QD, ok, en, t, q⟩ => ⟨g, ρ, μ, _, ok, en, t, fun g1 k μ1 H1 x1 ok1 t1 => by
    cases k with
    | true => exact ⟨g1, ρ, μ1, QD, ok1, en.mono x1.le, t1, fun g2 v sv μ2 H2 x2 ok2 r2 t2 => q g2 v sv μ2 H2 (x1.trans x2) ok2 r2 t2⟩
    | false => exact ⟨g1, ρ, μ1, QD, ok1, en.mono x1.le, t1, fun g2 v sv μ2 H2 x2 ok2 r2 t2 => q g2 v sv μ2 H2 (x1.trans x2) ok2 r2 t2⟩⟩⟩

def nilA : DTA := fun _ μ Q => Q [] μ
def consA (T : DT) (Es : DTA) : DTA := fun ρ μ Q => T ρ μ fun x μ1 => Es ρ μ1 fun xs μ2 => Q (x :: xs) μ2
theorem da_nil : DA X [] nilA := ⟨pa_nil.weak fun σ H Q ⟨g, ρ, μ, QD, ok, en, t, q⟩ => q g [] [] μ H (.refl g H) ok .nil t⟩
theorem da_cons (ha : DE X e T) (hr : DA X es Es) (hs : starEach (e :: es) X.env = (false, eval e X.env) :: starEach es X.env := by rfl) : DA X (e :: es) (consA T Es) :=
  ⟨(pa_cons ha.pe hr.pa hs).weak fun σ H Q ⟨g, ρ, μ, QD, ok, en, t, q⟩ => ⟨g, ρ, μ, _, ok, en, t, fun g1 v sv μ1 H1 x1 ok1 r1 t1 => ⟨g1, ρ, μ1, _, ok1, en.mono x1.le, t1, fun g2 vs svs μ2 H2 x2 ok2 r2 t2 =>
    q g2 (v :: vs) (sv :: svs) μ2 H2 (x1.trans x2) ok2 (.cons (r1.mono x2.le) r2) t2⟩⟩⟩
/-- the data that stands in slots that never change -/
@[simp] def pure? : List SV → Option (List PyData)
  | [] => some []
  | .d x :: r => (pure? r).map (x :: ·)
  | _ :: _ => none
theorem RSs.pure {K : PySem.W.Frag} {g : G} : ∀ {vs : List V} {svs : List SV} {ds : List PyData}, RSs K g vs svs → pure? svs = some ds → RpAll K g.F vs ds
  | _, _, _, .nil, e => by cases e; exact .nil
  | _, .d x :: r, ds, .cons h t, e => by
    have e' : (pure? r).map (x :: ·) = some ds := e
    cases q : pure? r with
    | none => rw [q] at e'; cases e'
    | some es => rw [q] at e'; cases e'; exact .cons h (RSs.pure t q)
  | _, .r l :: r, ds, .cons h t, e => by cases e
  | _, .scr l :: r, ds, .cons h t, e => by cases e
  | _, .x l :: r, ds, .cons h t, e => by cases e
theorem Ext.fresh {g g1 : G} {H H1 : Hp} {p : Addr} (x1 : Ext g H g1 H1) (hp : H1 p = Option.none) (k4 : p ∉ g1.p) : Fr H p := by
  by_cases z : p ∈ g.p
  · obtain ⟨m, e⟩ := x1.le.p
    exact absurd (show p ∈ g1.p by rw [e]; exact List.mem_append_left _ z) k4
  · exact x1.gone z hp
def tupT (Es : DTA) : DT := fun ρ μ Q => Es ρ μ fun svs μ1 => oP (pure? svs) fun ds => ds.length ≤ sizeLine ∧ Q (.d (.tuple ds)) μ1
/-- items of a tuple that may hold places -/
@[simp] def s0? : List SV → Option (List S0)
  | [] => some []
  | .d x :: r => (s0? r).map (.d x :: ·)
  | .r l :: r => (s0? r).map (.r l :: ·)
  | _ :: _ => none
theorem RSs.s0 {K : PySem.W.Frag} {g : G} : ∀ {vs : List V} {svs : List SV} {xs : List S0}, RSs K g vs svs → s0? svs = some xs → Paired (S0.rel K g) vs xs
  | _, _, _, .nil, e => by cases e; exact .nil
  | _, .d x :: r, xs, .cons h t, e => by
    have e' : (s0? r).map (.d x :: ·) = some xs := e
    cases q : s0? r with
    | none => rw [q] at e'; cases e'
    | some es => rw [q] at e'; cases e'; exact .cons h (RSs.s0 t q)
  | _, .r l :: r, xs, .cons h t, e => by
    have e' : (s0? r).map (.r l :: ·) = some xs := e
    cases q : s0? r with
    | none => rw [q] at e'; cases e'
    | some es => rw [q] at e'; cases e'; exact .cons h (RSs.s0 t q)
  | _, .scr l :: r, xs, .cons h t, e => by cases e
  | _, .x l :: r, xs, .cons h t, e => by cases e
def tupXT (Es : DTA) : DT := fun ρ μ Q => Es ρ μ fun svs μ1 => oP (s0? svs) fun xs => xs.length ≤ sizeLine ∧ Q (.x (.tp xs)) μ1
theorem de_tupX {x1} (h : DA X es Es) : DE X (.Tuple es x1 pos) (tupXT Es) :=
  ⟨(pe_tup h.pa).weak fun σ H Q ⟨g, ρ, μ, QD, ok, en, t, q⟩ => ⟨g, ρ, μ, _, ok, en, t, fun g1 vs svs μ1 H1 x1 ok1 r1 t1 => by
    obtain ⟨xs, e, hz, t2⟩ := t1.of
    have rp := r1.s0 e
    refine ⟨by rw [Paired.length rp]; exact hz, fun p hp => ?_⟩
    obtain ⟨k1, k2, k3, k4⟩ := ok1.grow (.tup vs) hp
    obtain ⟨k5, k6⟩ := k1.frozen k2 hp k3 k4 upd_same
    exact q _ (.ref p) (.x (.tp xs)) μ1 _ (x1.trans k6) k5 ⟨p, vs, rfl, .inl (.inl upd_same), Paired.mapP rp fun a b z => S0.mono k6.le.f (fun l a => pget k6.le) z⟩ t2⟩⟩
def lstN (Es : DTA) : DTN := fun ρ μ Q => Es ρ μ fun svs μ1 => oP (pure? svs) fun ds => ds.length ≤ sizeLine ∧ Q (.lst ds) μ1
theorem de_tup {x1} (h : DA X es Es) : DE X (.Tuple es x1 pos) (tupT Es) :=
  ⟨(pe_tup h.pa).weak fun σ H Q ⟨g, ρ, μ, QD, ok, en, t, q⟩ => ⟨g, ρ, μ, _, ok, en, t, fun g1 vs svs μ1 H1 x1 ok1 r1 t1 => by
    obtain ⟨ds, e, hz, t2⟩ := t1.of
    have rp := r1.pure e
    refine ⟨by rw [rp.length]; exact hz, fun p hp => ?_⟩
    obtain ⟨k1, k2, k3, k4⟩ := ok1.grow (.tup vs) hp
    obtain ⟨k5, k6⟩ := k1.frozen k2 hp k3 k4 upd_same
    exact q _ (.ref p) (.d (.tuple ds)) μ1 _ (x1.trans k6) k5 (Rp.tup (.inl (.inl upd_same)) (rp.mono k6.le.f)) t2⟩⟩
theorem dn_lst (h : DA X es Es) : DN X (.List es pos) (lstN Es) :=
  ⟨(pe_lst h.pa).weak fun σ H Q ⟨g, ρ, μ, QD, ok, en, t, q⟩ => ⟨g, ρ, μ, _, ok, en, t, fun g1 vs svs μ1 H1 x1 ok1 r1 t1 => by
    obtain ⟨ds, e, hz, t2⟩ := t1.of
    have rp := r1.pure e
    refine ⟨by rw [rp.length]; exact hz, fun p hp => ?_⟩
    obtain ⟨k1, k2, k3, k4⟩ := ok1.grow (.lst vs) hp
    exact q _ p (.lst ds) μ1 _ (x1.trans k2) k1 (x1.fresh hp k4) k3 k4 ⟨vs, upd_same, rp⟩ t2⟩⟩
/-- a new object, as data; as a place of the store -/
def frT (N : DTN) : DT := fun ρ μ Q => N ρ μ fun so μ1 => Q (.d so.data) μ1
theorem de_new (h : DN X e N) : DE X e (frT N) := ⟨h.pe.weak fun σ H Q ⟨g, ρ, μ, QD, ok, en, t, q⟩ => ⟨g, ρ, μ, _, ok, en, t, fun g1 a so μ1 H1 x1 ok1 h0 hF ha hs t1 => by
  obtain ⟨o, ho, hr⟩ := hs.there
  obtain ⟨k5, k6⟩ := ok1.frozen x1 h0 hF ha ho (hs.nt ho)
  exact q _ (.ref a) (.d so.data) μ1 H1 k6 k5 (hr _ (same_new hF) upd_same) t1⟩⟩

/-- a def's contract over data and store -/
abbrev CT := List SV → Mu → (SV → Mu → Prop) → Prop
def LS (K : PySem.W.Frag) (S : CT) : Sp := fun vs H Q _ => ∃ (g : G) (svs : List SV) (μ : Mu) (QD : SV → Mu → Prop), StOk K g μ H ∧ RSs K g vs svs ∧ S svs μ QD ∧
  ∀ g' v sv μ' H', Ext g H g' H' → StOk K g' μ' H' → RS K g' v sv → QD sv μ' → Q v H'
/-- what stands at a global name, with at most k calls within -/
structure FD (P : Program) (w : World) (K : PySem.W.Frag) (mg : Str → Option Value) (base : Heap) (k : Nat) (x : Str) (S : CT) : Prop where
  ex : ∃ (f : Addr) (fd : FuncData) (ps : List Str), FnOk P w K mg base CX0 k f fd ps (LS K S) ∧ mg x = some (.ref f) ∧ PySem.W.keepIn K (.ref f) = true ∧ L2.Binds K fd ps []
theorem FD.mono {P : Program} {w : World} {K : PySem.W.Frag} {mg : Str → Option Value} {base : Heap} {j k : Nat} {x : Str} {S : CT} (F : FD P w K mg base j x S) (h : j ≤ k) : FD P w K mg base k x S := by
  obtain ⟨f, fd, ps, F, r⟩ := F.ex
  exact ⟨f, fd, ps, F.mono h, r⟩
/-- a stronger contract -/
theorem FD.imp {P : Program} {w : World} {K : PySem.W.Frag} {mg : Str → Option Value} {base : Heap} {k : Nat} {x : Str} {S S' : CT} (F : FD P w K mg base k x S) (h : ∀ svs μ Q, S' svs μ Q → S svs μ Q) : FD P w K mg base k x S' := by
  obtain ⟨f, fd, ps, F, r⟩ := F.ex
  exact ⟨f, fd, ps, F.imp fun vs H Q E ⟨g, svs, μ, QD, a, b, c, d⟩ => ⟨g, svs, μ, QD, a, b, h _ _ _ c, d⟩, r⟩
def callF (S : CT) (Es : DTA) : DT := fun ρ μ Q => Es ρ μ fun svs μ1 => S svs μ1 Q
theorem de_call {k : Nat} {x : Str} {S : CT} {p : Pos} (F : FD X.prog X.w X.K X.mg X.base k x S) (hr : Room k X.A) (hg : Gl X x) (ha : DA X (e :: es) Es)
    (hdb : (x == ("__debug__" : Str)) = false := by decide) (he : starEach (e :: es) X.env = (false, eval e X.env) :: starEach es X.env := by rfl) (hpl : (backTo pos (starEach es X.env)).any (·.1) = false := by rfl) : DE X (.Call (.Name x p) (e :: es) [] pos) (callF S Es) := by
  obtain ⟨f, fd, ps, F, hm, hk, hb⟩ := F.ex
  refine ⟨(pe_call F hr hg hm hk hb .nil pass0 ha.pa hdb he hpl).weak fun σ H Q ⟨g, ρ, μ, QD, ok, en, t, q⟩ => ⟨g, ρ, μ, _, ok, en, t, fun g1 vs svs μ1 H1 x1 ok1 r1 t1 => ?_⟩⟩
  show LS X.K S (vs ++ []) H1 Q E0
  rw [List.append_nil]
  exact ⟨g1, svs, μ1, _, ok1, r1, t1, fun g' v sv μ' H' x2 ok2 r2 q2 => q g' v sv μ' H' (x1.trans x2) ok2 r2 q2⟩
/-- a call of a def whose answer is a new object (the last of the store), as such -/
def popN (T : DT) : DTN := fun ρ μ Q => T ρ μ fun sv μ1 => match sv with
  | .r l => ∃ μ2 so, μ1 = μ2 ++ [so] ∧ l = μ2.length ∧ μ.length ≤ l ∧ Q so μ2
  | _ => False
theorem dn_pop (h : DE X e T) : DN X e (popN T) := ⟨h.pe.weak fun σ H Q ⟨g, ρ, μ, QD, ok, en, t, q⟩ => ⟨g, ρ, μ, _, ok, en, t, fun g1 v sv μ1 H1 x1 ok1 r1 t1 => by
  cases sv with
  | d x => exact t1.elim
  | scr x => exact t1.elim
  | x k => exact t1.elim
  | r l =>
    obtain ⟨μ2, so, e1, e2, hl, t2⟩ := t1
    subst e1 e2
    obtain ⟨a, h1, rfl⟩ := r1
    have hlen := ok1.len
    rw [List.length_append, List.length_singleton] at hlen
    have cut := ok1.cut μ2.length
    rw [List.take_left] at cut
    have hl0 := ok.len
    obtain ⟨m, em⟩ := x1.le.p
    have hpp : g1.p.take μ2.length = g.p ++ m.take (μ2.length - g.p.length) := by
      rw [em, List.take_append, List.take_of_length_le (by omega)]
    have hin : a ∉ g1.p.take μ2.length := by
      intro hm
      obtain ⟨j, hj, ej⟩ := List.getElem_of_mem hm
      rw [List.length_take] at hj
      rw [List.getElem_take] at ej
      have h2 : g1.p[μ2.length]'(by omega) = a := (List.getElem?_eq_some_iff.mp h1).2
      have := (List.getElem_inj ok1.nd).mp (ej.trans h2.symm)
      omega
    have hmem : a ∈ g1.p := List.mem_of_getElem? h1
    have hag : a ∉ g.p := fun z => hin (by rw [hpp]; exact List.mem_append_left _ z)
    have h0 : Fr H a := (x1.nw a hmem).resolve_left hag
    refine q ⟨g1.F, g1.p.take μ2.length⟩ a so μ2 H1 ⟨⟨x1.le.f, _, hpp⟩, x1.fr, fun b hb => x1.nw b (List.mem_of_mem_take hb), x1.nf⟩ cut h0 (ok1.fr a hmem) hin (ok1.ob _ a so h1 (by simp)) t2⟩⟩
/-- the same, as data -/
abbrev newF (S : CT) (Es : DTA) : DT := frT (popN (callF S Es))
end
end J
namespace J
open PySem PySem.Spec PyProof.Rows L2
variable [Tb]

structure DEnds where
  nx : En → Mu → Prop
  rt : SV → Mu → Prop
  bk : En → Mu → Prop := fun _ _ => False
  ct : En → Mu → Prop := fun _ _ => False
abbrev DTS := DEnds → En → Mu → Prop
structure Wd (K : PySem.W.Frag) (g : G) (H : Hp) (DD : DEnds) (D : Ends) : Prop where
  nx : ∀ g' ρ' μ' σ' H', Ext g H g' H' → StOk K g' μ' H' → EnOk K g' ρ' σ' → DD.nx ρ' μ' → D.nx σ' H'
  rt : ∀ g' v sv μ' H', Ext g H g' H' → StOk K g' μ' H' → RS K g' v sv → DD.rt sv μ' → D.rt v H'
  bk : ∀ g' ρ' μ' σ' H', Ext g H g' H' → StOk K g' μ' H' → EnOk K g' ρ' σ' → DD.bk ρ' μ' → D.bk σ' H'
  ct : ∀ g' ρ' μ' σ' H', Ext g H g' H' → StOk K g' μ' H' → EnOk K g' ρ' σ' → DD.ct ρ' μ' → D.ct σ' H'
theorem Wd.mono {K : PySem.W.Frag} {g g1 : G} {H H1 : Hp} {DD : DEnds} {D : Ends} (w : Wd K g H DD D) (x : Ext g H g1 H1) : Wd K g1 H1 DD D :=
  ⟨fun g' ρ' μ' σ' H' y => w.nx g' ρ' μ' σ' H' (x.trans y), fun g' v sv μ' H' y => w.rt g' v sv μ' H' (x.trans y), fun g' ρ' μ' σ' H' y => w.bk g' ρ' μ' σ' H' (x.trans y), fun g' ρ' μ' σ' H' y => w.ct g' ρ' μ' σ' H' (x.trans y)⟩
def LT (K : PySem.W.Frag) (T : DTS) : TS := fun D σ H => ∃ (g : G) (ρ : En) (μ : Mu) (DD : DEnds), StOk K g μ H ∧ EnOk K g ρ σ ∧ T DD ρ μ ∧ Wd K g H DD D
structure DS (X : Cx) (st : Stmt) (T : DTS) : Prop where ps : PS X st (LT X.K T)
structure DSs (X : Cx) (st : List Stmt) (T : DTS) : Prop where ps : PSs X st (LT X.K T)

section
variable {X : Cx} {a b c e : Expr} {es : List Expr} {st : Stmt} {sts : List Stmt} {pos : Pos} {Ta Tb Tc T : DT} {U U' : DTB} {Es : DTA} {N : DTN} {S1 S2 : DTS}
def skipS : DTS := fun DD ρ μ => DD.nx ρ μ
def seqS (S1 S2 : DTS) : DTS := fun DD ρ μ => S1 { DD with nx := fun ρ' μ' => S2 DD ρ' μ' } ρ μ
theorem dss_nil : DSs X [] skipS := ⟨pss_nil.weak fun D σ H ⟨g, ρ, μ, DD, ok, en, t, w⟩ => w.nx g ρ μ σ H (.refl g H) ok en t⟩
theorem dss_one (h : DS X st S1) : DSs X [st] S1 := ⟨pss_one h.ps⟩
theorem dss_cons (h1 : DS X st S1) (h2 : DSs X sts S2) : DSs X (st :: sts) (seqS S1 S2) :=
  ⟨(pss_cons h1.ps h2.ps).weak fun D σ H ⟨g, ρ, μ, DD, ok, en, t, w⟩ => ⟨g, ρ, μ, { DD with nx := fun ρ' μ' => S2 DD ρ' μ' }, ok, en, t,
    ⟨fun g' ρ' μ' σ' H' x ok' en' t' => ⟨g', ρ', μ', DD, ok', en', t', w.mono x⟩, w.rt, w.bk, w.ct⟩⟩⟩
def brkS : DTS := fun DD ρ μ => DD.bk ρ μ
theorem ds_break : DS X (.Break pos) brkS := ⟨ps_break.weak fun D σ H ⟨g, ρ, μ, DD, ok, en, t, w⟩ => w.bk g ρ μ σ H (.refl g H) ok en t⟩
theorem ds_pass : DS X (.Pass pos) skipS := ⟨ps_pass.weak fun D σ H ⟨g, ρ, μ, DD, ok, en, t, w⟩ => w.nx g ρ μ σ H (.refl g H) ok en t⟩
/-- never reached -/
def neverS : DTS := fun _ _ _ => False
theorem ds_never : DS X st neverS := ⟨ps_never.weak fun D σ H ⟨_, _, _, _, _, _, t, _⟩ => t⟩
def exprS (T : DT) : DTS := fun DD ρ μ => T ρ μ fun _ μ1 => DD.nx ρ μ1
theorem ds_expr (he : DE X e T) (hs : swapsWith e none pos.line X.env = pure false := by rfl) : DS X (.Expr e pos) (exprS T) :=
  ⟨(ps_expr he.pe hs).weak fun D σ H ⟨g, ρ, μ, DD, ok, en, t, w⟩ => ⟨g, ρ, μ, _, ok, en, t, fun g1 v sv μ1 H1 x1 ok1 r1 t1 => w.nx g1 ρ μ1 σ H1 x1 ok1 (en.mono x1.le) t1⟩⟩
def retS (T : DT) : DTS := fun DD ρ μ => T ρ μ fun sv μ1 => DD.rt sv μ1
theorem ds_ret (he : DE X e T) : DS X (.Return (some e) pos) (retS T) :=
  ⟨(ps_ret he.pe).weak fun D σ H ⟨g, ρ, μ, DD, ok, en, t, w⟩ => ⟨g, ρ, μ, _, ok, en, t, fun g1 v sv μ1 H1 x1 ok1 r1 t1 => w.rt g1 v sv μ1 H1 x1 ok1 r1 t1⟩⟩
def retN : DTS := fun DD _ μ => DD.rt (.d .none) μ
theorem ds_retN : DS X (.Return none pos) retN := ⟨ps_retN.weak fun D σ H ⟨g, ρ, μ, DD, ok, en, t, w⟩ => w.rt g .non (.d .none) μ H (.refl g H) ok Rp.non t⟩
def ifS (U : DTB) (S1 S2 : DTS) : DTS := fun DD ρ μ => U ρ μ fun b μ1 => match b with
  | true => S1 DD ρ μ1
  | false => S2 DD ρ μ1
theorem ds_if {sa sb : List Stmt} (hc : DB X c U) (ha : DSs X sa S1) (hb : DSs X sb S2) : DS X (.If c sa sb pos) (ifS U S1 S2) :=
  ⟨(ps_if hc.pt ha.ps hb.ps).weak fun D σ H ⟨g, ρ, μ, DD, ok, en, t, w⟩ => ⟨g, ρ, μ, _, ok, en, t, fun g1 k μ1 H1 x1 ok1 t1 => by
    cases k with
    | true => exact ⟨g1, ρ, μ1, DD, ok1, en.mono x1.le, t1, w.mono x1⟩
    | false => exact ⟨g1, ρ, μ1, DD, ok1, en.mono x1.le, t1, w.mono x1⟩⟩⟩
/-- a new object becomes a place of the store -/
def owT (N : DTN) : DT := fun ρ μ Q => N ρ μ fun so μ1 => Q (.r μ1.length) (μ1 ++ [so])
theorem de_own (h : DN X e N) : DE X e (owT N) := ⟨h.pe.weak fun σ H Q ⟨g, ρ, μ, QD, ok, en, t, q⟩ => ⟨g, ρ, μ, _, ok, en, t, fun g1 a so μ1 H1 x1 ok1 h0 hF ha hs t1 => by
  obtain ⟨k5, k6, k7⟩ := ok1.owned x1 h0 hF ha hs
  exact q _ (.ref a) (.r μ1.length) _ H1 k6 k5 k7 t1⟩⟩
def setS (i : Nat) (T : DT) : DTS := fun DD ρ μ => T ρ μ fun sv μ1 => DD.nx (ρ.set i (some sv)) μ1
theorem ds_set {i : Nat} {x : Str} {pos' : Pos} (hN : X.N.Nodup) (hi : X.N[i]? = some x) (hx : Loc X.env.scope x) (he : DE X e T) (hs : swapsWith e (some (.Name x pos')) pos.line X.env = pure false := by rfl)
    (hf : X.fn x = true ∨ X.env.scope.names.lookup x = some .local := by first | exact .inl rfl | exact .inr rfl | assumption) : DS X (.Assign [.Name x pos'] e pos) (setS i T) :=
  ⟨(ps_set hN hi hx he.pe hs hf).weak fun D σ H ⟨g, ρ, μ, DD, ok, en, t, w⟩ => ⟨g, ρ, μ, _, ok, en, t, fun g1 v sv μ1 H1 x1 ok1 r1 t1 => w.nx g1 _ μ1 _ H1 x1 ok1 ((en.mono x1.le).set i r1) t1⟩⟩
inductive Tg where
  | n (i : Nat)
  | t (is : List Nat)
@[simp] def setD : En → List Nat → List PyData → En
  | ρ, i :: is, d :: ds => setD (ρ.set i (some (.d d))) is ds
  | ρ, _, _ => ρ
@[simp] def setSV : En → List Nat → List SV → En
  | ρ, i :: is, d :: ds => setSV (ρ.set i (some d)) is ds
  | ρ, _, _ => ρ
@[simp] def Tg.put (t : Tg) (sv : SV) (ρ : En) : Option En := match t, sv with
  | .n i, sv => some (ρ.set i (some sv))
  | .t is, .d (.tuple ds) => if ds.length = is.length then some (setD ρ is ds) else none
  | _, _ => none
def gAll : List Nat → TGs
  | [] => gNil
  | i :: r => gCons (gName i) (gAll r)
def Tg.g (K : PySem.W.Frag) : Tg → TG
  | .n i => gName i
  | .t is => gTup K is.length (gAll is)
structure DG (X : Cx) (tg : Expr) (t : Tg) : Prop where pg : PG X tg (t.g X.K)
structure DGs (X : Cx) (tg : List Expr) (t : List Nat) : Prop where pg : PGs X tg (gAll t)
theorem dg_name {i : Nat} (h : PG X e (gName i)) : DG X e (.n i) := ⟨h⟩
theorem dgs_nil : DGs X [] [] := ⟨pgs_nil⟩
theorem dgs_cons {i : Nat} {is : List Nat} (h : PG X e (gName i)) (hr : DGs X es is) (hs : (assignEach (e :: es) X.env).map (·.2) = assign e X.env :: (assignEach es X.env).map (·.2) := by rfl) : DGs X (e :: es) (i :: is) := ⟨pgs_cons h hr.pg hs⟩
theorem dg_tup {is : List Nat} {k : Nat} (hc : X.calm = true) (h : DGs X es is) (hn : (assignEach es X.env).length = is.length := by rfl) (hst : (assignEach es X.env).findIdx? (·.1) = none := by rfl) : DG X (.Tuple es k pos) (.t is) :=
  ⟨pg_tup hc h.pg hn hst⟩
theorem gAll_ok {K : PySem.W.Frag} {g : G} {H : Hp} {Q : L2.St → Hp → Prop} : ∀ {is : List Nat} {vs : List V} {ds : List PyData} {ρ : En} {σ : L2.St}, EnOk K g ρ σ → RpAll K g.F vs ds → ds.length = is.length → (∀ σ', EnOk K g (setD ρ is ds) σ' → Q σ' H) → gAll is vs σ H Q
  | [], _, _, ρ, σ, en, .nil, _, q => ⟨rfl, q σ en⟩
  | [], _, _, ρ, σ, en, .cons _ _, h, q => by simp at h
  | i :: is, _, _, ρ, σ, en, .nil, h, q => by simp at h
  | i :: is, _, _, ρ, σ, en, .cons (d := d) r t, h, q => ⟨_, _, rfl, gAll_ok (ρ := ρ.set i (some (.d d))) (en.set i (sv := .d d) r) t (by simpa using h) q⟩
theorem gAll_sv {K : PySem.W.Frag} {g : G} {H : Hp} {Q : L2.St → Hp → Prop} : ∀ {is : List Nat} {vs : List V} {ds : List SV} {ρ : En} {σ : L2.St}, EnOk K g ρ σ → RSs K g vs ds → ds.length = is.length → (∀ σ', EnOk K g (setSV ρ is ds) σ' → Q σ' H) → gAll is vs σ H Q
  | [], _, _, ρ, σ, en, .nil, _, q => ⟨rfl, q σ en⟩
  | [], _, _, ρ, σ, en, .cons _ _, h, q => by simp at h
  | i :: is, _, _, ρ, σ, en, .nil, h, q => by simp at h
  | i :: is, _, _, ρ, σ, en, .cons (d := d) r t, h, q => ⟨_, _, rfl, gAll_sv (ρ := ρ.set i (some d)) (en.set i (sv := d) r) t (by simpa using h) q⟩
theorem Tg.put_ok {K : PySem.W.Frag} {g : G} {μ : Mu} {H : Hp} {ρ ρ' : En} {σ : L2.St} {v : V} {sv : SV} {Q : L2.St → Hp → Prop} (t : Tg) (ok : StOk K g μ H) (en : EnOk K g ρ σ) (r : RS K g v sv) (h : t.put sv ρ = some ρ') (q : ∀ σ', EnOk K g ρ' σ' → Q σ' H) : t.g K v σ H Q := by
  cases t with
  | n i =>
    cases h
    exact q _ (en.set i r)
  | t is =>
    cases sv with
    | d x =>
      cases x with
      | tuple ds =>
        have h' : (if ds.length = is.length then some (setD ρ is ds) else none) = some ρ' := h
        split at h'
        · rename_i hl
          cases h'
          cases r with
          | tup h1 h2 => exact ⟨_, _, rfl, same_sqT ok.ex h1, by rw [h2.length]; exact hl, gAll_ok en h2 hl q⟩
        · cases h'
      | _ => cases h
    | _ => cases h
/-- target = value -/
def asgS (t : Tg) (T : DT) : DTS := fun DD ρ μ => T ρ μ fun sv μ1 => oP (t.put sv ρ) fun ρ' => DD.nx ρ' μ1
theorem ds_asg {tg : Expr} {t : Tg} (he : DE X e T) (hg : DG X tg t) (hs : swapsWithSole [tg] e pos.line X.env = pure false := by rfl) (hw : swappedStores [tg] e X.env = pure none := by rfl)
    (h1 : (assignEach [tg] X.env).map (·.2) = [assign tg X.env] := by rfl) : DS X (.Assign [tg] e pos) (asgS t T) :=
  ⟨(ps_asg he.pe hg.pg hs hw h1).weak fun D σ H ⟨g, ρ, μ, DD, ok, en, tt, w⟩ => ⟨g, ρ, μ, _, ok, en, tt, fun g1 v sv μ1 H1 x1 ok1 r1 t1 => by
    obtain ⟨ρ', e1, t2⟩ := t1.of
    exact t.put_ok ok1 (en.mono x1.le) r1 e1 fun σ' en' => w.nx g1 ρ' μ1 σ' H1 x1 ok1 en' t2⟩⟩
/-- a, b, .. = e1, e2, .. (names) -/
def parS (is : List Nat) (Es : DTA) : DTS := fun DD ρ μ => Es ρ μ fun svs μ1 => svs.length = is.length ∧ DD.nx (setSV ρ is svs) μ1
theorem ds_tups {tgs : List Expr} {is : List Nat} {k k2 : Nat} {p1 p2 : Pos} (hc : X.calm = true) (ha : DA X es Es) (hg : DGs X tgs is)
    (hs : swapsWithSole [.Tuple tgs k p1] (.Tuple es k2 p2) pos.line X.env = pure false := by rfl) (hw : swappedStores [.Tuple tgs k p1] (.Tuple es k2 p2) X.env = pure none := by rfl)
    (h1 : (assignEach [.Tuple tgs k p1] X.env).map (·.2) = [assign (.Tuple tgs k p1) X.env] := by rfl)
    (hn : (assignEach tgs X.env).length = is.length := by rfl) (hst : (assignEach tgs X.env).findIdx? (·.1) = none := by rfl) (hsz : is.length ≤ 1000 := by decide) : DS X (.Assign [.Tuple tgs k p1] (.Tuple es k2 p2) pos) (parS is Es) :=
  ⟨(ps_asg (pe_tup ha.pa) (pg_tup hc hg.pg hn hst) hs hw h1).weak fun D σ H ⟨g, ρ, μ, DD, ok, en, tt, w⟩ => ⟨g, ρ, μ, _, ok, en, tt, fun g1 vs svs μ1 H1 x1 ok1 r1 ⟨hl, t1⟩ => by
    refine ⟨by rw [r1.length, hl, sizeLine_eq]; omega, fun p hp => ?_⟩
    obtain ⟨k1, k2, k3, k4⟩ := ok1.grow (.tup vs) hp
    have x2 := x1.trans k2
    exact ⟨p, vs, rfl, .inl (.inl upd_same), by rw [r1.length]; exact hl, gAll_sv ((en.mono x1.le)) r1 hl fun σ' en' => w.nx g1 _ μ1 σ' _ x2 k1 en' t1⟩⟩⟩
/-- two names, stored from the right -/
def par2S (i j : Nat) (Es : DTA) : DTS := fun DD ρ μ => Es ρ μ fun svs μ1 => match svs with
  | [x, y] => DD.nx ((ρ.set i (some x)).set j (some y)) μ1
  | _ => False
theorem ds_par2 {i j : Nat} {x y : Str} {px py pt : Pos} {kt k2 pt2} (hc : X.calm = true) (hN : X.N.Nodup) (hi : X.N[i]? = some x) (hj : X.N[j]? = some y) (hij : i ≠ j)
    (hx : X.env.scope.names.lookup x = some .local) (hy : X.env.scope.names.lookup y = some .local) (ha : DA X [a, b] Es)
    (hw : swappedStores [.Tuple [.Name x px, .Name y py] kt pt] (.Tuple [a, b] k2 pt2) X.env = pure (some [x, y]))
    (hs : swapsWithSole [.Tuple [.Name x px, .Name y py] kt pt] (.Tuple [a, b] k2 pt2) pos.line X.env = pure false := by rfl) :
    DS X (.Assign [.Tuple [.Name x px, .Name y py] kt pt] (.Tuple [a, b] k2 pt2) pos) (par2S i j Es) :=
  ⟨(ps_par hc hN hi hj hij hx hy ha.pa hw hs).weak fun D σ H ⟨g, ρ, μ, DD, ok, en, tt, w⟩ => ⟨g, ρ, μ, _, ok, en, tt, fun g1 vs svs μ1 H1 x1 ok1 r1 t1 => by
    cases r1 with
    | nil => exact t1.elim
    | cons r t =>
      cases t with
      | nil => exact t1.elim
      | cons r' t' =>
        cases t' with
        | cons _ _ => exact t1.elim
        | nil => exact ⟨_, _, rfl, w.nx g1 _ μ1 _ H1 x1 ok1 (((en.mono x1.le).set i r).set j r') t1⟩⟩⟩

structure ItOk (K : PySem.W.Frag) (J : It) (items : List PyData) (gd : Mu → Prop) (g0 : G) (H0 : Hp) : Prop where
  stop : ∀ g μ H, Ext g0 H0 g H → StOk K g μ H → gd μ → J.stop items.length H
  go : ∀ g μ H i, Ext g0 H0 g H → StOk K g μ H → gd μ → i < items.length → J.go i H
  yld : ∀ g μ H i x v H', Ext g0 H0 g H → StOk K g μ H → gd μ → items[i]? = some x → J.yld i H v H' → ∃ g', StOk K g' μ H' ∧ Ext g H g' H' ∧ Rp K g'.F v x
abbrev DTI := En → Mu → (List PyData → (Mu → Prop) → Mu → Prop) → Prop
def LI (K : PySem.W.Frag) (T : DTI) : TI := fun σ H R => ∃ (g : G) (ρ : En) (μ : Mu) (QD : List PyData → (Mu → Prop) → Mu → Prop), StOk K g μ H ∧ EnOk K g ρ σ ∧ T ρ μ QD ∧
  ∀ g' items gd μ' H' J, Ext g H g' H' → StOk K g' μ' H' → ItOk K J items gd g' H' → QD items gd μ' → R J H'
structure DI (X : Cx) (tg iter : Expr) (T : DTI) : Prop where pi : PI X tg iter (LI X.K T)
def forGo (t : Tg) (S : DTS) (gd : Mu → Prop) (DD : DEnds) : List PyData → En → Mu → Prop
  | [] => fun ρ μ => gd μ ∧ DD.nx ρ μ
  | x :: r => fun ρ μ => gd μ ∧ oP (t.put (.d x) ρ) fun ρ' => S { DD with nx := forGo t S gd DD r, ct := forGo t S gd DD r, bk := DD.nx } ρ' μ
def forS (t : Tg) (I : DTI) (S : DTS) : DTS := fun DD ρ μ => I ρ μ fun items gd μ1 => forGo t S gd DD items ρ μ1
theorem ds_for {tg iter : Expr} {body : List Stmt} {I : DTI} {t : Tg} (hp : PassesOwn (model X.prog X.w) X.A X.env X.xe) (hc : X.calm = true) (hi : DI X tg iter I) (hg : DG X tg t) (hb : DSs X body S1)
    (hs : ∀ x, foldedSetIterable iter X.env x = pure x := by intro _; rfl) : DS X (.For tg iter body [] pos) (forS t I S1) :=
  ⟨(ps_for hp hc hi.pi hg.pg hb.ps hs).weak fun D σ H ⟨g, ρ, μ, DD, ok, en, tt, w⟩ => ⟨g, ρ, μ, _, ok, en, tt, fun g1 items gd μ1 H1 J x1 ok1 it t1 => by
    have w1 := w.mono x1
    refine ⟨fun i m σ' H' => i ≤ items.length ∧ m = items.length - i ∧ ∃ g' ρ' μ', Ext g1 H1 g' H' ∧ StOk X.K g' μ' H' ∧ EnOk X.K g' ρ' σ' ∧ forGo t S1 gd DD (items.drop i) ρ' μ',
      ⟨_, Nat.zero_le _, rfl, g1, ρ, μ1, .refl _ _, ok1, en.mono x1.le, t1⟩, fun i m σ' H' hW => ?_⟩
    obtain ⟨hi, rfl, g', ρ', μ', x2, ok2, en2, t2⟩ := hW
    by_cases hlt : i < items.length
    · have ei : items[i]? = some items[i] := List.getElem?_eq_getElem hlt
      rw [List.drop_eq_getElem_cons hlt] at t2
      obtain ⟨hgd, t3⟩ := t2
      obtain ⟨ρ2, e2, t4⟩ := t3.of
      refine .inr ⟨it.go g' μ' H' i x2 ok2 hgd hlt, fun σ2 H2 => ∃ g2 ρ2 μ2, Ext g1 H1 g2 H2 ∧ StOk X.K g2 μ2 H2 ∧ EnOk X.K g2 ρ2 σ2 ∧ forGo t S1 gd DD (items.drop (i + 1)) ρ2 μ2,
        fun σ2 H2 q => ⟨items.length - (i + 1), by omega, hlt, rfl, q⟩, fun v H2 y => ?_⟩
      obtain ⟨g2, ok3, x3, rv⟩ := it.yld g' μ' H' i _ v H2 x2 ok2 hgd ei y
      refine t.put_ok ok3 (en2.mono x3.le) (sv := .d items[i]) rv e2 fun σ3 en3 => ?_
      refine ⟨g2, ρ2, μ', _, ok3, en3, t4, ⟨fun g4 ρ4 μ4 σ4 H4 x4 ok4 en4 t5 => ⟨g4, ρ4, μ4, (x2.trans x3).trans x4, ok4, en4, t5⟩, (w1.mono (x2.trans x3)).rt, (w1.mono (x2.trans x3)).nx, fun g4 ρ4 μ4 σ4 H4 x4 ok4 en4 t5 => ⟨g4, ρ4, μ4, (x2.trans x3).trans x4, ok4, en4, t5⟩⟩⟩
    · have ei : i = items.length := by omega
      subst ei
      rw [List.drop_length] at t2
      exact .inl ⟨it.stop g' μ' H' x2 ok2 t2.1, w1.nx g' ρ' μ' σ' H' x2 ok2 en2 t2.2⟩⟩⟩
/-- while, by a word that falls -/
def whileS (U : DTB) (S : DTS) : DTS := fun DD ρ μ => ∃ I : Nat → En → Mu → Prop, (∃ m, I m ρ μ) ∧ ∀ m ρ μ, I m ρ μ → U ρ μ fun b μ1 => match b with
  | true => S { DD with nx := fun ρ' μ' => ∃ m', m' < m ∧ I m' ρ' μ', ct := fun ρ' μ' => ∃ m', m' < m ∧ I m' ρ' μ', bk := DD.nx } ρ μ1
  | false => DD.nx ρ μ1
theorem ds_while {body : List Stmt} (hp : PassesOwn (model X.prog X.w) X.A X.env X.xe) (hc : DB X c U) (hb : DSs X body S1) : DS X (.While c body [] pos) (whileS U S1) :=
  ⟨(ps_while hp hc.pt hb.ps).weak fun D σ H ⟨g, ρ, μ, DD, ok, en, ⟨I, ⟨m, i0⟩, turn⟩, w⟩ => by
    refine ⟨fun m σ' H' => ∃ g' ρ' μ', Ext g H g' H' ∧ StOk X.K g' μ' H' ∧ EnOk X.K g' ρ' σ' ∧ I m ρ' μ', ⟨m, g, ρ, μ, .refl _ _, ok, en, i0⟩, fun m σ' H' ⟨g', ρ', μ', x1, ok1, en1, i1⟩ => ?_⟩
    refine ⟨g', ρ', μ', _, ok1, en1, turn m ρ' μ' i1, fun g2 k μ2 H2 x2 ok2 t2 => ?_⟩
    cases k with
    | false => exact w.nx g2 ρ' μ2 σ' H2 (x1.trans x2) ok2 (en1.mono x2.le) t2
    | true =>
      refine ⟨fun σ3 H3 => ∃ m', m' < m ∧ ∃ g3 ρ3 μ3, Ext g H g3 H3 ∧ StOk X.K g3 μ3 H3 ∧ EnOk X.K g3 ρ3 σ3 ∧ I m' ρ3 μ3, fun σ3 H3 q => q, g2, ρ', μ2, _, ok2, en1.mono x2.le, t2,
        ⟨fun g3 ρ3 μ3 σ3 H3 x3 ok3 en3 ⟨m', hm, i3⟩ => ⟨m', hm, g3, ρ3, μ3, (x1.trans x2).trans x3, ok3, en3, i3⟩, (w.mono (x1.trans x2)).rt, (w.mono (x1.trans x2)).nx, fun g3 ρ3 μ3 σ3 H3 x3 ok3 en3 ⟨m', hm, i3⟩ => ⟨m', hm, g3, ρ3, μ3, (x1.trans x2).trans x3, ok3, en3, i3⟩⟩⟩⟩

@[simp] def wipeE (ρ : En) : List Nat → En
  | [] => ρ
  | v :: vs => (wipeE ρ vs).set v none
theorem EnOk.wipe {K : PySem.W.Frag} {g : G} {ρ : En} {σ : L2.St} (h : EnOk K g ρ σ) : ∀ vs : List Nat, EnOk K g (wipeE ρ vs) (L2.wipe σ vs)
  | [] => h
  | v :: vs => by
    have ih := h.wipe vs
    refine ⟨?_, fun i sv q => ?_⟩
    · show ((wipeE ρ vs).set v none).length = ((L2.wipe σ vs).set v none).length
      rw [List.length_set, List.length_set]; exact ih.len
    · have q : ((wipeE ρ vs).set v none)[i]? = some (some sv) := q
      by_cases e : v = i
      · subst e
        by_cases hv : v < (wipeE ρ vs).length
        · rw [List.getElem?_set_self hv] at q; cases q
        · rw [List.getElem?_eq_none (by simpa using hv)] at q; cases q
      · rw [List.getElem?_set_ne e] at q
        obtain ⟨v', h1, h2⟩ := ih.at_ i sv q
        refine ⟨v', ?_, h2⟩
        show ((L2.wipe σ vs).set v none)[i]? = some (some v')
        rw [List.getElem?_set_ne e]; exact h1
def lcGo (t : Tg) (U : DTB) (T : DT) (gd : Mu → Prop) (ρ0 : En) (Q : List PyData → Mu → Prop) : List PyData → List PyData → Mu → Prop
  | [], acc, μ => gd μ ∧ Q acc μ
  | x :: r, acc, μ => gd μ ∧ oP (t.put (.d x) ρ0) fun ρ => U ρ μ fun b μ1 => match b with
    | true => T ρ μ1 fun y μ2 => match y with
      | .d d => acc.length < sizeLine ∧ lcGo t U T gd ρ0 Q r (acc ++ [d]) μ2
      | _ => False
    | false => lcGo t U T gd ρ0 Q r acc μ1
def lcN (t : Tg) (I : DTI) (U : DTB) (T : DT) (vs : List Nat) : DTN := fun ρ μ Q => I ρ μ fun items gd μ1 => lcGo t U T gd (wipeE ρ vs) (fun ds μ2 => Q (.lst ds) μ2) items [] μ1
def Tg.slots : Tg → List Nat
  | .n i => [i]
  | .t is => is
theorem wipe_set {σ : L2.St} {i : Nat} {v : Option V} : ∀ {vs : List Nat}, i ∈ vs → L2.wipe (σ.set i v) vs = L2.wipe σ vs
  | w :: vs, h => by
    show (L2.wipe (σ.set i v) vs).set w none = (L2.wipe σ vs).set w none
    by_cases e : i ∈ vs
    · rw [wipe_set e]
    · have ew : i = w := (List.mem_cons.mp h).resolve_right e
      subst ew
      have q : ∀ us : List Nat, (L2.wipe (σ.set i v) us).set i none = (L2.wipe σ us).set i none := by
        intro us
        induction us with
        | nil => show (σ.set i v).set i none = σ.set i none; rw [List.set_set]
        | cons u us ih =>
          show ((L2.wipe (σ.set i v) us).set u none).set i none = ((L2.wipe σ us).set u none).set i none
          by_cases e2 : u = i
          · subst e2; rw [List.set_set, List.set_set]; exact ih
          · rw [List.set_comm _ _ e2, List.set_comm _ _ e2, ih]
      exact q vs
theorem wipe_idem (σ : L2.St) : ∀ vs us : List Nat, (∀ v ∈ us, v ∈ vs) → L2.wipe (L2.wipe σ us) vs = L2.wipe σ vs := by
  intro vs us
  induction us with
  | nil => intro _; rfl
  | cons u us ih =>
    intro h
    show L2.wipe ((L2.wipe σ us).set u none) vs = _
    rw [wipe_set (h u List.mem_cons_self)]
    exact ih fun v hv => h v (List.mem_cons_of_mem _ hv)
theorem gAll_wipe {K : PySem.W.Frag} {H : Hp} {vs : List Nat} {Q : L2.St → Hp → Prop} : ∀ {is : List Nat} {xs : List V} {σ : L2.St}, (∀ i ∈ is, i ∈ vs) → gAll is xs σ H Q → gAll is xs σ H fun σ' H' => L2.wipe σ' vs = L2.wipe σ vs ∧ Q σ' H'
  | [], xs, σ, _, ⟨h, q⟩ => ⟨h, rfl, q⟩
  | i :: is, xs, σ, hs, ⟨v, r, e, q⟩ => ⟨v, r, e, by
    have ih := gAll_wipe (K := K) (vs := vs) (fun j hj => hs j (List.mem_cons_of_mem _ hj)) (show gAll is r (σ.set i (some v)) H Q from q)
    rw [wipe_set (hs i List.mem_cons_self)] at ih
    exact ih⟩
theorem Tg.g_wipe {K : PySem.W.Frag} {H : Hp} {vs : List Nat} {Q : L2.St → Hp → Prop} {t : Tg} {v : V} {σ : L2.St} (hs : ∀ i ∈ t.slots, i ∈ vs) (h : t.g K v σ H Q) : t.g K v σ H fun σ' H' => L2.wipe σ' vs = L2.wipe σ vs ∧ Q σ' H' := by
  cases t with
  | n i => exact ⟨wipe_set (hs i List.mem_cons_self), h⟩
  | t is =>
    obtain ⟨a, xs, e, h1, h2, h3⟩ := h
    exact ⟨a, xs, e, h1, h2, gAll_wipe (K := K) hs h3⟩
theorem lc_ln {K : PySem.W.Frag} {t : Tg} {I : DTI} {U : DTB} {T : DT} {vs : List Nat} {σ : L2.St} {H : Hp} {Q : VK} (hs : ∀ i ∈ t.slots, i ∈ vs) (h : LN K (lcN t I U T vs) σ H Q) : tLc (LI K I) (t.g K) (LB K U) (LE K T) vs σ H Q := by
  obtain ⟨g, ρ, μ, QD, ok, en, tt, q⟩ := h
  refine ⟨g, ρ, μ, _, ok, en, tt, fun g1 items gd μ1 H1 J x1 ok1 it t1 Dl hD => ?_⟩
  obtain ⟨k1, k2, k3, k4⟩ := ok1.grow (.lst []) hD
  have hD0 : Fr H Dl := x1.fresh hD k4
  refine ⟨fun i m H' => i ≤ items.length ∧ m = items.length - i ∧ ∃ g' μ' acc ws, Ext g1 H1 g' H' ∧ StOk K g' μ' H' ∧ H' Dl = some (.lst ws) ∧ g'.F Dl = none ∧ Dl ∉ g'.p ∧ RpAll K g'.F ws acc ∧ lcGo t U T gd (wipeE ρ vs) (fun ds μ2 => QD (.lst ds) μ2) (items.drop i) acc μ',
    ⟨_, Nat.zero_le _, rfl, g1, μ1, [], [], k2, k1, upd_same, k3, k4, .nil, t1⟩, fun i m H' hW => ?_⟩
  obtain ⟨hi, rfl, g', μ', acc, ws, x2, ok2, hDl, hF, hp, hr, t2⟩ := hW
  have x12 := x1.trans x2
  by_cases hlt : i < items.length
  · have ei : items[i]? = some items[i] := List.getElem?_eq_getElem hlt
    rw [List.drop_eq_getElem_cons hlt] at t2
    obtain ⟨hgd, t3⟩ := t2
    obtain ⟨ρ2, e2, t4⟩ := t3.of
    refine .inr ⟨it.go g' μ' H' i x2 ok2 hgd hlt, fun H2 => ∃ g2 μ2 acc ws, Ext g1 H1 g2 H2 ∧ StOk K g2 μ2 H2 ∧ H2 Dl = some (.lst ws) ∧ g2.F Dl = none ∧ Dl ∉ g2.p ∧ RpAll K g2.F ws acc ∧ lcGo t U T gd (wipeE ρ vs) (fun ds μ2 => QD (.lst ds) μ2) (items.drop (i + 1)) acc μ2,
      fun H2 q => ⟨items.length - (i + 1), by omega, hlt, rfl, q⟩, fun v H2 y => ?_⟩
    obtain ⟨g2, ok3, x3, rv⟩ := it.yld g' μ' H' i _ v H2 x2 ok2 hgd ei y
    have stay : ∀ {g3 : G} {H3 : Hp}, Ext g' H' g3 H3 → H3 Dl = some (.lst ws) ∧ g3.F Dl = none ∧ Dl ∉ g3.p := fun {g3 H3} x => ⟨x.fr Dl _ hp (fun _ e => by cases e) hDl, x.nf Dl _ hp hF hDl, x.there hp hDl⟩
    have z := Tg.g_wipe (K := K) (H := H2) (vs := vs) (σ := L2.wipe σ vs) hs (t.put_ok (Q := fun σ2 H2 => LB K U σ2 H2 fun b H3 =>
      if b = true then LE K T σ2 H3 fun y H4 => ∃ acc, H4 Dl = some (.lst acc) ∧ acc.length < sizeLine ∧ (∃ g2 μ2 acc2 ws, Ext g1 H1 g2 (upd H4 Dl (.lst (acc ++ [y]))) ∧ StOk K g2 μ2 (upd H4 Dl (.lst (acc ++ [y]))) ∧ (upd H4 Dl (.lst (acc ++ [y]))) Dl = some (.lst ws) ∧ g2.F Dl = none ∧ Dl ∉ g2.p ∧ RpAll K g2.F ws acc2 ∧ lcGo t U T gd (wipeE ρ vs) (fun ds μ2 => QD (.lst ds) μ2) (items.drop (i + 1)) acc2 μ2)
      else (∃ g2 μ2 acc ws, Ext g1 H1 g2 H3 ∧ StOk K g2 μ2 H3 ∧ H3 Dl = some (.lst ws) ∧ g2.F Dl = none ∧ Dl ∉ g2.p ∧ RpAll K g2.F ws acc ∧ lcGo t U T gd (wipeE ρ vs) (fun ds μ2 => QD (.lst ds) μ2) (items.drop (i + 1)) acc μ2))
      ok3 (((en.wipe vs).mono x12.le).mono x3.le) (sv := .d items[i]) rv e2 fun σ3 en3 => ⟨g2, ρ2, μ', _, ok3, en3, t4, fun g4 b μ4 H4 x4 ok4 t5 => ?_⟩)
    · rw [wipe_idem σ vs vs (fun _ h => h)] at z
      exact z
    cases b with
    | false =>
      rw [if_neg Bool.false_ne_true]
      obtain ⟨s1, s2, s3⟩ := stay (x3.trans x4)
      exact ⟨g4, μ4, acc, ws, x2.trans (x3.trans x4), ok4, s1, s2, s3, hr.mono (x3.trans x4).le.f, t5⟩
    | true =>
      rw [if_pos rfl]
      refine ⟨g4, ρ2, μ4, _, ok4, en3.mono x4.le, t5, fun g5 y sy μ5 H5 x5 ok5 r5 t6 => ?_⟩
      cases sy with
      | d d =>
        obtain ⟨hz, t7⟩ := t6
        have x35 := x3.trans (x4.trans x5)
        obtain ⟨s1, s2, s3⟩ := stay x35
        have hr5 : RpAll K g5.F ws acc := hr.mono x35.le.f
        refine ⟨ws, s1, by rw [hr.length]; exact hz, g5, μ5, acc ++ [d], ws ++ [y], ?_, ?_, upd_same, s2, s3, hr5.append (.one r5), t7⟩
        · have x := x2.trans x35
          refine ⟨x.le, fun b o h1 hn h2 => ?_, x.nw, x.nf⟩
          by_cases e : b = Dl
          · subst e; rw [hD] at h2; cases h2
          · rw [upd_ne e]; exact x.fr b o h1 hn h2
        · refine ⟨fun b o h => ?_, ok5.len, ok5.nd, ok5.fr, fun l b o h1 h2 => (ok5.ob l b o h1 h2).up (Same.refl _) fun o' h' => ?_, ok5.tb.1, fun y hy => ⟨(ok5.tb.2 y hy).1, (ok5.tb.2 y hy).2.1, (ok5.tb.2 y hy).2.2.up (Same.refl _) fun o' h' => by
            rw [upd_ne ((ok5.tb.2 y hy).2.2.ne s1 (fun _ e => by cases e))]; exact h'⟩⟩
          · have e : b ≠ Dl := fun e => by subst e; rw [s2] at h; cases h
            rw [upd_ne e]; exact ok5.ex b o h
          · have e : b ≠ Dl := fun e => s3 (by rw [← e]; exact List.mem_of_getElem? h1)
            rw [upd_ne e]; exact h'
      | _ => exact t6.elim
  · have ei : i = items.length := by omega
    subst ei
    rw [List.drop_length] at t2
    exact .inl ⟨it.stop g' μ' H' x2 ok2 t2.1, q g' Dl (.lst acc) μ' H' x12 ok2 hD0 hF hp ⟨ws, hDl, hr⟩ t2.2⟩
structure DTs (X : Cx) (ifs : List Expr) (U : DTB) : Prop where pt : PTs X ifs (LB X.K U)
def yesB : DTB := fun _ μ Q => Q true μ
theorem dts_nil : DTs X [] yesB := ⟨⟨fun pins s σ H Q I ⟨g, ρ, μ, QD, ok, en, t, q⟩ => (pts_nil (X := X)).run pins s σ H Q I (q g true μ H (.refl g H) ok t)⟩⟩
theorem dts_one (h : DB X c U) : DTs X [c] U := ⟨pts_one h.pt⟩
section
variable {elt tg iter : Expr} {ifs : List Expr} {scope : Scope} {own : List (Str × Nat)} {t : Tg} {I : DTI}
theorem dn_lc (hc : X.calm = true) (hN : X.N.Nodup) (hi : DI X tg iter I) (ok : BlkOk X.N X.env.scope scope own)
    (hg : ∀ (s : Shared) (H : Hp) (C : Addr) (cl : List (Str × Addr)) (fp : List Addr), DG (X.blk s H scope (compEnvC scope cl C X.env) fp) tg t) (ht : ∀ (s : Shared) (H : Hp) (C : Addr) (cl : List (Str × Addr)) (fp : List Addr), DTs (X.blk s H scope (compEnvC scope cl C X.env) fp) ifs U)
    (he : ∀ (s : Shared) (H : Hp) (C : Addr) (cl : List (Str × Addr)) (fp : List Addr), DE (X.blk s H scope (compEnvC scope cl C X.env) fp) elt T) (hsl : ∀ i ∈ t.slots, i ∈ own.map (·.2)) (hs : ∀ x, foldedSetIterable iter X.env x = pure x := by intro _; rfl) :
    DN X (.ListComp elt [⟨tg, iter, ifs, 0⟩] scope pos) (lcN t I U T (own.map (·.2))) :=
  ⟨(pe_lc hc hN hi.pi ok (fun s H C cl fp => (hg s H C cl fp).pg) (fun s H C cl fp => (ht s H C cl fp).pt) (fun s H C cl fp => (he s H C cl fp).pe) hs).weak fun σ H Q h => lc_ln hsl h⟩
/-- y = [..] on one line, y a local -/
theorem ds_setLc {i : Nat} {y : Str} {py spos : Pos} (conv : DTN → DT) (hconv : ∀ (N : DTN) σ H Q, LE X.K (conv N) σ H Q → LN X.K N σ H Q) (hc : X.calm = true) (hN : X.N.Nodup) (hy : X.N[i]? = some y) (hyl : X.env.scope.names.lookup y = some .local)
    (hsw : swapsWith (.ListComp elt [⟨tg, iter, ifs, 0⟩] scope pos) (some (.Name y py)) spos.line X.env = pure true) (hi : DI X tg iter I) (ok : BlkOk X.N X.env.scope scope own)
    (hg : ∀ (s : Shared) (H : Hp) (C : Addr) (cl : List (Str × Addr)) (fp : List Addr), DG (X.blk s H scope (compEnvC scope cl C X.env) fp) tg t) (ht : ∀ (s : Shared) (H : Hp) (C : Addr) (cl : List (Str × Addr)) (fp : List Addr), DTs (X.blk s H scope (compEnvC scope cl C X.env) fp) ifs U)
    (he : ∀ (s : Shared) (H : Hp) (C : Addr) (cl : List (Str × Addr)) (fp : List Addr), DE (X.blk s H scope (compEnvC scope cl C X.env) fp) elt T) (hsl : ∀ i ∈ t.slots, i ∈ own.map (·.2)) (hs : ∀ x, foldedSetIterable iter X.env x = pure x := by intro _; rfl) :
    DS X (.Assign [.Name y py] (.ListComp elt [⟨tg, iter, ifs, 0⟩] scope pos) spos) (setS i (conv (lcN t I U T (own.map (·.2))))) :=
  ⟨(ps_setLc hc hN hy hyl hsw hi.pi ok (fun s H C cl fp => (hg s H C cl fp).pg) (fun s H C cl fp => (ht s H C cl fp).pt) (fun s H C cl fp => (he s H C cl fp).pe) hs).weak fun D σ H ⟨g, ρ, μ, DD, ok, en, tt, w⟩ =>
    lc_ln (Q := fun x H1 => gName i x σ H1 D.nx) hsl (hconv _ σ H _ ⟨g, ρ, μ, _, ok, en, tt, fun g1 v sv μ1 H1 x1 ok1 r1 t1 => w.nx g1 _ μ1 _ H1 x1 ok1 ((en.mono x1.le).set i r1) t1⟩)⟩
theorem conv_fr {K : PySem.W.Frag} (N : DTN) (σ : L2.St) (H : Hp) (Q : VK) : LE K (frT N) σ H Q → LN K N σ H Q := fun ⟨g, ρ, μ, QD, ok, en, t, q⟩ => ⟨g, ρ, μ, _, ok, en, t, fun g1 a so μ1 H1 x1 ok1 h0 hF ha hs t1 => by
  obtain ⟨o, ho, hr⟩ := hs.there
  obtain ⟨k5, k6⟩ := ok1.frozen x1 h0 hF ha ho (hs.nt ho)
  exact q _ (.ref a) (.d so.data) μ1 H1 k6 k5 (hr _ (same_new hF) upd_same) t1⟩
theorem conv_ow {K : PySem.W.Frag} (N : DTN) (σ : L2.St) (H : Hp) (Q : VK) : LE K (owT N) σ H Q → LN K N σ H Q := fun ⟨g, ρ, μ, QD, ok, en, t, q⟩ => ⟨g, ρ, μ, _, ok, en, t, fun g1 a so μ1 H1 x1 ok1 h0 hF ha hs t1 => by
  obtain ⟨k5, k6, k7⟩ := ok1.owned x1 h0 hF ha hs
  exact q _ (.ref a) (.r μ1.length) _ H1 k6 k5 k7 t1⟩
end
end

def startE (N : List Str) (svs : List SV) : En := svs.map some ++ List.replicate (N.length - svs.length) none
theorem start_ok {K : PySem.W.Frag} {g : G} {N : List Str} {vs : List V} {svs : List SV} (r : RSs K g vs svs) : EnOk K g (startE N svs) (L2.start N vs) := by
  have hl := r.length
  refine ⟨by unfold startE L2.start; simp [hl], fun i sv h => ?_⟩
  unfold startE at h
  by_cases hi : i < svs.length
  · rw [List.getElem?_append_left (by simpa using hi), List.getElem?_map] at h
    cases e : svs[i]? with
    | none => rw [e] at h; cases h
    | some s =>
      rw [e] at h
      cases h
      obtain ⟨v, h1, h2⟩ := r.get e
      refine ⟨v, ?_, h2⟩
      unfold L2.start
      rw [List.getElem?_append_left (by simp; omega), List.getElem?_map, h1]
      rfl
  · rw [List.getElem?_append_right (by simpa using hi), List.getElem?_replicate] at h
    split at h <;> cases h
abbrev Fin := (SV → Mu → Prop) → Nat → SV → Mu → Prop
/-- what a def's end makes of its answer: the places made within are forgotten -/
def FinOk (fin : Fin) : Prop := ∀ (K : PySem.W.Frag) (g : G) (H : Hp) (g' : G) (H' : Hp) (v : V) (sv : SV) (μ μ' : Mu) (Q : SV → Mu → Prop), StOk K g μ H → Ext g H g' H' → StOk K g' μ' H' → RS K g' v sv → fin Q μ.length sv μ' →
  ∃ g'' sv'' μ'', Ext g H g'' H' ∧ StOk K g'' μ'' H' ∧ RS K g'' v sv'' ∧ Q sv'' μ''
/-- as data -/
def frz0 (n : Nat) (μ' : Mu) : List S0 → Option (List PyData)
  | [] => some []
  | .d x :: r => (frz0 n μ' r).map (x :: ·)
  | .r l :: r => if n ≤ l then (μ'[l]?).bind fun so => (frz0 n μ' r).map (so.data :: ·) else none
def finD : Fin := fun Q n sv μ' => match sv with
  | .d x => Q (.d x) (μ'.take n)
  | .scr ns => Q (.scr ns) (μ'.take n)
  | .x (.tx ss) => Q (.x (.tx ss)) (μ'.take n)
  | .x (.tp xs) => oP (frz0 n μ' xs) fun ds => Q (.d (.tuple ds)) (μ'.take n)
  | .r l => if l < n then Q (.r l) (μ'.take n) else match μ'[l]? with
    | some so => Q (.d so.data) (μ'.take n)
    | none => False
/-- as a new object -/
def finN : Fin := fun Q n sv μ' => match sv with
  | .r l => n ≤ l ∧ match μ'[l]? with
    | some so => Q (.r n) (μ'.take n ++ [so])
    | none => False
  | .d x => Q (.d x) (μ'.take n)
  | _ => False
section
variable {K : PySem.W.Frag} {g g' : G} {H H' : Hp} {μ μ' : Mu}
theorem cut_back (ok : StOk K g μ H) (x : Ext g H g' H') (ok' : StOk K g' μ' H') : g'.p.take μ.length = g.p ∧ StOk K ⟨g'.F, g.p⟩ (μ'.take μ.length) H' ∧ Ext g H ⟨g'.F, g.p⟩ H' := by
  obtain ⟨m, em⟩ := x.le.p
  have hl := ok.len
  have e : g'.p.take μ.length = g.p := by rw [em, ← hl, List.take_left]
  have c := ok'.cut μ.length
  rw [e] at c
  exact ⟨e, c, ⟨⟨x.le.f, [], by simp⟩, x.fr, fun a ha => .inl ha, x.nf⟩⟩
theorem cut_new {l : Nat} {a : Addr} {so : SO} (ok : StOk K g μ H) (x : Ext g H g' H') (ok' : StOk K g' μ' H') (hl : μ.length ≤ l) (ha : g'.p[l]? = some a) (hs : μ'[l]? = some so) : Fr H a ∧ g'.F a = none ∧ a ∉ g.p ∧ SOk K g'.F H' a so := by
  obtain ⟨e, _, _⟩ := cut_back ok x ok'
  have hmem : a ∈ g'.p := List.mem_of_getElem? ha
  have hag : a ∉ g.p := by
    rw [← e]
    intro hm
    obtain ⟨j, hj, ej⟩ := List.getElem_of_mem hm
    rw [List.length_take] at hj
    rw [List.getElem_take] at ej
    obtain ⟨hl2, el⟩ := List.getElem?_eq_some_iff.mp ha
    have := (List.getElem_inj ok'.nd).mp (ej.trans el.symm)
    omega
  exact ⟨(x.nw a hmem).resolve_left hag, ok'.fr a hmem, hag, ok'.ob l a so ha hs⟩
theorem frz_all (ok : StOk K g μ H) (x : Ext g H g' H') (ok' : StOk K g' μ' H') : ∀ {xs : List S0} {vs : List V}, Paired (S0.rel K g') vs xs → ∀ (ds : List PyData), frz0 μ.length μ' xs = some ds → ∀ F1, Same g'.F F1 → StOk K ⟨F1, g.p⟩ (μ'.take μ.length) H' → Ext g H ⟨F1, g.p⟩ H' →
    ∃ F2, Same F1 F2 ∧ StOk K ⟨F2, g.p⟩ (μ'.take μ.length) H' ∧ Ext g H ⟨F2, g.p⟩ H' ∧ RpAll K F2 vs ds
  | _, _, .nil, ds, e, F1, s1, k1, k2 => by cases e; exact ⟨F1, .refl _, k1, k2, .nil⟩
  | .d d :: xs, _, .cons h t, ds, e, F1, s1, k1, k2 => by
    have e' : (frz0 μ.length μ' xs).map (d :: ·) = some ds := e
    cases q : frz0 μ.length μ' xs with
    | none => rw [q] at e'; cases e'
    | some es =>
      rw [q] at e'
      cases e'
      obtain ⟨F2, a1, a2, a3, a4⟩ := frz_all ok x ok' t es q F1 s1 k1 k2
      exact ⟨F2, a1, a2, a3, .cons ((show Rp K g'.F _ d from h).mono (s1.trans a1)) a4⟩
  | .r l :: xs, _, .cons h t, ds, e, F1, s1, k1, k2 => by
    have e' : (if μ.length ≤ l then (μ'[l]?).bind fun so => (frz0 μ.length μ' xs).map (so.data :: ·) else none) = some ds := e
    split at e'
    · rename_i hl
      obtain ⟨a, ha, rfl⟩ := h
      cases hs : μ'[l]? with
      | none => rw [hs] at e'; cases e'
      | some so =>
        rw [hs] at e'
        have e' : (frz0 μ.length μ' xs).map (so.data :: ·) = some ds := e'
        cases q : frz0 μ.length μ' xs with
        | none => rw [q] at e'; cases e'
        | some es =>
          rw [q] at e'
          cases e'
          obtain ⟨n1, n2, n3, n4⟩ := cut_new ok x ok' hl ha hs
          obtain ⟨o, ho, hr⟩ := SOk.there (g := g') n4
          cases hF : F1 a with
          | some o' =>
            have ho' : H' a = some o' := k1.ex a o' hF
            rw [ho] at ho'
            cases ho'
            obtain ⟨F2, a1, a2, a3, a4⟩ := frz_all ok x ok' t es q F1 s1 k1 k2
            exact ⟨F2, a1, a2, a3, .cons (hr F2 (s1.trans a1) (a1 _ _ hF)) a4⟩
          | none =>
            obtain ⟨k5, k6⟩ := StOk.frozen (g1 := ⟨F1, g.p⟩) k1 k2 n1 hF n3 ho (n4.nt ho)
            obtain ⟨F2, a1, a2, a3, a4⟩ := frz_all ok x ok' t es q (upd F1 a o) (s1.trans (same_new hF)) k5 k6
            exact ⟨F2, (same_new hF).trans a1, a2, a3, .cons (hr F2 ((s1.trans (same_new hF)).trans a1) (a1 _ _ upd_same)) a4⟩
    · cases e'
theorem finD_ok : FinOk finD := by
  intro K g H g' H' v sv μ μ' Q ok x ok' r f
  obtain ⟨e, c1, c2⟩ := cut_back ok x ok'
  cases sv with
  | d y => exact ⟨_, .d y, _, c2, c1, r, f⟩
  | scr ns => exact ⟨_, .scr ns, _, c2, c1, r, f⟩
  | x k =>
    cases k with
    | tx ss => exact ⟨_, .x (.tx ss), _, c2, c1, r, f⟩
    | tp xs =>
      obtain ⟨a, vs, rfl, h1, h2⟩ := r
      have f' : oP (frz0 μ.length μ' xs) fun ds => Q (.d (.tuple ds)) (μ'.take μ.length) := f
      obtain ⟨ds, q, f'⟩ := f'.of
      obtain ⟨F2, a1, a2, a3, a4⟩ := frz_all ok x ok' h2 ds q g'.F (.refl _) c1 c2
      exact ⟨_, .d (.tuple ds), _, a3, a2, Rp.tup (same_sqT a1 h1) a4, f'⟩
  | r l =>
    obtain ⟨a, ha, rfl⟩ := r
    have f' : if l < μ.length then Q (.r l) (μ'.take μ.length) else match μ'[l]? with
      | some so => Q (.d so.data) (μ'.take μ.length)
      | none => False := f
    by_cases hl : l < μ.length
    · rw [if_pos hl] at f'
      refine ⟨_, .r l, _, c2, c1, ⟨a, ?_, rfl⟩, f'⟩
      show g.p[l]? = some a
      rw [← e, List.getElem?_take, if_pos hl]; exact ha
    · rw [if_neg hl] at f'
      cases hs : μ'[l]? with
      | none => rw [hs] at f'; exact f'.elim
      | some so =>
        rw [hs] at f'
        obtain ⟨n1, n2, n3, n4⟩ := cut_new ok x ok' (by omega) ha hs
        obtain ⟨o, ho, hr⟩ := SOk.there (g := g') n4
        obtain ⟨k5, k6⟩ := StOk.frozen (g1 := ⟨g'.F, g.p⟩) c1 c2 n1 n2 n3 ho (n4.nt ho)
        exact ⟨_, .d so.data, _, k6, k5, hr _ (same_new n2) upd_same, f'⟩
theorem finN_ok : FinOk finN := by
  intro K g H g' H' v sv μ μ' Q ok x ok' r f
  obtain ⟨e, c1, c2⟩ := cut_back ok x ok'
  cases sv with
  | d y => exact ⟨_, .d y, _, c2, c1, r, f⟩
  | scr ns => exact f.elim
  | x k => exact f.elim
  | r l =>
    obtain ⟨a, ha, rfl⟩ := r
    obtain ⟨hl, f'⟩ := f
    cases hs : μ'[l]? with
    | none => rw [hs] at f'; exact f'.elim
    | some so =>
      rw [hs] at f'
      obtain ⟨n1, n2, n3, n4⟩ := cut_new ok x ok' hl ha hs
      obtain ⟨k5, k6, k7⟩ := StOk.owned (g1 := ⟨g'.F, g.p⟩) c1 c2 n1 n2 n3 n4
      have hll : (μ'.take μ.length).length = μ.length := by
        obtain ⟨m, em⟩ := x.le.p
        have h1 := ok.len
        have h2 := ok'.len
        rw [em, List.length_append] at h2
        rw [List.length_take]; omega
      rw [hll] at k7
      exact ⟨_, .r μ.length, _, k6, k5, k7, f'⟩
end
section
variable {P : Program} {w : World} {K : PySem.W.Frag} {mg : Str → Option Value} {base : Heap}
theorem fn_D {x qual : Str} {st : Stmt} {f : Addr} {fd : FuncData} {N ps : List Str} {k : Nat} (fin : Fin) (hfin : FinOk fin) (F : Fun K x qual st f fd) (Sc : FnScope N ps (defScope st)) (S : CT) (T : DTS) (hlen : ∀ svs μ Q, S svs μ Q → svs.length = ps.length)
    (hb : ∀ (cdv : Value) (A : Around) (outer : List Env) (s : Shared) (H : Hp) (E : XK), Room k (A.deeper (envOfC qual (defScope st) s.heap.objs.size f cdv)) → DSs (cxOf CX0 P w K mg base N qual (defScope st) f cdv A outer s H E).nox (defBody st) T)
    (hT : ∀ svs μ Q, S svs μ Q → T ⟨fun _ μ' => fin Q μ.length (.d .none) μ', fun sv μ' => fin Q μ.length sv μ', fun _ _ => False, fun _ _ => False⟩ (startE N svs) μ) : FnOk P w K mg base CX0 (k + 1) f fd ps (LS K S) := by
  refine F.ok Sc (fun vs H Q E h => ?_) (fun cdv A outer s H vs Q E hr h => ⟨_, (hb cdv A outer s H E hr).ps, ?_⟩)
  · obtain ⟨g, svs, μ, QD, ok, r, hs, q⟩ := h
    rw [r.length]; exact hlen svs μ QD hs
  · obtain ⟨g, svs, μ, QD, ok, r, hs, q⟩ := h
    have out : ∀ g' v sv μ' H', Ext g H g' H' → StOk K g' μ' H' → RS K g' v sv → fin QD μ.length sv μ' → Q v H' := fun g' v sv μ' H' x1 ok1 r1 t1 => by
      obtain ⟨g2, sv2, μ2, x2, ok2, r2, t2⟩ := hfin K g H g' H' v sv μ μ' QD ok x1 ok1 r1 t1
      exact q g2 v sv2 μ2 H' x2 ok2 r2 t2
    exact ⟨g, startE N svs, μ, _, ok, start_ok r, hT svs μ QD hs, ⟨fun g' ρ' μ' σ' H' x1 ok1 _ t1 => out g' .non (.d .none) μ' H' x1 ok1 Rp.non t1, fun g' v sv μ' H' x1 ok1 r1 t1 => out g' v sv μ' H' x1 ok1 r1 t1, fun _ _ _ _ _ _ _ _ z => z.elim, fun _ _ _ _ _ _ _ _ z => z.elim⟩⟩
/-- a def of the text with its contract -/
theorem fd_D {x qual : Str} {st : Stmt} {f : Addr} {fd : FuncData} {N ps : List Str} {k : Nat} (fin : Fin) (hfin : FinOk fin) (F : Fun K x qual st f fd) (hm : mg x = some (.ref f)) (hbd : L2.Binds K fd ps []) (Sc : FnScope N ps (defScope st)) (S : CT) (T : DTS)
    (hb : ∀ (cdv : Value) (A : Around) (outer : List Env) (s : Shared) (H : Hp) (E : XK), Room k (A.deeper (envOfC qual (defScope st) s.heap.objs.size f cdv)) → DSs (cxOf CX0 P w K mg base N qual (defScope st) f cdv A outer s H E).nox (defBody st) T)
    (hlen : ∀ svs μ Q, S svs μ Q → svs.length = ps.length)
    (hT : ∀ svs μ Q, S svs μ Q → T ⟨fun _ μ' => fin Q μ.length (.d .none) μ', fun sv μ' => fin Q μ.length sv μ', fun _ _ => False, fun _ _ => False⟩ (startE N svs) μ) : FD P w K mg base (k + 1) x S :=
  ⟨f, fd, ps, fn_D fin hfin F Sc S T hlen hb hT, hm, F.kp, hbd⟩
end
end J
namespace J
open PySem PySem.Spec PyProof.Rows L2
variable [Tb]

def szOk (n : Nat) : Bool := decide (n ≤ 16777216)
theorem szOk_le {n : Nat} (h : szOk n = true) : n ≤ sizeLine := by rw [sizeLine_eq]; exact of_decide_eq_true h
@[simp] def addD : PyData → PyData → Option PyData
  | .int i, .int j => some (.int (i + j))
  | .str a, .str b => if szOk (a.length + b.length) = true then some (.str (a ++ b)) else none
  | .tuple a, .tuple b => if szOk (a.length + b.length) = true then some (.tuple (a ++ b)) else none
  | .list a, .list b => if szOk (a.length + b.length) = true then some (.list (a ++ b)) else none
  | _, _ => none
@[simp] def subD : PyData → PyData → Option PyData
  | .int i, .int j => some (.int (i - j))
  | _, _ => none
def mulOk (i j : Int) : Bool := (decide (-(2 ^ 64) < i) && decide (i < 2 ^ 64)) || (decide (-(2 ^ 64) < j) && decide (j < 2 ^ 64))
@[simp] def mulD : PyData → PyData → Option PyData
  | .int i, .int j => if mulOk i j = true then some (.int (i * j)) else none
  | .list a, .int k => if (decide (-(2 ^ 63) ≤ k) && decide (k < 2 ^ 63) && szOk (a.length * k.toNat)) = true then some (.list (List.replicate k.toNat a).flatten) else none
  | .tuple a, .int k => if (!a.isEmpty && decide (2 ≤ k) && decide (k ≤ 1000) && decide (a.length ≤ 1000)) = true then some (.tuple (List.replicate k.toNat a).flatten) else none
  | _, _ => none
@[simp] def modD : PyData → PyData → Option PyData
  | .int i, .int j => if decide (0 < j) = true then some (.int (i % j)) else none
  | _, _ => none
@[simp] def fdivD : PyData → PyData → Option PyData
  | .int i, .int j => if (decide (0 < j) && decide (j < 1073741824)) = true then some (.int (i / j)) else none
  | _, _ => none
def powD : PyData → PyData → Option PyData
  | .int i, .int j => if (decide (0 ≤ j) && decide (j ≤ 1000000) && decide (i.natAbs < 2 ^ 64)) = true then some (.int (i ^ j.toNat)) else none
  | _, _ => none
section
variable {X : Cx}
theorem rp_int {K : PySem.W.Frag} {H : Hp} {v : V} {i : Int} (h : Rp K H v (.int i)) : v = .int i := by cases h; rfl
theorem rp_str {K : PySem.W.Frag} {H : Hp} {v : V} {i : Str} (h : Rp K H v (.str i)) : v = .str i := by cases h; rfl
theorem rp_bl {K : PySem.W.Frag} {H : Hp} {v : V} {i : Bool} (h : Rp K H v (.bool i)) : v = .bl i := by cases h; rfl
theorem rp_non {K : PySem.W.Frag} {H : Hp} {v : V} (h : Rp K H v .none) : v = .non := by cases h; rfl
/-- two ints -/
theorem lo_int {f : Value → Value → Sem Value} {C : Int → Int → Prop} {k : Int → Int → Int} (hf : OpR X f (rI C fun i j => .int (k i j))) {K : PySem.W.Frag} {pins : List (Addr × Obj)} {s : Shared} {σ : L2.St} {H : Hp} {x y : V} {v u : Value} {Q : VK} (I : Inv X pins σ H s) (rx : RelV x v) (ry : RelV y u)
    {i j : Int} (ex : x = .int i) (ey : y = .int j) (c : C i j) (q : Q (.int (k i j)) H) : wpAny (model X.prog X.w) X.A (f v u) (EP X pins σ Q) X.xe s := hf pins s σ H x y v u Q I rx ry ⟨i, j, ex, ey, c, q⟩
theorem rI0_rI {f : Value → Value → Sem Value} {k : Int → Int → V} (h : OpR X f (rI0 k)) : OpR X f (rI (fun _ _ => True) k) := fun pins s σ H x y v u Q I rx ry ⟨i, j, e1, e2, _, q⟩ => h pins s σ H x y v u Q I rx ry ⟨i, j, e1, e2, q⟩
theorem do_add : OpR X (binaryOp .Add) (LO X.K addD) := by
  intro pins s σ H x y v u Q I rx ry ⟨g, μ, sx, sy, QD, ok, r1, r2, t, q⟩
  obtain ⟨dx, e1, t⟩ := t.of
  obtain ⟨dy, e2, t⟩ := t.of
  obtain ⟨z, e3, t⟩ := t.of
  unfold addD at e3
  split at e3
  · cases e3
    exact op_add pins s σ H x y v u Q I rx ry ⟨_, _, rp_int (r1.rep ok e1), rp_int (r2.rep ok e2), q g _ _ H (.refl g H) ok (.int _) t⟩
  · split at e3
    · rename_i hz
      cases e3
      exact op_add_str pins s σ H x y v u Q I rx ry ⟨_, _, rp_str (r1.rep ok e1), rp_str (r2.rep ok e2), szOk_le hz, q g _ _ H (.refl g H) ok (.str _) t⟩
    · cases e3
  · split at e3
    · rename_i hz
      cases e3
      obtain ⟨a, xs, rfl, h1, h1', h2⟩ := r1.tup ok e1
      obtain ⟨b, ys, rfl, h3, h3', h4⟩ := r2.tup ok e2
      have hc := h2.append h4
      refine op_catA pins s σ H _ _ v u Q I rx ry ⟨a, b, xs, ys, rfl, rfl, h1, h3, by rw [h2.length, h4.length]; exact szOk_le hz, fun e => ?_, fun e e' => ?_, fun e e' p hp => ?_⟩
      · subst e
        exact q g _ _ H (.refl g H) ok (.tup h3' hc) t
      · subst e'
        exact q g _ _ H (.refl g H) ok (.tup (by rw [List.append_nil]; exact h1') hc) t
      · obtain ⟨k1, k2, k3, k4⟩ := ok.grow (.tup (xs ++ ys)) hp
        obtain ⟨k5, k6⟩ := k1.frozen k2 hp k3 k4 upd_same
        exact q _ _ _ _ k6 k5 (.tup (.inl (.inl upd_same)) (hc.mono k6.le.f)) t
    · cases e3
  · split at e3
    · rename_i hz
      cases e3
      obtain ⟨a, xs, rfl, h1, h2⟩ := r1.list ok e1
      obtain ⟨b, ys, rfl, h3, h4⟩ := r2.list ok e2
      refine op_cat pins s σ H _ _ v u Q I rx ry ⟨a, b, xs, ys, rfl, rfl, h1, h3, by rw [h2.length, h4.length]; exact szOk_le hz, fun p hp => ?_⟩
      obtain ⟨k1, k2, k3, k4⟩ := ok.grow (.lst (xs ++ ys)) hp
      obtain ⟨k5, k6⟩ := k1.frozen k2 hp k3 k4 upd_same
      exact q _ _ _ _ k6 k5 (.lst upd_same ((h2.append h4).mono k6.le.f)) t
    · cases e3
  · cases e3
theorem do_sub : OpR X (binaryOp .Sub) (LO X.K subD) := by
  intro pins s σ H x y v u Q I rx ry ⟨g, μ, sx, sy, QD, ok, r1, r2, t, q⟩
  obtain ⟨dx, e1, t⟩ := t.of
  obtain ⟨dy, e2, t⟩ := t.of
  obtain ⟨z, e3, t⟩ := t.of
  unfold subD at e3
  split at e3
  · cases e3
    exact op_sub pins s σ H x y v u Q I rx ry ⟨_, _, rp_int (r1.rep ok e1), rp_int (r2.rep ok e2), q g _ _ H (.refl g H) ok (.int _) t⟩
  · cases e3
theorem do_mod : OpR X (binaryOp .Mod) (LO X.K modD) := by
  intro pins s σ H x y v u Q I rx ry ⟨g, μ, sx, sy, QD, ok, r1, r2, t, q⟩
  obtain ⟨dx, e1, t⟩ := t.of
  obtain ⟨dy, e2, t⟩ := t.of
  obtain ⟨z, e3, t⟩ := t.of
  unfold modD at e3
  split at e3
  · split at e3
    · rename_i c
      cases e3
      exact op_mod pins s σ H x y v u Q I rx ry ⟨_, _, rp_int (r1.rep ok e1), rp_int (r2.rep ok e2), of_decide_eq_true c, q g _ _ H (.refl g H) ok (.int _) t⟩
    · cases e3
  · cases e3
theorem do_fdiv : OpR X (binaryOp .FloorDiv) (LO X.K fdivD) := by
  intro pins s σ H x y v u Q I rx ry ⟨g, μ, sx, sy, QD, ok, r1, r2, t, q⟩
  obtain ⟨dx, e1, t⟩ := t.of
  obtain ⟨dy, e2, t⟩ := t.of
  obtain ⟨z, e3, t⟩ := t.of
  unfold fdivD at e3
  split at e3
  · split at e3
    · rename_i c
      cases e3
      rw [Bool.and_eq_true] at c
      exact op_fdiv pins s σ H x y v u Q I rx ry ⟨_, _, rp_int (r1.rep ok e1), rp_int (r2.rep ok e2), ⟨of_decide_eq_true c.1, of_decide_eq_true c.2⟩, q g _ _ H (.refl g H) ok (.int _) t⟩
    · cases e3
  · cases e3
theorem do_pow : OpR X (binaryOp .Pow) (LO X.K powD) := by
  intro pins s σ H x y v u Q I rx ry ⟨g, μ, sx, sy, QD, ok, r1, r2, t, q⟩
  obtain ⟨dx, e1, t⟩ := t.of
  obtain ⟨dy, e2, t⟩ := t.of
  obtain ⟨z, e3, t⟩ := t.of
  unfold powD at e3
  split at e3
  · split at e3
    · rename_i c
      cases e3
      rw [Bool.and_eq_true, Bool.and_eq_true] at c
      exact op_pow pins s σ H x y v u Q I rx ry ⟨_, _, rp_int (r1.rep ok e1), rp_int (r2.rep ok e2), ⟨of_decide_eq_true c.1.1, of_decide_eq_true c.1.2, of_decide_eq_true c.2⟩, q g _ _ H (.refl g H) ok (.int _) t⟩
    · cases e3
  · cases e3
theorem do_mul : OpR X (binaryOp .Mult) (LO X.K mulD) := by
  intro pins s σ H x y v u Q I rx ry ⟨g, μ, sx, sy, QD, ok, r1, r2, t, q⟩
  obtain ⟨dx, e1, t⟩ := t.of
  obtain ⟨dy, e2, t⟩ := t.of
  obtain ⟨z, e3, t⟩ := t.of
  unfold mulD at e3
  split at e3
  · split at e3
    · rename_i c
      cases e3
      unfold mulOk at c
      rw [Bool.or_eq_true, Bool.and_eq_true, Bool.and_eq_true, decide_eq_true_eq, decide_eq_true_eq, decide_eq_true_eq, decide_eq_true_eq] at c
      exact op_mul pins s σ H x y v u Q I rx ry ⟨_, _, rp_int (r1.rep ok e1), rp_int (r2.rep ok e2), c, q g _ _ H (.refl g H) ok (.int _) t⟩
    · cases e3
  · split at e3
    · rename_i c
      cases e3
      rw [Bool.and_eq_true, Bool.and_eq_true, decide_eq_true_eq, decide_eq_true_eq] at c
      obtain ⟨a, xs, rfl, h1, h2⟩ := r1.list ok e1
      refine op_rep pins s σ H _ _ v u Q I rx ry ⟨a, _, xs, rfl, rp_int (r2.rep ok e2), h1, c.1.1, c.1.2, by rw [h2.length]; exact szOk_le c.2, fun p hp => ?_⟩
      obtain ⟨k1, k2, k3, k4⟩ := ok.grow (.lst _) hp
      obtain ⟨k5, k6⟩ := k1.frozen k2 hp k3 k4 upd_same
      exact q _ _ _ _ k6 k5 (.lst upd_same ((h2.rep _).mono k6.le.f)) t
    · cases e3
  · split at e3
    · rename_i c
      cases e3
      rw [Bool.and_eq_true, Bool.and_eq_true, Bool.and_eq_true, decide_eq_true_eq, decide_eq_true_eq, decide_eq_true_eq] at c
      obtain ⟨a, xs, rfl, h1, h1', h2⟩ := r1.tup ok e1
      refine op_repT pins s σ H _ _ v u Q I rx ry ⟨a, _, xs, rfl, rp_int (r2.rep ok e2), h1, fun e => ?_, c.1.1.2, c.1.2, by rw [h2.length]; exact c.2, fun p hp => ?_⟩
      · subst e
        cases h2
        exact Bool.noConfusion c.1.1.1
      · obtain ⟨k1, k2, k3, k4⟩ := ok.grow (.tup _) hp
        obtain ⟨k5, k6⟩ := k1.frozen k2 hp k3 k4 upd_same
        exact q _ _ _ _ k6 k5 (.tup (.inl (.inl upd_same)) ((h2.rep _).mono k6.le.f)) t
    · cases e3
  · cases e3

def flatD : PyData → Bool
  | .none => true
  | .bool _ => true
  | .int _ => true
  | .str _ => true
  | _ => false
@[simp] theorem flatD_non : flatD .none = true := rfl
@[simp] theorem flatD_bool (b : Bool) : flatD (.bool b) = true := rfl
@[simp] theorem flatD_int (b : Int) : flatD (.int b) = true := rfl
@[simp] theorem flatD_str (b : Str) : flatD (.str b) = true := rfl
@[simp] theorem flatD_list (b : List PyData) : flatD (.list b) = false := rfl
@[simp] theorem flatD_tuple (b : List PyData) : flatD (.tuple b) = false := rfl
def okD (d : PyData) : Bool := SeqAt.shaped d
def eqOk (d e : PyData) : Bool := (flatD d && flatD e) || (okD d && okD e)
def eqD (d e : PyData) : Option Bool := if eqOk d e = true then some (PyData.eqv d e) else none
def neD (d e : PyData) : Option Bool := if eqOk d e = true then some (!PyData.eqv d e) else none
def scalD : PyData → PyData → Bool
  | .str _, _ => true
  | _, .str _ => true
  | _, _ => false
theorem eq_scal {K : PySem.W.Frag} {H : Hp} {x y : V} {d e : PyData} (h1 : Rp K H x d) (h2 : Rp K H y e) (f1 : flatD d = true) (f2 : flatD e = true) : (scal x y = true ∧ decide (x = y) = PyData.eqv d e) ∨ (okD d = true ∧ okD e = true) := by
  cases d with
  | none =>
    cases h1
    cases e with
    | none => exact .inr ⟨by decide, by decide⟩
    | bool b => exact .inr ⟨by decide, by rfl⟩
    | int i => exact .inr ⟨by decide, by rfl⟩
    | str z => cases h2; exact .inl ⟨rfl, by simp [PyData.eqv]⟩
    | _ => cases f2
  | bool b =>
    cases h1
    cases e with
    | none => exact .inr ⟨by rfl, by decide⟩
    | bool b => exact .inr ⟨by rfl, by rfl⟩
    | int i => exact .inr ⟨by rfl, by rfl⟩
    | str z => cases h2; exact .inl ⟨rfl, by simp [PyData.eqv]⟩
    | _ => cases f2
  | int i =>
    cases h1
    cases e with
    | none => exact .inr ⟨by rfl, by decide⟩
    | bool b => exact .inr ⟨by rfl, by rfl⟩
    | int i => exact .inr ⟨by rfl, by rfl⟩
    | str z => cases h2; exact .inl ⟨rfl, by simp [PyData.eqv]⟩
    | _ => cases f2
  | str z =>
    cases h1
    cases e with
    | none => cases h2; exact .inl ⟨rfl, by simp [PyData.eqv]⟩
    | bool b => cases h2; exact .inl ⟨rfl, by simp [PyData.eqv]⟩
    | int i => cases h2; exact .inl ⟨rfl, by simp [PyData.eqv]⟩
    | str z => cases h2; exact .inl ⟨rfl, by rw [dec_str]; simp [PyData.eqv]⟩
    | _ => cases f2
  | _ => cases f1
theorem eq_way {K : PySem.W.Frag} {H : Hp} {x y : V} {d e : PyData} (h1 : Rp K H x d) (h2 : Rp K H y e) (c : eqOk d e = true) : (scal x y = true ∧ decide (x = y) = PyData.eqv d e) ∨ (okD d = true ∧ okD e = true) := by
  unfold eqOk at c
  rw [Bool.or_eq_true, Bool.and_eq_true, Bool.and_eq_true] at c
  rcases c with c | c
  · exact eq_scal h1 h2 c.1 c.2
  · exact .inr c
theorem rp_dp {K : PySem.W.Frag} {H : Hp} {x : V} {d : PyData} (h : Rp K H x d) (c : okD d = true) : Dp K H x d := h.dp (SeqAt.canLay_of_shaped c)
theorem do_eq (hu : X.A.units + 64 < cLine) : OpR X (compareOp .Eq) (LOB X.K eqD) := by
  intro pins s σ H x y v u Q I rx ry ⟨g, μ, sx, sy, QD, ok, r1, r2, t, q⟩
  obtain ⟨dx, e1, t⟩ := t.of
  obtain ⟨dy, e2, t⟩ := t.of
  obtain ⟨z, e3, t⟩ := t.of
  unfold eqD at e3
  split at e3
  · rename_i c
    cases e3
    rcases eq_way (r1.rep ok e1) (r2.rep ok e2) c with ⟨c1, c2⟩ | ⟨c1, c2⟩
    · exact op_eq pins s σ H x y v u Q I rx ry ⟨c1, by rw [c2]; exact q _ t⟩
    · exact op_eqD hu pins s σ H x y v u Q I rx ry ⟨dx, dy, rp_dp (r1.rep ok e1) c1, rp_dp (r2.rep ok e2) c2, c1, c2, q _ t⟩
  · cases e3
theorem do_ne (hu : X.A.units + 64 < cLine) : OpR X (compareOp .NotEq) (LOB X.K neD) := by
  intro pins s σ H x y v u Q I rx ry ⟨g, μ, sx, sy, QD, ok, r1, r2, t, q⟩
  obtain ⟨dx, e1, t⟩ := t.of
  obtain ⟨dy, e2, t⟩ := t.of
  obtain ⟨z, e3, t⟩ := t.of
  unfold neD at e3
  split at e3
  · rename_i c
    cases e3
    rcases eq_way (r1.rep ok e1) (r2.rep ok e2) c with ⟨c1, c2⟩ | ⟨c1, c2⟩
    · exact op_ne pins s σ H x y v u Q I rx ry ⟨c1, by rw [c2]; exact q _ t⟩
    · exact op_neD hu pins s σ H x y v u Q I rx ry ⟨dx, dy, rp_dp (r1.rep ok e1) c1, rp_dp (r2.rep ok e2) c2, c1, c2, q _ t⟩
  · cases e3
@[simp] def ltD : PyData → PyData → Option Bool
  | .int i, .int j => some (decide (i < j))
  | .str a, .str b => some (decide (a.cps.toList < b.cps.toList))
  | _, _ => none
@[simp] def leD : PyData → PyData → Option Bool
  | .int i, .int j => some (decide (i ≤ j))
  | .str a, .str b => some (!decide (b.cps.toList < a.cps.toList))
  | _, _ => none
@[simp] def gtD : PyData → PyData → Option Bool
  | .int i, .int j => some (decide (j < i))
  | _, _ => none
theorem do_lt : OpR X (compareOp .Lt) (LOB X.K ltD) := by
  intro pins s σ H x y v u Q I rx ry ⟨g, μ, sx, sy, QD, ok, r1, r2, t, q⟩
  obtain ⟨dx, e1, t⟩ := t.of
  obtain ⟨dy, e2, t⟩ := t.of
  obtain ⟨z, e3, t⟩ := t.of
  unfold ltD at e3
  split at e3
  · cases e3
    exact op_lt pins s σ H x y v u Q I rx ry ⟨_, _, rp_int (r1.rep ok e1), rp_int (r2.rep ok e2), q _ t⟩
  · cases e3
    exact op_lt_str pins s σ H x y v u Q I rx ry ⟨_, _, rp_str (r1.rep ok e1), rp_str (r2.rep ok e2), q _ t⟩
  · cases e3
theorem do_le : OpR X (compareOp .LtE) (LOB X.K leD) := by
  intro pins s σ H x y v u Q I rx ry ⟨g, μ, sx, sy, QD, ok, r1, r2, t, q⟩
  obtain ⟨dx, e1, t⟩ := t.of
  obtain ⟨dy, e2, t⟩ := t.of
  obtain ⟨z, e3, t⟩ := t.of
  unfold leD at e3
  split at e3
  · cases e3
    exact op_le pins s σ H x y v u Q I rx ry ⟨_, _, rp_int (r1.rep ok e1), rp_int (r2.rep ok e2), q _ t⟩
  · cases e3
    exact op_le_str pins s σ H x y v u Q I rx ry ⟨_, _, rp_str (r1.rep ok e1), rp_str (r2.rep ok e2), q _ t⟩
  · cases e3
theorem do_gt : OpR X (compareOp .Gt) (LOB X.K gtD) := by
  intro pins s σ H x y v u Q I rx ry ⟨g, μ, sx, sy, QD, ok, r1, r2, t, q⟩
  obtain ⟨dx, e1, t⟩ := t.of
  obtain ⟨dy, e2, t⟩ := t.of
  obtain ⟨z, e3, t⟩ := t.of
  unfold gtD at e3
  split at e3
  · cases e3
    exact op_gt pins s σ H x y v u Q I rx ry ⟨_, _, rp_int (r1.rep ok e1), rp_int (r2.rep ok e2), q _ t⟩
  · cases e3
def keyOf : PyData → Option Key
  | .int i => some (.inl i)
  | .str x => some (.inr x)
  | _ => none
def unK : List (PyData × PyData) → Option (List (Key × PyData))
  | [] => some []
  | p :: r => (keyOf p.1).bind fun k => (unK r).map fun t => (k, p.2) :: t
@[simp] theorem keyOf_keyD (k : Key) : keyOf (keyD k) = some k := by cases k <;> rfl
@[simp] theorem unK_map : ∀ kvs : List (Key × PyData), unK (kvs.map fun p => (keyD p.1, p.2)) = some kvs
  | [] => rfl
  | p :: r => by
    rw [List.map_cons, unK, unK_map r]
    simp
@[simp] theorem unK_nil : unK [] = some [] := rfl
def assocK (kvs : List (Key × PyData)) (k : Key) : Option PyData := (kvs.find? fun p => decide (p.1 = k)).map fun p => p.2
theorem unK_ok {K : PySem.W.Frag} {H : Hp} : ∀ {ws : List (Key × V)} {ds : List (PyData × PyData)}, RpKv K H ws ds → ∀ kvs, unK ds = some kvs → KvOk K H ws kvs
  | _, _, .nil, kvs, e => by cases e; exact .nil
  | _, _, .cons (k := k) (d := d) (ds := ds) h t, kvs, e => by
    have e : (keyOf (keyD k)).bind (fun k' => (unK ds).map fun t => (k', d) :: t) = some kvs := e
    rw [keyOf_keyD, Option.bind_some] at e
    cases q : unK ds with
    | none => rw [q] at e; cases e
    | some us =>
      rw [q] at e
      cases e
      exact .cons ⟨rfl, h⟩ (unK_ok t us q)
theorem kv_at {K : PySem.W.Frag} {H : Hp} (k : Key) : ∀ {ws : List (Key × V)} {kvs : List (Key × PyData)}, KvOk K H ws kvs → (valV ws k).isSome = (assocK kvs k).isSome ∧ ∀ d, assocK kvs k = some d → ∃ v, valV ws k = some v ∧ Rp K H v d
  | _, _, .nil => ⟨rfl, fun d e => by cases e⟩
  | (a, v) :: ws, (b, d) :: kvs, .cons ⟨e, r⟩ t => by
    have e : a = b := e
    subst e
    obtain ⟨h1, h2⟩ := kv_at k t
    by_cases c : a = k
    · refine ⟨?_, fun d' e' => ⟨v, valV_pos c, ?_⟩⟩
      · rw [valV_pos c]; simp [assocK, List.find?_cons, c]
      · simp [assocK, List.find?_cons, c] at e'
        subst e'; exact r
    · have q : assocK ((a, d) :: kvs) k = assocK kvs k := by simp [assocK, List.find?_cons, c]
      rw [valV_neg c, q]
      exact ⟨h1, h2⟩
theorem rp_key {K : PySem.W.Frag} {H : Hp} {x : V} {d : PyData} {k : Key} (h : Rp K H x d) (e : keyOf d = some k) : x = kV k := by
  cases h <;> cases e <;> rfl
theorem rp_dict {K : PySem.W.Frag} {H : Hp} {x : V} {ds : List (PyData × PyData)} {kvs : List (Key × PyData)} (h : Rp K H x (.dict ds)) (e : unK ds = some kvs) : ∃ a ws, x = .ref a ∧ H a = some (.dK ws) ∧ KvOk K H ws kvs := by
  cases h with
  | dct h1 h2 => exact ⟨_, _, rfl, h1, unK_ok h2 _ e⟩
/-- x in a list or tuple, a sign in a text -/
@[simp] def inD : PyData → PyData → Option Bool
  | .str c, .str z => match c.cps.toList with
    | [k] => some (decide (k ∈ z.cps.toList))
    | _ => none
  | x, .list ds => if (flatD x && ds.all flatD) = true ∨ (okD x && okD (.list ds)) = true then some (ds.any fun y => PyData.eqv y x) else none
  | x, .tuple ds => if (flatD x && ds.all flatD) = true ∨ (okD x && okD (.tuple ds)) = true then some (ds.any fun y => PyData.eqv y x) else none
  | x, .dict ds => (keyOf x).bind fun k => (unK ds).map fun kvs => (assocK kvs k).isSome
  | _, _ => none
@[simp] def notinD (x y : PyData) : Option Bool := (inD x y).map not
theorem flat_rp {K : PySem.W.Frag} {H : Hp} {x : V} {d : PyData} (h : Rp K H x d) (f : flatD d = true) : flatV x = true := by
  cases h <;> first | rfl | cases f
theorem eqV_rp {K : PySem.W.Frag} {H : Hp} {x y : V} {d e : PyData} (h : Rp K H x d) (h' : Rp K H y e) (f : flatD d = true) (f' : flatD e = true) : eqV x y = PyData.eqv d e := by
  cases h <;> cases h' <;> first | (simp only [eqV, PyData.eqv]; done) | rfl | cases f | cases f'
theorem all_rp {K : PySem.W.Frag} {H : Hp} : ∀ {xs : List V} {ds : List PyData}, RpAll K H xs ds → ds.all flatD = true → xs.all flatV = true
  | _, _, .nil, _ => rfl
  | _, _, .cons h t, f => by
    rw [List.all_cons, Bool.and_eq_true] at f ⊢
    exact ⟨flat_rp h f.1, all_rp t f.2⟩
theorem inV_rp {K : PySem.W.Frag} {H : Hp} {x : V} {d : PyData} (h : Rp K H x d) (f : flatD d = true) : ∀ {xs : List V} {ds : List PyData}, RpAll K H xs ds → ds.all flatD = true → inV x xs = ds.any fun y => PyData.eqv y d
  | _, _, .nil, _ => rfl
  | _, _, .cons h' t, f' => by
    rw [List.all_cons, Bool.and_eq_true] at f'
    show (eqV _ x || inV x _) = _
    rw [List.any_cons, eqV_rp h' h f'.1 f, inV_rp h f t f'.2]
theorem one_sign {c : Str} {k : Nat} (h : c.cps.toList = [k]) : c = ⟨#[k]⟩ := by
  obtain ⟨a⟩ := c
  have e : a = #[k] := by
    have := congrArg List.toArray h
    simpa using this
  rw [e]
def rInDT (K : PySem.W.Frag) : R2 := fun x y H Q => ∃ d ds, Dp K H x d ∧ Dp K H y (.tuple ds) ∧ SeqAt.shaped d = true ∧ SeqAt.shaped (.tuple ds) = true ∧ Q (.bl (ds.any fun z => PyData.eqv z d)) H
def rNotInDT (K : PySem.W.Frag) : R2 := fun x y H Q => ∃ d ds, Dp K H x d ∧ Dp K H y (.tuple ds) ∧ SeqAt.shaped d = true ∧ SeqAt.shaped (.tuple ds) = true ∧ Q (.bl (!ds.any fun z => PyData.eqv z d)) H
theorem op_inDT (hu : X.A.units + 65 < cLine) : OpR X (compareOp .In) (rInDT X.K) := by
  intro pins s σ H x y v u Q I rx ry ⟨d, ds, hd, he, sd, se, q⟩
  obtain ⟨_, r1⟩ := Dp.reads I d x v hd rx
  obtain ⟨_, r2⟩ := Dp.reads I (.tuple ds) y u he ry
  exact SeqAt.in_tuple_reads r2 r1 (SeqAt.canLay_of_shaped se) (SeqAt.canLay_of_shaped sd) (room_in_shaped sd hu) ⟨.bl _, H, I, rfl, q⟩
theorem op_notInDT (hu : X.A.units + 65 < cLine) : OpR X (compareOp .NotIn) (rNotInDT X.K) := by
  intro pins s σ H x y v u Q I rx ry ⟨d, ds, hd, he, sd, se, q⟩
  obtain ⟨_, r1⟩ := Dp.reads I d x v hd rx
  obtain ⟨_, r2⟩ := Dp.reads I (.tuple ds) y u he ry
  exact SeqAt.notIn_tuple_reads r2 r1 (SeqAt.canLay_of_shaped se) (SeqAt.canLay_of_shaped sd) (room_in_shaped sd hu) ⟨.bl _, H, I, rfl, q⟩
theorem do_in (hu : X.A.units + 65 < cLine) : OpR X (compareOp .In) (LOB X.K inD) := by
  intro pins s σ H x y v u Q I rx ry ⟨g, μ, sx, sy, QD, ok, r1, r2, t, q⟩
  obtain ⟨dx, e1, t⟩ := t.of
  obtain ⟨dy, e2, t⟩ := t.of
  obtain ⟨z, e3, t⟩ := t.of
  unfold inD at e3
  split at e3
  · split at e3
    · rename_i hk
      cases e3
      have ec := one_sign hk
      subst ec
      exact op_in_sign pins s σ H x y v u Q I rx ry ⟨_, _, rp_str (r1.rep ok e1), rp_str (r2.rep ok e2), q _ t⟩
    · cases e3
  · split at e3
    · rename_i c
      cases e3
      rcases c with c | c
      · rw [Bool.and_eq_true] at c
        obtain ⟨a, xs, rfl, h1, h2⟩ := r2.list ok e2
        have h2' := h2.mono ok.ex
        have h3 := r1.rep ok e1
        refine op_in_seq pins s σ H x _ v u Q I rx ry ⟨a, xs, rfl, .inl (.inl (.inl h1)), flat_rp h3 c.1, all_rp h2' c.2, ?_⟩
        rw [if_neg Bool.false_ne_true, inV_rp h3 c.1 h2' c.2]
        exact q _ t
      · rw [Bool.and_eq_true] at c
        exact op_inD hu pins s σ H x y v u Q I rx ry ⟨_, _, rp_dp (r1.rep ok e1) c.1, rp_dp (r2.rep ok e2) c.2, c.1, c.2, q _ t⟩
    · cases e3
  · split at e3
    · rename_i c
      cases e3
      rcases c with c | c
      · rw [Bool.and_eq_true] at c
        obtain ⟨a, xs, rfl, h1, _, h2⟩ := r2.tup ok e2
        have h2' := h2.mono ok.ex
        have h3 := r1.rep ok e1
        refine op_in_seq pins s σ H x _ v u Q I rx ry ⟨a, xs, rfl, .inr h1, flat_rp h3 c.1, all_rp h2' c.2, ?_⟩
        rw [if_neg Bool.false_ne_true, inV_rp h3 c.1 h2' c.2]
        exact q _ t
      · rw [Bool.and_eq_true] at c
        exact op_inDT hu pins s σ H x y v u Q I rx ry ⟨_, _, rp_dp (r1.rep ok e1) c.1, rp_dp (r2.rep ok e2) c.2, c.1, c.2, q _ t⟩
    · cases e3
  · rename_i ds
    cases ek : keyOf dx with
    | none => rw [ek] at e3; cases e3
    | some k =>
      cases eu : unK ds with
      | none => rw [ek, eu] at e3; cases e3
      | some kvs =>
        rw [ek, eu] at e3
        cases e3
        obtain ⟨a, ws, rfl, h1, h2⟩ := rp_dict (r2.rep ok e2) eu
        cases rp_key (r1.rep ok e1) ek
        cases (show u = Value.ref a from ry)
        refine d_in (by omega) I (DGet.k h1) rx fun s' I' => ⟨.bl _, H, I', rfl, ?_⟩
        rw [(kv_at k h2).1]; exact q _ t
  · cases e3
theorem do_notin (hu : X.A.units + 65 < cLine) : OpR X (compareOp .NotIn) (LOB X.K notinD) := by
  intro pins s σ H x y v u Q I rx ry ⟨g, μ, sx, sy, QD, ok, r1, r2, t, q⟩
  obtain ⟨dx, e1, t⟩ := t.of
  obtain ⟨dy, e2, t⟩ := t.of
  obtain ⟨z, e3, t⟩ := t.of
  unfold notinD at e3
  cases e4 : inD dx dy with
  | none => rw [e4] at e3; cases e3
  | some z' =>
  rw [e4] at e3
  cases e3
  unfold inD at e4
  split at e4
  · split at e4
    · rename_i hk
      cases e4
      have ec := one_sign hk
      subst ec
      exact op_notIn_sign pins s σ H x y v u Q I rx ry ⟨_, _, rp_str (r1.rep ok e1), rp_str (r2.rep ok e2), q _ t⟩
    · cases e4
  · split at e4
    · rename_i c
      cases e4
      rcases c with c | c
      · rw [Bool.and_eq_true] at c
        obtain ⟨a, xs, rfl, h1, h2⟩ := r2.list ok e2
        have h2' := h2.mono ok.ex
        have h3 := r1.rep ok e1
        refine op_notIn_seq pins s σ H x _ v u Q I rx ry ⟨a, xs, rfl, .inl (.inl (.inl h1)), flat_rp h3 c.1, all_rp h2' c.2, ?_⟩
        rw [if_pos rfl, inV_rp h3 c.1 h2' c.2]
        exact q _ t
      · rw [Bool.and_eq_true] at c
        exact op_notInD hu pins s σ H x y v u Q I rx ry ⟨_, _, rp_dp (r1.rep ok e1) c.1, rp_dp (r2.rep ok e2) c.2, c.1, c.2, q _ t⟩
    · cases e4
  · split at e4
    · rename_i c
      cases e4
      rcases c with c | c
      · rw [Bool.and_eq_true] at c
        obtain ⟨a, xs, rfl, h1, _, h2⟩ := r2.tup ok e2
        have h2' := h2.mono ok.ex
        have h3 := r1.rep ok e1
        refine op_notIn_seq pins s σ H x _ v u Q I rx ry ⟨a, xs, rfl, .inr h1, flat_rp h3 c.1, all_rp h2' c.2, ?_⟩
        rw [if_pos rfl, inV_rp h3 c.1 h2' c.2]
        exact q _ t
      · rw [Bool.and_eq_true] at c
        exact op_notInDT hu pins s σ H x y v u Q I rx ry ⟨_, _, rp_dp (r1.rep ok e1) c.1, rp_dp (r2.rep ok e2) c.2, c.1, c.2, q _ t⟩
    · cases e4
  · rename_i ds
    cases ek : keyOf dx with
    | none => rw [ek] at e4; cases e4
    | some k =>
      cases eu : unK ds with
      | none => rw [ek, eu] at e4; cases e4
      | some kvs =>
        rw [ek, eu] at e4
        cases e4
        obtain ⟨a, ws, rfl, h1, h2⟩ := rp_dict (r2.rep ok e2) eu
        cases rp_key (r1.rep ok e1) ek
        cases (show u = Value.ref a from ry)
        refine d_notIn (by omega) I (DGet.k h1) rx fun s' I' => ⟨.bl _, H, I', rfl, ?_⟩
        rw [(kv_at k h2).1]; exact q _ t
  · cases e4
end
end J
namespace J
open PySem PySem.Spec PyProof.Rows L2
variable [Tb]
section
variable {X : Cx} {a b c e : Expr} {es : List Expr} {pos p : Pos} {Ta Tb Tc T : DT} {U U' : DTB} {Es : DTA} {N : DTN}

/-- a dict that may change, or one that does not -/
@[simp] def dcAt (μ : Mu) : SV → Option (List (Key × PyData))
  | .r l => match μ[l]? with
    | some (.dct kvs) => some kvs
    | _ => none
  | .d (.dict ds) => unK ds
  | _ => none
theorem RS.dct {K : PySem.W.Frag} {g : G} {μ : Mu} {H : Hp} {v : V} {sv : SV} {kvs : List (Key × PyData)} (ok : StOk K g μ H) (r : RS K g v sv) (h : dcAt μ sv = some kvs) : ∃ a ws, v = .ref a ∧ H a = some (.dK ws) ∧ KvOk K g.F ws kvs := by
  cases sv with
  | d x =>
    cases x with
    | dict ds =>
      cases r with
      | dct h1 h2 => exact ⟨_, _, rfl, ok.ex _ _ h1, unK_ok h2 _ h⟩
    | _ => cases h
  | scr ns => cases h
  | x k => cases h
  | r l =>
    obtain ⟨a, h1, rfl⟩ := r
    have h' : (match μ[l]? with
      | some (.dct kvs) => some kvs
      | _ => none) = some kvs := h
    cases e : μ[l]? with
    | none => rw [e] at h'; cases h'
    | some so =>
      rw [e] at h'
      cases so with
      | lst es => cases h'
      | dct es =>
        cases h'
        obtain ⟨ws, q1, q2⟩ := ok.ob l a _ h1 e
        exact ⟨a, ws, rfl, q1, q2⟩
/-- a dict's subscript, by its tail -/
theorem tail_of {prog : Program} {w : World} {A : Around} {E : Value → Shared → Prop} {s : Shared} {value slice : Expr} {T id : String} {u v : Value} {Q : Value → Shared → Prop} (hl : typeLookup (.type T) "__getitem__" = pure (some (.builtin id))) (hs : subscripted slice false v u = operate [v, u] (getItem v u))
    (hT : s.TypeIs v T) (h : wpAny (model prog w) A (getItem v u) Q E s) : wpAny (model prog w) A (subscriptTail value slice v u) Q E s := by
  unfold subscriptTail
  refine wpAny_bind ?_
  rw [getitemInPython_of_ne hT.not_modules]
  refine wpAny_bind (wpAny_specialOf hT hl ?_)
  have last : wpAny (model prog w) A (subscripted slice false v u) (fun r s2 => wpAny (model prog w) A (letTemporaryGo value v r >>= fun _ => pure r) Q E s2) E s := by
    rw [hs]
    exact wpAny_operating (wpAny_mono h (fun r s2 h2 => wpAny_bind (wpAny_letTemporaryGo (wpAny_pure h2))) fun _ _ z => z)
  first
    | exact wpAny_bind last
    | exact wpAny_pure (wpAny_bind last)
    | exact wpAny_bind (wpAny_pure (wpAny_bind last))
@[simp] def ixD (μ : Mu) (x i : SV) : Option PyData := match i with
  | .d (.int k) => match sq μ x with
    | some ds => atI ds k
    | none => match x with
      | .d (.str z) => if szOk z.length = true then (atI z.cps.toList k).map (fun c => .str ⟨#[c]⟩) else none
      | _ => none
  | .d (.str k) => (dcAt μ x).bind fun kvs => assocK kvs (.inr k)
  | _ => none
def ixT (Ta Ti : DT) : DT := fun ρ μ Q => Ta ρ μ fun x μ1 => Ti ρ μ1 fun i μ2 => oP (ixD μ2 x i) fun z => Q (.d z) μ2
def LX (K : PySem.W.Frag) : R2 := fun x y H Q => ∃ (g : G) (μ : Mu) (sx sy : SV) (QD : PyData → Prop), StOk K g μ H ∧ RS K g x sx ∧ RS K g y sy ∧ oP (ixD μ sx sy) QD ∧ ∀ v z, Rp K g.F v z → QD z → Q v H
theorem atI_rp {K : PySem.W.Frag} {H : Hp} {xs : List V} {ds : List PyData} {k : Int} {z : PyData} (h : RpAll K H xs ds) (e : atI ds k = some z) : ∃ v, atI xs k = some v ∧ Rp K H v z := by
  unfold atI at e ⊢
  rw [h.length]
  cases q : ixN ds.length k with
  | none => rw [q] at e; cases e
  | some j =>
    rw [q] at e
    exact h.get e
theorem do_ix (hu : X.A.units + 1 < cLine) : IxR X (LX X.K) := by
  intro value slice pins s σ H x y v u Q I rx ry ⟨g, μ, sx, sy, QD, ok, r1, r2, t, q⟩ hs
  obtain ⟨z, e, t'⟩ := t.of
  unfold ixD at e
  split at e
  · rename_i k
    have ey := rp_int (K := X.K) (H := g.F) r2
    cases hq : sq μ sx with
    | some ds =>
      rw [hq] at e
      obtain ⟨a, xs, rfl, h1, h2⟩ := r1.seq ok hq
      obtain ⟨w, h3, h4⟩ := atI_rp h2 e
      rcases h1 with h1 | h1
      · exact ix_list value slice pins s σ H _ y v u Q I rx ry ⟨a, xs, k, w, rfl, ey, h1, h3, q _ _ h4 t'⟩ hs
      · exact ix_tup value slice pins s σ H _ y v u Q I rx ry ⟨a, xs, k, w, rfl, ey, h1, h3, q _ _ h4 t'⟩ hs
    | none =>
      rw [hq] at e
      dsimp only at e
      split at e
      · rename_i z'
        split at e
        · rename_i hz
          cases e5 : atI z'.cps.toList k with
          | none => rw [e5] at e; cases e
          | some c =>
            rw [e5] at e
            cases e
            exact ix_str value slice pins s σ H x y v u Q I rx ry ⟨z', k, c, rp_str (K := X.K) (H := g.F) r1, ey, szOk_le hz, e5, q _ _ (.str _) t'⟩ hs
        · cases e
      · cases e
  · rename_i k
    cases hq : dcAt μ sx with
    | none => rw [hq] at e; cases e
    | some kvs =>
      rw [hq] at e
      obtain ⟨a, ws, rfl, h1, h2⟩ := r1.dct ok hq
      cases rp_str (K := X.K) (H := g.F) r2
      cases (show v = Value.ref a from rx)
      obtain ⟨w, h3, h4⟩ := (kv_at (.inr k) h2).2 z e
      have dg : DGet H a (.str k) (some w) := .inl ⟨ws, .inr k, .inl h1, rfl, h3.symm⟩
      exact tail_of PySem.F.slot_dict_getitem.lookup hs (dict_typeIs I dg) (d_getItem hu I dg ry fun w' s' I' rw' => ⟨w, H, I', rw', q _ _ h4 t'⟩)
  · cases e
theorem de_ix (hu : X.A.units + 1 < cLine) (ha : DE X a Ta) (hb : DE X b Tb) (hs : PlainIx b := by exact fun _ _ => rfl) : DE X (.Subscript a b pos) (ixT Ta Tb) :=
  ⟨(pe_ix (do_ix hu) ha.pe hb.pe hs).weak fun σ H Q ⟨g, ρ, μ, QD, ok, en, t, q⟩ => ⟨g, ρ, μ, _, ok, en, t, fun g1 v sv μ1 H1 x1 ok1 r1 t1 => ⟨g1, ρ, μ1, _, ok1, en.mono x1.le, t1, fun g2 u su μ2 H2 x2 ok2 r2 t2 =>
    ⟨g2, μ2, sv, su, _, ok2, r1.mono x2.le, r2, t2, fun w z rz qz => q g2 w (.d z) μ2 H2 (x1.trans x2) ok2 rz qz⟩⟩⟩⟩
abbrev DTP := En → Mu → (Option Int → Mu → Prop) → Prop
def LP (K : PySem.W.Frag) (T : DTP) : TO := fun σ H Q => ∃ (g : G) (ρ : En) (μ : Mu) (QD : Option Int → Mu → Prop), StOk K g μ H ∧ EnOk K g ρ σ ∧ T ρ μ QD ∧ ∀ g' o μ' H', Ext g H g' H' → StOk K g' μ' H' → QD o μ' → Q o H'
structure DP (X : Cx) (e : Option Expr) (T : DTP) : Prop where po : PO X e (LP X.K T)
def noP : DTP := fun _ μ Q => Q none μ
def someP (T : DT) : DTP := fun ρ μ Q => T ρ μ fun x μ1 => match x with
  | .d (.int k) => Q (some k) μ1
  | _ => False
theorem dp_none : DP X none noP := ⟨⟨fun pins s σ H Q I ⟨g, ρ, μ, QD, ok, en, t, q⟩ => (po_none (X := X)).run pins s σ H Q I (q g none μ H (.refl g H) ok t)⟩⟩
theorem dp_some (h : DE X e T) : DP X (some e) (someP T) := ⟨⟨fun pins s σ H Q I ⟨g, ρ, μ, QD, ok, en, t, q⟩ => (po_some h.pe).run pins s σ H Q I ⟨g, ρ, μ, _, ok, en, t, fun g1 v sv μ1 H1 x1 ok1 r1 t1 => by
  cases sv with
  | d x =>
    cases x with
    | int k => cases r1; exact ⟨k, rfl, q g1 (some k) μ1 H1 x1 ok1 t1⟩
    | _ => exact t1.elim
  | _ => exact t1.elim⟩⟩⟩
def cutD (ds : List PyData) (lo hi : Option Int) : List PyData := (ds.drop (HT.sIx ds.length 0 lo)).take (HT.sIx ds.length ds.length hi - HT.sIx ds.length 0 lo)
@[simp] def slD : PyData → Option Int → Option Int → Option PyData
  | .list ds, lo, hi => some (.list (cutD ds lo hi))
  | .tuple ds, lo, hi => some (.tuple (cutD ds lo hi))
  | .str z, lo, hi => if szOk z.length = true then some (.str (cutS z lo hi)) else none
  | _, _, _ => none
def slT (Ta : DT) (Pl Ph : DTP) : DT := fun ρ μ Q => Ta ρ μ fun x μ1 => Pl ρ μ1 fun lo μ2 => Ph ρ μ2 fun hi μ3 => oP (rd μ3 x) fun dx => oP (slD dx lo hi) fun z => Q (.d z) μ3
def LSl (K : PySem.W.Frag) : V → Option Int → Option Int → Hp → VK → Prop := fun x lo hi H Q => ∃ (g : G) (μ : Mu) (sx : SV) (QD : PyData → Prop), StOk K g μ H ∧ RS K g x sx ∧ (oP (rd μ sx) fun dx => oP (slD dx lo hi) QD) ∧
  ∀ g' v z H', Ext g H g' H' → StOk K g' μ H' → Rp K g'.F v z → QD z → Q v H'
theorem cut_rp {K : PySem.W.Frag} {H : Hp} {xs : List V} {ds : List PyData} (h : RpAll K H xs ds) (lo hi : Option Int) : RpAll K H (cutV xs lo hi) (cutD ds lo hi) := by
  unfold cutV cutD
  rw [h.length]
  exact (h.drop _).take _
theorem cut_whole {K : PySem.W.Frag} {H : Hp} {xs : List V} {ds : List PyData} (h : RpAll K H xs ds) {lo hi : Option Int} (c : HT.sIx xs.length 0 lo = 0 ∧ HT.sIx xs.length xs.length hi = xs.length) : cutD ds lo hi = ds := by
  unfold cutD
  rw [← h.length, c.1, c.2, List.drop_zero, Nat.sub_zero, h.length, List.take_length]
theorem do_sl : SlR X (LSl X.K) := by
  intro pins s σ H x v vl vu lo hi sl Q I rx hs pl pu ⟨g, μ, sx, QD, ok, r1, t, q⟩
  obtain ⟨dx, e1, t⟩ := t.of
  obtain ⟨z, e2, t⟩ := t.of
  unfold slD at e2
  split at e2
  · cases e2
    obtain ⟨a, xs, rfl, h1, h2⟩ := r1.list ok e1
    refine sl_list pins s σ H _ v vl vu _ _ sl Q I rx hs pl pu ⟨a, xs, rfl, .inl (.inl h1), fun p hp => ?_⟩
    obtain ⟨k1, k2, k3, k4⟩ := ok.grow (.lst _) hp
    obtain ⟨k5, k6⟩ := k1.frozen k2 hp k3 k4 upd_same
    exact q _ _ _ _ k6 k5 (.lst upd_same ((cut_rp h2 _ _).mono k6.le.f)) t
  · cases e2
    obtain ⟨a, xs, rfl, h1, h1', h2⟩ := r1.tup ok e1
    refine sl_tupA pins s σ H _ v vl vu _ _ sl Q I rx hs pl pu ⟨a, xs, rfl, h1, fun c => ?_, fun c p hp => ?_⟩
    · rw [cut_whole h2 c] at t
      exact q g _ _ H (.refl g H) ok (.tup h1' h2) t
    · obtain ⟨k1, k2, k3, k4⟩ := ok.grow (.tup _) hp
      obtain ⟨k5, k6⟩ := k1.frozen k2 hp k3 k4 upd_same
      exact q _ _ _ _ k6 k5 (.tup (.inl (.inl upd_same)) ((cut_rp h2 _ _).mono k6.le.f)) t
  · split at e2
    · rename_i hz
      cases e2
      exact sl_str pins s σ H x v vl vu _ _ sl Q I rx hs pl pu ⟨_, rp_str (r1.rep ok e1), szOk_le hz, q g _ _ H (.refl g H) ok (.str _) t⟩
    · cases e2
  · cases e2
theorem de_sl {lo hi : Option Expr} {p2 : Pos} {Pl Ph : DTP} (ha : DE X a Ta) (hl : DP X lo Pl) (hu : DP X hi Ph) : DE X (.Subscript a (.Slice lo hi none p2) pos) (slT Ta Pl Ph) :=
  ⟨(pe_slice do_sl ha.pe hl.po hu.po).weak fun σ H Q ⟨g, ρ, μ, QD, ok, en, t, q⟩ => ⟨g, ρ, μ, _, ok, en, t, fun g1 v sv μ1 H1 x1 ok1 r1 t1 => ⟨g1, ρ, μ1, _, ok1, en.mono x1.le, t1, fun g2 lo μ2 H2 x2 ok2 t2 =>
    ⟨g2, ρ, μ2, _, ok2, (en.mono x1.le).mono x2.le, t2, fun g3 hi μ3 H3 x3 ok3 t3 => ⟨g3, μ3, sv, _, ok3, (r1.mono x2.le).mono x3.le, t3, fun g4 w z H4 x4 ok4 r4 q4 => q g4 w (.d z) μ3 H4 (((x1.trans x2).trans x3).trans x4) ok4 r4 q4⟩⟩⟩⟩⟩

def callT (h : Mu → List SV → Option PyData) (Es : DTA) : DT := fun ρ μ Q => Es ρ μ fun svs μ1 => oP (h μ1 svs) fun z => Q (.d z) μ1
def callN (h : Mu → List SV → Option SO) (Es : DTA) : DTN := fun ρ μ Q => Es ρ μ fun svs μ1 => oP (h μ1 svs) fun z => Q z μ1
theorem lc_cb {K : PySem.W.Frag} {h : Mu → List SV → Option PyData} {σ : L2.St} {H : Hp} {Q : VK} (hh : LE K (callT h Es) σ H Q) : tCB (LC K h) (LA K Es) σ H Q := by
  obtain ⟨g, ρ, μ, QD, ok, en, t, q⟩ := hh
  exact ⟨g, ρ, μ, _, ok, en, t, fun g1 vs svs μ1 H1 x1 ok1 r1 t1 => ⟨g1, μ1, svs, _, ok1, r1, t1, fun g2 v z H2 x2 ok2 r2 t2 => q g2 v (.d z) μ1 H2 (x1.trans x2) ok2 r2 t2⟩⟩
theorem lc_cbN {K : PySem.W.Frag} {h : Mu → List SV → Option SO} {σ : L2.St} {H : Hp} {Q : VK} (hh : LN K (callN h Es) σ H Q) : tCB (LCN K h) (LA K Es) σ H Q := by
  obtain ⟨g, ρ, μ, QD, ok, en, t, q⟩ := hh
  refine ⟨g, ρ, μ, _, ok, en, t, fun g1 vs svs μ1 H1 x1 ok1 r1 t1 => ⟨g1, μ1, svs, _, ok1, r1, t1, fun g2 a so H2 x2 ok2 h0 hF ha hs t2 => ?_⟩⟩
  have h1 : a ∉ g1.p := fun z => ha (by obtain ⟨m, e⟩ := x2.le.p; rw [e]; exact List.mem_append_left _ z)
  exact q g2 a so μ1 H2 (x1.trans x2) ok2 (x1.fresh h0 h1) hF ha hs t2
theorem de_cb {x : Str} {id : String} {h : Mu → List SV → Option PyData} (hc : CallR X (.builtin id) (LC X.K h)) (hg : Gl X x) (hm : X.mg x = none) (hv : bootBuiltins x = some (.builtin id)) (ha : DA X (e :: es) Es) (hn : x ≠ "__name__" := by decide) (hdb : (x == ("__debug__" : Str)) = false := by decide)
    (he : starEach (e :: es) X.env = (false, eval e X.env) :: starEach es X.env := by rfl) (hpl : (backTo pos (starEach es X.env)).any (·.1) = false := by rfl) : DE X (.Call (.Name x p) (e :: es) [] pos) (callT h Es) :=
  ⟨(pe_callB hc hg hm hv ha.pa hn hdb he hpl).weak fun _ _ _ => lc_cb⟩
theorem de_ct {x : Str} {id : String} {h : Mu → List SV → Option PyData} (hc : CallR X (.type id) (LC X.K h)) (hg : Gl X x) (hm : X.mg x = none) (hv : bootBuiltins x = some (.type id)) (ha : DA X (e :: es) Es) (hn : x ≠ "__name__" := by decide) (hdb : (x == ("__debug__" : Str)) = false := by decide)
    (he : starEach (e :: es) X.env = (false, eval e X.env) :: starEach es X.env := by rfl) (hpl : (backTo pos (starEach es X.env)).any (·.1) = false := by rfl) : DE X (.Call (.Name x p) (e :: es) [] pos) (callT h Es) :=
  ⟨(pe_callTy hc hg hm hv ha.pa hn hdb he hpl).weak fun _ _ _ => lc_cb⟩
theorem dn_cb {x : Str} {id : String} {h : Mu → List SV → Option SO} (hc : CallR X (.builtin id) (LCN X.K h)) (hg : Gl X x) (hm : X.mg x = none) (hv : bootBuiltins x = some (.builtin id)) (ha : DA X (e :: es) Es) (hn : x ≠ "__name__" := by decide) (hdb : (x == ("__debug__" : Str)) = false := by decide)
    (he : starEach (e :: es) X.env = (false, eval e X.env) :: starEach es X.env := by rfl) (hpl : (backTo pos (starEach es X.env)).any (·.1) = false := by rfl) : DN X (.Call (.Name x p) (e :: es) [] pos) (callN h Es) :=
  ⟨(pe_callB hc hg hm hv ha.pa hn hdb he hpl).weak fun _ _ _ => lc_cbN⟩
theorem dn_ct {x : Str} {id : String} {h : Mu → List SV → Option SO} (hc : CallR X (.type id) (LCN X.K h)) (hg : Gl X x) (hm : X.mg x = none) (hv : bootBuiltins x = some (.type id)) (ha : DA X (e :: es) Es) (hn : x ≠ "__name__" := by decide) (hdb : (x == ("__debug__" : Str)) = false := by decide)
    (he : starEach (e :: es) X.env = (false, eval e X.env) :: starEach es X.env := by rfl) (hpl : (backTo pos (starEach es X.env)).any (·.1) = false := by rfl) : DN X (.Call (.Name x p) (e :: es) [] pos) (callN h Es) :=
  ⟨(pe_callTy hc hg hm hv ha.pa hn hdb he hpl).weak fun _ _ _ => lc_cbN⟩
theorem rss1 {K : PySem.W.Frag} {g : G} {xs : List V} {x : SV} (r : RSs K g xs [x]) : ∃ v, xs = [v] ∧ RS K g v x := by
  cases r with
  | cons h t => cases t; exact ⟨_, rfl, h⟩
theorem rss2 {K : PySem.W.Frag} {g : G} {xs : List V} {x y : SV} (r : RSs K g xs [x, y]) : ∃ v w, xs = [v, w] ∧ RS K g v x ∧ RS K g w y := by
  cases r with
  | cons h t =>
    cases t with
    | cons h' t' => cases t'; exact ⟨_, _, rfl, h, h'⟩
/-- len -/
@[simp] def lenD (μ : Mu) : List SV → Option PyData
  | [x] => match sq μ x with
    | some ds => some (.int ds.length)
    | none => match x with
      | .d (.str z) => if szOk z.length = true then some (.int z.length) else none
      | x => (dcAt μ x).map fun kvs => .int kvs.length
  | _ => none
theorem dc_len : CallR X (.builtin "len") (LC X.K lenD) := by
  intro pins s σ H xs us Q I r ⟨g, μ, svs, QD, ok, r1, t, q⟩
  obtain ⟨z, e, t⟩ := t.of
  unfold lenD at e
  split at e
  · rename_i x
    obtain ⟨v, rfl, rv⟩ := rss1 r1
    cases hq : sq μ x with
    | some ds =>
      rw [hq] at e
      cases e
      obtain ⟨a, xs, rfl, h1, h2⟩ := rv.seq ok hq
      refine call_len_seq pins s σ H _ us Q I r ⟨a, xs, rfl, h1, ?_⟩
      rw [h2.length]
      exact q g _ _ H (.refl g H) ok (.int _) t
    | none =>
      rw [hq] at e
      dsimp only at e
      split at e
      · split at e
        · rename_i hz
          cases e
          cases rp_str (K := X.K) (H := g.F) rv
          exact call_len_str pins s σ H _ us Q I r ⟨_, rfl, szOk_le hz, q g _ _ H (.refl g H) ok (.int _) t⟩
        · cases e
      · cases hd : dcAt μ x with
        | none => rw [hd] at e; cases e
        | some kvs =>
          rw [hd] at e
          cases e
          obtain ⟨a, ws, rfl, h1, h2⟩ := rv.dct ok hd
          refine call_lenD pins s σ H _ us Q I r ⟨a, ws, rfl, h1, ?_⟩
          rw [Paired.length h2]
          exact q g _ _ H (.refl g H) ok (.int _) t
  · cases e
/-- all, any of a list of bools -/
@[simp] def bools? : List PyData → Option (List Bool)
  | [] => some []
  | .bool b :: r => (bools? r).map (b :: ·)
  | _ :: _ => none
theorem bools_map : ∀ {ds : List PyData} {bs : List Bool}, bools? ds = some bs → ds = bs.map PyData.bool
  | [], _, e => by cases e; rfl
  | .bool b :: r, bs, e => by
    have e' : (bools? r).map (b :: ·) = some bs := e
    cases q : bools? r with
    | none => rw [q] at e'; cases e'
    | some cs => rw [q] at e'; cases e'; rw [bools_map q] <;> rfl
  | .none :: _, _, e => by cases e
  | .int _ :: _, _, e => by cases e
  | .str _ :: _, _, e => by cases e
  | .list _ :: _, _, e => by cases e
  | .tuple _ :: _, _, e => by cases e
  | .dict _ :: _, _, e => by cases e
@[simp] def allD (_ : Mu) : List SV → Option PyData
  | [.d (.list ds)] => (bools? ds).map fun bs => .bool (bs.all id)
  | _ => none
@[simp] def anyD (_ : Mu) : List SV → Option PyData
  | [.d (.list ds)] => (bools? ds).map fun bs => .bool (bs.any id)
  | _ => none
theorem dc_all (hc : X.calm = true) : CallR X (.builtin "all") (LC X.K allD) := by
  intro pins s σ H xs us Q I r ⟨g, μ, svs, QD, ok, r1, t, q⟩
  obtain ⟨z, e, t⟩ := t.of
  unfold allD at e
  split at e
  · rename_i ds
    cases eb : bools? ds with
    | none => rw [eb] at e; cases e
    | some bs =>
      rw [eb] at e
      cases e
      obtain ⟨v, rfl, rv⟩ := rss1 r1
      obtain ⟨a, ys, rfl, h1, h2⟩ := rv.list ok (show rd μ (.d (.list ds)) = some (.list ds) from rfl)
      rw [bools_map eb] at h2
      rw [h2.bls_inv] at h1
      exact cr_all hc pins s σ H _ us Q I r ⟨a, bs, rfl, .inl (.inl h1), q g _ _ H (.refl g H) ok (.bl _) t⟩
  · cases e
theorem dc_any (hc : X.calm = true) : CallR X (.builtin "any") (LC X.K anyD) := by
  intro pins s σ H xs us Q I r ⟨g, μ, svs, QD, ok, r1, t, q⟩
  obtain ⟨z, e, t⟩ := t.of
  unfold anyD at e
  split at e
  · rename_i ds
    cases eb : bools? ds with
    | none => rw [eb] at e; cases e
    | some bs =>
      rw [eb] at e
      cases e
      obtain ⟨v, rfl, rv⟩ := rss1 r1
      obtain ⟨a, ys, rfl, h1, h2⟩ := rv.list ok (show rd μ (.d (.list ds)) = some (.list ds) from rfl)
      rw [bools_map eb] at h2
      rw [h2.bls_inv] at h1
      exact cr_any hc pins s σ H _ us Q I r ⟨a, bs, rfl, .inl (.inl h1), q g _ _ H (.refl g H) ok (.bl _) t⟩
  · cases e
/-- list(x), tuple(x) -/
@[simp] def listN (μ : Mu) : List SV → Option SO
  | [x] => (sq μ x).map SO.lst
  | _ => none
theorem dc_list : CallR X (.type "list") (LCN X.K listN) := by
  intro pins s σ H xs us Q I r ⟨g, μ, svs, QD, ok, r1, t, q⟩
  obtain ⟨z, e, t⟩ := t.of
  unfold listN at e
  split at e
  · rename_i x
    obtain ⟨v, rfl, rv⟩ := rss1 r1
    cases hq : sq μ x with
    | none => rw [hq] at e; cases e
    | some ds =>
      rw [hq] at e
      cases e
      obtain ⟨a, xs, rfl, h1, h2⟩ := rv.seq ok hq
      refine call_list_of pins s σ H _ us Q I r ⟨a, xs, rfl, h1, fun p hp => ?_⟩
      obtain ⟨k1, k2, k3, k4⟩ := ok.grow (.lst xs) hp
      exact q _ p (.lst ds) _ k2 k1 hp k3 k4 ⟨xs, upd_same, h2⟩ t
  · cases e
@[simp] def tupD (μ : Mu) : List SV → Option PyData
  | [.d (.tuple ds)] => some (.tuple ds)
  | [x] => match rd μ x with
    | some (.list ds) => some (.tuple ds)
    | _ => none
  | _ => none
theorem dc_tuple : CallR X (.type "tuple") (LC X.K tupD) := by
  intro pins s σ H xs us Q I r ⟨g, μ, svs, QD, ok, r1, t, q⟩
  obtain ⟨z, e, t⟩ := t.of
  unfold tupD at e
  split at e
  · rename_i ds
    cases e
    obtain ⟨v, rfl, rv⟩ := rss1 r1
    obtain ⟨a, ys, rfl, h1, h1', h2⟩ := rv.tup ok (show rd μ (.d (.tuple ds)) = some (.tuple ds) from rfl)
    exact call_tuple_of pins s σ H _ us Q I r ⟨a, ys, rfl, .inr ⟨h1, q g _ _ H (.refl g H) ok rv t⟩⟩
  · rename_i x _
    obtain ⟨v, rfl, rv⟩ := rss1 r1
    split at e
    · rename_i ds e1
      cases e
      obtain ⟨a, ys, rfl, h1, h2⟩ := rv.list ok e1
      refine call_tuple_of pins s σ H _ us Q I r ⟨a, ys, rfl, .inl ⟨.inl (.inl h1), fun p hp => ?_⟩⟩
      obtain ⟨k1, k2, k3, k4⟩ := ok.grow (.tup ys) hp
      obtain ⟨k5, k6⟩ := k1.frozen k2 hp k3 k4 upd_same
      exact q _ _ _ _ k6 k5 (.tup (.inl (.inl upd_same)) (h2.mono k6.le.f)) t
    · cases e
  · cases e
/-- abs, min, int -/
@[simp] def absD (_ : Mu) : List SV → Option PyData
  | [.d (.int i)] => some (.int (if i < 0 then -i else i))
  | _ => none
@[simp] def minD (_ : Mu) : List SV → Option PyData
  | [.d (.int i), .d (.int j)] => some (.int (if j < i then j else i))
  | _ => none
@[simp] def maxD (_ : Mu) : List SV → Option PyData
  | [.d (.int i), .d (.int j)] => some (.int (if j > i then j else i))
  | _ => none
@[simp] def intD (_ : Mu) : List SV → Option PyData
  | [.d (.int i)] => some (.int i)
  | [.d (.bool b)] => some (.int (if b then 1 else 0))
  | _ => none
theorem dc_abs : CallR X (.builtin "abs") (LC X.K absD) := by
  intro pins s σ H xs us Q I r ⟨g, μ, svs, QD, ok, r1, t, q⟩
  obtain ⟨z, e, t⟩ := t.of
  unfold absD at e
  split at e
  · cases e
    obtain ⟨v, rfl, rv⟩ := rss1 r1
    cases rp_int (K := X.K) (H := g.F) rv
    exact call_abs pins s σ H _ us Q I r ⟨_, rfl, q g _ _ H (.refl g H) ok (.int _) t⟩
  · cases e
theorem dc_min (hc : X.calm = true) : CallR X (.builtin "min") (LC X.K minD) := by
  intro pins s σ H xs us Q I r ⟨g, μ, svs, QD, ok, r1, t, q⟩
  obtain ⟨z, e, t⟩ := t.of
  unfold minD at e
  split at e
  · cases e
    obtain ⟨v, w, rfl, rv, rw'⟩ := rss2 r1
    cases rp_int (K := X.K) (H := g.F) rv
    cases rp_int (K := X.K) (H := g.F) rw'
    exact call_min2 hc pins s σ H _ us Q I r ⟨_, _, rfl, q g _ _ H (.refl g H) ok (.int _) t⟩
  · cases e
theorem dc_max (hc : X.calm = true) : CallR X (.builtin "max") (LC X.K maxD) := by
  intro pins s σ H xs us Q I r ⟨g, μ, svs, QD, ok, r1, t, q⟩
  obtain ⟨z, e, t⟩ := t.of
  unfold maxD at e
  split at e
  · cases e
    obtain ⟨v, w, rfl, rv, rw'⟩ := rss2 r1
    cases rp_int (K := X.K) (H := g.F) rv
    cases rp_int (K := X.K) (H := g.F) rw'
    exact call_max2 hc pins s σ H _ us Q I r ⟨_, _, rfl, q g _ _ H (.refl g H) ok (.int _) t⟩
  · cases e
theorem dc_int : CallR X (.type "int") (LC X.K intD) := by
  intro pins s σ H xs us Q I r ⟨g, μ, svs, QD, ok, r1, t, q⟩
  obtain ⟨z, e, t⟩ := t.of
  unfold intD at e
  split at e
  · cases e
    obtain ⟨v, rfl, rv⟩ := rss1 r1
    cases rp_int (K := X.K) (H := g.F) rv
    exact call_int1 pins s σ H _ us Q I r (.inl ⟨_, rfl, q g _ _ H (.refl g H) ok (.int _) t⟩)
  · cases e
    obtain ⟨v, rfl, rv⟩ := rss1 r1
    cases rp_bl (K := X.K) (H := g.F) rv
    exact call_int1 pins s σ H _ us Q I r (.inr ⟨_, rfl, q g _ _ H (.refl g H) ok (.int _) t⟩)
  · cases e
/-- isinstance(e, T), T a built-in type -/
@[simp] def tyD (μ : Mu) : SV → Option String
  | .d .none => some "NoneType"
  | .d (.bool _) => some "bool"
  | .d (.int _) => some "int"
  | .d (.str _) => some "str"
  | .d (.list _) => some "list"
  | .d (.tuple _) => some "tuple"
  | .r l => match μ[l]? with
    | some (.lst _) => some "list"
    | _ => none
  | _ => none
def isiT (n : String) (T : DT) : DT := fun ρ μ Q => T ρ μ fun x μ1 => oP (tyD μ1 x) fun t => oP (kitB t n) fun b => Q (.d (.bool b)) μ1
theorem tyD_ok {K : PySem.W.Frag} {g : G} {μ : Mu} {H : Hp} {v : V} {sv : SV} {t : String} (ok : StOk K g μ H) (r : RS K g v sv) (e : tyD μ sv = some t) : TyX K H v (.type t) := by
  cases sv with
  | d x =>
    cases x with
    | none => cases e; cases rp_non r; exact .base .non
    | bool b => cases e; cases rp_bl r; exact .base (.bl b)
    | int i => cases e; cases rp_int r; exact .base (.int i)
    | str z => cases e; cases rp_str r; exact .base (.str z)
    | list ds =>
      cases e
      obtain ⟨a, xs, rfl, h1, _⟩ := r.list ok (show rd μ (.d (.list ds)) = some (.list ds) from rfl)
      exact .base (.lst h1)
    | tuple ds =>
      cases e
      obtain ⟨a, xs, rfl, h1, _⟩ := r.tup ok (show rd μ (.d (.tuple ds)) = some (.tuple ds) from rfl)
      rcases h1 with (h1 | ⟨o, h1⟩) | ⟨o, its, n, h1, h2, _⟩
      · exact .base (.tup h1)
      · exact .fTuple h1
      · exact .kTuple h1 h2
    | dict _ => cases e
  | r l =>
    have e' : (match μ[l]? with
      | some (.lst _) => some "list"
      | _ => none) = some t := e
    split at e'
    · rename_i ds e1
      cases e'
      obtain ⟨a, ha, rfl⟩ := r
      obtain ⟨vs, h1, _⟩ := ok.ob l a _ ha e1
      exact .base (.lst h1)
    · cases e'
  | scr _ => cases e
  | x _ => cases e
theorem de_isi {x : Str} {N : String} {p2 : Pos} (hg : Gl X "isinstance") (hm : X.mg "isinstance" = none) (hg2 : Gl X x) (hm2 : X.mg x = none) (hv : bootBuiltins x = some (.type N)) (ha : DE X e T)
    (hx : x ≠ "__name__" := by decide) (hxd : (x == ("__debug__" : Str)) = false := by decide)
    (he : starEach [e, .Name x p2] X.env = (false, eval e X.env) :: starEach [.Name x p2] X.env := by rfl) (he2 : starEach [.Name x p2] X.env = (false, eval (.Name x p2) X.env) :: starEach [] X.env := by rfl) (hpl : (backTo pos (starEach [.Name x p2] X.env)).any (·.1) = false := by rfl) :
    DE X (.Call (.Name "isinstance" p) [e, .Name x p2] [] pos) (isiT N T) :=
  ⟨(pe_callB call_isi hg hm (by decide +kernel) (pa_cons ha.pe (pa_cons (pe_bltn (v := .ty N) hg2 hm2 hv rfl hx hxd) pa_nil he2) he) (by decide) (by decide) he hpl).weak fun σ H Q ⟨g, ρ, μ, QD, ok, en, t, q⟩ => ⟨g, ρ, μ, _, ok, en, t, fun g1 v sv μ1 H1 x1 ok1 r1 t1 => by
    obtain ⟨ty, e1, t2⟩ := t1.of
    obtain ⟨b, e2, t3⟩ := t2.of
    exact ⟨v, .ty N, .type ty, .type N, b, rfl, .ty N, tyD_ok ok1 r1 e1, kit_ty e2, q g1 (.bl b) (.d (.bool b)) μ1 H1 x1 ok1 (.bl b) t3⟩⟩⟩

def isRng (n : Int) : List PyData := (List.range n.toNat).map fun i => .int (i : Nat)
def rng1I (Es : DTA) : DTI := fun ρ μ Q => Es ρ μ fun svs μ1 => match svs with
  | [.d (.int j)] => -(2 ^ 62) ≤ j ∧ j < 2 ^ 62 ∧ Q (isRng j) (fun _ => True) μ1
  | _ => False
theorem di_rng1 {tg : Expr} (hg : Gl X "range") (hm : X.mg "range" = none) (ha : DA X [a] Es) (hs : starEach [a] X.env = [(false, eval a X.env)] := by rfl) : DI X tg (.Call (.Name "range" p) [a] [] pos) (rng1I Es) := by
  refine ⟨⟨fun pins s σ H R I ⟨g, ρ, μ, QD, ok, en, t, q⟩ => (pi_range1 hg hm ha.pa hs).run pins s σ H R I ⟨g, ρ, μ, _, ok, en, t, fun g1 vs svs μ1 H1 x1 ok1 r1 t1 => ?_⟩⟩⟩
  split at t1
  · rename_i j
    obtain ⟨v, rfl, rv⟩ := rss1 r1
    cases rp_int (K := X.K) (H := g1.F) rv
    obtain ⟨t2, t3, t4⟩ := t1
    refine ⟨j, rfl, t2, t3, q g1 _ _ μ1 H1 _ x1 ok1 ⟨fun _ _ _ _ _ _ => by show j.toNat ≤ _; unfold isRng; simp, fun _ _ _ i _ _ _ h => by unfold isRng at h; rw [List.length_map, List.length_range] at h; exact h, fun g2 μ2 H2 i x v H3 x2 ok2 _ hx hy => ?_⟩ t4⟩
    obtain ⟨rfl, rfl⟩ := hy
    refine ⟨g2, ok2, .refl _ _, ?_⟩
    unfold isRng at hx
    rw [List.getElem?_map] at hx
    cases e : (List.range j.toNat)[i]? with
    | none => rw [e] at hx; cases hx
    | some k =>
      rw [e] at hx
      cases hx
      have : k = i := by
        obtain ⟨h1, h2⟩ := List.getElem?_eq_some_iff.mp e
        rw [List.getElem_range] at h2
        exact h2.symm
      subst this
      rw [Int.zero_add]
      exact .int _
  · exact t1.elim
/-- a list, a tuple, a text, a list of the store -/
def seqI (T : DT) : DTI := fun ρ μ Q => T ρ μ fun x μ1 => match x with
  | .d (.list ds) => Q ds (fun _ => True) μ1
  | .d (.tuple ds) => Q ds (fun _ => True) μ1
  | .d (.str z) => Q (z.cps.toList.map fun c => .str ⟨#[c]⟩) (fun _ => True) μ1
  | .r l => match μ1[l]? with
    | some (.lst ds) => Q ds (fun μ' => μ'[l]? = some (.lst ds)) μ1
    | _ => False
  | _ => False
theorem pi_any {X : Cx} {tg l : Expr} {tl : TE} (hl : PE X l tl) : PI X tg l (fun σ H R => tl σ H fun x H1 => (∃ a, x = .ref a ∧ (∃ xs, SqL X.K H1 a xs) ∧ R (Itl X.K a) H1) ∨ (∃ a, x = .ref a ∧ (∃ xs, SqT X.K H1 a xs) ∧ R (Itt X.K a) H1) ∨ (∃ z, x = .str z ∧ R (Its z) H1)) := by
  refine ⟨fun pins s σ H R I h => ?_⟩
  refine thn (hl.run pins s σ H _ I h) fun v s1 ⟨x, H1, I1, r1, q1⟩ => ?_
  have fp : ∀ b, b ∈ [s1.heap.objs.size] → FpOk X pins H1 b := fun b hb => by
    have e : b = s1.heap.objs.size := by simpa using hb
    subst e
    exact I1.fpOk (Nat.le_refl _) (I1.hok.fresh (Nat.le_refl _))
  rcases q1 with ⟨a, e, ⟨xs, hq⟩, q⟩ | ⟨a, e, ⟨xs, hq⟩, q⟩ | ⟨z, e, q⟩
  · subst e
    cases r1
    obtain ⟨its, rv, p, hz⟩ := I1.list hq
    refine wpAny_pyIter_list p.isList ?_
    exact ⟨s1.heap.objs.size, [s1.heap.objs.size], _, _, H1, rfl, I1.kept (t' := s1.toks) fun b o e => Heap.get?_push_of_some _ e, turn_list a _, ⟨_, Heap.get?_push_size _ rfl, rfl, rfl⟩, fp, q⟩
  · subst e
    cases r1
    obtain ⟨its, rv, p, hz⟩ := I1.tuple hq
    refine wpAny_pyIter_tuple (show s1.heap.IsTuple a its.toArray from p) ?_
    exact ⟨s1.heap.objs.size, [s1.heap.objs.size], _, _, H1, rfl, I1.kept (t' := s1.toks) fun b o e => Heap.get?_push_of_some _ e, turn_tuple a _, ⟨_, Heap.get?_push_size _ rfl, rfl, rfl⟩, fp, q⟩
  · subst e
    obtain ⟨t, rfl⟩ := r1
    cases ha : z.cps.all (· < 128)
    · exact wpAny_pyIter_wide ha (pi_one (tk := s1.toks) I1 _ (turn_str _ z t "str_iterator" (.inr rfl)) ⟨_, Heap.get?_push_size _ rfl, rfl, rfl⟩ q)
    · exact wpAny_pyIter_ascii ha (pi_one (tk := s1.toks) I1 _ (turn_str _ z t "str_ascii_iterator" (.inl rfl)) ⟨_, Heap.get?_push_size _ rfl, rfl, rfl⟩ q)
theorem it_list {K : PySem.W.Frag} {a : Addr} {xs : List V} {ds : List PyData} {g1 : G} {H1 : Hp} {gd : Mu → Prop} (h : ∀ g μ H, Ext g1 H1 g H → StOk K g μ H → gd μ → ∃ xs, H a = some (.lst xs) ∧ RpAll K g.F xs ds) : ItOk K (Itl K a) ds gd g1 H1 :=
  ⟨fun g μ H x ok hg => by
    obtain ⟨xs, h1, h2⟩ := h g μ H x ok hg
    exact ⟨xs, .inl (.inl h1), by rw [h2.length]; exact Nat.le_refl _⟩,
  fun g μ H i x ok hg hi => by
    obtain ⟨xs, h1, h2⟩ := h g μ H x ok hg
    have hi' : i < xs.length := by rw [h2.length]; exact hi
    exact ⟨xs, xs[i], .inl (.inl h1), List.getElem?_eq_getElem hi'⟩,
  fun g μ H i d v H' x ok hg hd hy => by
    obtain ⟨xs, h1, h2⟩ := h g μ H x ok hg
    obtain ⟨rfl, hy⟩ := hy
    obtain ⟨w, h3, h4⟩ := h2.get hd
    have := hy xs (.inl (.inl h1))
    rw [h3] at this
    cases this
    exact ⟨g, ok, .refl _ _, h4⟩⟩
theorem di_seq {tg : Expr} (h : DE X e T) : DI X tg e (seqI T) := by
  refine ⟨⟨fun pins s σ H R I ⟨g, ρ, μ, QD, ok, en, t, q⟩ => (pi_any h.pe).run pins s σ H R I ⟨g, ρ, μ, _, ok, en, t, fun g1 v sv μ1 H1 x1 ok1 r1 t1 => ?_⟩⟩⟩
  cases sv with
  | d x =>
    cases x with
    | list ds =>
      cases r1 with
      | @lst a xs _ h1 h2 =>
        exact .inl ⟨a, rfl, ⟨xs, .inl (.inl (ok1.ex _ _ h1))⟩, q g1 _ _ μ1 H1 _ x1 ok1 (it_list (xs := xs) fun g μ H x ok _ => ⟨xs, ok.ex _ _ (x.le.f _ _ h1), h2.mono x.le.f⟩) t1⟩
    | tuple ds =>
      cases r1 with
      | @tup a xs _ h1 h2 =>
        refine .inr (.inl ⟨a, rfl, ⟨xs, same_sqT ok1.ex h1⟩, q g1 _ _ μ1 H1 _ x1 ok1 ⟨fun g μ H x ok _ => ⟨xs, same_sqT ok.ex (same_sqT x.le.f h1), by rw [h2.length]; exact Nat.le_refl _⟩, fun g μ H i x ok _ hi => ?_, fun g μ H i d v H' x ok _ hd hy => ?_⟩ t1⟩)
        · have hi' : i < xs.length := by rw [h2.length]; exact hi
          exact ⟨xs, xs[i], same_sqT ok.ex (same_sqT x.le.f h1), List.getElem?_eq_getElem hi'⟩
        · obtain ⟨rfl, hy⟩ := hy
          obtain ⟨w, h3, h4⟩ := (h2.mono x.le.f).get hd
          have := hy xs (same_sqT ok.ex (same_sqT x.le.f h1))
          rw [h3] at this
          cases this
          exact ⟨g, ok, .refl _ _, h4⟩
    | str z =>
      cases rp_str r1
      refine .inr (.inr ⟨z, rfl, q g1 _ _ μ1 H1 _ x1 ok1 ⟨fun g μ H x ok _ => ?_, fun g μ H i x ok _ hi => ?_, fun g μ H i d v H' x ok _ hd hy => ?_⟩ t1⟩)
      · show z.cps.size ≤ _
        rw [List.length_map, Array.length_toList]; exact Nat.le_refl _
      · show i < z.cps.size
        rw [List.length_map, Array.length_toList] at hi; exact hi
      · obtain ⟨rfl, c, hc, rfl⟩ := hy
        rw [List.getElem?_map, Array.getElem?_toList, hc] at hd
        cases hd
        exact ⟨g, ok, .refl _ _, .str _⟩
    | _ => exact t1.elim
  | r l =>
    dsimp only at t1
    split at t1
    · rename_i ds e1
      obtain ⟨a, ha, rfl⟩ := r1
      obtain ⟨vs, h1, h2⟩ := ok1.ob l a _ ha e1
      exact .inl ⟨a, rfl, ⟨vs, .inl (.inl h1)⟩, q g1 _ _ μ1 H1 _ x1 ok1 (it_list (xs := vs) fun g μ H x ok hg => by
        obtain ⟨ws, q1, q2⟩ := ok.ob l a _ (pget x.le ha) hg
        exact ⟨ws, q1, q2⟩) t1⟩
    · exact t1.elim
  | scr ns => exact t1.elim
  | x k => exact t1.elim
def zipI (Es : DTA) : DTI := fun ρ μ Q => Es ρ μ fun svs μ1 => match svs with
  | [.d (.list ds), .d (.list es)] => Q ((ds.zip es).map fun p => .tuple [p.1, p.2]) (fun _ => True) μ1
  | [.d (.tuple ds), .d (.tuple es)] => Q ((ds.zip es).map fun p => .tuple [p.1, p.2]) (fun _ => True) μ1
  | _ => False
theorem zip_get {ds es : List PyData} {i : Nat} {d : PyData} (h : ((ds.zip es).map fun p => PyData.tuple [p.1, p.2])[i]? = some d) : ∃ x y, ds[i]? = some x ∧ es[i]? = some y ∧ d = .tuple [x, y] := by
  rw [List.getElem?_map] at h
  cases e : (ds.zip es)[i]? with
  | none => rw [e] at h; cases h
  | some p =>
    rw [e] at h
    cases h
    rw [List.getElem?_zip_eq_some] at e
    exact ⟨p.1, p.2, e.1, e.2, rfl⟩
theorem di_zip {tg : List Expr} {kk : Nat} {tpos : Pos} (hg : Gl X "zip") (hm : X.mg "zip" = none) (ha : DA X [a, b] Es) (hs : starEach [a, b] X.env = (false, eval a X.env) :: starEach [b] X.env := by rfl) (hpl : (backTo pos (starEach [b] X.env)).any (·.1) = false := by rfl) :
    DI X (.Tuple tg kk tpos) (.Call (.Name "zip" p) [a, b] [] pos) (zipI Es) := by
  refine ⟨⟨fun pins s σ H R I ⟨g, ρ, μ, QD, ok, en, t, q⟩ => (RZ.pi_zipA hg hm ha.pa hs hpl).run pins s σ H R I ⟨g, ρ, μ, _, ok, en, t, fun g1 vs svs μ1 H1 x1 ok1 r1 t1 => ?_⟩⟩⟩
  split at t1
  · rename_i ds es
    obtain ⟨v, w, rfl, rv, rw'⟩ := rss2 r1
    cases rv with
    | @lst a xs _ h1 h2 =>
    cases rw' with
    | @lst b ys _ h3 h4 =>
    refine ⟨a, b, xs, ys, rfl, .inl ⟨.inl (.inl (ok1.ex _ _ h1)), .inl (.inl (ok1.ex _ _ h3)), q g1 _ _ μ1 H1 _ x1 ok1 ⟨fun g μ H x ok _ => ?_, fun g μ H i x ok _ hi => ?_, fun g μ H i d v H' x ok _ hd hy => ?_⟩ t1⟩⟩
    · refine ⟨xs, ys, .inl (.inl (ok.ex _ _ (x.le.f _ _ h1))), .inl (.inl (ok.ex _ _ (x.le.f _ _ h3))), ?_⟩
      rw [h2.length, h4.length, List.length_map, List.length_zip]; omega
    · rw [List.length_map, List.length_zip] at hi
      have hi1 : i < xs.length := by rw [h2.length]; omega
      have hi2 : i < ys.length := by rw [h4.length]; omega
      exact ⟨xs, ys, xs[i], ys[i], .inl (.inl (ok.ex _ _ (x.le.f _ _ h1))), .inl (.inl (ok.ex _ _ (x.le.f _ _ h3))), List.getElem?_eq_getElem hi1, List.getElem?_eq_getElem hi2⟩
    · obtain ⟨T, x', y', rfl, hT, rfl, f1, f2⟩ := hy
      obtain ⟨d1, d2, e1, e2, rfl⟩ := zip_get hd
      obtain ⟨w1, g1', g2'⟩ := (h2.mono x.le.f).get e1
      obtain ⟨w2, g3', g4'⟩ := (h4.mono x.le.f).get e2
      have z1 := f1 xs (.inl (.inl (ok.ex _ _ (x.le.f _ _ h1))))
      have z2 := f2 ys (.inl (.inl (ok.ex _ _ (x.le.f _ _ h3))))
      rw [g1'] at z1; cases z1
      rw [g3'] at z2; cases z2
      obtain ⟨k1, k2, k3, k4⟩ := ok.grow (.tup [x', y']) hT
      obtain ⟨k5, k6⟩ := k1.frozen k2 hT k3 k4 upd_same
      exact ⟨_, k5, k6, .tup (.inl (.inl upd_same)) (.cons (g2'.mono k6.le.f) (.one (g4'.mono k6.le.f)))⟩
  · rename_i ds es
    obtain ⟨v, w, rfl, rv, rw'⟩ := rss2 r1
    cases rv with
    | @tup a xs _ h1 h2 =>
    cases rw' with
    | @tup b ys _ h3 h4 =>
    refine ⟨a, b, xs, ys, rfl, .inr ⟨same_sqT ok1.ex h1, same_sqT ok1.ex h3, q g1 _ _ μ1 H1 _ x1 ok1 ⟨fun g μ H x ok _ => ?_, fun g μ H i x ok _ hi => ?_, fun g μ H i d v H' x ok _ hd hy => ?_⟩ t1⟩⟩
    · refine ⟨xs, ys, same_sqT ok.ex (same_sqT x.le.f h1), same_sqT ok.ex (same_sqT x.le.f h3), ?_⟩
      rw [h2.length, h4.length, List.length_map, List.length_zip]; omega
    · rw [List.length_map, List.length_zip] at hi
      have hi1 : i < xs.length := by rw [h2.length]; omega
      have hi2 : i < ys.length := by rw [h4.length]; omega
      exact ⟨xs, ys, xs[i], ys[i], same_sqT ok.ex (same_sqT x.le.f h1), same_sqT ok.ex (same_sqT x.le.f h3), List.getElem?_eq_getElem hi1, List.getElem?_eq_getElem hi2⟩
    · obtain ⟨T, x', y', rfl, hT, rfl, f1, f2⟩ := hy
      obtain ⟨d1, d2, e1, e2, rfl⟩ := zip_get hd
      obtain ⟨w1, g1', g2'⟩ := (h2.mono x.le.f).get e1
      obtain ⟨w2, g3', g4'⟩ := (h4.mono x.le.f).get e2
      have z1 := f1 xs (same_sqT ok.ex (same_sqT x.le.f h1))
      have z2 := f2 ys (same_sqT ok.ex (same_sqT x.le.f h3))
      rw [g1'] at z1; cases z1
      rw [g3'] at z2; cases z2
      obtain ⟨k1, k2, k3, k4⟩ := ok.grow (.tup [x', y']) hT
      obtain ⟨k5, k6⟩ := k1.frozen k2 hT k3 k4 upd_same
      exact ⟨_, k5, k6, .tup (.inl (.inl upd_same)) (.cons (g2'.mono k6.le.f) (.one (g4'.mono k6.le.f)))⟩
  · exact t1.elim

theorem StOk.put {K : PySem.W.Frag} {g : G} {μ : Mu} {H : Hp} {l : Nat} {a : Addr} {o : HO} {so : SO} (ok : StOk K g μ H) (ha : g.p[l]? = some a) (hs : SOk K g.F (upd H a o) a so) : StOk K g (μ.set l so) (upd H a o) ∧ Ext g H g (upd H a o) := by
  have hm : a ∈ g.p := List.mem_of_getElem? ha
  have ne : ∀ b ps, H b = some (.tbl ps) → b ≠ a := fun b ps h e => by
    subst e
    obtain ⟨j, hj, ej⟩ := List.getElem_of_mem hm
    have h1 : g.p[j]? = some b := by rw [List.getElem?_eq_getElem hj, ej]
    obtain ⟨o', h3, h4⟩ := (ok.ob j b _ h1 (List.getElem?_eq_getElem (by rw [← ok.len]; exact hj))).kind
    rw [h] at h3; cases h3
    exact h4 ps rfl
  refine ⟨⟨fun b u h => ?_, by simp [ok.len], ok.nd, ok.fr, fun j b u h1 h2 => ?_, ok.tb.1, fun y hy => ⟨(ok.tb.2 y hy).1, (ok.tb.2 y hy).2.1, (ok.tb.2 y hy).2.2.up (Same.refl _) fun o' h' => by
    rw [upd_ne (fun e => (ok.tb.2 y hy).1 (by rw [e]; exact hm))]; exact h'⟩⟩, ⟨.refl g, fun b u h1 hn h2 => ?_, fun b h => .inl h, fun b u h1 h2 _ => h2⟩⟩
  · have e : b ≠ a := fun e => by subst e; rw [ok.fr _ hm] at h; cases h
    rw [upd_ne e]; exact ok.ex b u h
  · by_cases e : l = j
    · subst e
      rw [ha] at h1
      cases h1
      obtain ⟨hj, _⟩ := List.getElem?_eq_some_iff.mp ha
      rw [List.getElem?_set_self (by rw [← ok.len]; exact hj)] at h2
      cases h2
      exact hs
    · rw [List.getElem?_set_ne e] at h2
      refine (ok.ob j b u h1 h2).up (Same.refl _) fun o' h' => ?_
      have e' : b ≠ a := fun e' => by
        subst e'
        obtain ⟨h3, h4⟩ := List.getElem?_eq_some_iff.mp ha
        obtain ⟨h5, h6⟩ := List.getElem?_eq_some_iff.mp h1
        exact e ((List.getElem_inj ok.nd).mp (h4.trans h6.symm))
      rw [upd_ne e']; exact h'
  · have e : b ≠ a := fun e => h1 (by rw [e]; exact hm)
    rw [upd_ne e]; exact h2
@[simp] def lstAt (μ : Mu) : SV → Option (Nat × List PyData)
  | .r l => match μ[l]? with
    | some (.lst ds) => some (l, ds)
    | _ => none
  | _ => none
theorem lstAt_ok {K : PySem.W.Frag} {g : G} {μ : Mu} {H : Hp} {v : V} {sv : SV} {l : Nat} {ds : List PyData} (ok : StOk K g μ H) (r : RS K g v sv) (e : lstAt μ sv = some (l, ds)) : ∃ a vs, g.p[l]? = some a ∧ v = .ref a ∧ H a = some (.lst vs) ∧ RpAll K g.F vs ds := by
  cases sv with
  | r m =>
    have e' : (match μ[m]? with
      | some (.lst ds) => some (m, ds)
      | _ => none) = some (l, ds) := e
    split at e'
    · rename_i es e1
      cases e'
      obtain ⟨a, ha, rfl⟩ := r
      obtain ⟨vs, h1, h2⟩ := ok.ob _ a _ ha e1
      exact ⟨a, vs, ha, rfl, h1, h2⟩
    · cases e'
  | _ => cases e
/-- xs.append(e) -/
def appT (Ta Te : DT) : DT := fun ρ μ Q => Ta ρ μ fun x μ1 => oP (lstAt μ1 x) fun _ => Te ρ μ1 fun y μ2 => oP (lstAt μ2 x) fun q => oP (rd μ2 y) fun _ => match y with
  | .d d => q.2.length < sizeLine ∧ Q (.d .none) (μ2.set q.1 (.lst (q.2 ++ [d])))
  | _ => False
theorem de_append {apos : Pos} (ha : DE X a Ta) (he : DE X e T) (hbase : attributeBase a "append" X.env (eval a X.env) = eval a X.env := by rfl)
    (hfew : ((backTo pos (starEach [e] X.env)).all (fun x => !x.1) && (backToKw pos (keywordEach [] X.env)).all (fun x => x.1.isSome)
      && decide (([e] : List Expr).length + ([] : List Keyword).length + (if ([] : List Keyword).isEmpty then 0 else 1) < 30)) = true := by rfl)
    (hline : (apos.endLine == pos.line) = true := by rfl) (hs : starEach [e] X.env = (false, eval e X.env) :: starEach [] X.env := by rfl) :
    DE X (.Call (.Attribute a "append" apos) [e] [] pos) (appT Ta T) :=
  ⟨(pe_bm PySem.F.plainAttrs_list PySem.F.slot_list_append PySem.F.type_list_append mt_append ha.pe (pa_cons he.pe pa_nil hs) hbase hfew hline hs rfl).weak fun σ H Q ⟨g, ρ, μ, QD, ok, en, t, q⟩ => ⟨g, ρ, μ, _, ok, en, t, fun g1 v sv μ1 H1 x1 ok1 r1 t1 => by
    obtain ⟨⟨l, ds⟩, e1, t2⟩ := t1.of
    obtain ⟨a0, vs0, ha0, rfl, h1, h2⟩ := lstAt_ok ok1 r1 e1
    refine ⟨.inl ⟨rfl, vs0, .inl (.inl h1)⟩, g1, ρ, μ1, _, ok1, en.mono x1.le, t2, fun g2 y sy μ2 H2 x2 ok2 r2 t3 => ?_⟩
    obtain ⟨⟨l2, ds2⟩, e2, t4⟩ := t3.of
    obtain ⟨_, _, t5⟩ := t4.of
    obtain ⟨a3, vs3, ha3, ea, h3, h4⟩ := lstAt_ok ok2 (r1.mono x2.le) e2
    cases ea
    cases sy with
    | d d =>
      obtain ⟨hz, t6⟩ := t5
      refine ⟨a0, vs3, y, rfl, rfl, h3, by rw [h4.length]; exact hz, ?_⟩
      obtain ⟨k1, k2⟩ := ok2.put (o := .lst (vs3 ++ [y])) (so := .lst (ds2 ++ [d])) ha3 ⟨_, upd_same, h4.append (.one r2)⟩
      exact q g2 .non (.d .none) _ _ ((x1.trans x2).trans k2) k1 Rp.non t6
    | _ => exact t5.elim⟩⟩
/-- xs.pop(i) -/
def popT (Ta Te : DT) : DT := fun ρ μ Q => Ta ρ μ fun x μ1 => oP (lstAt μ1 x) fun _ => Te ρ μ1 fun y μ2 => oP (lstAt μ2 x) fun q => match y with
  | .d (.int i) => (-(2 ^ 63) ≤ i ∧ i < 2 ^ 63) ∧ oP (seqIndex? i q.2.length) fun k => oP (q.2[k]?) fun z => Q (.d z) (μ2.set q.1 (.lst (q.2.eraseIdx k)))
  | _ => False
theorem de_pop {apos : Pos} (ha : DE X a Ta) (he : DE X e T) (hbase : attributeBase a "pop" X.env (eval a X.env) = eval a X.env := by rfl)
    (hfew : ((backTo pos (starEach [e] X.env)).all (fun x => !x.1) && (backToKw pos (keywordEach [] X.env)).all (fun x => x.1.isSome)
      && decide (([e] : List Expr).length + ([] : List Keyword).length + (if ([] : List Keyword).isEmpty then 0 else 1) < 30)) = true := by rfl)
    (hline : (apos.endLine == pos.line) = true := by rfl) (hs : starEach [e] X.env = (false, eval e X.env) :: starEach [] X.env := by rfl) :
    DE X (.Call (.Attribute a "pop" apos) [e] [] pos) (popT Ta T) :=
  ⟨(pe_bm PySem.F.plainAttrs_list PySem.F.slot_list_pop PySem.F.type_list_pop mt_popAt ha.pe (pa_cons he.pe pa_nil hs) hbase hfew hline hs rfl).weak fun σ H Q ⟨g, ρ, μ, QD, ok, en, t, q⟩ => ⟨g, ρ, μ, _, ok, en, t, fun g1 v sv μ1 H1 x1 ok1 r1 t1 => by
    obtain ⟨⟨l, ds⟩, e1, t2⟩ := t1.of
    obtain ⟨a0, vs0, ha0, rfl, h1, h2⟩ := lstAt_ok ok1 r1 e1
    refine ⟨.inl ⟨rfl, vs0, .inl (.inl h1)⟩, g1, ρ, μ1, _, ok1, en.mono x1.le, t2, fun g2 y sy μ2 H2 x2 ok2 r2 t3 => ?_⟩
    obtain ⟨⟨l2, ds2⟩, e2, t4⟩ := t3.of
    obtain ⟨a3, vs3, ha3, ea, h3, h4⟩ := lstAt_ok ok2 (r1.mono x2.le) e2
    cases ea
    cases sy with
    | d d =>
      cases d with
      | int i =>
        obtain ⟨⟨b1, b2⟩, t5⟩ := t4
        obtain ⟨k, e3, t6⟩ := t5.of
        obtain ⟨z, e4, t7⟩ := t6.of
        cases rp_int r2
        obtain ⟨w, h5, h6⟩ := h4.get e4
        refine ⟨a0, vs3, i, k, w, rfl, rfl, h3, b1, b2, by rw [h4.length]; exact e3, h5, ?_⟩
        obtain ⟨k1, k2⟩ := ok2.put (o := .lst (vs3.eraseIdx k)) (so := .lst (ds2.eraseIdx k)) ha3 ⟨_, upd_same, h4.eraseIdx k⟩
        exact q g2 w (.d z) _ _ ((x1.trans x2).trans k2) k1 h6 t7
      | _ => exact t4.elim
    | _ => exact t4.elim⟩⟩
/-- in its place, or at the end -/
def putD (kvs : List (Key × PyData)) (k : Key) (d : PyData) : List (Key × PyData) :=
  if (kvs.any fun p => decide (p.1 = k)) = true then kvs.map (fun p => if p.1 = k then (p.1, d) else p) else kvs ++ [(k, d)]
theorem kv_any {K : PySem.W.Frag} {H : Hp} (k : Key) : ∀ {ws : List (Key × V)} {kvs : List (Key × PyData)}, KvOk K H ws kvs → (ws.any fun p => decide (p.1 = k)) = kvs.any fun p => decide (p.1 = k)
  | _, _, .nil => rfl
  | _ :: _, _ :: _, .cons ⟨e, _⟩ t => by rw [List.any_cons, List.any_cons, e, kv_any k t]
theorem kv_map {K : PySem.W.Frag} {H : Hp} (k : Key) {v : V} {d : PyData} (h : Rp K H v d) : ∀ {ws : List (Key × V)} {kvs : List (Key × PyData)}, KvOk K H ws kvs → KvOk K H (ws.map fun p => if p.1 = k then (p.1, v) else p) (kvs.map fun p => if p.1 = k then (p.1, d) else p)
  | _, _, .nil => .nil
  | p :: _, q :: _, .cons ⟨e, r⟩ t => by
    rw [List.map_cons, List.map_cons]
    refine .cons ?_ (kv_map k h t)
    by_cases c : p.1 = k
    · rw [if_pos c, if_pos (e ▸ c)]; exact ⟨e, h⟩
    · rw [if_neg c, if_neg (e ▸ c)]; exact ⟨e, r⟩
theorem kv_app {K : PySem.W.Frag} {H : Hp} {ws2 : List (Key × V)} {kvs2 : List (Key × PyData)} (h2 : KvOk K H ws2 kvs2) : ∀ {ws : List (Key × V)} {kvs : List (Key × PyData)}, KvOk K H ws kvs → KvOk K H (ws ++ ws2) (kvs ++ kvs2)
  | _, _, .nil => h2
  | _ :: _, _ :: _, .cons h t => .cons h (kv_app h2 t)
theorem kv_put {K : PySem.W.Frag} {H : Hp} (k : Key) {v : V} {d : PyData} {ws : List (Key × V)} {kvs : List (Key × PyData)} (h : KvOk K H ws kvs) (r : Rp K H v d) : KvOk K H (putK ws k v) (putD kvs k d) := by
  unfold putK putD
  rw [kv_any k h]
  split
  · exact kv_map k r h
  · exact kv_app (.cons ⟨rfl, r⟩ .nil) h
/-- x[i] = d, x a place of the store -/
@[simp] def stD (μ : Mu) (x i : SV) (d : PyData) : Option Mu := match x with
  | .r l => match μ[l]? with
    | some (.lst ds) => match i with
      | .d (.int k) => (ixN ds.length k).map fun j => μ.set l (.lst (ds.set j d))
      | _ => none
    | some (.dct kvs) => match i with
      | .d di => (keyOf di).bind fun k => if decide (kvs.length < 16777216) = true then some (μ.set l (.dct (putD kvs k d))) else none
      | _ => none
    | _ => none
  | _ => none
def LSt (K : PySem.W.Frag) : V → V → V → Hp → (Hp → Prop) → Prop := fun o i v H Q => ∃ (g : G) (μ : Mu) (so si : SV) (d : PyData) (QD : Mu → Prop), StOk K g μ H ∧ RS K g o so ∧ RS K g i si ∧ Rp K g.F v d ∧ oP (stD μ so si d) QD ∧ ∀ μ' H', Ext g H g H' → StOk K g μ' H' → QD μ' → Q H'
theorem do_st (hu : X.A.units + 1 < cLine) : PSet X (LSt X.K) := by
  intro pins s σ H o i v ov iv u Q I ro ri rv ⟨g, μ, so, si, d, QD, ok, r1, r2, r3, t, q⟩
  obtain ⟨μ', e, t⟩ := t.of
  cases so with
  | r l =>
    obtain ⟨a, ha, rfl⟩ := r1
    unfold stD at e
    dsimp only at e
    have e' := e
    clear e
    split at e'
    · rename_i ds e1
      obtain ⟨vs, h1, h2⟩ := ok.ob l a _ ha e1
      split at e'
      · rename_i k
        cases e2 : ixN ds.length k with
        | none => rw [e2] at e'; cases e'
        | some j =>
          rw [e2] at e'
          cases e'
          obtain ⟨k1, k2⟩ := ok.put (o := .lst (vs.set j v)) (so := .lst (ds.set j d)) ha ⟨_, upd_same, h2.set r3 j⟩
          exact set_list pins s σ H _ i v ov iv u Q I ro ri rv ⟨a, vs, k, j, rfl, rp_int (K := X.K) (H := g.F) r2, h1, by rw [h2.length]; exact e2, q _ _ k2 k1 t⟩
      · cases e'
    · rename_i kvs e1
      obtain ⟨ws, h1, h2⟩ := ok.ob l a _ ha e1
      split at e'
      · rename_i di
        cases e2 : keyOf di with
        | none => rw [e2] at e'; cases e'
        | some k =>
          rw [e2] at e'
          have e' : (if decide (kvs.length < 16777216) = true then some (μ.set l (.dct (putD kvs k d))) else none) = some μ' := e'
          split at e'
          · rename_i hz
            cases e'
            cases rp_key (K := X.K) (H := g.F) r2 e2
            cases (show ov = Value.ref a from ro)
            obtain ⟨k1, k2⟩ := ok.put (o := .dK (putK ws k v)) (so := .dct (putD kvs k d)) ha ⟨_, upd_same, kv_put k h2 r3⟩
            have hl : ws.length < sizeLine := by
              rw [Paired.length h2, sizeLine_eq]; exact of_decide_eq_true hz
            exact d_setItem hu I (DPut.k h1 hl) ri rv fun s' I' => ⟨_, I', q _ _ k2 k1 t⟩
          · cases e'
      · cases e'
    · cases e'
  | _ => cases e
def setixS (T Ta Ti : DT) : DTS := fun DD ρ μ => T ρ μ fun y μ1 => Ta ρ μ1 fun x μ2 => Ti ρ μ2 fun i μ3 => match y with
  | .d d => oP (stD μ3 x i d) fun μ4 => DD.nx ρ μ4
  | _ => False
theorem ds_setix {p2 : Pos} (hu : X.A.units + 1 < cLine) (he : DE X e T) (ha : DE X a Ta) (hb : DE X b Tb) (hs : swapsWithSole [.Subscript a b p2] e pos.line X.env = pure false := by rfl) (hw : swappedStores [.Subscript a b p2] e X.env = pure none := by rfl)
    (h1 : (assignEach [.Subscript a b p2] X.env).map (·.2) = [assign (.Subscript a b p2) X.env] := by rfl)
    (h2 : ∀ v, assign (.Subscript a b p2) X.env v = (do
      let ov ← holding [v] (eval a X.env)
      let iv ← holding [v, ov] (eval b X.env)
      standAt p2
      holding [v, ov, iv] (setItem ov iv v)
      release [v, ov, iv] []) := by intro _; rfl) : DS X (.Assign [.Subscript a b p2] e pos) (setixS T Ta Tb) :=
  ⟨(ps_asg he.pe (pg_sub ha.pe hb.pe (do_st hu) h2) hs hw h1).weak fun D σ H ⟨g, ρ, μ, DD, ok, en, t, w⟩ => ⟨g, ρ, μ, _, ok, en, t, fun g1 v sv μ1 H1 x1 ok1 r1 t1 => ⟨g1, ρ, μ1, _, ok1, en.mono x1.le, t1, fun g2 o so μ2 H2 x2 ok2 r2 t2 =>
    ⟨g2, ρ, μ2, _, ok2, (en.mono x1.le).mono x2.le, t2, fun g3 i si μ3 H3 x3 ok3 r3 t3 => by
      cases sv with
      | d d =>
        refine ⟨g3, μ3, so, si, d, _, ok3, r2.mono x3.le, r3, Rp.mono x3.le.f (Rp.mono x2.le.f r1), t3, fun μ4 H4 x4 ok4 q4 => ?_⟩
        have x := ((x1.trans x2).trans x3).trans x4
        exact w.nx g3 ρ _ σ _ x ok4 (en.mono x.le) q4
      | _ => exact t3.elim⟩⟩⟩⟩
/-- {}, a dict of ints and texts as keys -/
def dctN : DTN := fun _ μ Q => Q (.dct []) μ
theorem dn_dct : DN X (.Dict [] [] pos) dctN := ⟨pe_dnewK.weak fun σ H Q ⟨g, ρ, μ, QD, ok, en, t, q⟩ => fun p hp => by
  obtain ⟨k1, k2, k3, k4⟩ := ok.grow (.dK []) hp
  exact q _ p (.dct []) μ _ k2 k1 hp k3 k4 ⟨[], upd_same, .nil⟩ t⟩
/-- dict(d) -/
@[simp] def dictN (μ : Mu) : List SV → Option SO
  | [x] => (dcAt μ x).map fun kvs => .dct kvs
  | _ => none
theorem dc_dict : CallR X (.type "dict") (LCN X.K dictN) := by
  intro pins s σ H xs us Q I r ⟨g, μ, svs, QD, ok, r1, t, q⟩
  obtain ⟨z, e, t⟩ := t.of
  unfold dictN at e
  split at e
  · rename_i x
    obtain ⟨v, rfl, rv⟩ := rss1 r1
    cases hd : dcAt μ x with
    | none => rw [hd] at e; cases e
    | some kvs =>
      rw [hd] at e
      cases e
      obtain ⟨a, ws, rfl, h1, h2⟩ := rv.dct ok hd
      cases r with
      | cons ru rt =>
      cases rt
      rename_i u
      cases (show u = Value.ref a from ru)
      refine d_copyOf I (.inl h1) fun p s' hp I' => ⟨.ref p, _, I', rfl, ?_⟩
      obtain ⟨k1, k2, k3, k4⟩ := ok.grow (.dK ws) hp
      exact q _ p (.dct kvs) _ k2 k1 hp k3 k4 ⟨ws, upd_same, h2⟩ t
  · cases e
/-- d.get(k), d.get(k, x) -/
def dget1T (Ta Tb : DT) : DT := fun ρ μ Q => Ta ρ μ fun x μ1 => oP (dcAt μ1 x) fun _ => Tb ρ μ1 fun y μ2 => match y with
  | .d dy => oP (keyOf dy) fun k => oP (dcAt μ2 x) fun kvs => Q (.d ((assocK kvs k).getD .none)) μ2
  | _ => False
def dget2T (Ta Tb Tc : DT) : DT := fun ρ μ Q => Ta ρ μ fun x μ1 => oP (dcAt μ1 x) fun _ => Tb ρ μ1 fun y μ2 => Tc ρ μ2 fun z μ3 => match y with
  | .d dy => oP (keyOf dy) fun k => oP (dcAt μ3 x) fun kvs => match assocK kvs k with
    | some d => Q (.d d) μ3
    | none => Q z μ3
  | _ => False
theorem kv_got {K : PySem.W.Frag} {H : Hp} {ws : List (Key × V)} {kvs : List (Key × PyData)} (h : KvOk K H ws kvs) (k : Key) : (assocK kvs k = none ∧ valV ws k = none) ∨ ∃ d v, assocK kvs k = some d ∧ valV ws k = some v ∧ Rp K H v d := by
  obtain ⟨h1, h2⟩ := kv_at k h
  cases e : assocK kvs k with
  | none =>
    rw [e] at h1
    refine .inl ⟨rfl, ?_⟩
    cases e2 : valV ws k with
    | none => rfl
    | some v => rw [e2] at h1; cases h1
  | some d =>
    obtain ⟨v, h3, h4⟩ := h2 d e
    exact .inr ⟨d, v, rfl, h3, h4⟩
theorem de_dget1 {apos : Pos} (hu : X.A.units + 1 < cLine) (ha : DE X a Ta) (hb : DE X b Tb) (hbase : attributeBase a "get" X.env (eval a X.env) = eval a X.env := by rfl)
    (hfew : ((backTo pos (starEach [b] X.env)).all (fun x => !x.1) && (backToKw pos (keywordEach [] X.env)).all (fun x => x.1.isSome)
      && decide (([b] : List Expr).length + ([] : List Keyword).length + (if ([] : List Keyword).isEmpty then 0 else 1) < 30)) = true := by rfl)
    (hline : (apos.endLine == pos.line) = true := by rfl) (hs : backTo pos (starEach [b] X.env) = [(false, eval b X.env)] := by rfl) : DE X (.Call (.Attribute a "get" apos) [b] [] pos) (dget1T Ta Tb) :=
  ⟨(pe_dget1 hu ha.pe hb.pe ⟨hbase, hfew, hline, hs⟩).weak fun σ H Q ⟨g, ρ, μ, QD, ok, en, t, q⟩ => ⟨g, ρ, μ, _, ok, en, t, fun g1 v sv μ1 H1 x1 ok1 r1 t1 => by
    obtain ⟨kv1, e1, t2⟩ := t1.of
    obtain ⟨a0, ws1, rfl, h1, h2⟩ := r1.dct ok1 e1
    refine ⟨a0, rfl, .inl ⟨ws1, .inl h1⟩, g1, ρ, μ1, _, ok1, en.mono x1.le, t2, fun g2 y sy μ2 H2 x2 ok2 r2 t3 => ?_⟩
    cases sy with
    | d dy =>
      obtain ⟨k, e2, t3⟩ := t3.of
      obtain ⟨kvs, e3, t3⟩ := t3.of
      obtain ⟨a1, ws, ea, h3, h4⟩ := (r1.mono x2.le).dct ok2 e3
      cases ea
      cases rp_key (K := X.K) (H := g2.F) r2 e2
      refine ⟨_, DGet.k h3, ?_⟩
      rcases kv_got h4 k with ⟨e4, e5⟩ | ⟨d, v, e4, e5, r5⟩
      · rw [e4] at t3; rw [e5]
        exact q _ .non (.d .none) _ _ (x1.trans x2) ok2 Rp.non t3
      · rw [e4] at t3; rw [e5]
        exact q _ v (.d d) _ _ (x1.trans x2) ok2 r5 t3
    | _ => exact t3.elim⟩⟩
theorem de_dget2 {apos : Pos} (hu : X.A.units + 1 < cLine) (ha : DE X a Ta) (hb : DE X b Tb) (hc : DE X c Tc) (hbase : attributeBase a "get" X.env (eval a X.env) = eval a X.env := by rfl)
    (hfew : ((backTo pos (starEach [b, c] X.env)).all (fun x => !x.1) && (backToKw pos (keywordEach [] X.env)).all (fun x => x.1.isSome)
      && decide (([b, c] : List Expr).length + ([] : List Keyword).length + (if ([] : List Keyword).isEmpty then 0 else 1) < 30)) = true := by rfl)
    (hline : (apos.endLine == pos.line) = true := by rfl) (hs : backTo pos (starEach [b, c] X.env) = [(false, eval b X.env), (false, eval c X.env)] := by rfl) : DE X (.Call (.Attribute a "get" apos) [b, c] [] pos) (dget2T Ta Tb Tc) :=
  ⟨(pe_dget2 hu ha.pe hb.pe hc.pe ⟨hbase, hfew, hline, hs⟩).weak fun σ H Q ⟨g, ρ, μ, QD, ok, en, t, q⟩ => ⟨g, ρ, μ, _, ok, en, t, fun g1 v sv μ1 H1 x1 ok1 r1 t1 => by
    obtain ⟨kv1, e1, t2⟩ := t1.of
    obtain ⟨a0, ws1, rfl, h1, h2⟩ := r1.dct ok1 e1
    refine ⟨a0, rfl, .inl ⟨ws1, .inl h1⟩, g1, ρ, μ1, _, ok1, en.mono x1.le, t2, fun g2 y sy μ2 H2 x2 ok2 r2 t3 => ?_⟩
    refine ⟨g2, ρ, μ2, _, ok2, (en.mono x1.le).mono x2.le, t3, fun g3 z sz μ3 H3 x3 ok3 r3 t4 => ?_⟩
    cases sy with
    | d dy =>
      obtain ⟨k, e2, t4⟩ := t4.of
      obtain ⟨kvs, e3, t4⟩ := t4.of
      obtain ⟨a1, ws, ea, h3, h4⟩ := ((r1.mono x2.le).mono x3.le).dct ok3 e3
      cases ea
      cases rp_key (K := X.K) (H := g2.F) r2 e2
      refine ⟨_, DGet.k h3, ?_⟩
      rcases kv_got h4 k with ⟨e4, e5⟩ | ⟨d, v, e4, e5, r5⟩
      · rw [e4] at t4; rw [e5]
        exact q _ z sz _ _ ((x1.trans x2).trans x3) ok3 r3 t4
      · rw [e4] at t4; rw [e5]
        exact q _ v (.d d) _ _ ((x1.trans x2).trans x3) ok3 r5 t4
    | _ => exact t4.elim⟩⟩
/-- a global constant -/
theorem de_glob {x : Str} {v : V} {u : Value} {z : PyData} (hg : Gl X x) (hm : X.mg x = some u) (r : RelV v u) (rp : Rp X.K (fun _ => none) v z) (hd : (x == ("__debug__" : Str)) = false := by decide) : DE X (.Name x pos) (cT z) :=
  de_c (pe_glob hg hm r hd) fun F => rp.mono (by intro a o h; cases h)
end
end J
namespace J
open PySem PySem.Spec PyProof.Rows L2
variable [Tb]
theorem hu64 {k : Nat} {A : Around} (r : Room k A) : A.units + 64 < cLine := r.units
theorem hu1 {k : Nat} {A : Around} (r : Room k A) : A.units + 1 < cLine := by have := r.un; omega
theorem hu65 {k : Nat} {A : Around} (r : Room k A) : A.units + 65 < cLine := by have := r.un; omega
def GC (K : PySem.W.Frag) (mg : Str → Option Value) (x : Str) (z : PyData) : Prop := ∃ v u, mg x = some u ∧ RelV v u ∧ Rp K (fun _ => none) v z
def FnAt (K : PySem.W.Frag) (mg : Str → Option Value) (x : Str) (st : Stmt) : Prop := ∃ f fd, Fun K x x st f fd ∧ mg x = some (.ref f)
section
variable {X : Cx} {a e : Expr} {pos : Pos} {Ta T : DT}
theorem de_globE {x : Str} {z : PyData} (hg : Gl X x) (h : GC X.K X.mg x z) (hd : (x == ("__debug__" : Str)) = false := by decide) : DE X (.Name x pos) (cT z) := by
  obtain ⟨v, u, h1, h2, h3⟩ := h
  exact de_glob hg h1 h2 h3 hd
/-- is True, is False -/
@[simp] def isB (k : Bool) : SV → Bool
  | .d (.bool b) => b == k
  | _ => false
def isbT (k : Bool) (Ta : DT) : DT := fun ρ μ Q => Ta ρ μ fun x μ1 => Q (.d (.bool (isB k x))) μ1
def nobT (k : Bool) (Ta : DT) : DT := fun ρ μ Q => Ta ρ μ fun x μ1 => Q (.d (.bool (!isB k x))) μ1
def rIsK (k : Bool) : R2 := fun x y H Q => y = .bl k ∧ Q (.bl (decide (x = .bl k))) H
def rNotK (k : Bool) : R2 := fun x y H Q => y = .bl k ∧ Q (.bl (!decide (x = .bl k))) H
theorem op_isK {k : Bool} : OpR X (compareOp .Is) (rIsK k) := by
  intro pins s σ H x y v u Q I rx ry ⟨e, q⟩
  subst e
  cases (show u = Value.bool k from ry)
  by_cases c : x = .bl k
  · subst c
    cases (show v = Value.bool k from rx)
    exact wpAny_is_self rfl ⟨.bl true, H, I, rfl, by simpa using q⟩
  · have hne : v ≠ Value.bool k := fun z => by
      subst z
      exact c (RelV.inj rx (show RelV (.bl k) (Value.bool k) from rfl))
    have q' : Q (.bl false) H := by rw [decide_eq_false c] at q; exact q
    cases x with
    | non => cases rx; exact wpAny_is_other rfl hne ⟨.bl false, H, I, rfl, q'⟩
    | bl b => cases rx; exact wpAny_is_other rfl hne ⟨.bl false, H, I, rfl, q'⟩
    | int i => obtain ⟨t, rfl⟩ := rx; exact wpAny_is_other rfl hne ⟨.bl false, H, I, rfl, q'⟩
    | str z => obtain ⟨t, rfl⟩ := rx; exact wpAny_is_other rfl hne ⟨.bl false, H, I, rfl, q'⟩
    | byt z => obtain ⟨t, rfl⟩ := rx; exact wpAny_is_other rfl hne ⟨.bl false, H, I, rfl, q'⟩
    | flt z => obtain ⟨t, rfl⟩ := rx; exact wpAny_is_other rfl hne ⟨.bl false, H, I, rfl, q'⟩
    | ref z => cases rx; exact wpAny_is_other rfl hne ⟨.bl false, H, I, rfl, q'⟩
    | ty z => cases rx; exact wpAny_is_other rfl hne ⟨.bl false, H, I, rfl, q'⟩
theorem op_notK {k : Bool} : OpR X (compareOp .IsNot) (rNotK k) := by
  intro pins s σ H x y v u Q I rx ry ⟨e, q⟩
  subst e
  cases (show u = Value.bool k from ry)
  by_cases c : x = .bl k
  · subst c
    cases (show v = Value.bool k from rx)
    exact wpAny_isNot_self rfl ⟨.bl false, H, I, rfl, by simpa using q⟩
  · have hne : v ≠ Value.bool k := fun z => by
      subst z
      exact c (RelV.inj rx (show RelV (.bl k) (Value.bool k) from rfl))
    have q' : Q (.bl true) H := by rw [decide_eq_false c] at q; exact q
    cases x with
    | non => cases rx; exact wpAny_isNot_other rfl hne ⟨.bl true, H, I, rfl, q'⟩
    | bl b => cases rx; exact wpAny_isNot_other rfl hne ⟨.bl true, H, I, rfl, q'⟩
    | int i => obtain ⟨t, rfl⟩ := rx; exact wpAny_isNot_other rfl hne ⟨.bl true, H, I, rfl, q'⟩
    | str z => obtain ⟨t, rfl⟩ := rx; exact wpAny_isNot_other rfl hne ⟨.bl true, H, I, rfl, q'⟩
    | byt z => obtain ⟨t, rfl⟩ := rx; exact wpAny_isNot_other rfl hne ⟨.bl true, H, I, rfl, q'⟩
    | flt z => obtain ⟨t, rfl⟩ := rx; exact wpAny_isNot_other rfl hne ⟨.bl true, H, I, rfl, q'⟩
    | ref z => cases rx; exact wpAny_isNot_other rfl hne ⟨.bl true, H, I, rfl, q'⟩
    | ty z => cases rx; exact wpAny_isNot_other rfl hne ⟨.bl true, H, I, rfl, q'⟩
theorem RS.isB {K : PySem.W.Frag} {g : G} {v : V} {sv : SV} {k : Bool} (r : RS K g v sv) : decide (v = .bl k) = isB k sv := by
  cases sv with
  | d x =>
    cases r <;> first | rfl | (rename_i b; by_cases c : b = k <;> simp [J.isB, c])
  | r l => obtain ⟨a, _, rfl⟩ := r; rfl
  | scr ns => obtain ⟨a, rfl, _⟩ := r; rfl
  | x k => obtain ⟨a, rfl⟩ := XV.ref (K := K) r; rfl
theorem de_isB {k : Bool} {j pos'} (ha : DE X a Ta) : DE X (.Compare a [.Is] [.Constant (.bool k) j pos'] pos) (isbT k Ta) :=
  ⟨(pe_cmpR op_isK ha.pe (pe_bl (b := k)) (nomark _)).weak fun σ H Q ⟨g, ρ, μ, QD, ok, en, t, q⟩ => ⟨g, ρ, μ, _, ok, en, t, fun g1 v sv μ1 H1 x1 ok1 r1 t1 => ⟨rfl, by
    rw [r1.isB]; exact q g1 _ (.d (.bool _)) μ1 H1 x1 ok1 (.bl _) t1⟩⟩⟩
theorem de_notB {k : Bool} {j pos'} (ha : DE X a Ta) : DE X (.Compare a [.IsNot] [.Constant (.bool k) j pos'] pos) (nobT k Ta) :=
  ⟨(pe_cmpR op_notK ha.pe (pe_bl (b := k)) (nomark _)).weak fun σ H Q ⟨g, ρ, μ, QD, ok, en, t, q⟩ => ⟨g, ρ, μ, _, ok, en, t, fun g1 v sv μ1 H1 x1 ok1 r1 t1 => ⟨rfl, by
    rw [r1.isB]; exact q g1 _ (.d (.bool _)) μ1 H1 x1 ok1 (.bl _) t1⟩⟩⟩
theorem db_isB {k : Bool} {j pos'} (ha : DE X a Ta) : DB X (.Compare a [.Is] [.Constant (.bool k) j pos'] pos) (bT (isbT k Ta)) :=
  ⟨(pt_cmpR op_isK ha.pe (pe_bl (b := k)) (nomark _)).weak fun σ H Q ⟨g, ρ, μ, QD, ok, en, t, q⟩ => ⟨g, ρ, μ, _, ok, en, t, fun g1 v sv μ1 H1 x1 ok1 r1 t1 => ⟨rfl, by
    rw [r1.isB]; exact ⟨_, rfl, q g1 _ μ1 H1 x1 ok1 t1⟩⟩⟩⟩
theorem db_notB {k : Bool} {j pos'} (ha : DE X a Ta) : DB X (.Compare a [.IsNot] [.Constant (.bool k) j pos'] pos) (bT (nobT k Ta)) :=
  ⟨(pt_cmpR op_notK ha.pe (pe_bl (b := k)) (nomark _)).weak fun σ H Q ⟨g, ρ, μ, QD, ok, en, t, q⟩ => ⟨g, ρ, μ, _, ok, en, t, fun g1 v sv μ1 H1 x1 ok1 r1 t1 => ⟨rfl, by
    rw [r1.isB]; exact ⟨_, rfl, q g1 _ μ1 H1 x1 ok1 t1⟩⟩⟩⟩
end
theorem bi_len : bootBuiltins "len" = some (.builtin "len") := by decide +kernel
theorem bi_all : bootBuiltins "all" = some (.builtin "all") := by decide +kernel
theorem bi_any : bootBuiltins "any" = some (.builtin "any") := by decide +kernel
theorem bi_abs : bootBuiltins "abs" = some (.builtin "abs") := by decide +kernel
theorem bi_min : bootBuiltins "min" = some (.builtin "min") := by decide +kernel
theorem bi_max : bootBuiltins "max" = some (.builtin "max") := by decide +kernel
theorem bi_sorted : bootBuiltins "sorted" = some (.builtin "sorted") := by decide +kernel
theorem bi_tuple : bootBuiltins "tuple" = some (.type "tuple") := by decide +kernel
theorem bi_list : bootBuiltins "list" = some (.type "list") := by decide +kernel
theorem bi_str : bootBuiltins "str" = some (.type "str") := by decide +kernel
theorem bi_int : bootBuiltins "int" = some (.type "int") := by decide +kernel
theorem bi_bool : bootBuiltins "bool" = some (.type "bool") := by decide +kernel
theorem bi_dict : bootBuiltins "dict" = some (.type "dict") := by decide +kernel
theorem bi_set : bootBuiltins "set" = some (.type "set") := by decide +kernel
end J
namespace J
open PySem PySem.Spec PyProof.Rows L2
variable [Tb]
def ltS (a b : Str) : Bool := decide (a.cps.toList < b.cps.toList)
theorem ltS_iff {a b : Str} : ltS a b = true ↔ a.cps.toList < b.cps.toList := decide_eq_true_iff
theorem str_ext {a b : Str} (h : a.cps.toList = b.cps.toList) : a = b := by
  obtain ⟨x⟩ := a
  obtain ⟨y⟩ := b
  have e : x = y := by
    have := congrArg List.toArray h
    simpa using this
  rw [e]
theorem ltS_irr (a : Str) : ltS a a = false := by
  unfold ltS; simp
theorem ltS_trans {a b c : Str} (h : ltS a b = true) (h' : ltS b c = true) : ltS a c = true := ltS_iff.mpr (List.lt_trans (ltS_iff.mp h) (ltS_iff.mp h'))
theorem ltS_tri {a b : Str} (h : ltS a b = false) (h' : ltS b a = false) : a = b := by
  have h1 : ¬ a.cps.toList < b.cps.toList := of_decide_eq_false h
  have h2 : ¬ b.cps.toList < a.cps.toList := of_decide_eq_false h'
  exact str_ext (List.le_antisymm (List.not_lt.mp h2) (List.not_lt.mp h1))
/-- strictly rising -/
def StrictS (l : List Str) : Prop := l.Pairwise fun a b => ltS a b = true
theorem strict_uniq : ∀ {l m : List Str}, StrictS l → StrictS m → (∀ x, x ∈ l ↔ x ∈ m) → l = m
  | [], [], _, _, _ => rfl
  | [], b :: m, _, _, h => by have := (h b).mpr List.mem_cons_self; simp at this
  | a :: l, [], _, _, h => by have := (h a).mp List.mem_cons_self; simp at this
  | a :: l, b :: m, p, q, h => by
    obtain ⟨p1, p2⟩ := List.pairwise_cons.mp p
    obtain ⟨q1, q2⟩ := List.pairwise_cons.mp q
    have e : a = b := by
      rcases List.mem_cons.mp ((h a).mp List.mem_cons_self) with z | z
      · exact z
      · rcases List.mem_cons.mp ((h b).mpr List.mem_cons_self) with y | y
        · exact y.symm
        · have := ltS_trans (p1 b y) (q1 a z)
          rw [ltS_irr] at this; cases this
    subst e
    have hn : ∀ x, x ∈ l ↔ x ∈ m := fun x => by
      constructor
      · intro z
        rcases List.mem_cons.mp ((h x).mp (List.mem_cons_of_mem _ z)) with y | y
        · subst y; have := p1 x z; rw [ltS_irr] at this; cases this
        · exact y
      · intro z
        rcases List.mem_cons.mp ((h x).mpr (List.mem_cons_of_mem _ z)) with y | y
        · subst y; have := q1 x z; rw [ltS_irr] at this; cases this
        · exact y
    rw [strict_uniq p2 q2 hn]
def insS (x : Str) : List Str → List Str
  | [] => [x]
  | y :: r => if x = y then y :: r else if ltS x y = true then x :: y :: r else y :: insS x r
def sortSet (xs : List Str) : List Str := xs.foldr insS []
theorem mem_ins {x y : Str} : ∀ {l : List Str}, y ∈ insS x l ↔ y = x ∨ y ∈ l
  | [] => by simp [insS]
  | z :: r => by
    unfold insS
    split
    · rename_i e; subst e; simp
    · split
      · simp
      · simp [mem_ins (l := r)]; constructor <;> (rintro (h | h | h) <;> simp [h])
theorem mem_sortSet {y : Str} : ∀ {xs : List Str}, y ∈ sortSet xs ↔ y ∈ xs
  | [] => by simp [sortSet]
  | x :: r => by
    show y ∈ insS x (sortSet r) ↔ _
    rw [mem_ins, mem_sortSet (xs := r), List.mem_cons]
theorem strict_ins {x : Str} : ∀ {l : List Str}, StrictS l → StrictS (insS x l)
  | [], _ => by unfold insS StrictS; simp
  | y :: r, p => by
    obtain ⟨p1, p2⟩ := List.pairwise_cons.mp p
    unfold insS
    split
    · exact p
    · rename_i ne
      split
      · rename_i h
        refine List.pairwise_cons.mpr ⟨fun z hz => ?_, p⟩
        rcases List.mem_cons.mp hz with e | hz
        · rw [e]; exact h
        · exact ltS_trans h (p1 z hz)
      · rename_i h
        refine List.pairwise_cons.mpr ⟨fun z hz => ?_, strict_ins p2⟩
        rcases mem_ins.mp hz with e | hz
        · subst e
          cases q : ltS y z with
          | true => rfl
          | false => exact absurd (ltS_tri (by simpa using h) q) ne
        · exact p1 z hz
theorem strict_sortSet : ∀ xs : List Str, StrictS (sortSet xs)
  | [] => List.Pairwise.nil
  | x :: r => strict_ins (strict_sortSet r)
theorem sortSet_congr {a b : List Str} (h : ∀ x, x ∈ a ↔ x ∈ b) : sortSet a = sortSet b := strict_uniq (strict_sortSet a) (strict_sortSet b) fun x => by rw [mem_sortSet, mem_sortSet, h x]
theorem sortSet_of_strict {a : List Str} (h : StrictS a) : sortSet a = a := strict_uniq (strict_sortSet a) h fun x => mem_sortSet
theorem ins_len {x : Str} : ∀ {l : List Str}, (insS x l).length ≤ l.length + 1
  | [] => by simp [insS]
  | y :: r => by
    unfold insS
    split
    · simp
    · split
      · simp
      · have := ins_len (x := x) (l := r); simp; omega
theorem sortSet_len : ∀ {xs : List Str}, (sortSet xs).length ≤ xs.length
  | [] => Nat.le_refl _
  | x :: r => by
    have h1 := ins_len (x := x) (l := sortSet r)
    have h2 := sortSet_len (xs := r)
    show (insS x (sortSet r)).length ≤ r.length + 1
    omega
theorem pw_rising : ∀ (p : Str) (l : List Str), risingS p l = true → (p :: l).Pairwise fun a b => ltS b a = false
  | p, [], _ => by simp
  | p, x :: r, h => by
    have h' : (!ltCps x.cps.toList p.cps.toList && risingS x r) = true := h
    rw [Bool.and_eq_true, Bool.not_eq_true', ltCps_eq] at h'
    have ih := pw_rising x r h'.2
    refine List.pairwise_cons.mpr ⟨fun y hy => ?_, ih⟩
    rcases List.mem_cons.mp hy with e | hy
    · rw [e]; exact h'.1
    · have h2 := (List.pairwise_cons.mp ih).1 y hy
      cases q : ltS y p with
      | false => rfl
      | true =>
        -- y < p, not x < p, not y < x
        by_cases c : x = y
        · subst c; have : ltS x p = false := h'.1; rw [this] at q; cases q
        · cases q2 : ltS x y with
          | true => have := ltS_trans q2 q; rw [show ltS x p = false from h'.1] at this; cases this
          | false => exact absurd (ltS_tri q2 h2) c
theorem pw_sorted : ∀ (l : List Str), sortedS l = true → l.Pairwise fun a b => ltS b a = false
  | [], _ => .nil
  | x :: r, h => pw_rising x r h
theorem strict_of : ∀ {l : List Str}, l.Pairwise (fun a b => ltS b a = false) → l.Nodup → StrictS l
  | [], _, _ => .nil
  | x :: r, p, n => by
    obtain ⟨p1, p2⟩ := List.pairwise_cons.mp p
    obtain ⟨n1, n2⟩ := List.nodup_cons.mp n
    refine List.pairwise_cons.mpr ⟨fun y hy => ?_, strict_of p2 n2⟩
    cases q : ltS x y with
    | true => rfl
    | false => exact absurd (ltS_tri q (p1 y hy)) (fun e => n1 (by rw [e]; exact hy))

def SetSO (w : World) (a : Addr) (L : List Str) : HO := .ext fun h => JS.SetS w h a L
section
variable {X : Cx}
theorem setSO_new {P : Program} {w : World} {H : Hp} {h : Heap} {a : Addr} {L : List Str} (R : JS.SetS w h a L) : ObjOk P w H h a (SetSO w a L) := by
  obtain ⟨o, es, ep, t, ho, r⟩ := id R
  exact ⟨R, ⟨o, ho⟩, fun h1 h2 R1 k => R1.keep k⟩
def rSetS (K : PySem.W.Frag) (w : World) : List V → Hp → VK → Prop := fun xs H Q => ∃ (l : Addr) (ks : List Str), xs = [V.ref l] ∧ (SqL K H l (ks.map V.str) ∨ SqT K H l (ks.map V.str)) ∧ ks.length ≤ 4000 ∧
  ∀ a L, H a = none → L.Nodup → (∀ x, x ∈ L ↔ x ∈ ks) → Q (.ref a) (upd H a (SetSO w a L))
theorem cr_setS (hc : X.calm = true) : CallR X (.type "set") (rSetS X.K X.w) := by
  intro pins s σ H xs us Q I r h
  obtain ⟨l, ks, rfl, hl, hf, q⟩ := h
  rw [Vals.ref1 r]
  have hn : H s.heap.objs.size = none := I.hok.fresh (Nat.le_refl _)
  have fin : ∀ (h' : Heap) (tk : Nat) L, JS.SetS X.w h' s.heap.objs.size L → JS.Got ks ks.length L → (∀ b o, s.heap.get? b = some o → h'.get? b = some o) → _ := fun h' tk L R g k => by
    refine (⟨.ref s.heap.objs.size, upd H s.heap.objs.size (SetSO X.w s.heap.objs.size L), I.laid (t' := tk) k (Nat.le_refl _) (setSO_new R), rfl, q _ L hn ?_ fun x => ?_⟩ : ∃ x H', Inv X pins σ H' { s with heap := h', toks := tk } ∧ RelV x (Value.ref s.heap.objs.size) ∧ Q x H')
    · obtain ⟨_, _, _, _, _, _, _, _, nd, _⟩ := R
      exact nd
    · rw [g.mem x, List.take_length]
  rcases hl with hl | hl
  · obtain ⟨its, rv, pl, hz⟩ := I.list hl
    exact JS.call_set_strs (P := X.prog) (w := X.w) ks (I.ok.hd hc) pl.isList (by simpa using rv.strs) (by unfold scanBound; omega) fin
  · obtain ⟨its, rv, pl, hz⟩ := I.tuple hl
    exact JS.call_set_strsT (P := X.prog) (w := X.w) ks (I.ok.hd hc) pl (by simpa using rv.strs) (by unfold scanBound; omega) fin
def rSortedSS (w : World) : List V → Hp → VK → Prop := fun vs H Q => ∃ (a : Addr) (L : List Str), vs = [V.ref a] ∧ H a = some (SetSO w a L) ∧
  ∀ (ss : List Str) (p : Addr), sortedS ss = true → ss.Perm L → H p = none → Q (.ref p) (upd H p (.lst (ss.map V.str)))
theorem cr_sortedSS (hc : X.calm = true) : CallR X (.builtin "sorted") (rSortedSS X.w) := by
  intro pins s σ H vs us Q I r h
  obtain ⟨a, L, rfl, ha, q⟩ := h
  have R : JS.SetS X.w s.heap a L := (I.hok a _ ha).1
  rw [Vals.ref1 r]
  refine JS.sorted_setS R (I.ok.hd hc) fun s' p out c ss k g o hp hg hi hs pm => ?_
  have hb : L.length < scanBound := by
    obtain ⟨_, es, _, _, _, _, _, _, _, pk, hb, _⟩ := R
    rw [← pk.length_eq, List.length_map, Array.length_toList]; exact hb
  have hlen : (ss.map V.str).length ≤ sizeLine := by rw [List.length_map, pm.length_eq, sizeLine_eq]; unfold scanBound at hb; omega
  have hn : H p = none := I.hok.fresh hp
  have J : Inv X pins σ (upd H p (.lst (ss.map V.str))) { s with heap := s'.heap, gens := s'.gens, drawn := s'.drawn, toks := s'.toks } :=
    I.call (ch := []) (Un.laid k hp hn) (I.hok.laid k hp ⟨hlen, out.toList, c, vals_of_strs hi, hg⟩) (by rw [g]; exact I.bare) (fun _ z => nomatch z)
  have e : s' = { s with heap := s'.heap, gens := s'.gens, drawn := s'.drawn, toks := s'.toks } := by
    cases s'
    cases s
    cases o
    rfl
  rw [e]
  exact ⟨.ref p, _, J, rfl, q ss p hs pm hn⟩
def rLenSS (w : World) : List V → Hp → VK → Prop := fun vs H Q => ∃ (a : Addr) (L : List Str), vs = [V.ref a] ∧ H a = some (SetSO w a L) ∧ Q (.int L.length) H
theorem cr_lenSS : CallR X (.builtin "len") (rLenSS X.w) := by
  intro pins s σ H vs us Q I r h
  obtain ⟨a, L, rfl, ha, q⟩ := h
  obtain ⟨o, es, ep, t, ho, hex, hd, g, nd, pk, hb, hf, _⟩ : JS.SetS X.w s.heap a L := (I.hok a _ ha).1
  rw [Vals.ref1 r]
  have hn : es.size = L.length := by rw [← pk.length_eq, List.length_map, Array.length_toList]
  refine call_len_set ho hex hd hf (by unfold scanBound at hb; omega) ⟨.int L.length, H, I.tok _, ⟨_, by rw [hn]⟩, q⟩
end
@[simp] def strs? : List PyData → Option (List Str)
  | [] => some []
  | .str b :: r => (strs? r).map (b :: ·)
  | _ :: _ => none
theorem strs_map : ∀ {ds : List PyData} {bs : List Str}, strs? ds = some bs → ds = bs.map PyData.str
  | [], _, e => by cases e; rfl
  | .str b :: r, bs, e => by
    have e' : (strs? r).map (b :: ·) = some bs := e
    cases q : strs? r with
    | none => rw [q] at e'; cases e'
    | some cs => rw [q] at e'; cases e'; rw [strs_map q] <;> rfl
  | .none :: _, _, e => by cases e
  | .int _ :: _, _, e => by cases e
  | .bool _ :: _, _, e => by cases e
  | .list _ :: _, _, e => by cases e
  | .tuple _ :: _, _, e => by cases e
  | .dict _ :: _, _, e => by cases e
@[simp] theorem strs_of_map (bs : List Str) : strs? (bs.map PyData.str) = some bs := by
  induction bs with
  | nil => rfl
  | cons b r ih => show (strs? (r.map PyData.str)).map (b :: ·) = _; rw [ih]; rfl
theorem ext_new {K : PySem.W.Frag} {g : G} {μ : Mu} {H : Hp} {a : Addr} (o : HO) (ok : StOk K g μ H) (h : H a = none) : StOk K g μ (upd H a o) ∧ Ext g H g (upd H a o) := by
  obtain ⟨k1, k2, _, _⟩ := ok.grow o h
  exact ⟨k1, k2⟩
section
variable {X : Cx} {e : Expr} {T : DT} {p p2 q pos : Pos}
def sosN (T : DT) : DTN := fun ρ μ Q => T ρ μ fun x μ1 => oP (rd μ1 x) fun d => match d with
  | .list ds => oP (strs? ds) fun ss => ss.length ≤ 4000 ∧ Q (.lst ((sortSet ss).map PyData.str)) μ1
  | .tuple ds => oP (strs? ds) fun ss => ss.length ≤ 4000 ∧ Q (.lst ((sortSet ss).map PyData.str)) μ1
  | _ => False
def losT (T : DT) : DT := fun ρ μ Q => T ρ μ fun x μ1 => oP (rd μ1 x) fun d => match d with
  | .list ds => oP (strs? ds) fun ss => ss.length ≤ 4000 ∧ Q (.d (.int (sortSet ss).length)) μ1
  | .tuple ds => oP (strs? ds) fun ss => ss.length ≤ 4000 ∧ Q (.d (.int (sortSet ss).length)) μ1
  | _ => False
theorem len_uniq {L ss : List Str} (nd : L.Nodup) (h : ∀ x, x ∈ L ↔ x ∈ ss) : L.length = (sortSet ss).length := by
  have nd2 : (sortSet ss).Nodup := (strict_sortSet ss).imp fun {a b} h e => by subst e; rw [ltS_irr] at h; cases h
  have pm : L.Perm (sortSet ss) := (List.perm_ext_iff_of_nodup nd nd2).mpr fun x => by rw [h x, mem_sortSet]
  exact pm.length_eq
theorem dn_sortset (hg : Gl X "sorted") (hm : X.mg "sorted" = none) (hg2 : Gl X "set") (hm2 : X.mg "set" = none) (hc : X.calm = true) (ha : DE X e T)
    (he : starEach [.Call (.Name "set" p2) [e] [] q] X.env = (false, eval (.Call (.Name "set" p2) [e] [] q) X.env) :: starEach [] X.env := by rfl) (hpl : (backTo pos (starEach [] X.env)).any (·.1) = false := by rfl)
    (he2 : starEach [e] X.env = (false, eval e X.env) :: starEach [] X.env := by rfl) (hpl2 : (backTo q (starEach [] X.env)).any (·.1) = false := by rfl) :
    DN X (.Call (.Name "sorted" p) [.Call (.Name "set" p2) [e] [] q] [] pos) (sosN T) :=
  ⟨(pe_callB (cr_sortedSS hc) hg hm bi_sorted (pa_cons (pe_callTy (cr_setS hc) hg2 hm2 bi_set (pa_cons ha.pe pa_nil he2) (by decide) (by decide) he2 hpl2) pa_nil he) (by decide) (by decide) he hpl).weak fun σ H Q ⟨g, ρ, μ, QD, ok, en, t, q⟩ =>
    ⟨g, ρ, μ, _, ok, en, t, fun g1 v sv μ1 H1 x1 ok1 r1 t1 => by
      obtain ⟨d, e1, t2⟩ := t1.of
      cases d with
      | list ds =>
        obtain ⟨ss, e2, hz, t3⟩ := t2.of
        obtain ⟨a, xs, rfl, h1, h2⟩ := r1.list ok1 e1
        rw [strs_map e2] at h2
        rw [h2.strs_inv] at h1
        refine ⟨a, ss, rfl, .inl (.inl (.inl h1)), hz, fun p L hp nd hm => ?_⟩
        obtain ⟨k1, k2⟩ := ext_new (SetSO X.w p L) ok1 hp
        refine ⟨p, L, rfl, upd_same, fun ys p2 hs pm hp2 => ?_⟩
        obtain ⟨k3, k4, k5, k6⟩ := k1.grow (.lst (ys.map V.str)) hp2
        have ey : ys = sortSet ss := strict_uniq (strict_of (pw_sorted ys hs) (pm.nodup_iff.mpr nd)) (strict_sortSet ss) fun x => by rw [pm.mem_iff, hm x, mem_sortSet]
        have x2 := (x1.trans k2).trans k4
        have h0 : Fr H p2 := x1.fresh (by
          by_cases c : p2 = p
          · subst c; exact hp
          · rw [upd_ne c] at hp2; exact hp2) k6
        exact q g1 p2 (.lst ((sortSet ss).map PyData.str)) μ1 _ x2 k3 h0 k5 k6 ⟨ys.map V.str, upd_same, by rw [ey]; exact RpAll.strs _⟩ t3
      | tuple ds =>
        obtain ⟨ss, e2, hz, t3⟩ := t2.of
        obtain ⟨a, xs, rfl, h1, _, h2⟩ := r1.tup ok1 e1
        rw [strs_map e2] at h2
        rw [h2.strs_inv] at h1
        refine ⟨a, ss, rfl, .inr h1, hz, fun p L hp nd hm => ?_⟩
        obtain ⟨k1, k2⟩ := ext_new (SetSO X.w p L) ok1 hp
        refine ⟨p, L, rfl, upd_same, fun ys p2 hs pm hp2 => ?_⟩
        obtain ⟨k3, k4, k5, k6⟩ := k1.grow (.lst (ys.map V.str)) hp2
        have ey : ys = sortSet ss := strict_uniq (strict_of (pw_sorted ys hs) (pm.nodup_iff.mpr nd)) (strict_sortSet ss) fun x => by rw [pm.mem_iff, hm x, mem_sortSet]
        have x2 := (x1.trans k2).trans k4
        have h0 : Fr H p2 := x1.fresh (by
          by_cases c : p2 = p
          · subst c; exact hp
          · rw [upd_ne c] at hp2; exact hp2) k6
        exact q g1 p2 (.lst ((sortSet ss).map PyData.str)) μ1 _ x2 k3 h0 k5 k6 ⟨ys.map V.str, upd_same, by rw [ey]; exact RpAll.strs _⟩ t3
      | _ => exact t2.elim⟩⟩
theorem de_lenset (hg : Gl X "len") (hm : X.mg "len" = none) (hg2 : Gl X "set") (hm2 : X.mg "set" = none) (hc : X.calm = true) (ha : DE X e T)
    (he : starEach [.Call (.Name "set" p2) [e] [] q] X.env = (false, eval (.Call (.Name "set" p2) [e] [] q) X.env) :: starEach [] X.env := by rfl) (hpl : (backTo pos (starEach [] X.env)).any (·.1) = false := by rfl)
    (he2 : starEach [e] X.env = (false, eval e X.env) :: starEach [] X.env := by rfl) (hpl2 : (backTo q (starEach [] X.env)).any (·.1) = false := by rfl) :
    DE X (.Call (.Name "len" p) [.Call (.Name "set" p2) [e] [] q] [] pos) (losT T) :=
  ⟨(pe_callB cr_lenSS hg hm bi_len (pa_cons (pe_callTy (cr_setS hc) hg2 hm2 bi_set (pa_cons ha.pe pa_nil he2) (by decide) (by decide) he2 hpl2) pa_nil he) (by decide) (by decide) he hpl).weak fun σ H Q ⟨g, ρ, μ, QD, ok, en, t, q⟩ =>
    ⟨g, ρ, μ, _, ok, en, t, fun g1 v sv μ1 H1 x1 ok1 r1 t1 => by
      obtain ⟨d, e1, t2⟩ := t1.of
      cases d with
      | list ds =>
        obtain ⟨ss, e2, hz, t3⟩ := t2.of
        obtain ⟨a, xs, rfl, h1, h2⟩ := r1.list ok1 e1
        rw [strs_map e2] at h2
        rw [h2.strs_inv] at h1
        refine ⟨a, ss, rfl, .inl (.inl (.inl h1)), hz, fun p L hp nd hm => ?_⟩
        obtain ⟨k1, k2⟩ := ext_new (SetSO X.w p L) ok1 hp
        refine ⟨p, L, rfl, upd_same, ?_⟩
        rw [len_uniq nd hm]
        exact q g1 _ (.d (.int (sortSet ss).length)) μ1 _ (x1.trans k2) k1 (.int _) t3
      | tuple ds =>
        obtain ⟨ss, e2, hz, t3⟩ := t2.of
        obtain ⟨a, xs, rfl, h1, _, h2⟩ := r1.tup ok1 e1
        rw [strs_map e2] at h2
        rw [h2.strs_inv] at h1
        refine ⟨a, ss, rfl, .inr h1, hz, fun p L hp nd hm => ?_⟩
        obtain ⟨k1, k2⟩ := ext_new (SetSO X.w p L) ok1 hp
        refine ⟨p, L, rfl, upd_same, ?_⟩
        rw [len_uniq nd hm]
        exact q g1 _ (.d (.int (sortSet ss).length)) μ1 _ (x1.trans k2) k1 (.int _) t3
      | _ => exact t2.elim⟩⟩
/-- sorted of a list of texts -/
def insD (x : Str) : List Str → List Str
  | [] => [x]
  | y :: r => if ltS y x = true then y :: insD x r else x :: y :: r
def sortStr (xs : List Str) : List Str := xs.foldr insD []
def Weak (l : List Str) : Prop := l.Pairwise fun a b => ltS b a = false
theorem perm_insD {x : Str} : ∀ {l : List Str}, (insD x l).Perm (x :: l)
  | [] => .refl _
  | y :: r => by
    unfold insD
    split
    · exact ((perm_insD (x := x) (l := r)).cons y).trans (.swap x y r)
    · exact .refl _
theorem perm_sortStr : ∀ {xs : List Str}, (sortStr xs).Perm xs
  | [] => .refl _
  | x :: r => perm_insD.trans ((perm_sortStr (xs := r)).cons x)
theorem ltS_asym {a b : Str} (h : ltS a b = true) : ltS b a = false := by
  cases q : ltS b a with
  | false => rfl
  | true => have := ltS_trans h q; rw [ltS_irr] at this; cases this
theorem weak_trans {a b c : Str} (h : ltS b a = false) (h' : ltS c b = false) : ltS c a = false := by
  cases q : ltS c a with
  | false => rfl
  | true =>
    cases p : ltS b c with
    | true => have := ltS_trans p q; rw [h] at this; cases this
    | false => rw [← ltS_tri p h', h] at q; cases q
theorem weak_insD {x : Str} : ∀ {l : List Str}, Weak l → Weak (insD x l)
  | [], _ => by unfold insD Weak; simp
  | y :: r, p => by
    obtain ⟨p1, p2⟩ := List.pairwise_cons.mp p
    unfold insD
    split
    · rename_i h
      refine List.pairwise_cons.mpr ⟨fun z hz => ?_, weak_insD p2⟩
      rcases List.mem_cons.mp (perm_insD.mem_iff.mp hz) with e | hz
      · subst e; exact ltS_asym h
      · exact p1 z hz
    · rename_i h
      have h : ltS y x = false := by simpa using h
      refine List.pairwise_cons.mpr ⟨fun z hz => ?_, p⟩
      rcases List.mem_cons.mp hz with e | hz
      · subst e; exact h
      · exact weak_trans h (p1 z hz)
theorem weak_sortStr : ∀ xs : List Str, Weak (sortStr xs)
  | [] => .nil
  | x :: r => weak_insD (weak_sortStr r)
theorem weak_uniq : ∀ {l m : List Str}, Weak l → Weak m → l.Perm m → l = m
  | [], m, _, _, h => h.nil_eq
  | a :: l, [], _, _, h => by have := h.length_eq; simp at this
  | a :: l, b :: m, p, q, h => by
    obtain ⟨p1, p2⟩ := List.pairwise_cons.mp p
    obtain ⟨q1, q2⟩ := List.pairwise_cons.mp q
    have e : a = b := by
      rcases List.mem_cons.mp (h.mem_iff.mp List.mem_cons_self) with z | z
      · exact z
      · rcases List.mem_cons.mp (h.mem_iff.mpr List.mem_cons_self) with y | y
        · exact y.symm
        · exact ltS_tri (q1 a z) (p1 b y)
    subst e
    rw [weak_uniq p2 q2 h.cons_inv]
end
end J
namespace JU
open PySem PySem.Spec PyProof.Rows L2
variable [J.Tb]
section
variable {prog : Program} {w : World} {A : Around} {E : Value → Shared → Prop} {s : Shared}
/-- what a collected sequence leaves: its list of items, in a heap with one list more -/
abbrev heapC (h : Heap) (items : List Value) : Heap := (h.push (seqObj "list" #[] 0)).update h.objs.size (Obj.mapSeq (· ++ items.toArray))
theorem collect_seq {T : String} (hT : T = "list" ∨ T = "tuple") {p : Addr} {items : List Value} {R : List Value → Shared → Prop} {ob : Obj} {k : Nat} (e1 : s.heap.get? p = some ob) (e2 : ob.cls = .type T) (e3 : ob.data = .seq items.toArray k) (hz : items.length ≤ sizeLine)
    (hR : R items { s with heap := heapC s.heap items }) : wpAny (model prog w) A (collect (.ref p)) R E s := by
  unfold collect
  refine wpAny_bind (wpAny_runValue (codeAny_builtin entry_proto_collect' (show wpAny _ _ (do again (.builtin "list.__iadd__" ⟨[← newList [], .ref p], []⟩)) _ _ s from ?_)))
  refine wpAny_bind (wpAny_newList (wpAny_pure ⟨Code.quiet_builtin _ (by decide +kernel), codeAny_builtin entry_list_iadd' (show wpAny _ _ (Builtin.List.listExtendWith (.ref s.heap.objs.size) (.ref p) (.ref s.heap.objs.size)) _ _ { s with heap := s.heap.push (seqObj "list" #[] 0) } from ?_)⟩))
  have e1' : (s.heap.push (seqObj "list" #[] 0)).get? p = some ob := Heap.get?_push_of_some _ e1
  unfold Builtin.List.listExtendWith
  refine wpAny_bind (wpAny_typeOf (T := T) ⟨ob, e1', e2⟩ ?_)
  have yes : (Builtin.List.listSameRef (.ref s.heap.objs.size) (.ref p) || Value.type T == Value.type "list" || Value.type T == Value.type "tuple") = true := by
    have a1 : (Value.type "list" == Value.type "list") = true := by rfl
    have a2 : (Value.type "tuple" == Value.type "tuple") = true := by rfl
    rcases hT with e | e <;> subst e
    · rw [a1]; simp
    · rw [a2]; simp
  rw [if_pos yes]
  refine wpAny_bind (listItems_at e1' e3 (wpAny_bind (listItems_at (xs := #[]) (n := 0) (Heap.get?_push_size _ rfl) rfl ?_)))
  rw [if_neg (by simp)]
  refine wpAny_bind (listUpdate_at (xs := #[]) (n := 0) (Heap.get?_push_size _ rfl) rfl (wpAny_pure ?_) (Nat.zero_le _) (by show ((#[] : Array Value) ++ items.toArray).size ≤ _; simp only [Array.size_append, List.size_toArray, List.length_nil]; omega))
  refine (wpAny_bind (wpAny_load (get?_update_seq (Heap.get?_push_size _ rfl) _) (show wpAny _ _ (pure ((#[] : Array Value) ++ items.toArray).toList) R E _ from ?_)) : wpAny (model prog w) A (do
      let q ← load s.heap.objs.size
      match q.data with
      | .seq ys _ => pure ys.toList
      | _ => unsupported "internal:collect") R E { s with heap := heapC s.heap items })
  have nil : ((#[] : Array Value) ++ items.toArray).toList = items := by simp
  rw [nil]; exact wpAny_pure hR
/-- sorted(p), p a list or a tuple -/
theorem sorted_seq {T : String} (hT : T = "list" ∨ T = "tuple") {p : Addr} {items : List Value} {ob : Obj} {k : Nat} {lt : Value → Value → Bool} {R : Value → Shared → Prop} (O : SrtO.Swo lt) (e1 : s.heap.get? p = some ob) (e2 : ob.cls = .type T) (e3 : ob.data = .seq items.toArray k) (hz : items.length ≤ sizeLine)
    (able : 2 ≤ items.length → ∀ (h1 : Heap) (a : Addr), h1.get? a = some (seqObj "list" items.toArray 0) → (∀ b o, s.heap.get? b = some o → b ≠ a ∧ h1.get? b = some o) → SrtO.SortableO prog w A.in1.in1 { s with heap := h1 } a items lt)
    (hR : ∀ out : List Value, SrtO.Srtd lt out → SrtO.Stb lt out items → R (.ref (s.heap.objs.size + 1)) { s with heap := sortedAll s.heap items out.toArray }) : wpAny (model prog w) A (call (.builtin "sorted") [.ref p]) R E s := by
  refine Calls.call_function_entry kind_sorted plain_sorted entry_sorted (args_sorted1 _) ?_
  unfold Builtin.«sorted»
  refine wpAny_bind (m := checkCount "sorted" 1 1 _) (wpAny_pure (wpAny_bind (collect_seq hT e1 e2 e3 hz (wpAny_bind (wpAny_newList (show wpAny _ _ _ _ _ { s with heap := (heapC s.heap items).push (seqObj "list" items.toArray 0) } from ?_) hz)))))
  have n1 : (heapC s.heap items).objs.size = s.heap.objs.size + 1 := by rw [Heap.size_update, size_push']
  have n2 : ((heapC s.heap items).push (seqObj "list" items.toArray 0)).get? (s.heap.objs.size + 1) = some (seqObj "list" items.toArray 0) := n1 ▸ Heap.get?_push_size _ rfl
  have n3 : ∀ b o, s.heap.get? b = some o → b ≠ s.heap.objs.size + 1 ∧ ((heapC s.heap items).push (seqObj "list" items.toArray 0)).get? b = some o := fun b o q => by
    have lt1 : b < s.heap.objs.size := Heap.lt_size q
    refine ⟨Nat.ne_of_lt (Nat.lt_succ_of_lt lt1), Heap.get?_push_of_some _ ?_⟩
    rw [Heap.get?_update_ne _ _ _ _ (Nat.ne_of_lt lt1)]; exact Heap.get?_push_of_some _ q
  rw [n1]
  refine wpAny_bind (wpAny_holding (wpAny_call_entry slot_list_sort ⟨_, n2, rfl⟩ entry_list_sort (SrtO.list_sort_ord O n2 hz (fun h2 => able h2 _ _ n2 n3) fun out o1 o2 => ⟨_, rfl, wpAny_pure ⟨_, rfl, hR out o1 o2⟩⟩) (args_list_sort _)))
def sv : Value → Str
  | .str x _ => x
  | _ => Str.empty
def ltSv (v u : Value) : Bool := decide ((sv v).cps.toList < (sv u).cps.toList)
theorem swo_str : SrtO.Swo ltSv := by
  refine ⟨fun x y h => ?_, fun x y z h1 h2 => ?_⟩
  · have h : (sv x).cps.toList < (sv y).cps.toList := of_decide_eq_true h
    exact decide_eq_false fun h' => List.lt_irrefl _ (List.lt_trans h h')
  · exact J.weak_trans (a := sv x) (b := sv y) (c := sv z) h1 h2
theorem strs_mem : ∀ {vs : List Value} {ss : List Str}, StrsAre vs ss → ∀ v ∈ vs, ∃ x t, v = Value.str x t
  | _, _, .nil, v, h => absurd h (by simp)
  | _, _, .cons x t r, v, h => by
    rcases List.mem_cons.mp h with e | h
    · exact ⟨x, t, e⟩
    · exact strs_mem r v h
theorem strs_sv : ∀ {vs : List Value}, (∀ v ∈ vs, ∃ x t, v = Value.str x t) → StrsAre vs (vs.map sv)
  | [], _ => .nil
  | v :: vs, h => by
    obtain ⟨x, t, e⟩ := h v List.mem_cons_self
    subst e
    exact .cons x t (strs_sv fun u hu => h u (List.mem_cons_of_mem _ hu))
theorem sv_strs : ∀ {vs : List Value} {ss : List Str}, StrsAre vs ss → vs.map sv = ss
  | _, _, .nil => rfl
  | _, _, .cons x t r => congrArg (x :: ·) (sv_strs r)
theorem strs_sortable {a : Addr} {vs : List Value} {ss : List Str} (hS : StrsAre vs ss) (h2 : 2 ≤ vs.length) : SrtO.SortableO prog w A s a vs ltSv := fun h' _ => by
  refine ⟨oneType', fun R E q => ?_, fun p q hp hq => ?_⟩
  · match vs, hS, h2 with
    | v1 :: v2 :: r, hS, _ => rw [keyKind_strs hS]; exact wpAny_pure q
    | [], _, h => exact absurd h (by decide)
    | [v], _, h => exact absurd h (by simp)
  · obtain ⟨x, t, e⟩ := strs_mem hS _ hp
    obtain ⟨y, u, e'⟩ := strs_mem hS _ hq
    show wpAny (model prog w) A (keyLt' oneType' p.1 q.1) (fun r s' => s' = _ ∧ r = ltSv p.1 q.1) _ _
    rw [e, e', keyLt'_oneType]
    exact oneLt_str ⟨rfl, rfl⟩
theorem strs_out {vs out : List Value} {ss : List Str} (hS : StrsAre vs ss) (h1 : SrtO.Srtd ltSv out) (h2 : SrtO.Stb ltSv out vs) : StrsAre out (out.map sv) ∧ (out.map sv).Perm ss ∧ (out.map sv).Pairwise fun a b => ¬ b.cps.toList < a.cps.toList := by
  refine ⟨strs_sv fun v hv => strs_mem hS v (h2.perm.mem_iff.mp hv), ?_, List.pairwise_map.mpr (h1.imp fun {x y} h => of_decide_eq_false (p := (sv y).cps.toList < (sv x).cps.toList) h)⟩
  have := h2.perm.map sv
  rwa [sv_strs hS] at this
end
/-- sorted of a list or tuple of texts, any length -/
def rSortQ (K : PySem.W.Frag) : List V → Hp → VK → Prop := fun vs H Q => ∃ (a : Addr) (xs : List Str), vs = [V.ref a] ∧ (SqL K H a (xs.map V.str) ∨ SqT K H a (xs.map V.str)) ∧
  ∀ (ys : List Str) (p : Addr), ys.Perm xs → (ys.Pairwise fun a b => ¬ b.cps.toList < a.cps.toList) → H p = none → Q (.ref p) (upd H p (.lst (ys.map V.str)))
theorem cr_sortedQ {X : Cx} : CallR X (.builtin "sorted") (rSortQ X.K) := by
  intro pins s σ H vs us Q I r ⟨a, xs, hv, hs, q⟩
  subst hv
  rw [Vals.ref1 r]
  have : ∃ (T : String) (its : List Value) (ob : Obj) (k : Nat), (T = "list" ∨ T = "tuple") ∧ Vals (xs.map V.str) its ∧ s.heap.get? a = some ob ∧ ob.cls = .type T ∧ ob.data = .seq its.toArray k ∧ (xs.map V.str).length ≤ sizeLine := by
    rcases hs with hs | hs
    · obtain ⟨its, rv, hl, hz⟩ := I.list hs
      obtain ⟨ob, e1, e2, k, e3⟩ := hl.isList
      exact ⟨_, its, ob, k, .inl rfl, rv, e1, e2, e3, hz⟩
    · obtain ⟨its, rv, ⟨ob, e1, e2, k, e3⟩, hz⟩ := I.tuple hs
      exact ⟨_, its, ob, k, .inr rfl, rv, e1, e2, e3, hz⟩
  obtain ⟨T, its, ob, k, hT, rv, e1, e2, e3, hz⟩ := this
  have hS := rv.strs
  have hzl : its.length ≤ sizeLine := by rw [← rv.length]; exact hz
  refine sorted_seq hT swo_str e1 e2 e3 hzl (fun h2 h1 a' _ _ => strs_sortable hS h2) fun out o1 o2 => ?_
  obtain ⟨k1, k2, k3⟩ := strs_out hS o1 o2
  obtain ⟨ep, he⟩ := sortedAll_at s.heap its out.toArray
  have hl : ((out.map sv).map V.str).length ≤ sizeLine := by rw [List.length_map, k2.length_eq]; rwa [List.length_map] at hz
  exact ⟨.ref _, upd H (s.heap.objs.size + 1) (.lst ((out.map sv).map V.str)), I.laid (t' := s.toks) (fun _ _ => sortedAll_old) (Nat.le_succ _) ⟨hl, out, ep, vals_of_strs k1, he⟩, rfl, q _ _ k2 k3 (I.hok.fresh (Nat.le_succ _))⟩
end JU
namespace JU
open PySem PySem.Spec PyProof.Rows L2
variable [J.Tb]
def ltL : List Str → List Str → Bool
  | [], [] => false
  | [], _ :: _ => true
  | _ :: _, [] => false
  | x :: xs, y :: ys => if x = y then ltL xs ys else J.ltS x y
theorem ltL_irr : ∀ a, ltL a a = false
  | [] => rfl
  | x :: xs => by rw [ltL, if_pos rfl]; exact ltL_irr xs
theorem ltL_asym : ∀ {a b : List Str}, ltL a b = true → ltL b a = false
  | [], [], h => by cases h
  | [], _ :: _, _ => rfl
  | _ :: _, [], h => by cases h
  | x :: xs, y :: ys, h => by
    rw [ltL] at h ⊢
    by_cases e : x = y
    · rw [if_pos e] at h; rw [if_pos e.symm]; exact ltL_asym h
    · rw [if_neg e] at h; rw [if_neg fun q => e q.symm]; exact J.ltS_asym h
theorem ltL_tri : ∀ {a b : List Str}, ltL a b = false → ltL b a = false → a = b
  | [], [], _, _ => rfl
  | [], _ :: _, h, _ => by cases h
  | _ :: _, [], _, h => by cases h
  | x :: xs, y :: ys, h, h' => by
    rw [ltL] at h h'
    by_cases e : x = y
    · rw [if_pos e] at h; rw [if_pos e.symm] at h'; rw [e, ltL_tri h h']
    · rw [if_neg e] at h; rw [if_neg fun q => e q.symm] at h'; exact (e (J.ltS_tri h h')).elim
theorem ltL_trans : ∀ {a b c : List Str}, ltL a b = true → ltL b c = true → ltL a c = true
  | [], [], c, h, _ => by cases h
  | [], _ :: _, [], _, h => by cases h
  | [], _ :: _, _ :: _, _, _ => rfl
  | _ :: _, [], _, h, _ => by cases h
  | _ :: _, _ :: _, [], _, h => by cases h
  | x :: xs, y :: ys, z :: zs, h, h' => by
    rw [ltL] at h h' ⊢
    by_cases e : x = y
    · rw [if_pos e] at h
      by_cases e' : y = z
      · rw [if_pos e'] at h'; rw [if_pos (e.trans e')]; exact ltL_trans h h'
      · rw [if_neg e'] at h'; rw [if_neg (e ▸ e'), e]; exact h'
    · rw [if_neg e] at h
      by_cases e' : y = z
      · rw [if_neg (e' ▸ e), ← e']; exact h
      · rw [if_neg e'] at h'
        have := J.ltS_trans h h'
        rw [if_neg fun q => ?_]
        · exact this
        · rw [q, J.ltS_irr] at this; cases this
theorem ltL_no {a b c : List Str} (h1 : ltL b a = false) (h2 : ltL c b = false) : ltL c a = false := by
  cases e : ltL c a with
  | false => rfl
  | true =>
    cases e2 : ltL a b with
    | true => rw [ltL_trans e e2] at h2; cases h2
    | false => rw [← ltL_tri e2 h1, e] at h2; cases h2
theorem swo_tup (k : Value → List Str) : SrtO.Swo fun v u => ltL (k v) (k u) := ⟨fun _ _ h => ltL_asym h, fun _ _ _ h1 h2 => ltL_no h1 h2⟩
theorem data_ltL : ∀ a b : List Str, PyProof.Rows.lexLt itemOrd (PySem.W.keyToksAll (a.map PyData.str)) (PySem.W.keyToksAll (b.map PyData.str)) = ltL a b
  | [], [] => by simp [PySem.W.keyToksAll, lex_irrefl, ltL]
  | [], y :: ys => by
    rw [List.map_cons, PySem.W.toks_all_cons]
    simp only [List.map_nil, PySem.W.keyToksAll]
    rw [lex_diff (O := itemOrd) (by simp)]
    simp [itemLt, ltL]
  | x :: xs, [] => by
    rw [List.map_cons, PySem.W.toks_all_cons]
    simp only [List.map_nil, PySem.W.keyToksAll]
    rw [lex_diff (O := itemOrd) (by simp)]
    simp [itemLt, ltL]
  | x :: xs, y :: ys => by
    have hal : PySem.W.alike (.str x) (.str y) = true := by simp [PySem.W.alike]
    have ee : PyData.eqv (.str x) (.str y) = (x == y) := by rw [PyData.eqv]
    rw [List.map_cons, List.map_cons]
    cases c : x == y with
    | true =>
      rw [PySem.W.dataLt_all_yes hal (by rw [ee, c]), data_ltL xs ys, ltL, if_pos (by simpa using c)]
    | false =>
      rw [PySem.W.dataLt_all_no hal (by rw [ee, c]), PySem.W.dataLt_str, ltL, if_neg (by simpa using c)]; rfl
theorem alike_strs : ∀ a b : List Str, PySem.W.alikeAll (a.map PyData.str) (b.map PyData.str) = true
  | [], b => by rw [List.map_nil, PySem.W.alikeAll]
  | _ :: _, [] => by rw [List.map_nil, List.map_cons, PySem.W.alikeAll]
  | x :: xs, y :: ys => by
    rw [List.map_cons, List.map_cons, PySem.W.alikeAll, alike_strs xs ys]
    simp [PySem.W.alike]
theorem depth_strs : ∀ a : List Str, PyData.depthAll (a.map PyData.str) = 0
  | [] => by rw [List.map_nil, PyData.depthAll]
  | x :: xs => by
    rw [List.map_cons, PyData.depthAll, depth_strs xs]
    simp [PyData.depth]
theorem reads_strs {h : Heap} : ∀ {vs : List Value} {ss : List Str}, StrsAre vs ss → ReadsAll h vs (ss.map PyData.str) []
  | _, _, .nil => .nil
  | _, _, .cons x t r => .cons (.str x t) (reads_strs r)
/-- the value is a tuple of texts -/
def TupS (h : Heap) (v : Value) (ss : List Str) : Prop := ∃ (a : Addr) (o : Obj) (its : Array Value) (n : Nat), v = .ref a ∧ h.get? a = some o ∧ o.cls = .type "tuple" ∧ o.data = .seq its n ∧ StrsAre its.toList ss
theorem TupS.reads {h : Heap} {v : Value} {ss : List Str} (t : TupS h v ss) : Reads h v (.tuple (ss.map .str)) [] := by
  obtain ⟨a, o, its, n, rfl, h1, h2, h3, h4⟩ := t
  exact .tuple h1 h2 h3 (reads_strs h4)
section
variable {prog : Program} {w : World} {A : Around} {E : Value → Shared → Prop} {s : Shared} {v u : Value} {a b : List Str} {Q : Bool → Shared → Prop}
theorem dep0 (a b : List Str) : A.units + 1 < cLine → A.units + min (PyData.tuple (a.map PyData.str)).depth (PyData.tuple (b.map PyData.str)).depth < cLine := fun h => by
  simp only [PyData.depth, depth_strs]; omega
theorem lt_general (ha : TupS s.heap v a) (hb : TupS s.heap u b) (hu : A.units + 1 < cLine) (q : Q (ltL a b) s) : wpAny (model prog w) A (oneLt' false v u) Q E s :=
  PySem.W.oneLt_alike (da := .tuple (a.map .str)) (db := .tuple (b.map .str)) (fun h => nomatch h) ha.reads hb.reads (by rw [PySem.W.alike]; exact alike_strs a b) (fun h => nomatch h) (dep0 a b hu) (by rw [PySem.W.dataLt_tuple, data_ltL]; exact q)
theorem call_tup_lt {R : Value → Shared → Prop} {l m : Addr} {items items2 : Array Value} {e r : Nat → Bool} (hl : s.heap.IsTuple l items) (hm : s.heap.IsTuple m items2) (he : ∀ j (h1 : j < items.size) (h2 : j < items2.size), PySem.SeqAt.EqAt A.in1 s items[j] items2[j] (e j))
    (hr : ∀ j (h1 : j < items.size) (h2 : j < items2.size), e j = false → PySem.SeqAt.RcLt A.in1 s items[j] items2[j] (r j)) (q : R (.bool (PySem.SeqAt.firstLt e r (decide (items.size < items2.size)) (List.range (min items.size items2.size)))) s) :
    wpAny (model prog w) A (call (.builtin "tuple.__lt__") [.ref l, .ref m]) R E s := by
  obtain ⟨⟨c1, d1, data1, sl1⟩, o1, e1, n1, f1⟩ := id hl
  obtain ⟨⟨c2, d2, data2, sl2⟩, o2, e2, n2, f2⟩ := id hm
  dsimp only at e1 f1 e2 f2
  subst e1 f1 e2 f2
  exact call_meets PySem.F.slot_tuple_lt ⟨_, o1, rfl⟩ PySem.F.entry_tuple_lt (PySem.F.args_tuple_lt_2 _ _) (PySem.SeqAt.tuple_ltAt l m items items2 n1 n2 d1 d2 sl1 sl2 e r) ⟨o1, o2, he, hr, q⟩
theorem lt_oneType (ha : TupS s.heap v a) (hb : TupS s.heap u b) (hu : A.units + 1 < cLine) (q : Q (ltL a b) s) : wpAny (model prog w) A (oneLt' true v u) Q E s := by
  obtain ⟨l, o, its, n, rfl, h1, h2, h3, h4⟩ := ha
  obtain ⟨m, o', its', n', rfl, k1, k2, k3, k4⟩ := hb
  have r1 := reads_strs (h := s.heap) h4
  have r2 := reads_strs (h := s.heap) k4
  have z1 : its.size = (a.map PyData.str).length := by simpa using PySem.SeqAt.ReadsAll.length _ _ _ r1
  have z2 : its'.size = (b.map PyData.str).length := by simpa using PySem.SeqAt.ReadsAll.length _ _ _ r2
  have hu1 : A.in1.units + min (PyData.depthAll (a.map PyData.str)) (PyData.depthAll (b.map PyData.str)) < cLine := by
    simp only [depth_strs]; exact hu
  have q' : Q (PySem.SeqAt.firstLt (PySem.SeqAt.pairEq (a.map PyData.str) (b.map PyData.str)) (fun j => PySem.W.dataLt ((a.map PyData.str).getD j .none) ((b.map PyData.str).getD j .none)) (decide (its.size < its'.size)) (List.range (min its.size its'.size))) s := by
    rw [z1, z2, PySem.W.firstLt_toks _ _ (alike_strs a b), data_ltL]; exact q
  rw [oneLt'_eq, if_pos rfl]
  refine wpAny_bind (wpAny_cRoomFor (by omega) (wpAny_bind (wpAny_callSpecialIfBound?_slot (T := "tuple") ⟨_, h1, h2⟩ PySem.F.slot_tuple_lt (call_tup_lt ⟨_, h1, h2, _, h3⟩ ⟨_, k1, k2, _, k3⟩ (fun j j1 j2 => ?_) (fun j j1 j2 hj => ?_) (wpAny_truthy_bool q')))))
  · have := PySem.W.eqAt_alikeAll (a.map .str) (b.map .str) A.in1 s its.toList its'.toList _ _ r1 r2 (alike_strs a b) hu1 j (by simpa using j1) (by simpa using j2)
    simpa using this
  · have := PySem.W.rcLt_alikeAll (a.map .str) (b.map .str) A.in1 s its.toList its'.toList _ _ r1 r2 (alike_strs a b) hu1 j (by simpa using j1) (by simpa using j2) hj
    simpa using this
theorem lex_strs {c fin : Bool} : ∀ {vs us : List Value} {a b : List Str} (i : Nat), StrsAre vs a → StrsAre us b → fin = decide (a.length < b.length) → Q (ltL a b) s → PySem.W.KatLex prog w A c fin Q (vs.zip us) i s
  | [], us, _, b, i, .nil, hb, hf, q => by
    rw [List.zip_nil_left]
    cases hb with
    | nil => subst hf; exact PySem.W.kat_nil q
    | cons y t r => subst hf; exact PySem.W.kat_nil (by simpa [ltL] using q)
  | _ :: _, _, _, _, i, .cons x t r, .nil, hf, q => by
    rw [List.zip_nil_right]
    subst hf; exact PySem.W.kat_nil (by simpa [ltL] using q)
  | _ :: _, _ :: _, _, _, i, .cons x t r, .cons y t' r', hf, q => by
    rw [List.zip_cons_cons]
    rw [ltL] at q
    refine PySem.W.kat_cons (PySem.SeqAt.EqAt.str_str x t y t' prog w _ _ (PySem.W.kat_go (fun e => ?_) (fun e => ?_)))
    · have e : x = y := by simpa using e
      rw [if_pos e] at q
      exact PySem.W.kat_yes (lex_strs (i + 1) r r' (by rw [hf]; simp) q)
    · have e : ¬ x = y := by simpa using e
      rw [if_neg e] at q
      exact PySem.W.kat_no (oneLt_any_str q)
theorem lt_tuples {c : Bool} (ha : TupS s.heap v a) (hb : TupS s.heap u b) (q : Q (ltL a b) s) : wpAny (model prog w) A (keyLt' (tuples' c) v u) Q E s := by
  obtain ⟨l, o, its, n, rfl, h1, h2, h3, h4⟩ := ha
  obtain ⟨m, o', its', n', rfl, k1, k2, k3, k4⟩ := hb
  have z1 : its.size = a.length := by simpa using StrsAre.length h4
  have z2 : its'.size = b.length := by simpa using StrsAre.length k4
  exact PySem.W.kat_lt h1 h3 k1 k3 (lex_strs 0 h4 k4 (by rw [z1, z2]) q)
end
def FstOk : List (List Str) → List (Option Value) → Prop
  | [], [] => True
  | [] :: r, f :: fs => f = none ∧ FstOk r fs
  | (x :: _) :: r, f :: fs => (∃ t, f = some (.str x t)) ∧ FstOk r fs
  | _, _ => False
section
variable {M : Model} {A : Around} {s : Shared} {k : Value → List Str}
theorem firsts_ok : ∀ (vs : List Value), (∀ v ∈ vs, TupS s.heap v (k v)) → ∃ fs, FstOk (vs.map k) fs ∧ ∀ (Q : List (Option Value) → Shared → Prop) (E : Value → Shared → Prop), Q fs s → wpAny M A (vs.mapM firstOfTuple') Q E s
  | [], _ => ⟨[], trivial, fun Q E q => by rw [List.mapM_nil]; exact wpAny_pure q⟩
  | v :: vs, h => by
    obtain ⟨fs, h1, h2⟩ := firsts_ok vs fun u hu => h u (List.mem_cons_of_mem _ hu)
    obtain ⟨a, o, its, n, e, g1, g2, g3, g4⟩ := h v List.mem_cons_self
    refine ⟨its[0]? :: fs, ?_, fun Q E q => ?_⟩
    · rw [List.map_cons]
      generalize k v = ss at g4
      generalize hl : its.toList = l at g4
      have e0 : its[0]? = l[0]? := by rw [← hl, Array.getElem?_toList]
      cases g4 with
      | nil => exact ⟨by rw [e0]; rfl, h1⟩
      | cons x t r => exact ⟨⟨t, by rw [e0]; rfl⟩, h1⟩
    · subst e
      rw [List.mapM_cons]
      refine wpAny_bind ?_
      rw [PySem.W.kas_first_eq]
      refine wpAny_bind (wpAny_typeOf (T := "tuple") ⟨o, g1, g2⟩ ?_)
      rw [if_neg (by first | decide | simp)]
      exact wpAny_bind (listItems_at g1 g3 (wpAny_pure (wpAny_bind (h2 (fun bs s' => wpAny M A (pure (its[0]? :: bs)) Q E s') E (wpAny_pure q)))))
theorem fst_strs : ∀ {kss : List (List Str)} {fs : List (Option Value)}, FstOk kss fs → fs.all (fun x => x.isSome) = true → ∃ ss, StrsAre (fs.filterMap id) ss
  | [], [], _, _ => ⟨[], .nil⟩
  | [] :: r, f :: fs, ⟨e, _⟩, h => by subst e; simp at h
  | (x :: _) :: r, f :: fs, ⟨⟨t, e⟩, h1⟩, h => by
    subst e
    rw [List.all_cons, Bool.and_eq_true] at h
    obtain ⟨ss, hs⟩ := fst_strs h1 h.2
    exact ⟨x :: ss, by simpa using StrsAre.cons x t hs⟩
  | [], _ :: _, h, _ => h.elim
  | [] :: _, [], h, _ => h.elim
  | (_ :: _) :: _, [], h, _ => h.elim
theorem FstOk.len : ∀ {kss : List (List Str)} {fs : List (Option Value)}, FstOk kss fs → fs.length = kss.length
  | [], [], _ => rfl
  | [] :: r, f :: fs, ⟨_, h⟩ => by rw [List.length_cons, List.length_cons, FstOk.len h]
  | (_ :: _) :: r, f :: fs, ⟨_, h⟩ => by rw [List.length_cons, List.length_cons, FstOk.len h]
  | [], _ :: _, h => h.elim
  | [] :: _, [], h => h.elim
  | (_ :: _) :: _, [], h => h.elim
theorem kind_tups {vs : List Value} (h2 : 2 ≤ vs.length) (h : ∀ v ∈ vs, TupS s.heap v (k v)) : ∃ κ, (κ = tuples' true ∨ κ = general' ∨ κ = oneType') ∧ ∀ (Q : SortKind → Shared → Prop) (E : Value → Shared → Prop), Q κ s → wpAny M A (keyKind' vs.toArray) Q E s := by
  obtain ⟨fs, h1, hm⟩ := firsts_ok (M := M) (A := A) vs h
  have hl := h1.len
  rw [List.length_map] at hl
  by_cases c1 : (fs.toArray.all fun x => x.isSome) = true
  · refine ⟨tuples' true, .inl rfl, fun Q E q => ?_⟩
    have c1' : fs.all (fun x => x.isSome) = true := by simpa using c1
    obtain ⟨ss, hs⟩ := fst_strs h1 c1'
    have hsl : 0 < (fs.filterMap id).length := by
      have : (fs.filterMap id).length = fs.length := by
        clear hm h1 hs hl c1
        induction fs with
        | nil => rfl
        | cons f r ih =>
          rw [List.all_cons, Bool.and_eq_true] at c1'
          obtain ⟨x, rfl⟩ := Option.isSome_iff_exists.mp c1'.1
          simp [ih c1'.2]
      omega
    rw [PyProof.Rows.kat_kind_eq, List.mapM_toArray, map_eq_pure_bind]
    refine wpAny_bind (wpAny_bind (hm _ E (wpAny_pure ?_)))
    rw [if_pos c1]
    refine wpAny_bind (wpAny_rule ?_)
    have hfm : (fs.toArray.filterMap id) = (fs.filterMap id).toArray := by simp
    rw [hfm, oneTypeOnly'_eq, List.mapM_toArray, mapM_typeOf_strs hs]
    simp only [map_pure, pure_bind]
    generalize fs.filterMap id = gs at hsl
    match gs, hsl with
    | g :: gr, _ =>
      refine wpAny_bind ?_
      have a1 : ((List.map (fun _ => Value.type "str") (g :: gr)).toArray.all fun x => x == Value.type "str") = true := by
        simp only [List.all_toArray, List.all_map, List.all_eq_true]
        intro _ _; rfl
      have a0 : (List.map (fun _ => Value.type "str") (g :: gr)).toArray[0]? = some (Value.type "str") := by simp
      rw [a0]
      simp only [a1, if_true]
      exact wpAny_pure (wpAny_pure q)
  · by_cases c2 : (fs.toArray[0]?.bind id).isSome = true
    · refine ⟨general', .inr (.inl rfl), fun Q E q => ?_⟩
      rw [PyProof.Rows.kat_kind_eq, List.mapM_toArray, map_eq_pure_bind]
      refine wpAny_bind (wpAny_bind (hm _ E (wpAny_pure ?_)))
      rw [if_neg c1, if_pos c2]
      exact wpAny_pure q
    · refine ⟨oneType', .inr (.inr rfl), fun Q E q => ?_⟩
      rw [PyProof.Rows.kat_kind_eq, List.mapM_toArray, map_eq_pure_bind]
      refine wpAny_bind (wpAny_bind (hm _ E (wpAny_pure ?_)))
      rw [if_neg c1, if_neg c2, oneTypeOnly'_eq, List.mapM_toArray, map_eq_pure_bind]
      have hT : ∀ v ∈ vs, ∀ (Q' : Value → Shared → Prop), Q' (Value.type "tuple") s → wpAny M A (typeOf v) Q' E s := fun v hv Q' q' => by
        obtain ⟨a, o, its, n, e, g1, g2, g3, g4⟩ := h v hv
        subst e
        exact wpAny_typeOf (T := "tuple") ⟨o, g1, g2⟩ q'
      refine wpAny_bind (wpAny_bind (wpAny_bind (PySem.W.kas_mapM (r := Value.type "tuple") vs hT (wpAny_pure ?_))))
      match vs, h2 with
      | g :: gr, _ =>
        have a1 : ((List.map (fun _ => Value.type "tuple") (g :: gr)).toArray.all fun x => x == Value.type "tuple") = true := by
          simp only [List.all_toArray, List.all_map, List.all_eq_true]
          intro _ _; rfl
        have a0 : (List.map (fun _ => Value.type "tuple") (g :: gr)).toArray[0]? = some (Value.type "tuple") := by simp
        rw [a0]
        simp only [a1, if_true]
        exact wpAny_pure (wpAny_pure q)
end
theorem TupS.keeps {h h' : Heap} {v : Value} {ss : List Str} (t : TupS h v ss) (kp : ∀ b o, h.get? b = some o → o.cls = .type "tuple" → h'.get? b = some o) : TupS h' v ss := by
  obtain ⟨a, o, its, n, e, g1, g2, g3, g4⟩ := t
  exact ⟨a, o, its, n, e, kp a o g1 g2, g2, g3, g4⟩
theorem tups_sortable {prog : Program} {w : World} {A : Around} {s : Shared} {a : Addr} {vs : List Value} {k : Value → List Str} (h2 : 2 ≤ vs.length) (hu : A.units + 1 < cLine) (h : ∀ v ∈ vs, TupS s.heap v (k v)) (ha : ∀ o, s.heap.get? a = some o → o.cls ≠ .type "tuple") :
    SrtO.SortableO prog w A s a vs fun v u => ltL (k v) (k u) := fun h' kp => by
  have hk : ∀ v ∈ vs, TupS h' v (k v) := fun v hv => (h v hv).keeps fun b o e c => kp b o (fun z => by subst z; exact ha o e c) e
  obtain ⟨κ, hκ, hq⟩ := kind_tups (M := model prog w) (A := A) (s := { s with heap := h' }) h2 hk
  refine ⟨κ, hq, fun p q hp hp2 => ?_⟩
  show wpAny (model prog w) A (keyLt' κ p.1 q.1) _ _ _
  rcases hκ with e | e | e <;> subst e
  · exact lt_tuples (hk _ hp) (hk _ hp2) ⟨rfl, rfl⟩
  · exact lt_general (s := { s with heap := h' }) (hk _ hp) (hk _ hp2) hu ⟨rfl, rfl⟩
  · rw [keyLt'_oneType]
    exact lt_oneType (s := { s with heap := h' }) (hk _ hp) (hk _ hp2) hu ⟨rfl, rfl⟩
/-- sorted of a list of tuples of texts (k says which), any length -/
def rSortT (K : PySem.W.Frag) : List V → Hp → VK → Prop := fun vs H Q => ∃ (a : Addr) (xs : List V) (k : V → List Str), vs = [V.ref a] ∧ (SqL K H a xs ∨ SqT K H a xs) ∧ (∀ x ∈ xs, ∃ t, x = V.ref t ∧ SqT K H t ((k x).map V.str)) ∧
  ∀ (ys : List V) (p : Addr), ys.Perm xs → (ys.Pairwise fun x y => ltL (k y) (k x) = false) → H p = none → Q (.ref p) (upd H p (.lst ys))
theorem cr_sortedTS {X : Cx} (hu : X.A.units + 65 < cLine) : CallR X (.builtin "sorted") (rSortT X.K) := by
  intro pins s σ H vs us Q I r ⟨a, xs, k, hv, hs, hx, q⟩
  subst hv
  rw [Vals.ref1 r]
  have : ∃ (T : String) (its : List Value) (ob : Obj) (n : Nat), (T = "list" ∨ T = "tuple") ∧ Vals xs its ∧ s.heap.get? a = some ob ∧ ob.cls = .type T ∧ ob.data = .seq its.toArray n ∧ xs.length ≤ sizeLine := by
    rcases hs with hs | hs
    · obtain ⟨its, rv, hl, hz⟩ := I.list hs
      obtain ⟨ob, e1, e2, n, e3⟩ := hl.isList
      exact ⟨_, its, ob, n, .inl rfl, rv, e1, e2, e3, hz⟩
    · obtain ⟨its, rv, ⟨ob, e1, e2, n, e3⟩, hz⟩ := I.tuple hs
      exact ⟨_, its, ob, n, .inr rfl, rv, e1, e2, e3, hz⟩
  obtain ⟨T, its, ob, n, hT, rv, e1, e2, e3, hz⟩ := this
  obtain ⟨b1, b2⟩ := refs_back rv fun x m => by
    obtain ⟨t, e, _⟩ := hx x m
    exact ⟨t, e⟩
  have hk : ∀ v ∈ its, TupS s.heap v (k (backV v)) := fun v hv => by
    obtain ⟨t, rfl⟩ := b2 v hv
    have hm : V.ref t ∈ xs := by rw [b1]; exact List.mem_map.mpr ⟨_, hv, rfl⟩
    obtain ⟨t', e, ht⟩ := hx _ hm
    cases e
    obtain ⟨its2, r2, ⟨o, g1, g2, n2, g3⟩, _⟩ := I.tuple ht
    exact ⟨t, o, its2.toArray, n2, rfl, g1, g2, g3, r2.strs⟩
  have hzl : its.length ≤ sizeLine := by rw [← rv.length]; exact hz
  refine sorted_seq hT (swo_tup fun v => k (backV v)) e1 e2 e3 hzl (fun h2 h1 a' ha kk => ?_) fun out o1 o2 => ?_
  · refine tups_sortable (s := { s with heap := h1 }) h2 (by show X.A.units + 1 + 1 + 1 < cLine; omega) (fun v hv => (hk v hv).keeps fun b o e _ => (kk b o e).2) fun o e => ?_
    have e' : some o = some (seqObj "list" its.toArray 0) := e.symm.trans ha
    cases e'
    intro c
    exact absurd (Value.type.inj c) (by decide)
  · obtain ⟨ep, he⟩ := sortedAll_at s.heap its out.toArray
    have h3 : ∀ u ∈ out, ∃ a, u = Value.ref a := fun u hu => b2 u (o2.perm.mem_iff.mp hu)
    have pm : (out.map backV).Perm xs := by rw [b1]; exact o2.perm.map backV
    exact ⟨.ref _, upd H (s.heap.objs.size + 1) (.lst (out.map backV)), I.laid (t' := s.toks) (fun _ _ => sortedAll_old) (Nat.le_succ _) ⟨by rw [pm.length_eq]; exact hz, out, ep, vals_back h3, he⟩, rfl,
      q _ _ pm (List.pairwise_map.mpr o1) (I.hok.fresh (Nat.le_succ _))⟩
end JU
namespace J
open PySem PySem.Spec PyProof.Rows L2
variable [Tb]
def tupS (ss : List Str) : PyData := .tuple (ss.map .str)
def tups? : List PyData → Option (List (List Str))
  | [] => some []
  | .tuple ds :: r => (strs? ds).bind fun ss => (tups? r).map fun t => ss :: t
  | _ :: _ => none
theorem tups_map : ∀ {ds : List PyData} {tt : List (List Str)}, tups? ds = some tt → ds = tt.map tupS
  | [], tt, e => by cases e; rfl
  | .tuple ds :: r, tt, e => by
    rw [tups?] at e
    cases e1 : strs? ds with
    | none => rw [e1] at e; cases e
    | some ss =>
      rw [e1] at e
      cases e2 : tups? r with
      | none => rw [e2] at e; cases e
      | some t =>
        rw [e2] at e
        cases e
        rw [List.map_cons, ← tups_map e2, tupS, ← strs_map e1]
  | .none :: _, _, e => by cases e
  | .bool _ :: _, _, e => by cases e
  | .int _ :: _, _, e => by cases e
  | .str _ :: _, _, e => by cases e
  | .list _ :: _, _, e => by cases e
  | .dict _ :: _, _, e => by cases e
theorem tups_of_map : ∀ tt : List (List Str), tups? (tt.map tupS) = some tt
  | [] => rfl
  | ss :: t => by
    rw [List.map_cons, tupS, tups?, strs_of_map, tups_of_map t]; rfl
def insL (x : List Str) : List (List Str) → List (List Str)
  | [] => [x]
  | y :: r => if JU.ltL y x = true then y :: insL x r else x :: y :: r
def sortL (xs : List (List Str)) : List (List Str) := xs.foldr insL []
def WeakL (l : List (List Str)) : Prop := l.Pairwise fun a b => JU.ltL b a = false
theorem perm_insL {x : List Str} : ∀ {l : List (List Str)}, (insL x l).Perm (x :: l)
  | [] => List.Perm.refl _
  | y :: r => by
    rw [insL]
    split
    · exact (List.Perm.cons y perm_insL).trans (List.Perm.swap x y r)
    · exact List.Perm.refl _
theorem perm_sortL : ∀ {xs : List (List Str)}, (sortL xs).Perm xs
  | [] => List.Perm.refl _
  | x :: r => perm_insL.trans (List.Perm.cons x perm_sortL)
theorem weak_insL {x : List Str} : ∀ {l : List (List Str)}, WeakL l → WeakL (insL x l)
  | [], _ => by simp [insL, WeakL]
  | y :: r, h => by
    obtain ⟨h1, h2⟩ := List.pairwise_cons.mp h
    rw [insL]
    by_cases c : JU.ltL y x = true
    · rw [if_pos c]
      refine List.pairwise_cons.mpr ⟨fun z hz => ?_, weak_insL h2⟩
      rcases List.mem_cons.mp (perm_insL.mem_iff.mp hz) with e | hz
      · subst e; exact JU.ltL_asym c
      · exact h1 z hz
    · rw [if_neg c]
      have c : JU.ltL y x = false := by simpa using c
      refine List.pairwise_cons.mpr ⟨fun z hz => ?_, h⟩
      rcases List.mem_cons.mp hz with e | hz
      · subst e; exact c
      · exact JU.ltL_no c (h1 z hz)
theorem weak_sortL : ∀ xs : List (List Str), WeakL (sortL xs)
  | [] => List.Pairwise.nil
  | _ :: r => weak_insL (weak_sortL r)
theorem weakL_uniq : ∀ {l m : List (List Str)}, WeakL l → WeakL m → l.Perm m → l = m
  | [], m, _, _, p => (List.nil_perm.mp p).symm
  | x :: l, [], _, _, p => absurd p.length_eq (by simp)
  | x :: l, y :: m, hl, hm, p => by
    obtain ⟨h1, h2⟩ := List.pairwise_cons.mp hl
    obtain ⟨h3, h4⟩ := List.pairwise_cons.mp hm
    have e : x = y := by
      have a : JU.ltL y x = false := by
        rcases List.mem_cons.mp (p.mem_iff.mpr List.mem_cons_self : y ∈ x :: l) with e | h
        · rw [e]; exact JU.ltL_irr x
        · exact h1 y h
      have b : JU.ltL x y = false := by
        rcases List.mem_cons.mp (p.mem_iff.mp List.mem_cons_self : x ∈ y :: m) with e | h
        · rw [e]; exact JU.ltL_irr y
        · exact h3 x h
      exact JU.ltL_tri b a
    subst e
    rw [weakL_uniq h2 h4 (List.Perm.cons_inv p)]
/-- sorted of texts, of tuples of texts -/
def sortD (ds : List PyData) : Option SO := match strs? ds with
  | some ss => some (.lst ((sortStr ss).map PyData.str))
  | none => (tups? ds).map fun tt => .lst ((sortL tt).map tupS)
@[simp] theorem sortD_strs (ss : List Str) : sortD (ss.map PyData.str) = some (.lst ((sortStr ss).map PyData.str)) := by
  unfold sortD; rw [strs_of_map]
@[simp] theorem sortD_tups (tt : List (List Str)) : sortD (tt.map tupS) = some (.lst ((sortL tt).map tupS)) := by
  cases tt with
  | nil => rfl
  | cons ss t =>
    have e : strs? ((ss :: t).map tupS) = none := by rw [List.map_cons, tupS]; rfl
    unfold sortD
    rw [e, tups_of_map]; rfl
def sortN (μ : Mu) : List SV → Option SO
  | [x] => (rd μ x).bind fun d => match d with
    | .list ds => sortD ds
    | .tuple ds => sortD ds
    | _ => none
  | _ => none
theorem RpAll.mem {K : PySem.W.Frag} {H : Hp} : ∀ {xs : List V} {ds : List PyData}, RpAll K H xs ds → ∀ x ∈ xs, ∃ d ∈ ds, Rp K H x d
  | _, _, .nil, x, h => by simp at h
  | _, _, .cons r t, x, h => by
    rcases List.mem_cons.mp h with e | h
    · subst e; exact ⟨_, List.mem_cons_self, r⟩
    · obtain ⟨d, h1, h2⟩ := RpAll.mem t x h
      exact ⟨d, List.mem_cons_of_mem _ h1, h2⟩
theorem RpAll.each {K : PySem.W.Frag} {H : Hp} (f : V → PyData) : ∀ {ys : List V}, (∀ y ∈ ys, Rp K H y (f y)) → RpAll K H ys (ys.map f)
  | [], _ => .nil
  | y :: r, h => .cons (h y List.mem_cons_self) (RpAll.each f fun z hz => h z (List.mem_cons_of_mem _ hz))
theorem rp_tups {K : PySem.W.Frag} {H : Hp} {x : V} {ss : List Str} (h : Rp K H x (tupS ss)) : ∃ t, x = .ref t ∧ SqT K H t (ss.map V.str) := by
  unfold tupS at h
  cases h with
  | tup h1 h2 => rw [h2.strs_inv] at h1; exact ⟨_, rfl, h1⟩
open Classical in
noncomputable def keyV (K : PySem.W.Frag) (H : Hp) (x : V) : List Str := if h : ∃ (ss : List Str) (t : Addr), x = .ref t ∧ SqT K H t (ss.map V.str) then h.choose else []
theorem keyV_spec {K : PySem.W.Frag} {H : Hp} {x : V} (h : ∃ (ss : List Str) (t : Addr), x = .ref t ∧ SqT K H t (ss.map V.str)) : ∃ t, x = V.ref t ∧ SqT K H t ((keyV K H x).map V.str) := by
  unfold keyV
  rw [dif_pos h]
  exact h.choose_spec
theorem strV_inj : ∀ {a b : List Str}, a.map V.str = b.map V.str → a = b
  | [], [], _ => rfl
  | [], _ :: _, h => by simp at h
  | _ :: _, [], h => by simp at h
  | x :: a, y :: b, h => by
    rw [List.map_cons, List.map_cons] at h
    obtain ⟨h1, h2⟩ := List.cons.inj h
    cases h1
    rw [strV_inj h2]
theorem dc_sorted {X : Cx} (hu : X.A.units + 65 < cLine) : CallR X (.builtin "sorted") (LCN X.K sortN) := by
  intro pins s σ H xs us Q I r ⟨g, μ, svs, QD, ok, r1, t, q⟩
  obtain ⟨z, e, t⟩ := t.of
  have fin : ∀ (a : Addr) (ys : List V) (ds : List PyData), xs = [V.ref a] → (SqL X.K H a ys ∨ SqT X.K H a ys) → RpAll X.K g.F ys ds → sortD ds = some z → wpAny (model X.prog X.w) X.A (call (.builtin "sorted") us) (EP X pins σ Q) X.xe s := fun a ys ds e1 e2 h2 ed => by
    unfold sortD at ed
    cases es : strs? ds with
    | some ss =>
      rw [es] at ed
      cases ed
      rw [strs_map es] at h2
      rw [h2.strs_inv] at e2
      refine JU.cr_sortedQ pins s σ H _ us Q I r ⟨a, ss, e1, e2, fun ys p pm hy hp => ?_⟩
      obtain ⟨k1, k2, k3, k4⟩ := ok.grow (.lst (ys.map V.str)) hp
      have hw : Weak ys := hy.imp fun {a b} h => by
        unfold ltS; exact decide_eq_false h
      have ey : ys = sortStr ss := weak_uniq hw (weak_sortStr ss) (pm.trans perm_sortStr.symm)
      exact q _ p (.lst ((sortStr ss).map PyData.str)) _ k2 k1 hp k3 k4 ⟨ys.map V.str, upd_same, by rw [ey]; exact RpAll.strs _⟩ t
    | none =>
      rw [es] at ed
      cases et : tups? ds with
      | none => rw [et] at ed; cases ed
      | some tt =>
        rw [et] at ed
        cases ed
        have hd := tups_map et
        subst hd
        have hx : ∀ x ∈ ys, ∃ ss ∈ tt, Rp X.K g.F x (tupS ss) := fun x hx => by
          obtain ⟨d, h3, h4⟩ := h2.mem x hx
          obtain ⟨ss, h5, rfl⟩ := List.mem_map.mp h3
          exact ⟨ss, h5, h4⟩
        have key : ∀ x ss, Rp X.K g.F x (tupS ss) → keyV X.K H x = ss := fun x ss h => by
          obtain ⟨t1, rfl, h1⟩ := rp_tups h
          have h1 := same_sqT ok.ex h1
          obtain ⟨t2, e2, h2⟩ := keyV_spec (K := X.K) (H := H) (x := .ref t1) ⟨ss, t1, rfl, h1⟩
          cases e2
          exact strV_inj (I.tuple_inj h2 h1)
        have keys : ∀ {ys : List V} {tt : List (List Str)}, RpAll X.K g.F ys (tt.map tupS) → ys.map (keyV X.K H) = tt := by
          intro ys tt
          induction tt generalizing ys with
          | nil => intro h; cases h; rfl
          | cons ss r ih =>
            intro h
            rw [List.map_cons] at h
            cases h with
            | cons h3 h4 => rw [List.map_cons, key _ _ h3, ih h4]
        refine JU.cr_sortedTS hu pins s σ H _ us Q I r ⟨a, ys, keyV X.K H, e1, e2, fun x hx' => ?_, fun out p pm hy hp => ?_⟩
        · obtain ⟨ss, _, h3⟩ := hx x hx'
          obtain ⟨t1, rfl, h1⟩ := rp_tups h3
          exact keyV_spec ⟨ss, t1, rfl, same_sqT ok.ex h1⟩
        · obtain ⟨k1, k2, k3, k4⟩ := ok.grow (.lst out) hp
          have hw : WeakL (out.map (keyV X.K H)) := List.pairwise_map.mpr hy
          have hpm : (out.map (keyV X.K H)).Perm tt := by rw [← keys h2]; exact pm.map _
          have ey : out.map (keyV X.K H) = sortL tt := weakL_uniq hw (weak_sortL tt) (hpm.trans perm_sortL.symm)
          refine q _ p (.lst ((sortL tt).map tupS)) _ k2 k1 hp k3 k4 ⟨out, upd_same, ?_⟩ t
          rw [← ey, List.map_map]
          refine RpAll.each _ fun y hy' => ?_
          obtain ⟨ss, _, h3⟩ := hx y (pm.mem_iff.mp hy')
          show Rp X.K g.F y (tupS (keyV X.K H y))
          rw [key y ss h3]; exact h3
  unfold sortN at e
  split at e
  · rename_i x
    obtain ⟨v, rfl, rv⟩ := rss1 r1
    cases hq : rd μ x with
    | none => rw [hq] at e; cases e
    | some d =>
      rw [hq] at e
      cases d with
      | list ds =>
        obtain ⟨a, xs, rfl, h1, h2⟩ := rv.list ok hq
        exact fin a xs ds rfl (.inl (.inl (.inl h1))) h2 e
      | tuple ds =>
        obtain ⟨a, xs, rfl, h1, _, h2⟩ := rv.tup ok hq
        exact fin a xs ds rfl (.inr h1) h2 e
      | _ => cases e
  · cases e
end J
namespace J
open PySem PySem.Spec
variable [Tb]
/-- what a reading gives, the store as it is -/
def Gv (T : DT) (ρ : En) (μ : Mu) (x : PyData) : Prop := ∀ k : SV → Mu → Prop, k (.d x) μ → T ρ μ k
def GvB (U : DTB) (ρ : En) (μ : Mu) (b : Bool) : Prop := ∀ k : Bool → Mu → Prop, k b μ → U ρ μ k
theorem lc_map {t : Tg} {T : DT} {gd : Mu → Prop} {ρ0 : En} {Q : List PyData → Mu → Prop} (f : PyData → PyData) {μ : Mu} (hg : gd μ) : ∀ (items acc : List PyData), acc.length + items.length ≤ 16777216 →
    (∀ x ∈ items, ∃ ρ, t.put (.d x) ρ0 = some ρ ∧ Gv T ρ μ (f x)) → Q (acc ++ items.map f) μ → lcGo t yesB T gd ρ0 Q items acc μ
  | [], acc, _, _, q => ⟨hg, by simpa using q⟩
  | x :: r, acc, hl, h, q => by
    obtain ⟨ρ, e, hT⟩ := h x List.mem_cons_self
    refine ⟨hg, ?_⟩
    rw [e]
    refine hT _ ⟨by rw [sizeLine_eq]; simp at hl; omega, ?_⟩
    exact lc_map f hg r (acc ++ [f x]) (by simp at hl ⊢; omega) (fun y hy => h y (List.mem_cons_of_mem _ hy)) (by simpa using q)
theorem lc_filter {t : Tg} {U : DTB} {T : DT} {gd : Mu → Prop} {ρ0 : En} {Q : List PyData → Mu → Prop} (p : PyData → Bool) (f : PyData → PyData) {μ : Mu} (hg : gd μ) : ∀ (items acc : List PyData), acc.length + items.length ≤ 16777216 →
    (∀ x ∈ items, ∃ ρ, t.put (.d x) ρ0 = some ρ ∧ GvB U ρ μ (p x) ∧ (p x = true → Gv T ρ μ (f x))) → Q (acc ++ (items.filter p).map f) μ → lcGo t U T gd ρ0 Q items acc μ
  | [], acc, _, _, q => ⟨hg, by simpa using q⟩
  | x :: r, acc, hl, h, q => by
    obtain ⟨ρ, e, hU, hT⟩ := h x List.mem_cons_self
    refine ⟨hg, ?_⟩
    rw [e]
    refine hU _ ?_
    cases hp : p x with
    | true =>
      refine hT hp _ ⟨by rw [sizeLine_eq]; simp at hl; omega, ?_⟩
      exact lc_filter p f hg r (acc ++ [f x]) (by simp at hl ⊢; omega) (fun y hy => h y (List.mem_cons_of_mem _ hy)) (by simpa [List.filter_cons, hp] using q)
    | false =>
      exact lc_filter p f hg r acc (by simp at hl ⊢; omega) (fun y hy => h y (List.mem_cons_of_mem _ hy)) (by simpa [List.filter_cons, hp] using q)
theorem bools_map' (f : PyData → Bool) (ds : List PyData) : bools? (ds.map fun x => .bool (f x)) = some (ds.map f) := by
  induction ds with
  | nil => rfl
  | cons x r ih => show (bools? (r.map fun x => .bool (f x))).map (f x :: ·) = _; rw [ih]; rfl
@[simp] theorem kit_NoneType_str : L2.kitB "NoneType" "str" = some false := by decide +kernel
@[simp] theorem kit_NoneType_int : L2.kitB "NoneType" "int" = some false := by decide +kernel
@[simp] theorem kit_NoneType_bool : L2.kitB "NoneType" "bool" = some false := by decide +kernel
@[simp] theorem kit_NoneType_tuple : L2.kitB "NoneType" "tuple" = some false := by decide +kernel
@[simp] theorem kit_NoneType_list : L2.kitB "NoneType" "list" = some false := by decide +kernel
@[simp] theorem kit_bool_str : L2.kitB "bool" "str" = some false := by decide +kernel
@[simp] theorem kit_bool_int : L2.kitB "bool" "int" = some true := by decide +kernel
@[simp] theorem kit_bool_bool : L2.kitB "bool" "bool" = some true := by decide +kernel
@[simp] theorem kit_bool_tuple : L2.kitB "bool" "tuple" = some false := by decide +kernel
@[simp] theorem kit_bool_list : L2.kitB "bool" "list" = some false := by decide +kernel
@[simp] theorem kit_int_str : L2.kitB "int" "str" = some false := by decide +kernel
@[simp] theorem kit_int_int : L2.kitB "int" "int" = some true := by decide +kernel
@[simp] theorem kit_int_bool : L2.kitB "int" "bool" = some false := by decide +kernel
@[simp] theorem kit_int_tuple : L2.kitB "int" "tuple" = some false := by decide +kernel
@[simp] theorem kit_int_list : L2.kitB "int" "list" = some false := by decide +kernel
@[simp] theorem kit_str_str : L2.kitB "str" "str" = some true := by decide +kernel
@[simp] theorem kit_str_int : L2.kitB "str" "int" = some false := by decide +kernel
@[simp] theorem kit_str_bool : L2.kitB "str" "bool" = some false := by decide +kernel
@[simp] theorem kit_str_tuple : L2.kitB "str" "tuple" = some false := by decide +kernel
@[simp] theorem kit_str_list : L2.kitB "str" "list" = some false := by decide +kernel
@[simp] theorem kit_list_str : L2.kitB "list" "str" = some false := by decide +kernel
@[simp] theorem kit_list_int : L2.kitB "list" "int" = some false := by decide +kernel
@[simp] theorem kit_list_bool : L2.kitB "list" "bool" = some false := by decide +kernel
@[simp] theorem kit_list_tuple : L2.kitB "list" "tuple" = some false := by decide +kernel
@[simp] theorem kit_list_list : L2.kitB "list" "list" = some true := by decide +kernel
@[simp] theorem kit_tuple_str : L2.kitB "tuple" "str" = some false := by decide +kernel
@[simp] theorem kit_tuple_int : L2.kitB "tuple" "int" = some false := by decide +kernel
@[simp] theorem kit_tuple_bool : L2.kitB "tuple" "bool" = some false := by decide +kernel
@[simp] theorem kit_tuple_tuple : L2.kitB "tuple" "tuple" = some true := by decide +kernel
@[simp] theorem kit_tuple_list : L2.kitB "tuple" "list" = some false := by decide +kernel
/-- the usual unfoldings of a reading -/
theorem match_b {b : Bool} {P : Prop} {A B : Prop} (h1 : b = true → A) (h2 : b = false → B) : (match b with | true => A | false => B) := by
  cases b
  · exact h2 rfl
  · exact h1 rfl
section
open PyProof.Rows L2
variable {X : Cx} {a b c : Expr} {pos : Pos} {Es : DTA}
/-- t.index(z), t a tuple of texts -/
def idxS : List Str → Str → Option Nat
  | [], _ => none
  | x :: r, z => if x = z then some 0 else (idxS r z).map fun j => j + 1
theorem idxS_at {z : Str} : ∀ {ss : List Str} {j : Nat}, idxS ss z = some j → ss[j]? = some z ∧ ∀ m, m < j → ss[m]? ≠ some z
  | [], j, h => by cases h
  | x :: r, j, h => by
    rw [idxS] at h
    by_cases e : x = z
    · rw [if_pos e] at h
      cases h
      exact ⟨by simp [e], fun m hm => by omega⟩
    · rw [if_neg e] at h
      cases q : idxS r z with
      | none => rw [q] at h; cases h
      | some k =>
        rw [q] at h
        cases h
        obtain ⟨h1, h2⟩ := idxS_at q
        refine ⟨by simpa using h1, fun m hm => ?_⟩
        cases m with
        | zero => simpa using e
        | succ m => simpa using h2 m (by have hm : m + 1 < k + 1 := hm; omega)
theorem idxS_mem {z : Str} : ∀ {ss : List Str}, z ∈ ss → ∃ j, idxS ss z = some j
  | [], h => by simp at h
  | x :: r, h => by
    rw [idxS]
    by_cases e : x = z
    · exact ⟨0, if_pos e⟩
    · rw [if_neg e]
      have h : z ∈ r := by
        rcases List.mem_cons.mp h with q | q
        · exact (e q.symm).elim
        · exact q
      obtain ⟨j, hj⟩ := idxS_mem h
      exact ⟨j + 1, by rw [hj]; rfl⟩
def tupAt : SV → Option (List Str)
  | .x (.tx ss) => some ss
  | _ => none
@[simp] theorem tupAt_tx (ss : List Str) : tupAt (.x (.tx ss)) = some ss := rfl
section
variable {X : Cx} {a e : Expr} {es : List Expr} {pos p : Pos} {Ta T : DT} {Es : DTA}
/-- a method of a tuple of texts whose object has no attributes -/
def tBMF (r : V → List V → Hp → VK → Prop) (ta : TE) (tb : TA) : TE := fun σ H Q => ta σ H fun x H1 => (∃ (p : Addr) (ob : Obj) (ys : List V), x = .ref p ∧ H1 p = some (.frz ob (.tup ys)) ∧ ob.dict = none) ∧ tb σ H1 fun xs H2 => r x xs H2 Q
theorem pe_bmF {m : Str} {id : String} {r : V → List V → Hp → VK → Prop} {apos : Pos} {ta : TE} {tb : TA} (slot : Slot "tuple" m id) (hty : typeOf (.builtin id) = pure (.type "method_descriptor")) (hm : MtR X id r) (ha : PE X a ta) (he : PA X (e :: es) tb)
    (hbase : attributeBase a m X.env (eval a X.env) = eval a X.env) (hfew : ((backTo pos (starEach (e :: es) X.env)).all (fun x => !x.1) && (backToKw pos (keywordEach [] X.env)).all (fun x => x.1.isSome)
      && decide ((e :: es).length + ([] : List Keyword).length + (if ([] : List Keyword).isEmpty then 0 else 1) < 30)) = true)
    (hline : (apos.endLine == pos.line) = true) (hs : starEach (e :: es) X.env = (false, eval e X.env) :: starEach es X.env) (hpl : (backTo pos (starEach es X.env)).any (·.1) = false := by rfl) : PE X (.Call (.Attribute a m apos) (e :: es) [] pos) (tBMF r ta tb) := by
  refine ⟨fun pins s σ H Q I h => wpAny_Call_method_late hbase hfew hline rfl (thn (ha.run pins s σ H _ I h) fun v s1 ⟨x, H1, I1, r1, ⟨p, ob, ys, hx, hp, hd⟩, q1⟩ => ?_)⟩
  subst hx
  cases (show v = Value.ref p from r1)
  obtain ⟨g1, _, its, _, ⟨o, g2, g3, _⟩⟩ := I1.hok _ _ hp
  rw [g1] at g2
  cases g2
  have run := he.run pos pins s1 σ H1 _ I1 q1
  refine ⟨"tuple", id, PySem.F.plainAttrs_tuple, slot, hty, ⟨_, g1, g3⟩, fun b eb => ?_, ?_⟩
  · cases eb; exact ⟨_, g1, hd⟩
  · rw [hs] at run ⊢
    refine Calls.callWith_builtin (by show (false || (backTo pos (starEach es X.env)).any (·.1)) = false; rw [hpl] <;> rfl) (Calls.evalArgs_plain (thn run fun us s2 ⟨vs, H2, I2, r2, q2⟩ => ?_))
    exact hm pins s2 σ H2 (.ref p) vs (Value.ref p) us Q I2 rfl r2 q2
def idxT (Ta Te : DT) : DT := fun ρ μ Q => Ta ρ μ fun x μ1 => oP (tupAt x) fun ss => Te ρ μ1 fun y μ2 => match y with
  | .d (.str z) => oP (idxS ss z) fun j => Q (.d (.int (j : Nat))) μ2
  | _ => False
theorem tupAt_ok {K : PySem.W.Frag} {g : G} {v : V} {sv : SV} {ss : List Str} (r : RS K g v sv) (e : tupAt sv = some ss) : ∃ p o, v = .ref p ∧ g.F p = some (.frz o (.tup (ss.map V.str))) ∧ o.dict = none := by
  cases sv with
  | x k =>
    cases k with
    | tx ss' => cases e; exact r
    | tp xs => cases e
  | _ => cases e
theorem de_index {apos : Pos} (ha : DE X a Ta) (he : DE X e T) (hbase : attributeBase a "index" X.env (eval a X.env) = eval a X.env := by rfl)
    (hfew : ((backTo pos (starEach [e] X.env)).all (fun x => !x.1) && (backToKw pos (keywordEach [] X.env)).all (fun x => x.1.isSome)
      && decide (([e] : List Expr).length + ([] : List Keyword).length + (if ([] : List Keyword).isEmpty then 0 else 1) < 30)) = true := by rfl)
    (hline : (apos.endLine == pos.line) = true := by rfl) (hs : starEach [e] X.env = (false, eval e X.env) :: starEach [] X.env := by rfl) :
    DE X (.Call (.Attribute a "index" apos) [e] [] pos) (idxT Ta T) :=
  ⟨(pe_bmF PySem.F.slot_tuple_index PySem.F.type_tuple_index mt_tup_index ha.pe (pa_cons he.pe pa_nil hs) hbase hfew hline hs rfl).weak fun σ H Q ⟨g, ρ, μ, QD, ok, en, t, q⟩ => ⟨g, ρ, μ, _, ok, en, t, fun g1 v sv μ1 H1 x1 ok1 r1 t1 => by
    obtain ⟨ss, e1, t2⟩ := t1.of
    obtain ⟨p, ob, rfl, h1, h3⟩ := tupAt_ok r1 e1
    refine ⟨⟨p, ob, _, rfl, ok1.ex _ _ h1, h3⟩, g1, ρ, μ1, _, ok1, en.mono x1.le, t2, fun g2 y sy μ2 H2 x2 ok2 r2 t3 => ?_⟩
    cases sy with
    | d d =>
      cases d with
      | str z =>
        obtain ⟨j, e2, t4⟩ := t3.of
        cases rp_str r2
        obtain ⟨k1, k2⟩ := idxS_at e2
        exact ⟨p, ss, z, j, rfl, rfl, .inl (.inr ⟨ob, ok2.ex _ _ (x2.le.f _ _ h1)⟩), k1, k2, q _ _ (.d (.int (j : Nat))) _ _ (x1.trans x2) ok2 (.int _) t4⟩
      | _ => exact t3.elim
    | _ => exact t3.elim⟩⟩
/-- calls of built-ins that give another kind of value -/
def callX (h : Mu → List SV → Option XV) (Es : DTA) : DT := fun ρ μ Q => Es ρ μ fun svs μ1 => oP (h μ1 svs) fun k => Q (.x k) μ1
def LCX (K : PySem.W.Frag) (h : Mu → List SV → Option XV) : List V → Hp → VK → Prop := fun xs H Q => ∃ (g : G) (μ : Mu) (svs : List SV) (QD : XV → Prop), StOk K g μ H ∧ RSs K g xs svs ∧ oP (h μ svs) QD ∧ ∀ g' v k H', Ext g H g' H' → StOk K g' μ H' → XV.rel K g' v k → QD k → Q v H'
theorem de_ctX {x : Str} {id : String} {h : Mu → List SV → Option XV} (hc : CallR X (.type id) (LCX X.K h)) (hg : Gl X x) (hm : X.mg x = none) (hv : bootBuiltins x = some (.type id)) (ha : DA X (e :: es) Es) (hn : x ≠ "__name__" := by decide) (hdb : (x == ("__debug__" : Str)) = false := by decide)
    (he : starEach (e :: es) X.env = (false, eval e X.env) :: starEach es X.env := by rfl) (hpl : (backTo pos (starEach es X.env)).any (·.1) = false := by rfl) : DE X (.Call (.Name x p) (e :: es) [] pos) (callX h Es) :=
  ⟨(pe_callTy hc hg hm hv ha.pa hn hdb he hpl).weak fun σ H Q ⟨g, ρ, μ, QD, ok, en, t, q⟩ => ⟨g, ρ, μ, _, ok, en, t, fun g1 vs svs μ1 H1 x1 ok1 r1 t1 => ⟨g1, μ1, svs, _, ok1, r1, t1, fun g2 v k H2 x2 ok2 r2 t2 => q g2 v (.x k) μ1 H2 (x1.trans x2) ok2 r2 t2⟩⟩⟩
/-- tuple(list of texts), known to have no attributes -/
@[simp] def tupX (μ : Mu) : List SV → Option XV
  | [x] => (rd μ x).bind fun d => match d with
    | .list ds => (strs? ds).map fun ss => .tx ss
    | _ => none
  | _ => none
theorem dc_tupX : CallR X (.type "tuple") (LCX X.K tupX) := by
  intro pins s σ H xs us Q I r ⟨g, μ, svs, QD, ok, r1, t, q⟩
  obtain ⟨z, e, t⟩ := t.of
  unfold tupX at e
  split at e
  · rename_i x
    obtain ⟨v, rfl, rv⟩ := rss1 r1
    cases hq : rd μ x with
    | none => rw [hq] at e; cases e
    | some d =>
      rw [hq] at e
      cases d with
      | list ds =>
        have e : ((strs? ds).map fun ss => XV.tx ss) = some z := e
        cases hs : strs? ds with
        | none => rw [hs] at e; cases e
        | some ss =>
          rw [hs] at e
          cases e
          obtain ⟨a, xs, rfl, h1, h2⟩ := rv.list ok hq
          rw [strs_map hs] at h2
          rw [h2.strs_inv] at h1
          cases r with
          | cons ru rt =>
          cases rt
          rename_i u
          cases (show u = Value.ref a from ru)
          obtain ⟨its, r', pl, hz⟩ := I.list (.inl (.inl h1))
          have hlen := r'.length
          refine call_tuple_list pl.isList (fun h' kp => ?_) (by simp only [List.size_toArray] <;> omega)
          have I1 : Inv X pins σ H { s with heap := h' } := I.kept (t' := s.toks) kp
          have hn := I1.hok.fresh (Nat.le_refl h'.objs.size)
          have I2 : Inv X pins σ (upd H h'.objs.size (.frz { cls := .type "tuple", data := .seq its.toArray } (.tup (ss.map V.str)))) { s with heap := h'.push { cls := .type "tuple", data := .seq its.toArray } } :=
            I1.laid (t' := s.toks) (fun b o e => Heap.get?_push_of_some _ e) (Nat.le_refl _) ⟨Heap.get?_push_size _ rfl, hz, its, r', IsTup.new _ _⟩
          obtain ⟨k1, k2, k3, k4⟩ := ok.grow (.frz { cls := .type "tuple", data := .seq its.toArray } (.tup (ss.map V.str))) hn
          obtain ⟨k5, k6⟩ := k1.frozen k2 hn k3 k4 upd_same
          exact ⟨.ref h'.objs.size, _, I2, rfl, q _ _ (.tx ss) _ k6 k5 ⟨_, _, rfl, upd_same, rfl⟩ t⟩
      | _ => cases e
  · cases e
end
/-- three names, stored from the right -/
def par3S (i j l : Nat) (Es : DTA) : DTS := fun DD ρ μ => Es ρ μ fun svs μ1 => match svs with
  | [x, y, z] => DD.nx (((ρ.set i (some x)).set j (some y)).set l (some z)) μ1
  | _ => False
theorem ds_par3 {i j l : Nat} {x y z : Str} {px py pz pt : Pos} {kt k2 pt2} (hc : X.calm = true) (hN : X.N.Nodup) (hi : X.N[i]? = some x) (hj : X.N[j]? = some y) (hl : X.N[l]? = some z) (hij : i ≠ j) (hil : i ≠ l) (hjl : j ≠ l)
    (hx : X.env.scope.names.lookup x = some .local) (hy : X.env.scope.names.lookup y = some .local) (hz : X.env.scope.names.lookup z = some .local) (ha : DA X [a, b, c] Es)
    (hw : swappedStores [.Tuple [.Name x px, .Name y py, .Name z pz] kt pt] (.Tuple [a, b, c] k2 pt2) X.env = pure (some [x, y, z]))
    (hs : swapsWithSole [.Tuple [.Name x px, .Name y py, .Name z pz] kt pt] (.Tuple [a, b, c] k2 pt2) pos.line X.env = pure false := by rfl) :
    DS X (.Assign [.Tuple [.Name x px, .Name y py, .Name z pz] kt pt] (.Tuple [a, b, c] k2 pt2) pos) (par3S i j l Es) :=
  ⟨(ps_par3 hc hN hi hj hl hij hil hjl hx hy hz ha.pa hw hs).weak fun D σ H ⟨g, ρ, μ, DD, ok, en, tt, w⟩ => ⟨g, ρ, μ, _, ok, en, tt, fun g1 vs svs μ1 H1 x1 ok1 r1 t1 => by
    cases r1 with
    | nil => exact t1.elim
    | cons r t =>
      cases t with
      | nil => exact t1.elim
      | cons r' t' =>
        cases t' with
        | nil => exact t1.elim
        | cons r2 t2 =>
          cases t2 with
          | cons _ _ => exact t1.elim
          | nil => exact ⟨_, _, _, rfl, w.nx g1 _ μ1 _ H1 x1 ok1 ((((en.mono x1.le).set i r).set j r').set l r2) t1⟩⟩⟩
end
end J
namespace J
open PySem PySem.Spec PyProof.Rows L2
variable [Tb]
noncomputable section
def bnd {α β : Type} (o : Option (α × Mu)) (f : α → Mu → Option β) : Option β := match o with
  | some (a, μ) => f a μ
  | none => none
@[simp] theorem bnd_some {α β : Type} (a : α) (μ : Mu) (f : α → Mu → Option β) : bnd (some (a, μ)) f = f a μ := rfl
@[simp] theorem bnd_none {α β : Type} (f : α → Mu → Option β) : bnd none f = none := rfl
@[simp] theorem bnd_ite {α β : Type} {c : Prop} [Decidable c] (a b : Option (α × Mu)) (f : α → Mu → Option β) : bnd (if c then a else b) f = if c then bnd a f else bnd b f := by split <;> rfl
@[simp] theorem obind_ite {α β : Type} {c : Prop} [Decidable c] (a b : Option α) (f : α → Option β) : (if c then a else b).bind f = if c then a.bind f else b.bind f := by split <;> rfl
@[simp] theorem omap_ite {α β : Type} {c : Prop} [Decidable c] (a b : Option α) (f : α → β) : (if c then a else b).map f = if c then a.map f else b.map f := by split <;> rfl
theorem oP_bnd {α β : Type} {o : Option (α × Mu)} {f : α → Mu → Option β} {k : β → Prop} : oP (bnd o f) k → oP o fun p => oP (f p.1 p.2) k := by
  cases o with
  | none => exact id
  | some p => exact id
theorem oP_bind {α β : Type} {o : Option α} {f : α → Option β} {k : β → Prop} : oP (o.bind f) k → oP o fun p => oP (f p) k := by
  cases o with
  | none => exact id
  | some p => exact id
theorem oP_map {α β : Type} {o : Option α} {f : α → β} {k : β → Prop} : oP (o.map f) k → oP o fun p => k (f p) := by
  cases o with
  | none => exact id
  | some p => exact id
theorem oP.imp {α : Type} {o : Option α} {k k' : α → Prop} (h : oP o k) (i : ∀ a, k a → k' a) : oP o k' := by
  cases o with
  | none => exact h
  | some a => exact i a h
theorem oP_if {α : Type} {c : Bool} {o : Option α} {k : α → Prop} (h : oP (if c = true then o else none) k) : c = true ∧ oP o k := by
  split at h
  · rename_i hc; exact ⟨hc, h⟩
  · exact h.elim
abbrev FE := En → Mu → Option (SV × Mu)
abbrev FB := En → Mu → Option (Bool × Mu)
abbrev FA := En → Mu → Option (List SV × Mu)
abbrev FN := En → Mu → Option (SO × Mu)
abbrev FP := En → Mu → Option (Option Int × Mu)
abbrev GdF := Option (Nat × List PyData)
abbrev FI := En → Mu → Option ((List PyData × GdF) × Mu)
abbrev FC := List SV → Mu → Option (SV × Mu)
def Im {α : Type} (T : En → Mu → (α → Mu → Prop) → Prop) (f : En → Mu → Option (α × Mu)) : Prop := ∀ ρ μ (Q : α → Mu → Prop), oP (f ρ μ) (fun p => Q p.1 p.2) → T ρ μ Q
theorem Im.step {α β : Type} {T : En → Mu → (α → Mu → Prop) → Prop} {f : En → Mu → Option (α × Mu)} (ha : Im T f) {ρ : En} {μ : Mu} {k : α → Mu → Option β} {q : β → Prop} {R : α → Mu → Prop} (h : oP (bnd (f ρ μ) k) q)
    (hk : ∀ x μ1, oP (k x μ1) q → R x μ1) : T ρ μ R := ha ρ μ R ((oP_bnd h).imp fun p hp => hk p.1 p.2 hp)
section
variable {a b c : FE} {Ta Tb Tc : DT} {U U' : DTB} {u u' : FB} {Es : DTA} {es : FA} {N : DTN} {n : FN}
@[simp] def vF (i : Nat) : FE := fun ρ μ => match ρ[i]? with
  | some (some sv) => some (sv, μ)
  | _ => none
theorem im_v (i : Nat) : Im (vT i) (vF i) := fun ρ μ Q h => by
  revert h
  unfold vF vT
  generalize ρ[i]? = o
  intro h
  cases o with
  | none => exact h.elim
  | some o =>
    cases o with
    | none => exact h.elim
    | some sv => exact h
@[simp] def cF (x : PyData) : FE := fun _ μ => some (.d x, μ)
theorem im_c (x : PyData) : Im (cT x) (cF x) := fun ρ μ Q h => h
@[simp] def opF (h : PyData → PyData → Option PyData) (a b : FE) : FE := fun ρ μ => bnd (a ρ μ) fun x μ1 => bnd (b ρ μ1) fun y μ2 => (rd μ2 x).bind fun dx => (rd μ2 y).bind fun dy => (h dx dy).map fun z => (.d z, μ2)
theorem im_op (h : PyData → PyData → Option PyData) (ha : Im Ta a) (hb : Im Tb b) : Im (opT h Ta Tb) (opF h a b) := fun ρ μ Q q => ha.step q fun x μ1 q => hb.step q fun y μ2 q => (oP_bind q).imp fun _ q => (oP_bind q).imp fun _ q => oP_map q
@[simp] def cmF (h : PyData → PyData → Option Bool) (a b : FE) : FE := fun ρ μ => bnd (a ρ μ) fun x μ1 => bnd (b ρ μ1) fun y μ2 => (rd μ2 x).bind fun dx => (rd μ2 y).bind fun dy => (h dx dy).map fun z => (.d (.bool z), μ2)
theorem im_cm (h : PyData → PyData → Option Bool) (ha : Im Ta a) (hb : Im Tb b) : Im (cmT h Ta Tb) (cmF h a b) := fun ρ μ Q q => ha.step q fun x μ1 q => hb.step q fun y μ2 q => (oP_bind q).imp fun _ q => (oP_bind q).imp fun _ q => oP_map q
@[simp] def cmBF (h : PyData → PyData → Option Bool) (a b : FE) : FB := fun ρ μ => bnd (a ρ μ) fun x μ1 => bnd (b ρ μ1) fun y μ2 => (rd μ2 x).bind fun dx => (rd μ2 y).bind fun dy => (h dx dy).map fun z => (z, μ2)
theorem im_cmB (h : PyData → PyData → Option Bool) (ha : Im Ta a) (hb : Im Tb b) : Im (cmB h Ta Tb) (cmBF h a b) := fun ρ μ Q q => ha.step q fun x μ1 q => hb.step q fun y μ2 q => (oP_bind q).imp fun _ q => (oP_bind q).imp fun _ q => oP_map q
@[simp] def chBF (h h' : PyData → PyData → Option Bool) (a b c : FE) : FB := fun ρ μ => bnd (a ρ μ) fun x μ1 => bnd (b ρ μ1) fun y μ2 => (rd μ2 x).bind fun dx => (rd μ2 y).bind fun dy => (h dx dy).bind fun k => if k = true then
  bnd (c ρ μ2) fun z μ3 => (rd μ3 y).bind fun dy => (rd μ3 z).bind fun dz => (h' dy dz).map fun k' => (k', μ3) else some (false, μ2)
theorem im_chB (h h' : PyData → PyData → Option Bool) (ha : Im Ta a) (hb : Im Tb b) (hc : Im Tc c) : Im (chB h h' Ta Tb Tc) (chBF h h' a b c) := fun ρ μ Q q => ha.step q fun x μ1 q => hb.step q fun y μ2 q => (oP_bind q).imp fun _ q => (oP_bind q).imp fun _ q => (oP_bind q).imp fun k q => by
  cases k with
  | true => exact hc.step q fun z μ3 q => (oP_bind q).imp fun _ q => (oP_bind q).imp fun _ q => oP_map q
  | false => exact q
@[simp] def asD (f : FB) : FE := fun ρ μ => bnd (f ρ μ) fun k μ1 => some (.d (.bool k), μ1)
@[simp] def chF (h h' : PyData → PyData → Option Bool) (a b c : FE) : FE := asD (chBF h h' a b c)
theorem im_ch (h h' : PyData → PyData → Option Bool) (ha : Im Ta a) (hb : Im Tb b) (hc : Im Tc c) : Im (chT h h' Ta Tb Tc) (chF h h' a b c) := fun ρ μ Q q => by
  have q2 : oP (chBF h h' a b c ρ μ) fun p => Q (.d (.bool p.1)) p.2 := oP_bnd q
  refine ha.step q2 fun x μ1 q => hb.step q fun y μ2 q => (oP_bind q).imp fun _ q => (oP_bind q).imp fun _ q => (oP_bind q).imp fun k q => ?_
  cases k with
  | true => exact hc.step q fun z μ3 q => (oP_bind q).imp fun _ q => (oP_bind q).imp fun _ q => oP_map q
  | false => exact q
@[simp] def negF (a : FE) : FE := fun ρ μ => bnd (a ρ μ) fun x μ1 => match x with
  | .d (.int i) => some (.d (.int (-i)), μ1)
  | _ => none
theorem im_neg (ha : Im Ta a) : Im (negT Ta) (negF a) := fun ρ μ Q q => ha.step q fun x μ1 q => by
  split at q
  · exact q
  · exact q.elim
@[simp] def isnF (a : FE) : FE := fun ρ μ => bnd (a ρ μ) fun x μ1 => some (.d (.bool (isNone x)), μ1)
@[simp] def nonF (a : FE) : FE := fun ρ μ => bnd (a ρ μ) fun x μ1 => some (.d (.bool (!isNone x)), μ1)
@[simp] def isbF (k : Bool) (a : FE) : FE := fun ρ μ => bnd (a ρ μ) fun x μ1 => some (.d (.bool (isB k x)), μ1)
@[simp] def nobF (k : Bool) (a : FE) : FE := fun ρ μ => bnd (a ρ μ) fun x μ1 => some (.d (.bool (!isB k x)), μ1)
theorem im_isn (ha : Im Ta a) : Im (isnT Ta) (isnF a) := fun ρ μ Q q => ha.step q fun x μ1 q => q
theorem im_non (ha : Im Ta a) : Im (nonT Ta) (nonF a) := fun ρ μ Q q => ha.step q fun x μ1 q => q
theorem im_isb (k : Bool) (ha : Im Ta a) : Im (isbT k Ta) (isbF k a) := fun ρ μ Q q => ha.step q fun x μ1 q => q
theorem im_nob (k : Bool) (ha : Im Ta a) : Im (nobT k Ta) (nobF k a) := fun ρ μ Q q => ha.step q fun x μ1 q => q
def toB (x : SV) (μ : Mu) : Option (Bool × Mu) := match x with
  | .d (.bool k) => some (k, μ)
  | _ => none
@[simp] theorem toB_b (k : Bool) (μ : Mu) : toB (.d (.bool k)) μ = some (k, μ) := rfl
@[simp] def bF (a : FE) : FB := fun ρ μ => bnd (a ρ μ) toB
theorem im_b (ha : Im Ta a) : Im (bT Ta) (bF a) := fun ρ μ Q q => ha.step q fun x μ1 q => by
  unfold toB at q
  split at q
  · exact q
  · exact q.elim
@[simp] def andBF (u u' : FB) : FB := fun ρ μ => bnd (u ρ μ) fun k μ1 => if k = true then u' ρ μ1 else some (false, μ1)
@[simp] def orBF (u u' : FB) : FB := fun ρ μ => bnd (u ρ μ) fun k μ1 => if k = true then some (true, μ1) else u' ρ μ1
@[simp] def notBF (u : FB) : FB := fun ρ μ => bnd (u ρ μ) fun k μ1 => some (!k, μ1)
theorem im_andB (hu : Im U u) (hu' : Im U' u') : Im (andB U U') (andBF u u') := fun ρ μ Q q => hu.step q fun x μ1 q => by
  cases x with
  | true => exact hu' _ _ _ q
  | false => exact q
theorem im_orB (hu : Im U u) (hu' : Im U' u') : Im (orB U U') (orBF u u') := fun ρ μ Q q => hu.step q fun x μ1 q => by
  cases x with
  | true => exact q
  | false => exact hu' _ _ _ q
theorem im_notB (hu : Im U u) : Im (notB U) (notBF u) := fun ρ μ Q q => hu.step q fun x μ1 q => q
@[simp] def andF (a b : FE) : FE := fun ρ μ => bnd (a ρ μ) fun x μ1 => bnd (toB x μ1) fun k μ2 => if k = true then b ρ μ2 else some (.d (.bool false), μ2)
@[simp] def orF (a b : FE) : FE := fun ρ μ => bnd (a ρ μ) fun x μ1 => bnd (toB x μ1) fun k μ2 => if k = true then some (.d (.bool true), μ2) else b ρ μ2
@[simp] def notF (a : FE) : FE := fun ρ μ => bnd (a ρ μ) fun x μ1 => bnd (toB x μ1) fun k μ2 => some (.d (.bool (!k)), μ2)
theorem toB_of {x : SV} {μ : Mu} {β : Type} {f : Bool → Mu → Option β} {q : β → Prop} (h : oP (bnd (toB x μ) f) q) : ∃ k, x = .d (.bool k) ∧ oP (f k μ) q := by
  unfold toB at h
  split at h
  · exact ⟨_, rfl, h⟩
  · exact h.elim
theorem im_and (ha : Im Ta a) (hb : Im Tb b) : Im (andT Ta Tb) (andF a b) := fun ρ μ Q q => ha.step q fun x μ1 q => by
  obtain ⟨k, rfl, q⟩ := toB_of q
  cases k with
  | true => exact hb _ _ _ q
  | false => exact q
theorem im_or (ha : Im Ta a) (hb : Im Tb b) : Im (orT Ta Tb) (orF a b) := fun ρ μ Q q => ha.step q fun x μ1 q => by
  obtain ⟨k, rfl, q⟩ := toB_of q
  cases k with
  | true => exact q
  | false => exact hb _ _ _ q
theorem im_not (ha : Im Ta a) : Im (notT Ta) (notF a) := fun ρ μ Q q => ha.step q fun x μ1 q => by
  obtain ⟨k, rfl, q⟩ := toB_of q
  exact q
@[simp] def ifEF (u : FB) (a b : FE) : FE := fun ρ μ => bnd (u ρ μ) fun k μ1 => if k = true then a ρ μ1 else b ρ μ1
theorem im_ifE (hu : Im U u) (ha : Im Ta a) (hb : Im Tb b) : Im (ifT U Ta Tb) (ifEF u a b) := fun ρ μ Q q => hu.step q fun x μ1 q => by
  cases x with
  | true => exact ha _ _ _ q
  | false => exact hb _ _ _ q
@[simp] def nilF : FA := fun _ μ => some ([], μ)
@[simp] def consF (a : FE) (es : FA) : FA := fun ρ μ => bnd (a ρ μ) fun x μ1 => bnd (es ρ μ1) fun xs μ2 => some (x :: xs, μ2)
theorem im_nil : Im nilA nilF := fun ρ μ Q q => q
theorem im_cons (ha : Im Ta a) (he : Im Es es) : Im (consA Ta Es) (consF a es) := fun ρ μ Q q => ha.step q fun x μ1 q => he.step q fun xs μ2 q => q
@[simp] def tupF (es : FA) : FE := fun ρ μ => bnd (es ρ μ) fun svs μ1 => (pure? svs).bind fun ds => if szOk ds.length = true then some (.d (.tuple ds), μ1) else none
@[simp] def lstF (es : FA) : FN := fun ρ μ => bnd (es ρ μ) fun svs μ1 => (pure? svs).bind fun ds => if szOk ds.length = true then some (.lst ds, μ1) else none
theorem sz_line {n : Nat} (h : szOk n = true) : n ≤ sizeLine := by rw [sizeLine_eq]; unfold szOk at h; simpa using h
theorem im_tup (he : Im Es es) : Im (tupT Es) (tupF es) := fun ρ μ Q q => he.step q fun svs μ1 q => (oP_bind q).imp fun ds q => by
  obtain ⟨h, q⟩ := oP_if q
  exact ⟨sz_line h, q⟩
theorem im_lst (he : Im Es es) : Im (lstN Es) (lstF es) := fun ρ μ Q q => he.step q fun svs μ1 q => (oP_bind q).imp fun ds q => by
  obtain ⟨h, q⟩ := oP_if q
  exact ⟨sz_line h, q⟩
@[simp] def frF (n : FN) : FE := fun ρ μ => bnd (n ρ μ) fun so μ1 => some (.d so.data, μ1)
@[simp] def owF (n : FN) : FE := fun ρ μ => bnd (n ρ μ) fun so μ1 => some (.r μ1.length, μ1 ++ [so])
theorem im_fr (h : Im N n) : Im (frT N) (frF n) := fun ρ μ Q q => h.step q fun so μ1 q => q
theorem im_ow (h : Im N n) : Im (owT N) (owF n) := fun ρ μ Q q => h.step q fun so μ1 q => q
def ofF (m : FC) : CT := fun svs μ Q => oP (m svs μ) fun p => Q p.1 p.2
@[simp] def clF (m : FC) (es : FA) : FE := fun ρ μ => bnd (es ρ μ) m
theorem im_cl (m : FC) (he : Im Es es) : Im (callF (ofF m) Es) (clF m es) := fun ρ μ Q q => he.step q fun svs μ1 q => q
@[simp] def popF (a : FE) : FN := fun ρ μ => bnd (a ρ μ) fun sv μ1 => match sv with
  | .r l => if (decide (l + 1 = μ1.length) && decide (μ.length ≤ l)) = true then (μ1[l]?).map fun so => (so, μ1.take l) else none
  | _ => none
theorem im_pop (ha : Im Ta a) : Im (popN Ta) (popF a) := fun ρ μ Q q => ha.step q fun x μ1 q => by
  cases x with
  | r l =>
    obtain ⟨h, q⟩ := oP_if q
    rw [Bool.and_eq_true, decide_eq_true_iff, decide_eq_true_iff] at h
    obtain ⟨so, e, q⟩ := (oP_map q).of
    obtain ⟨hl, e2⟩ := List.getElem?_eq_some_iff.mp e
    refine ⟨μ1.take l, so, ?_, by simp; omega, h.2, q⟩
    rw [← e2, ← List.take_succ_eq_append_getElem hl, List.take_of_length_le (by omega)]
  | _ => exact q.elim
@[simp] def ixF (a b : FE) : FE := fun ρ μ => bnd (a ρ μ) fun x μ1 => bnd (b ρ μ1) fun i μ2 => (ixD μ2 x i).map fun z => (.d z, μ2)
theorem im_ix (ha : Im Ta a) (hb : Im Tb b) : Im (ixT Ta Tb) (ixF a b) := fun ρ μ Q q => ha.step q fun x μ1 q => hb.step q fun y μ2 q => oP_map q
@[simp] def noF : FP := fun _ μ => some (none, μ)
@[simp] def someF (a : FE) : FP := fun ρ μ => bnd (a ρ μ) fun x μ1 => match x with
  | .d (.int k) => some (some k, μ1)
  | _ => none
theorem im_no : Im noP noF := fun ρ μ Q q => q
theorem im_some (ha : Im Ta a) : Im (someP Ta) (someF a) := fun ρ μ Q q => ha.step q fun x μ1 q => by
  split at q
  · exact q
  · exact q.elim
@[simp] def slF (a : FE) (l h : FP) : FE := fun ρ μ => bnd (a ρ μ) fun x μ1 => bnd (l ρ μ1) fun lo μ2 => bnd (h ρ μ2) fun hi μ3 => (rd μ3 x).bind fun dx => (slD dx lo hi).map fun z => (.d z, μ3)
theorem im_sl {Pl Ph : DTP} {l h : FP} (ha : Im Ta a) (hl : Im Pl l) (hh : Im Ph h) : Im (slT Ta Pl Ph) (slF a l h) := fun ρ μ Q q => ha.step q fun x μ1 q => hl.step q fun lo μ2 q => hh.step q fun hi μ3 q => (oP_bind q).imp fun _ q => oP_map q
@[simp] def biF (h : Mu → List SV → Option PyData) (es : FA) : FE := fun ρ μ => bnd (es ρ μ) fun svs μ1 => (h μ1 svs).map fun z => (.d z, μ1)
@[simp] def biN (h : Mu → List SV → Option SO) (es : FA) : FN := fun ρ μ => bnd (es ρ μ) fun svs μ1 => (h μ1 svs).map fun z => (z, μ1)
theorem im_bi (h : Mu → List SV → Option PyData) (he : Im Es es) : Im (callT h Es) (biF h es) := fun ρ μ Q q => he.step q fun svs μ1 q => oP_map q
theorem im_bn (h : Mu → List SV → Option SO) (he : Im Es es) : Im (callN h Es) (biN h es) := fun ρ μ Q q => he.step q fun svs μ1 q => oP_map q
@[simp] def isiF (n : String) (a : FE) : FE := fun ρ μ => bnd (a ρ μ) fun x μ1 => (tyD μ1 x).bind fun t => (kitB t n).map fun b => (.d (.bool b), μ1)
theorem im_isi (n : String) (ha : Im Ta a) : Im (isiT n Ta) (isiF n a) := fun ρ μ Q q => ha.step q fun x μ1 q => (oP_bind q).imp fun _ q => oP_map q
@[simp] def appF (a b : FE) : FE := fun ρ μ => bnd (a ρ μ) fun x μ1 => (lstAt μ1 x).bind fun _ => bnd (b ρ μ1) fun y μ2 => (lstAt μ2 x).bind fun q => match y with
  | .d d => if decide (q.2.length < 16777216) = true then some (.d .none, μ2.set q.1 (.lst (q.2 ++ [d]))) else none
  | _ => none
theorem im_app (ha : Im Ta a) (hb : Im Tb b) : Im (appT Ta Tb) (appF a b) := fun ρ μ Q q => ha.step q fun x μ1 q => (oP_bind q).imp fun _ q => hb.step q fun y μ2 q => (oP_bind q).imp fun p q => by
  cases y with
  | d d =>
    obtain ⟨h, q⟩ := oP_if q
    show oP (some d) fun _ => p.2.length < sizeLine ∧ Q (.d .none) (μ2.set p.1 (.lst (p.2 ++ [d])))
    exact ⟨by rw [sizeLine_eq]; simpa using h, q⟩
  | r l => exact q.elim
  | scr l => exact q.elim
  | x l => exact q.elim
@[simp] def popMF (a b : FE) : FE := fun ρ μ => bnd (a ρ μ) fun x μ1 => (lstAt μ1 x).bind fun _ => bnd (b ρ μ1) fun y μ2 => (lstAt μ2 x).bind fun q => match y with
  | .d (.int i) => if (decide (-(2 ^ 63) ≤ i) && decide (i < 2 ^ 63)) = true then (seqIndex? i q.2.length).bind fun k => (q.2[k]?).map fun z => (.d z, μ2.set q.1 (.lst (q.2.eraseIdx k))) else none
  | _ => none
theorem im_popM (ha : Im Ta a) (hb : Im Tb b) : Im (popT Ta Tb) (popMF a b) := fun ρ μ Q q => ha.step q fun x μ1 q => (oP_bind q).imp fun _ q => hb.step q fun y μ2 q => (oP_bind q).imp fun p q => by
  split at q
  · obtain ⟨h, q⟩ := oP_if q
    rw [Bool.and_eq_true, decide_eq_true_iff, decide_eq_true_iff] at h
    exact ⟨h, (oP_bind q).imp fun _ q => oP_map q⟩
  · exact q.elim
@[simp] def sosF (a : FE) : FN := fun ρ μ => bnd (a ρ μ) fun x μ1 => (rd μ1 x).bind fun d => match d with
  | .list ds => (strs? ds).bind fun ss => if decide (ss.length ≤ 4000) = true then some (.lst ((sortSet ss).map PyData.str), μ1) else none
  | .tuple ds => (strs? ds).bind fun ss => if decide (ss.length ≤ 4000) = true then some (.lst ((sortSet ss).map PyData.str), μ1) else none
  | _ => none
theorem im_sos (ha : Im Ta a) : Im (sosN Ta) (sosF a) := fun ρ μ Q q => ha.step q fun x μ1 q => (oP_bind q).imp fun d q => by
  split at q
  · refine (oP_bind q).imp fun ss q => ?_
    obtain ⟨h, q⟩ := oP_if q
    exact ⟨by simpa using h, q⟩
  · refine (oP_bind q).imp fun ss q => ?_
    obtain ⟨h, q⟩ := oP_if q
    exact ⟨by simpa using h, q⟩
  · exact q.elim
@[simp] def losF (a : FE) : FE := fun ρ μ => bnd (a ρ μ) fun x μ1 => (rd μ1 x).bind fun d => match d with
  | .list ds => (strs? ds).bind fun ss => if decide (ss.length ≤ 4000) = true then some (.d (.int (sortSet ss).length), μ1) else none
  | .tuple ds => (strs? ds).bind fun ss => if decide (ss.length ≤ 4000) = true then some (.d (.int (sortSet ss).length), μ1) else none
  | _ => none
theorem im_los (ha : Im Ta a) : Im (losT Ta) (losF a) := fun ρ μ Q q => ha.step q fun x μ1 q => (oP_bind q).imp fun d q => by
  split at q
  · refine (oP_bind q).imp fun ss q => ?_
    obtain ⟨h, q⟩ := oP_if q
    exact ⟨by simpa using h, q⟩
  · refine (oP_bind q).imp fun ss q => ?_
    obtain ⟨h, q⟩ := oP_if q
    exact ⟨by simpa using h, q⟩
  · exact q.elim
def gok (g : GdF) (μ : Mu) : Prop := match g with
  | none => True
  | some (l, ds) => μ[l]? = some (.lst ds)
def gchk (g : GdF) (μ : Mu) : Bool := match g with
  | none => true
  | some (l, ds) => @decide (μ[l]? = some (.lst ds)) (Classical.propDecidable _)
@[simp] theorem gchk_none (μ : Mu) : gchk none μ = true := rfl
theorem gchk_ok {g : GdF} {μ : Mu} : gchk g μ = true → gok g μ := by
  cases g with
  | none => exact fun _ => trivial
  | some p => exact fun h => @of_decide_eq_true _ (Classical.propDecidable _) h
theorem gchk_of {l : Nat} {ds : List PyData} {μ : Mu} (h : μ[l]? = some (.lst ds)) : gchk (some (l, ds)) μ = true := @decide_eq_true _ (Classical.propDecidable _) h
def ImI (T : DTI) (f : FI) : Prop := ∀ ρ μ (Q : List PyData → (Mu → Prop) → Mu → Prop), oP (f ρ μ) (fun p => Q p.1.1 (gok p.1.2) p.2) → T ρ μ Q
theorem gok_none : gok none = fun _ => True := rfl
theorem gok_some (l : Nat) (ds : List PyData) : gok (some (l, ds)) = fun μ => μ[l]? = some (.lst ds) := rfl
@[simp] def seqOf (μ : Mu) : SV → Option (List PyData × GdF)
  | .d (.list ds) => some (ds, none)
  | .d (.tuple ds) => some (ds, none)
  | .d (.str z) => some (z.cps.toList.map fun c => .str ⟨#[c]⟩, none)
  | .r l => match μ[l]? with
    | some (.lst ds) => some (ds, some (l, ds))
    | _ => none
  | _ => none
@[simp] def seqF (a : FE) : FI := fun ρ μ => bnd (a ρ μ) fun x μ1 => (seqOf μ1 x).map fun p => (p, μ1)
theorem im_seqI (ha : Im Ta a) : ImI (seqI Ta) (seqF a) := fun ρ μ Q q => ha.step q fun x μ1 q => by
  replace q := oP_map q
  cases x with
  | d x =>
    cases x with
    | list ds => exact q
    | tuple ds => exact q
    | str z => exact q
    | _ => exact q.elim
  | r l =>
    show (match μ1[l]? with
      | some (.lst ds) => Q ds (fun μ' => μ'[l]? = some (.lst ds)) μ1
      | _ => False)
    have q2 : oP (match μ1[l]? with
      | some (.lst ds) => some (ds, some (l, ds))
      | _ => none) (fun p => Q p.1 (gok p.2) μ1) := q
    split at q2
    · exact q2
    · exact q2.elim
  | scr ns => exact q.elim
  | x k => exact q.elim
@[simp] def rngF (es : FA) : FI := fun ρ μ => bnd (es ρ μ) fun svs μ1 => match svs with
  | [.d (.int j)] => if (decide (-(2 ^ 62) ≤ j) && decide (j < 2 ^ 62)) = true then some ((isRng j, none), μ1) else none
  | _ => none
theorem im_rng (he : Im Es es) : ImI (rng1I Es) (rngF es) := fun ρ μ Q q => he.step q fun svs μ1 q => by
  split at q
  · obtain ⟨h, q⟩ := oP_if q
    rw [Bool.and_eq_true, decide_eq_true_iff, decide_eq_true_iff] at h
    exact ⟨h.1, h.2, q⟩
  · exact q.elim
@[simp] def zipOf : List SV → Option (List PyData)
  | [.d (.list ds), .d (.list es)] => some ((ds.zip es).map fun p => .tuple [p.1, p.2])
  | [.d (.tuple ds), .d (.tuple es)] => some ((ds.zip es).map fun p => .tuple [p.1, p.2])
  | _ => none
@[simp] def zipF (es : FA) : FI := fun ρ μ => bnd (es ρ μ) fun svs μ1 => (zipOf svs).map fun l => ((l, none), μ1)
theorem im_zip (he : Im Es es) : ImI (zipI Es) (zipF es) := fun ρ μ Q q => he.step q fun svs μ1 q => by
  replace q := oP_map q
  unfold zipOf at q
  split at q
  · exact q
  · exact q
  · exact q.elim
@[simp] def yesF : FB := fun _ μ => some (true, μ)
theorem im_yes : Im yesB yesF := fun ρ μ Q q => q
def lcGoF (t : Tg) (u : FB) (a : FE) (g : GdF) (ρ0 : En) : List PyData → Mu → Option (List PyData × Mu)
  | [], μ => if gchk g μ = true then some ([], μ) else none
  | x :: r, μ => if gchk g μ = true then (t.put (.d x) ρ0).bind fun ρ => bnd (u ρ μ) fun k μ1 => if k = true then
      bnd (a ρ μ1) fun y μ2 => match y with
        | .d d => bnd (lcGoF t u a g ρ0 r μ2) fun ds μ3 => some (d :: ds, μ3)
        | _ => none
      else lcGoF t u a g ρ0 r μ1
    else none
theorem im_lcGo {t : Tg} {g : GdF} {ρ0 : En} (hu : Im U u) (ha : Im Ta a) {Q : List PyData → Mu → Prop} : ∀ (items acc : List PyData) (μ : Mu), acc.length + items.length ≤ 16777216 → oP (lcGoF t u a g ρ0 items μ) (fun p => Q (acc ++ p.1) p.2) → lcGo t U Ta (gok g) ρ0 Q items acc μ
  | [], acc, μ, _, h => by
    obtain ⟨hg, h⟩ := oP_if h
    refine ⟨gchk_ok hg, ?_⟩
    have h : Q (acc ++ []) μ := h
    rwa [List.append_nil] at h
  | x :: r, acc, μ, hl, h => by
    obtain ⟨hg, h⟩ := oP_if h
    rw [List.length_cons] at hl
    refine ⟨gchk_ok hg, (oP_bind h).imp fun ρ h => hu.step h fun k μ1 h => ?_⟩
    cases k with
    | false => exact im_lcGo hu ha r acc μ1 (by omega) h
    | true =>
      refine ha.step h fun y μ2 h => ?_
      cases y with
      | d d =>
        refine ⟨by rw [sizeLine_eq]; omega, im_lcGo hu ha r (acc ++ [d]) μ2 (by rw [List.length_append, List.length_singleton]; omega) ((oP_bnd h).imp fun p h => ?_)⟩
        show Q (acc ++ [d] ++ p.1) p.2
        rw [List.append_assoc]; exact h
      | _ => exact h.elim
@[simp] def lcF (t : Tg) (i : FI) (u : FB) (a : FE) (vs : List Nat) : FN := fun ρ μ => bnd (i ρ μ) fun p μ1 => if szOk p.1.length = true then bnd (lcGoF t u a p.2 (wipeE ρ vs) p.1 μ1) fun ds μ2 => some (.lst ds, μ2) else none
@[simp] def tupXF (es : FA) : FE := fun ρ μ => bnd (es ρ μ) fun svs μ1 => (s0? svs).bind fun xs => if szOk xs.length = true then some (.x (.tp xs), μ1) else none
theorem im_tupX (he : Im Es es) : Im (tupXT Es) (tupXF es) := fun ρ μ Q q => he.step q fun svs μ1 q => (oP_bind q).imp fun xs q => by
  obtain ⟨h, q⟩ := oP_if q
  exact ⟨szOk_le h, q⟩
@[simp] def idxF (a b : FE) : FE := fun ρ μ => bnd (a ρ μ) fun x μ1 => (tupAt x).bind fun ss => bnd (b ρ μ1) fun y μ2 => match y with
  | .d (.str z) => (idxS ss z).map fun j => (.d (.int (j : Nat)), μ2)
  | _ => none
theorem im_idx (ha : Im Ta a) (hb : Im Tb b) : Im (idxT Ta Tb) (idxF a b) := fun ρ μ Q q => ha.step q fun x μ1 q => (oP_bind q).imp fun ss q => hb.step q fun y μ2 q => by
  cases y with
  | d d =>
    cases d with
    | str z => exact oP_map q
    | _ => exact q.elim
  | _ => exact q.elim
@[simp] def bxF (h : Mu → List SV → Option XV) (es : FA) : FE := fun ρ μ => bnd (es ρ μ) fun svs μ1 => (h μ1 svs).map fun k => (.x k, μ1)
theorem im_bx (h : Mu → List SV → Option XV) (he : Im Es es) : Im (callX h Es) (bxF h es) := fun ρ μ Q q => he.step q fun svs μ1 q => oP_map q
@[simp] def dctF : FN := fun _ μ => some (.dct [], μ)
theorem im_dct : Im dctN dctF := fun ρ μ Q q => q
@[simp] def dg1F (a b : FE) : FE := fun ρ μ => bnd (a ρ μ) fun x μ1 => (dcAt μ1 x).bind fun _ => bnd (b ρ μ1) fun y μ2 => match y with
  | .d dy => (keyOf dy).bind fun k => (dcAt μ2 x).map fun kvs => (.d ((assocK kvs k).getD .none), μ2)
  | _ => none
theorem im_dg1 (ha : Im Ta a) (hb : Im Tb b) : Im (dget1T Ta Tb) (dg1F a b) := fun ρ μ Q q => ha.step q fun x μ1 q => (oP_bind q).imp fun _ q => hb.step q fun y μ2 q => by
  cases y with
  | d dy => exact (oP_bind q).imp fun k q => oP_map q
  | _ => exact q.elim
def orSV (o : Option PyData) (z : SV) : SV := match o with
  | some d => .d d
  | none => z
@[simp] theorem orSV_some (d : PyData) (z : SV) : orSV (some d) z = .d d := rfl
@[simp] theorem orSV_none (z : SV) : orSV none z = z := rfl
@[simp] def dg2F (a b c : FE) : FE := fun ρ μ => bnd (a ρ μ) fun x μ1 => (dcAt μ1 x).bind fun _ => bnd (b ρ μ1) fun y μ2 => bnd (c ρ μ2) fun z μ3 => match y with
  | .d dy => (keyOf dy).bind fun k => (dcAt μ3 x).map fun kvs => (orSV (assocK kvs k) z, μ3)
  | _ => none
theorem im_dg2 (ha : Im Ta a) (hb : Im Tb b) (hc : Im Tc c) : Im (dget2T Ta Tb Tc) (dg2F a b c) := fun ρ μ Q q => ha.step q fun x μ1 q => (oP_bind q).imp fun _ q => hb.step q fun y μ2 q => hc.step q fun z μ3 q => by
  cases y with
  | d dy =>
    refine (oP_bind q).imp fun k q => (oP_map q).imp fun kvs q => ?_
    revert q
    generalize assocK kvs k = o
    intro q
    cases o with
    | none => exact q
    | some d => exact q
  | _ => exact q.elim
theorem im_lc {t : Tg} {I : DTI} {i : FI} {vs : List Nat} (hi : ImI I i) (hu : Im U u) (ha : Im Ta a) : Im (lcN t I U Ta vs) (lcF t i u a vs) := fun ρ μ Q q => by
  refine hi ρ μ _ ((oP_bnd q).imp fun p q => ?_)
  obtain ⟨h, q⟩ := oP_if q
  refine im_lcGo hu ha p.1.1 [] p.2 (by unfold szOk at h; simpa using h) ((oP_bnd q).imp fun p q => ?_)
  rw [List.nil_append]; exact q
end
inductive Ou where
  | nx (ρ : En) (μ : Mu)
  | rt (sv : SV) (μ : Mu)
  | bk (ρ : En) (μ : Mu)
  | ct (ρ : En) (μ : Mu)
abbrev FS := En → Mu → Option Ou
def DEnds.at (DD : DEnds) : Ou → Prop
  | .nx ρ μ => DD.nx ρ μ
  | .rt v μ => DD.rt v μ
  | .bk ρ μ => DD.bk ρ μ
  | .ct ρ μ => DD.ct ρ μ
def ImS (T : DTS) (f : FS) : Prop := ∀ DD ρ μ, oP (f ρ μ) DD.at → T DD ρ μ
section
variable {a b c : FE} {Ta Tb Tc : DT} {U U' : DTB} {u u' : FB} {Es : DTA} {es : FA} {N : DTN} {n : FN} {S S1 S2 : DTS} {s s1 s2 : FS}
@[simp] def skipF : FS := fun ρ μ => some (.nx ρ μ)
theorem is_skip : ImS skipS skipF := fun DD ρ μ h => h
def thenO (o : Option Ou) (f : En → Mu → Option Ou) : Option Ou := match o with
  | some (.nx ρ μ) => f ρ μ
  | o => o
@[simp] theorem thn_nx (ρ : En) (μ : Mu) (f : En → Mu → Option Ou) : thenO (some (.nx ρ μ)) f = f ρ μ := rfl
@[simp] theorem thn_rt (v : SV) (μ : Mu) (f : En → Mu → Option Ou) : thenO (some (.rt v μ)) f = some (.rt v μ) := rfl
@[simp] theorem thn_none (f : En → Mu → Option Ou) : thenO none f = none := rfl
@[simp] def sqF (s1 s2 : FS) : FS := fun ρ μ => thenO (s1 ρ μ) s2
@[simp] theorem thn_ite {c : Prop} [Decidable c] (a b : Option Ou) (f : En → Mu → Option Ou) : thenO (if c then a else b) f = if c then thenO a f else thenO b f := by split <;> rfl
theorem is_sq (h1 : ImS S1 s1) (h2 : ImS S2 s2) : ImS (seqS S1 S2) (sqF s1 s2) := fun DD ρ μ h => by
  refine h1 _ ρ μ ?_
  unfold sqF at h
  cases e : s1 ρ μ with
  | none => rw [e] at h; exact h.elim
  | some o =>
    rw [e] at h
    cases o with
    | nx ρ' μ' => exact h2 _ _ _ h
    | _ => exact h
@[simp] def brkF : FS := fun ρ μ => some (.bk ρ μ)
theorem is_brk : ImS brkS brkF := fun DD ρ μ h => h
@[simp] def nevF : FS := fun _ _ => none
theorem is_nev : ImS neverS nevF := fun DD ρ μ h => h
@[simp] def exF (a : FE) : FS := fun ρ μ => bnd (a ρ μ) fun _ μ1 => some (.nx ρ μ1)
theorem is_ex (ha : Im Ta a) : ImS (exprS Ta) (exF a) := fun DD ρ μ h => ha.step h fun _ _ h => h
@[simp] def rtF (a : FE) : FS := fun ρ μ => bnd (a ρ μ) fun v μ1 => some (.rt v μ1)
theorem is_rt (ha : Im Ta a) : ImS (retS Ta) (rtF a) := fun DD ρ μ h => ha.step h fun _ _ h => h
@[simp] def rtnF : FS := fun _ μ => some (.rt (.d .none) μ)
theorem is_rtn : ImS retN rtnF := fun DD ρ μ h => h
@[simp] def ifF (u : FB) (s1 s2 : FS) : FS := fun ρ μ => bnd (u ρ μ) fun k μ1 => if k = true then s1 ρ μ1 else s2 ρ μ1
theorem is_if (hu : Im U u) (h1 : ImS S1 s1) (h2 : ImS S2 s2) : ImS (ifS U S1 S2) (ifF u s1 s2) := fun DD ρ μ h => hu.step h fun k _ h => by
  cases k with
  | true => exact h1 _ _ _ h
  | false => exact h2 _ _ _ h
@[simp] def stF (i : Nat) (a : FE) : FS := fun ρ μ => bnd (a ρ μ) fun v μ1 => some (.nx (ρ.set i (some v)) μ1)
theorem is_st (i : Nat) (ha : Im Ta a) : ImS (setS i Ta) (stF i a) := fun DD ρ μ h => ha.step h fun _ _ h => h
@[simp] def agF (t : Tg) (a : FE) : FS := fun ρ μ => bnd (a ρ μ) fun v μ1 => (t.put v ρ).map fun ρ' => .nx ρ' μ1
theorem is_ag (t : Tg) (ha : Im Ta a) : ImS (asgS t Ta) (agF t a) := fun DD ρ μ h => ha.step h fun _ _ h => oP_map h
@[simp] def paF (is : List Nat) (es : FA) : FS := fun ρ μ => bnd (es ρ μ) fun svs μ1 => if decide (svs.length = is.length) = true then some (.nx (setSV ρ is svs) μ1) else none
theorem is_pa (is : List Nat) (he : Im Es es) : ImS (parS is Es) (paF is es) := fun DD ρ μ h => he.step h fun _ _ h => by
  obtain ⟨h1, h⟩ := oP_if h
  exact ⟨by simpa using h1, h⟩
@[simp] def pa2F (i j : Nat) (es : FA) : FS := fun ρ μ => bnd (es ρ μ) fun svs μ1 => match svs with
  | [x, y] => some (.nx ((ρ.set i (some x)).set j (some y)) μ1)
  | _ => none
theorem is_pa2 (i j : Nat) (he : Im Es es) : ImS (par2S i j Es) (pa2F i j es) := fun DD ρ μ h => he.step h fun _ _ h => by
  split at h
  · exact h
  · exact h.elim
@[simp] def pa3F (i j l : Nat) (es : FA) : FS := fun ρ μ => bnd (es ρ μ) fun svs μ1 => match svs with
  | [x, y, z] => some (.nx (((ρ.set i (some x)).set j (some y)).set l (some z)) μ1)
  | _ => none
theorem is_pa3 (i j l : Nat) (he : Im Es es) : ImS (par3S i j l Es) (pa3F i j l es) := fun DD ρ μ h => he.step h fun _ _ h => by
  split at h
  · exact h
  · exact h.elim
@[simp] def sxF (a b c : FE) : FS := fun ρ μ => bnd (a ρ μ) fun y μ1 => bnd (b ρ μ1) fun x μ2 => bnd (c ρ μ2) fun i μ3 => match y with
  | .d d => (stD μ3 x i d).map fun μ4 => .nx ρ μ4
  | _ => none
theorem is_sx (ha : Im Ta a) (hb : Im Tb b) (hc : Im Tc c) : ImS (setixS Ta Tb Tc) (sxF a b c) := fun DD ρ μ h => ha.step h fun y μ1 h => hb.step h fun x μ2 h => hc.step h fun i μ3 h => by
  cases y with
  | d d => exact oP_map (f := fun μ4 => Ou.nx ρ μ4) h
  | _ => exact h.elim
def fnext (o : Option Ou) (f : En → Mu → Option Ou) : Option Ou := match o with
  | some (.nx ρ μ) => f ρ μ
  | some (.ct ρ μ) => f ρ μ
  | some (.bk ρ μ) => some (.nx ρ μ)
  | o => o
@[simp] theorem fnext_nx (ρ : En) (μ : Mu) (f : En → Mu → Option Ou) : fnext (some (.nx ρ μ)) f = f ρ μ := rfl
@[simp] theorem fnext_rt (v : SV) (μ : Mu) (f : En → Mu → Option Ou) : fnext (some (.rt v μ)) f = some (.rt v μ) := rfl
@[simp] theorem fnext_bk (ρ : En) (μ : Mu) (f : En → Mu → Option Ou) : fnext (some (.bk ρ μ)) f = some (.nx ρ μ) := rfl
@[simp] theorem fnext_ite {c : Prop} [Decidable c] (a b : Option Ou) (f : En → Mu → Option Ou) : fnext (if c then a else b) f = if c then fnext a f else fnext b f := by split <;> rfl
def foGo (t : Tg) (s : FS) (g : GdF) : List PyData → FS
  | [] => fun ρ μ => if gchk g μ = true then some (.nx ρ μ) else none
  | x :: r => fun ρ μ => if gchk g μ = true then (t.put (.d x) ρ).bind fun ρ' => fnext (s ρ' μ) (foGo t s g r) else none
theorem is_foGo {t : Tg} {g : GdF} {DD : DEnds} (h1 : ImS S s) : ∀ (items : List PyData) ρ μ, oP (foGo t s g items ρ μ) DD.at → forGo t S (gok g) DD items ρ μ
  | [], ρ, μ, h => by
    obtain ⟨hg, h⟩ := oP_if h
    exact ⟨gchk_ok hg, h⟩
  | x :: r, ρ, μ, h => by
    obtain ⟨hg, h⟩ := oP_if h
    refine ⟨gchk_ok hg, (oP_bind h).imp fun ρ' h => h1 _ _ _ ?_⟩
    cases e : s ρ' μ with
    | none => rw [e] at h; exact h.elim
    | some o =>
      rw [e] at h
      cases o with
      | nx ρ2 μ2 => exact is_foGo h1 r ρ2 μ2 h
      | ct ρ2 μ2 => exact is_foGo h1 r ρ2 μ2 h
      | bk ρ2 μ2 => exact h
      | rt v μ2 => exact h
@[simp] def foF (t : Tg) (i : FI) (s : FS) : FS := fun ρ μ => bnd (i ρ μ) fun p μ1 => foGo t s p.2 p.1 ρ μ1
theorem is_fo {t : Tg} {I : DTI} {i : FI} (hi : ImI I i) (h1 : ImS S s) : ImS (forS t I S) (foF t i s) := fun DD ρ μ h => hi ρ μ _ ((oP_bnd h).imp fun p h => is_foGo h1 _ _ _ h)
def whGo (u : FB) (s : FS) : Nat → FS
  | 0 => fun _ _ => none
  | k + 1 => fun ρ μ => bnd (u ρ μ) fun b μ1 => if b = true then fnext (s ρ μ1) (whGo u s k) else some (.nx ρ μ1)
def whF (u : FB) (s : FS) : FS := whGo u s 100000
theorem is_wh (hu : Im U u) (h1 : ImS S s) : ImS (whileS U S) (whF u s) := fun DD ρ μ h => by
  refine ⟨fun m ρ μ => oP (whGo u s m ρ μ) DD.at, ⟨100000, h⟩, fun m ρ μ h => ?_⟩
  cases m with
  | zero => exact h.elim
  | succ k =>
    refine hu.step h fun b μ1 h => ?_
    cases b with
    | false => exact h
    | true =>
      refine h1 _ _ _ ?_
      have h : oP (fnext (s ρ μ1) (whGo u s k)) DD.at := h
      cases e : s ρ μ1 with
      | none => rw [e] at h; exact h.elim
      | some o =>
        rw [e] at h
        cases o with
        | nx ρ2 μ2 => exact ⟨k, Nat.lt_succ_self k, h⟩
        | ct ρ2 μ2 => exact ⟨k, Nat.lt_succ_self k, h⟩
        | bk ρ2 μ2 => exact h
        | rt v μ2 => exact h
end
abbrev FF := Nat → SV → Mu → Option (SV × Mu)
def fD : FF := fun n sv μ' => match sv with
  | .d x => some (.d x, μ'.take n)
  | .scr ns => some (.scr ns, μ'.take n)
  | .x (.tx ss) => some (.x (.tx ss), μ'.take n)
  | .x (.tp xs) => (frz0 n μ' xs).map fun ds => (.d (.tuple ds), μ'.take n)
  | .r l => if decide (l < n) = true then some (.r l, μ'.take n) else (μ'[l]?).map fun so => (.d so.data, μ'.take n)
@[simp] theorem fD_d (n : Nat) (x : PyData) (μ : Mu) : fD n (.d x) μ = some (.d x, μ.take n) := rfl
def fN : FF := fun n sv μ' => match sv with
  | .r l => if decide (n ≤ l) = true then (μ'[l]?).map fun so => (.r n, μ'.take n ++ [so]) else none
  | .d x => some (.d x, μ'.take n)
  | _ => none
@[simp] theorem fN_d (n : Nat) (x : PyData) (μ : Mu) : fN n (.d x) μ = some (.d x, μ.take n) := rfl
def ImF (fin : Fin) (f : FF) : Prop := ∀ Q n sv μ, oP (f n sv μ) (fun p => Q p.1 p.2) → fin Q n sv μ
theorem if_D : ImF finD fD := fun Q n sv μ h => by
  cases sv with
  | d x => exact h
  | scr x => exact h
  | x k =>
    cases k with
    | tx ss => exact h
    | tp xs => exact oP_map (o := frz0 n μ xs) (f := fun ds => (SV.d (.tuple ds), μ.take n)) h
  | r l =>
    show if l < n then Q (.r l) (μ.take n) else match μ[l]? with
      | some so => Q (.d so.data) (μ.take n)
      | none => False
    have h : oP (if decide (l < n) = true then some (SV.r l, μ.take n) else (μ[l]?).map fun so => (.d so.data, μ.take n)) (fun p => Q p.1 p.2) := h
    by_cases c : l < n
    · rw [if_pos (by simpa using c)] at h; rw [if_pos c]; exact h
    · rw [if_neg (by simpa using c)] at h; rw [if_neg c]
      replace h := oP_map h
      cases e : μ[l]? with
      | none => rw [e] at h; exact h.elim
      | some so => rw [e] at h; exact h
@[simp] theorem fD_tp (n : Nat) (xs : List S0) (μ : Mu) : fD n (.x (.tp xs)) μ = (frz0 n μ xs).map fun ds => (.d (.tuple ds), μ.take n) := rfl
theorem if_N : ImF finN fN := fun Q n sv μ h => by
  cases sv with
  | d x => exact h
  | scr x => exact h.elim
  | x k => exact h.elim
  | r l =>
    obtain ⟨c, h⟩ := oP_if h
    refine ⟨by simpa using c, ?_⟩
    replace h := oP_map h
    show match μ[l]? with
      | some so => Q (.r n) (μ.take n ++ [so])
      | none => False
    cases e : μ[l]? with
    | none => rw [e] at h; exact h.elim
    | some so => rw [e] at h; exact h
def fends (fin : FF) (n : Nat) (o : Option Ou) : Option (SV × Mu) := match o with
  | some (.nx _ μ') => fin n (.d .none) μ'
  | some (.rt sv μ') => fin n sv μ'
  | _ => none
@[simp] theorem fends_nx (fin : FF) (n : Nat) (ρ : En) (μ : Mu) : fends fin n (some (.nx ρ μ)) = fin n (.d .none) μ := rfl
@[simp] theorem fends_rt (fin : FF) (n : Nat) (v : SV) (μ : Mu) : fends fin n (some (.rt v μ)) = fin n v μ := rfl
@[simp] theorem fends_none (fin : FF) (n : Nat) : fends fin n none = none := rfl
@[simp] theorem fends_ite {c : Prop} [Decidable c] (fin : FF) (n : Nat) (a b : Option Ou) : fends fin n (if c then a else b) = if c then fends fin n a else fends fin n b := by split <;> rfl
/-- a def: its number of parameters, of slots -/
@[simp] def defF (k m : Nat) (fin : FF) (s : FS) : FC := fun svs μ => if svs.length = k then fends fin μ.length (s (svs.map some ++ List.replicate (m - k) none) μ) else none
theorem def_len {k m : Nat} {fin : FF} {s : FS} : ∀ svs μ Q, ofF (defF k m fin s) svs μ Q → svs.length = k := fun svs μ Q h => by
  unfold ofF defF at h
  split at h
  · assumption
  · exact h.elim
theorem def_hT {k m : Nat} {fin : Fin} {f : FF} {T : DTS} {s : FS} {N : List Str} (hf : ImF fin f) (hs : ImS T s) (hn : N.length = m) : ∀ svs μ Q, ofF (defF k m f s) svs μ Q →
    T ⟨fun _ μ' => fin Q μ.length (.d .none) μ', fun sv μ' => fin Q μ.length sv μ', fun _ _ => False, fun _ _ => False⟩ (startE N svs) μ := fun svs μ Q h => by
  unfold ofF defF at h
  split at h
  · rename_i e
    refine hs _ _ _ ?_
    unfold startE
    rw [hn, e]
    generalize s (svs.map some ++ List.replicate (m - k) none) μ = o at h
    cases o with
    | none => exact h.elim
    | some o =>
      cases o with
      | nx ρ' μ' => exact hf Q _ _ _ h
      | rt sv μ' => exact hf Q _ _ _ h
      | _ => exact h.elim
  · exact h.elim
theorem no_len {k : Nat} : ∀ svs μ Q, ofF (fun _ _ => none) svs μ Q → svs.length = k := fun svs μ Q h => h.elim
end
end J
namespace J
open PySem PySem.Spec PyProof.Rows L2
variable [Tb]
theorem dss_any {X : Cx} : ∀ sts : List Stmt, DSs X sts fun _ _ _ => False
  | [] => ⟨pss_nil.weak fun D σ H ⟨g, ρ, μ, DD, ok, en, t, w⟩ => t.elim⟩
  | st :: r => ⟨(dss_cons (ds_never (st := st)) (dss_any r)).ps.weak fun D σ H ⟨g, ρ, μ, DD, ok, en, t, w⟩ => t.elim⟩
end J
namespace J
open PySem PySem.Spec PyProof.Rows L2
variable [Tb]
/-- a raising contract: the class's name, the store behind -/
abbrev XT := List SV → Mu → (Str → Mu → Prop) → Prop
abbrev DTX := En → Mu → (Str → Mu → Prop) → Prop
def XSp (K : PySem.W.Frag) (mg : Str → Option Value) (S : XT) : Sp := fun vs H _ E => ∃ (g : G) (svs : List SV) (μ : Mu) (QX : Str → Mu → Prop), StOk K g μ H ∧ RSs K g vs svs ∧ S svs μ QX ∧
  ∀ g' n C μ' H', Ext g H g' H' → StOk K g' μ' H' → mg n = some (.ref C) → QX n μ' → E (.ref C) none H'
structure FX (P : Program) (w : World) (K : PySem.W.Frag) (mg : Str → Option Value) (base : Heap) (k : Nat) (x : Str) (S : XT) : Prop where
  ex : ∃ (f : Addr) (fd : FuncData) (ps : List Str), FnOk P w K mg base (L2.CX P w) k f fd ps (XSp K mg S) ∧ mg x = some (.ref f) ∧ PySem.W.keepIn K (.ref f) = true ∧ L2.Binds K fd ps []
theorem FX.mono {P : Program} {w : World} {K : PySem.W.Frag} {mg : Str → Option Value} {base : Heap} {j k : Nat} {x : Str} {S : XT} (F : FX P w K mg base j x S) (h : j ≤ k) : FX P w K mg base k x S := by
  obtain ⟨f, fd, ps, F, r⟩ := F.ex
  exact ⟨f, fd, ps, F.mono h, r⟩
def LTX (K : PySem.W.Frag) (mg : Str → Option Value) (W : WX) (T : DTX) : TS := fun _ σ H => ∃ (g : G) (ρ : En) (μ : Mu) (QX : Str → Mu → Prop), StOk K g μ H ∧ EnOk K g ρ σ ∧ T ρ μ QX ∧
  ∀ g' n C μ' σ' H', Ext g H g' H' → StOk K g' μ' H' → mg n = some (.ref C) → QX n μ' → W (.ref C) none σ' H'
def LEX (K : PySem.W.Frag) (mg : Str → Option Value) (W : WX) (T : DTX) : TE := fun σ H _ => ∃ (g : G) (ρ : En) (μ : Mu) (QX : Str → Mu → Prop), StOk K g μ H ∧ EnOk K g ρ σ ∧ T ρ μ QX ∧
  ∀ g' n C μ' σ' H', Ext g H g' H' → StOk K g' μ' H' → mg n = some (.ref C) → QX n μ' → W (.ref C) none σ' H'
/-- statements, an expression that raise -/
structure DX (X : Cx) (W : WX) (sts : List Stmt) (T : DTX) : Prop where ps : PSs X sts (LTX X.K X.mg W T)
structure EX (X : Cx) (W : WX) (e : Expr) (T : DTX) : Prop where pe : PE X e (LEX X.K X.mg W T)
section
variable {X : Cx} {W : WX} {c e : Expr} {es : List Expr} {st : Stmt} {sts : List Stmt} {pos : Pos} {U : DTB} {Es : DTA} {S1 S2 : DTS} {T1 T2 T : DTX}
def raiseX (n : Str) : DTX := fun _ μ QX => QX n μ
def seqX (S1 : DTS) (T2 : DTX) : DTX := fun ρ μ QX => S1 ⟨fun ρ1 μ1 => T2 ρ1 μ1 QX, fun _ _ => False, fun _ _ => False, fun _ _ => False⟩ ρ μ
def ifX (U : DTB) (T1 T2 : DTX) : DTX := fun ρ μ QX => U ρ μ fun b μ1 => match b with
  | true => T1 ρ μ1 QX
  | false => T2 ρ μ1 QX
def cllX (S : XT) (Es : DTA) : DTX := fun ρ μ QX => Es ρ μ fun svs μ1 => S svs μ1 QX
def noX : DTX := fun _ _ _ => False
def orX (T1 T2 : DTX) : DTX := fun ρ μ QX => T1 ρ μ QX ∨ T2 ρ μ QX
theorem dx_raise {B newId initId : String} {bmB : List Value} {C : Addr} {x m : Str} {j : Nat} {p p2 pos' : Pos} (hc : X.calm = true) (tk : Takes X W) (F : ExcBaseFacts B newId initId bmB) (q : PySem.W.excIn X.K C bmB newId = true) (gC : X.mg x = some (.ref C)) (kC : PySem.W.keepIn X.K (.ref C) = true) (r : Raises X (.ref C)) (hg : Gl X x)
    (hd : (x == ("__debug__" : Str)) = false := by decide) : DX X W [.Raise (some (.Call (.Name x p) [.Constant (.str m) j p2] [] pos)) none pos'] (raiseX x) :=
  ⟨(pss_one (ps_raise hc tk (pmk_own F q gC kC r hg hd))).weak fun D σ H ⟨g, ρ, μ, QX, ok, en, t, w⟩ => w g x C μ σ H (.refl g H) ok gC t⟩
theorem dx_nil : DX X W [] noX := ⟨pss_nil.weak fun D σ H ⟨g, ρ, μ, QX, ok, en, t, w⟩ => t.elim⟩
theorem dx_cons (h1 : DS X st S1) (h2 : DX X W sts T2) : DX X W (st :: sts) (seqX S1 T2) :=
  ⟨(pss_cons h1.ps h2.ps).weak fun D σ H ⟨g, ρ, μ, QX, ok, en, t, w⟩ => ⟨g, ρ, μ, _, ok, en, t,
    ⟨fun g' ρ' μ' σ' H' x ok' en' t' => ⟨g', ρ', μ', QX, ok', en', t', fun g2 n C μ2 σ2 H2 y => w g2 n C μ2 σ2 H2 (x.trans y)⟩, fun _ _ _ _ _ _ _ _ z => z.elim, fun _ _ _ _ _ _ _ _ z => z.elim, fun _ _ _ _ _ _ _ _ z => z.elim⟩⟩⟩
/-- an if that raises or is passed by -/
theorem dx_if {sa sb : List Stmt} (hc : DB X c U) (ha : DX X W sa T1) (hb : DSs X sb S1) (h2 : DX X W sts T2) : DX X W (.If c sa sb pos :: sts) (ifX U T1 (seqX S1 T2)) :=
  ⟨(pss_cons (ps_if hc.pt ha.ps hb.ps) h2.ps).weak fun D σ H ⟨g, ρ, μ, QX, ok, en, t, w⟩ => ⟨g, ρ, μ, _, ok, en, t, fun g1 k μ1 H1 x1 ok1 t1 => by
    cases k with
    | true => exact ⟨g1, ρ, μ1, QX, ok1, en.mono x1.le, t1, fun g2 n C μ2 σ2 H2 y => w g2 n C μ2 σ2 H2 (x1.trans y)⟩
    | false => exact ⟨g1, ρ, μ1, _, ok1, en.mono x1.le, t1, ⟨fun g' ρ' μ' σ' H' x ok' en' t' => ⟨g', ρ', μ', QX, ok', en', t', fun g2 n C μ2 σ2 H2 y => w g2 n C μ2 σ2 H2 (x1.trans (x.trans y))⟩, fun _ _ _ _ _ _ _ _ z => z.elim, fun _ _ _ _ _ _ _ _ z => z.elim, fun _ _ _ _ _ _ _ _ z => z.elim⟩⟩⟩⟩
theorem dx_or (h1 : DX X W sts T1) (h2 : DX X W sts T2) : DX X W sts (orX T1 T2) :=
  ⟨⟨fun pins s σ H D I ⟨g, ρ, μ, QX, ok, en, t, w⟩ => t.elim (fun t => h1.ps.run pins s σ H D I ⟨g, ρ, μ, QX, ok, en, t, w⟩) (fun t => h2.ps.run pins s σ H D I ⟨g, ρ, μ, QX, ok, en, t, w⟩)⟩⟩
theorem ex_call {k : Nat} {x : Str} {S : XT} {p : Pos} (F : FX X.prog X.w X.K X.mg X.base k x S) (hr : Room k X.A) (hg : Gl X x) (tk : Takes X W) (ha : DA X (e :: es) Es)
    (hdb : (x == ("__debug__" : Str)) = false := by decide) (he : starEach (e :: es) X.env = (false, eval e X.env) :: starEach es X.env := by rfl) (hpl : (backTo pos (starEach es X.env)).any (·.1) = false := by rfl) : EX X W (.Call (.Name x p) (e :: es) [] pos) (cllX S Es) := by
  obtain ⟨f, fd, ps, F, hm, hk, hb⟩ := F.ex
  exact ⟨(pe_callS F hr hg hm hk hb (fun σ => passAt tk σ) ha.pa hdb he hpl).weak fun σ H Q ⟨g, ρ, μ, QX, ok, en, t, w⟩ => ⟨g, ρ, μ, (fun svs μ1 => S svs μ1 QX), ok, en, t, fun g1 vs svs μ1 H1 x1 ok1 r1 t1 =>
    ⟨g1, svs, μ1, QX, ok1, r1, t1, fun g' n C μ' H' y ok' hm q => w g' n C μ' σ H' (x1.trans y) ok' hm q⟩⟩⟩
theorem dx_expr (he : EX X W e T) (hs : swapsWith e none pos.line X.env = pure false := by rfl) : DX X W (.Expr e pos :: sts) T :=
  ⟨(pss_cons (ps_expr he.pe hs) (dss_any sts).ps).weak fun D σ H h => h⟩
theorem dx_ret (he : EX X W e T) : DX X W (.Return (some e) pos :: sts) T :=
  ⟨(pss_cons (ps_ret he.pe) (dss_any sts).ps).weak fun D σ H h => h⟩
end
section
variable {P : Program} {w : World} {K : PySem.W.Frag} {mg : Str → Option Value} {base : Heap}
/-- a def that raises -/
theorem fx_D {x qual : Str} {st : Stmt} {f : Addr} {fd : FuncData} {N ps : List Str} {k : Nat} (F : Fun K x qual st f fd) (hm : mg x = some (.ref f)) (hbd : L2.Binds K fd ps []) (Sc : FnScope N ps (defScope st)) (S : XT) (T : DTX)
    (hb : ∀ (cdv : Value) (A : Around) (outer : List Env) (s : Shared) (H : Hp) (E : XK), Room k (A.deeper (envOfC qual (defScope st) s.heap.objs.size f cdv)) → Takes (cxOf (L2.CX P w) P w K mg base N qual (defScope st) f cdv A outer s H E) (fun cls d _ H' => E cls d H') →
      DX (cxOf (L2.CX P w) P w K mg base N qual (defScope st) f cdv A outer s H E) (fun cls d _ H' => E cls d H') (defBody st) T)
    (hlen : ∀ svs μ QX, S svs μ QX → svs.length = ps.length)
    (hT : ∀ svs μ QX, S svs μ QX → T (startE N svs) μ fun n μ' => QX n (μ'.take μ.length)) : FX P w K mg base (k + 1) x S := by
  refine ⟨f, fd, ps, F.okX Sc (fun vs H Q E h => ?_) (fun cdv A outer s H vs Q E hr h => ⟨_, (hb cdv A outer s H E hr (takes_of rfl rfl rfl rfl)).ps, ?_⟩), hm, F.kp, hbd⟩
  · obtain ⟨g, svs, μ, QX, ok, r, hs, q⟩ := h
    rw [r.length]; exact hlen svs μ QX hs
  · obtain ⟨g, svs, μ, QX, ok, r, hs, q⟩ := h
    refine ⟨g, startE N svs, μ, _, ok, start_ok r, hT svs μ QX hs, fun g' n C μ' σ' H' x1 ok1 hm1 t1 => ?_⟩
    obtain ⟨e, c1, c2⟩ := cut_back ok x1 ok1
    exact q _ n C _ H' c2 c1 hm1 t1
end
end J
namespace J
open PySem PySem.Spec PyProof.Rows L2
variable [Tb]
/-- what the catching def makes of what it is handed -/
def TTref (K : PySem.W.Frag) (CS : Addr) : (XK → Hp → VK → Prop) → Hp → VK → Prop := fun tl H Q =>
  tl (fun cls _ H' => ∃ b, PySem.W.exmOne K cls (.ref CS) = some b ∧ (b = true → Q (.bl true) H') ∧ (b = false → False)) H fun _ H' => Q (.bl false) H'
section
variable {X : Cx}
theorem pss_len {l : List Stmt} {t : TS} (h : PSs X l t) : PSs X l fun D σ H => σ.length = X.N.length → t D σ H := ⟨fun pins s σ H D I q => h.run pins s σ H D I (q I.len)⟩
theorem ref_gives {a y e x q : Str} {sg : Scope} {g CS : Addr} {cdg : Value} {j1 j2 : Nat} {p1 p2 p3 p4 p5 p6 p7 p8 p9 p10 p11 p12 p13 p14 : Pos} (hge : sg.names.lookup e = some .globalImplicit) (hme : X.mg e = some (.ref CS)) (hde : (e == ("__debug__" : Str)) = false)
    (hn : ([a, y] : List Str).Nodup) (hyl : sg.names.lookup y = some .local) (hl : Loc sg y) (hv : Vis sg y) (hd : (y == ("__debug__" : Str)) = false := by decide) (hcd : (y == ("__classdict__" : Str)) = false := by decide) :
    LamX.GivesTo X [a, y] x sg g cdg [.Assign [.Name y p1] (.Constant (.bool false) j1 p2) p3, .Try [.Expr (.Call (.Name a p4) [] [] p5) p6] [.ExceptHandler (some (.Name e p7)) none [.Assign [.Name y p8] (.Constant (.bool true) j2 p9) p10] p11] [] [] p12, .Return (some (.Name y p13)) p14] a q (TTref X.K CS) := by
  intro f c' s H Q tl act hc h
  have hgl : Gl (cxOf C8.CX0 X.prog X.w X.K X.mg X.base [a, y] x sg g cdg X.A X.stack s H C8.E0).nox e := hge
  refine ⟨_, pss_cons (ps_set (X := (cxOf C8.CX0 X.prog X.w X.K X.mg X.base [a, y] x sg g cdg X.A X.stack s H C8.E0).nox) (i := 1) hn rfl hl pe_bl) (pss_cons (ps_try_only (X := (cxOf C8.CX0 X.prog X.w X.K X.mg X.base [a, y] x sg g cdg X.A X.stack s H C8.E0).nox) (c := .ref CS)
      (tb := fun W D σ H => ∃ Ech : XK, (∀ cls d σ' H', Ech cls d H' → W cls d σ' H') ∧ σ[0]? = some (some (.ref f)) ∧ H c' = some (LamX.CodeO c' q) ∧ tl Ech H fun _ H' => D.nx σ H')
      rfl rfl ⟨hgl, hde, .inl hme⟩ takes0 (fun W pn xe tk _ => ?_) (ts := fun _ _ _ D σ H => σ.length = 2 → tAsg (tC (V.bl true)) (gName 1) D σ H) (fun a' oe cls d pn _ _ => pss_len (X := (cxOf C8.CX0 X.prog X.w X.K X.mg X.base [a, y] x sg g cdg X.A X.stack s H C8.E0).nox.suite a' ((a', oe) :: pn)) (pss_one (ps_set (X := (cxOf C8.CX0 X.prog X.w X.K X.mg X.base [a, y] x sg g cdg X.A X.stack s H C8.E0).nox.suite a' ((a', oe) :: pn)) (i := 1) (x := y) hn rfl hl (pe_bl (b := true) (j := j2) (pos := p9)) (by rfl) (.inr hyl))))) (pss_one (ps_ret (pe_var (i := 1) rfl hv hd hcd)))), ?_⟩
  · refine ⟨fun pins s' σ H' D I h' => ?_⟩
    obtain ⟨Ech, hW, h1, h2, h3⟩ := h'
    have hp := act W pn xe Ech p4 p5 tk hW
    have hq := pss_one (ps_expr (pos := p6) hp rfl)
    exact hq.run pins s' σ H' D I ⟨h1, h2, h3⟩
  · refine ⟨fun cls _ H' => ∃ b, PySem.W.exmOne X.K cls (.ref CS) = some b ∧ (b = true → Q (.bl true) H') ∧ (b = false → False), fun cls d σ' H' ⟨b, e1, e2, e3⟩ => ⟨b, e1, fun hb a _ hlen => ⟨.bl true, ?_, e2 hb⟩, fun hb => e3 hb⟩, rfl, hc, ?_⟩
    · have : 1 < σ'.length := by rw [hlen]; exact Nat.lt_succ_self 1
      exact List.getElem?_set_self this
    · refine cast (congrArg (tl _ H) ?_) h
      funext z H'
      exact propext ⟨fun k => ⟨.bl false, rfl, k⟩, fun ⟨v, k1, k2⟩ => by cases k1; exact k2⟩
end
end J
namespace J
open PySem PySem.Spec PyProof.Rows L2
variable [Tb]
open Classical in
/-- F with the codes of the tables of H1 -/
noncomputable def withC (F H1 : Hp) : Hp := fun b => match F b with
  | some o => some o
  | none => if ∃ x ∈ Tb.t, ∃ (ps : Array Value) (pos : Pos), H1 x.1 = some (.tbl ps) ∧ codeAmong pos ps.toList = some (.ref b) then H1 b else none
theorem withC_same (F H1 : Hp) : Same F (withC F H1) := fun b o h => by unfold withC; rw [h]
theorem withC_code {F H1 : Hp} (hT : LamX.Tabs Tb.t H1) {b : Addr} {o : HO} (h0 : F b = none) (h : withC F H1 b = some o) : ∃ q, H1 b = some o ∧ o = LamX.CodeO b q := by
  unfold withC at h
  rw [h0] at h
  dsimp only at h
  split at h
  · rename_i hc
    obtain ⟨x, hx, ps, pos, h1, h2⟩ := hc
    obtain ⟨ps', h3, _, h4⟩ := hT x hx
    rw [h1] at h3
    cases h3
    obtain ⟨c, h5, h6⟩ := h4 pos _ h2
    cases h5
    rw [h] at h6
    exact ⟨x.2, h, (Option.some.inj h6)⟩
  · cases h
theorem withC_at {F H1 : Hp} (hT : LamX.Tabs Tb.t H1) (hF : Same F H1) {x : Addr × Str} (hx : x ∈ Tb.t) {ps : Array Value} {pos : Pos} {cv : Value} (h1 : H1 x.1 = some (.tbl ps)) (h2 : codeAmong pos ps.toList = some cv) : ∃ c, cv = .ref c ∧ withC F H1 c = some (LamX.CodeO c x.2) := by
  obtain ⟨ps', h3, _, h4⟩ := hT x hx
  rw [h1] at h3
  cases h3
  obtain ⟨c, h5, h6⟩ := h4 pos _ h2
  refine ⟨c, h5, ?_⟩
  subst h5
  unfold withC
  cases e : F c with
  | some o =>
    have := hF c o e
    rw [h6] at this
    dsimp only; rw [← this]
  | none =>
    dsimp only
    rw [if_pos ⟨x, hx, ps, pos, h1, h2⟩]
    exact h6
theorem grow_tab {K : PySem.W.Frag} {g : G} {μ : Mu} {H H1 : Hp} (ok : StOk K g μ H) (e : LamX.ExtN H H1) (hT : LamX.Tabs Tb.t H1) : ∃ g1, StOk K g1 μ H1 ∧ Ext g H g1 H1 := by
  have sF : Same g.F H1 := fun b o h => e b o (ok.ex b o h) fun ps q => ok.tb.1 b ps (by rw [h, q])
  have sW := withC_same g.F H1
  have noP : ∀ a, a ∈ g.p → withC g.F H1 a = none := fun a ha => by
    cases h : withC g.F H1 a with
    | none => rfl
    | some o =>
      obtain ⟨q, h1, h2⟩ := withC_code hT (ok.fr a ha) h
      obtain ⟨j, hj, ej⟩ := List.getElem_of_mem ha
      have h3 : g.p[j]? = some a := by rw [List.getElem?_eq_getElem hj, ej]
      have h4 := ok.ob j a _ h3 (List.getElem?_eq_getElem (by rw [← ok.len]; exact hj))
      obtain ⟨o', k1, k2⟩ := h4.kind
      have k3 := e a o' k1 k2
      rw [h1] at k3
      cases k3
      generalize μ[j]'(by rw [← ok.len]; exact hj) = so at h4
      cases so with
      | lst ds => obtain ⟨vs, q1, _⟩ := h4; rw [k1] at q1; cases q1; cases h2
      | dct kvs => obtain ⟨vs, q1, _⟩ := h4; rw [k1] at q1; cases q1; cases h2
  refine ⟨⟨withC g.F H1, g.p⟩, ⟨fun b o h => ?_, ok.len, ok.nd, noP, fun l b o h1 h2 => (ok.ob l b o h1 h2).up sW fun o' h' => e b o' h' ((ok.ob l b o h1 h2).nt h'), fun b ps h => ?_, fun x hx => ⟨(ok.tb.2 x hx).1, ?_, ?_⟩⟩,
    ⟨⟨sW, [], by simp⟩, fun a o _ hn h => e a o h hn, fun a h => .inl h, fun a xs h1 h2 h3 => ?_⟩⟩
  · have h : withC g.F H1 b = some o := h
    cases k : g.F b with
    | some o' =>
      rw [sW b o' k] at h
      cases h
      exact sF b _ k
    | none => exact (withC_code hT k h).choose_spec.1
  · have h : withC g.F H1 b = some (.tbl ps) := h
    cases k : g.F b with
    | some o' =>
      rw [sW b o' k] at h
      cases h
      exact ok.tb.1 b ps k
    | none =>
      obtain ⟨q, _, h2⟩ := withC_code hT k h
      cases h2
  · show withC g.F H1 x.1 = Option.none
    cases h : withC g.F H1 x.1 with
    | none => rfl
    | some o =>
      obtain ⟨q, h1, h2⟩ := withC_code hT (ok.tb.2 x hx).2.1 h
      obtain ⟨ps, h3, _⟩ := hT x hx
      rw [h3] at h1
      cases h1
      cases h2
  · obtain ⟨ps, h3, h4, _⟩ := hT x hx
    exact ⟨ps, h3, h4, fun pos cv hc => withC_at hT sF hx h3 hc⟩
  · show withC g.F H1 a = Option.none
    cases h : withC g.F H1 a with
    | none => rfl
    | some o =>
      obtain ⟨q, k1, k2⟩ := withC_code hT h2 h
      have k3 := e a _ h3 (fun ps z => by cases z)
      rw [k1] at k3
      cases k3
      cases k2
theorem tabs_of {K : PySem.W.Frag} {g : G} {μ : Mu} {H : Hp} (ok : StOk K g μ H) : LamX.Tabs Tb.t H := fun x hx => by
  obtain ⟨ps, h1, h2, h3⟩ := (ok.tb.2 x hx).2.2
  exact ⟨ps, h1, h2, fun pos cv hc => by
    obtain ⟨c, h4, h5⟩ := h3 pos cv hc
    exact ⟨c, h4, ok.ex _ _ h5⟩⟩
/-- whether what is handed raises n -/
def refT (n : Str) (T : DTX) : DT := fun ρ μ Q => T ρ μ fun n' μ' => n' = n ∧ Q (.d (.bool true)) μ'
theorem de_refused {X : Cx} {n x a : Str} {g c P CS : Addr} {k : Nat} {pg : Arguments} {bg : List Stmt} {sg : Scope} {dV kV doc pm cdv ct oc : Value} {an od : Option Addr} {osl : Array (Option Value)} {Ng : List Str} {params : Arguments} {body : Expr} {scope : Scope} {TX : DTX} {p lpos pos : Pos}
    (hg : Gl X x) (hm : X.mg x = some (.ref g)) (hk : PySem.W.keepIn X.K (.ref g) = true) (lk : List.lookup g X.K = some { cls := oc, dict := od, data := .func (PySem.W.fnOf x x pg bg sg dV kV doc pm an cdv ct), slots := osl }) (hcg : PySem.W.codeIn X.K cdv x = true)
    (hb : L2.Binds X.K (PySem.W.fnOf x x pg bg sg dV kV doc pm an cdv ct) [a] []) (Sg : FnScope Ng [a] sg) (hNg : Ng[0]? = some a) (hva : Vis sg a) (hG : LamX.GivesTo X Ng x sg g cdv bg a (X.env.qual ++ ("<lambda>" : Str)) (TTref X.K CS)) (TB : LamX.TabB X.base X.mg c P) (hcode : X.env.code = .ref c)
    (hmT : (P, X.env.qual ++ ("<lambda>" : Str)) ∈ Tb.t) (hu : ∀ p : Addr × Str, p ∈ Tb.t → p.1 = P → p.2 = X.env.qual ++ ("<lambda>" : Str)) (hr : Room (k + 2) X.A) (L : LamX.LamS X.env.scope scope) (hdef : defaultsOf params X.env = ([], []))
    (hbind : ∀ (q : Str) (cl : List (Str × Addr)) (pm cv ctv : Value), bindArgs (PySem.W.kla_fn ("<lambda>" : Str) q params body scope cl pm cv ctv) { } = pure [])
    (hC : X.mg n = some (.ref CS)) (hex : PySem.W.exmOne X.K (.ref CS) (.ref CS) = some true)
    (hbody : ∀ (A : Around) (outer : List Env) (s : Shared) (H : Hp) (E : XK) (f c' : Addr), Room k (A.deeper (LamX.lamEnv X scope s.heap.objs.size f c')) → Takes (LamX.lamCx X A outer s H E scope f c') (fun cls d _ H' => E cls d H') → EX (LamX.lamCx X A outer s H E scope f c') (fun cls d _ H' => E cls d H') body TX)
    (h1 : (x == ("__debug__" : Str)) = false := by decide) (h2 : (a == ("__debug__" : Str)) = false := by decide) (h3 : (a == ("__classdict__" : Str)) = false := by decide) :
    DE X (.Call (.Name x p) [.Lambda params body scope lpos] [] pos) (refT n TX) := by
  refine ⟨(LamX.pe_lamcall (t := fun E => LEX X.K X.mg (fun cls d _ H' => E cls d H') TX) hg hm hk lk hcg hb Sg hNg hva hG TB hcode hmT hu hr L hdef hbind (fun A outer s H E f c' hr' => (hbody A outer s H E f c' hr' (takes_of rfl rfl rfl rfl)).pe) h1 h2 h3).weak fun σ H Q ⟨g, ρ, μ, QD, ok, en, t, q⟩ => ⟨tabs_of ok, fun H1 e1 hT => ?_⟩⟩
  obtain ⟨g1, ok1, x1⟩ := grow_tab ok e1 hT
  exact ⟨g1, ρ, μ, _, ok1, en.mono x1.le, t, fun g' n' C μ' σ' H' x ok' hm' ⟨e, hq⟩ => by
    subst e
    have hm' : X.mg n' = some (.ref C) := hm'
    rw [hC] at hm'
    cases hm'
    exact ⟨true, hex, fun _ => q g' (.bl true) (.d (.bool true)) μ' H' (x1.trans x) ok' (.bl true) hq, fun z => by cases z⟩⟩
end J
namespace J
open PySem PySem.Spec PyProof.Rows L2
variable [Tb]
def flatU : Value → Option (V × PyData)
  | .none => some (.non, .none)
  | .bool b => some (.bl b, .bool b)
  | .int i _ => some (.int i, .int i)
  | .str x _ => some (.str x, .str x)
  | _ => none
theorem flatU_ok {K : PySem.W.Frag} {F : Hp} {u : Value} {v : V} {d : PyData} (h : flatU u = some (v, d)) : RelV v u ∧ Rp K F v d := by
  unfold flatU at h
  split at h <;> first | (cases h; exact ⟨rfl, .non⟩) | (cases h; exact ⟨rfl, .bl _⟩) | (cases h; exact ⟨⟨_, rfl⟩, .int _⟩) | (cases h; exact ⟨⟨_, rfl⟩, .str _⟩) | cases h
def flatUs : List Value → Option (List PyData)
  | [] => some []
  | u :: r => (flatU u).bind fun p => (flatUs r).map (p.2 :: ·)
theorem flatUs_ok {K : PySem.W.Frag} {F : Hp} : ∀ {us : List Value} {ds : List PyData}, flatUs us = some ds → ∃ vs, Vals vs us ∧ RpAll K F vs ds
  | [], _, h => by cases h; exact ⟨[], .nil, .nil⟩
  | u :: r, ds, h => by
    have h : ((flatU u).bind fun p => (flatUs r).map (p.2 :: ·)) = some ds := h
    cases e : flatU u with
    | none => rw [e] at h; cases h
    | some p =>
      rw [e] at h
      have h : (flatUs r).map (p.2 :: ·) = some ds := h
      cases e2 : flatUs r with
      | none => rw [e2] at h; cases h
      | some es =>
        rw [e2] at h
        cases h
        obtain ⟨vs, h1, h2⟩ := flatUs_ok (K := K) (F := F) e2
        obtain ⟨v, d⟩ := p
        obtain ⟨h3, h4⟩ := flatU_ok (K := K) (F := F) e
        exact ⟨v :: vs, .cons h3 h1, .cons h4 h2⟩
section
variable {K : PySem.W.Frag} {h : Heap} {mg : Str → Option Value} {x : Str}
theorem gc_flat {u : Value} {v : V} {d : PyData} (X : K.In h) (G : h.Ns mainGlobals mg) (a : PySem.W.nsIn K mainGlobals x = some (some u)) (r : flatU u = some (v, d)) : GC K mg x d :=
  ⟨v, u, PySem.W.mg_of X G a, (flatU_ok (K := K) (F := fun _ => none) r).1, (flatU_ok r).2⟩
theorem gc_tup {p : Addr} {dd : Option Addr} {its : Array Value} {n : Nat} {sl : Array (Option Value)} {ds : List PyData} (X : K.In h) (G : h.Ns mainGlobals mg) (a : PySem.W.nsIn K mainGlobals x = some (some (.ref p)))
    (l : K.lookup p = some ⟨.type "tuple", dd, .seq its n, sl⟩) (hz : decide (its.size ≤ 1000) = true) (r : flatUs its.toList = some ds) : GC K mg x (.tuple ds) := by
  obtain ⟨vs, h1, h2⟩ := flatUs_ok (K := K) (F := fun _ => none) r
  exact ⟨.ref p, .ref p, PySem.W.mg_of X G a, rfl, .tup (.inr ⟨_, its, n, l, rfl, rfl, by rw [sizeLine_eq]; have := of_decide_eq_true hz; omega, h1⟩) h2⟩
/-- the tables taken out -/
def noTab (H : Hp) : Hp := fun b => match H b with
  | some (.tbl _) => none
  | o => o
theorem noTab_same (H : Hp) : Same (noTab H) H := fun b o h => by
  unfold noTab at h
  split at h
  · cases h
  · exact h
theorem noTab_ne (H : Hp) (b : Addr) (ps : Array Value) (h : noTab H b = some (.tbl ps)) : False := by
  unfold noTab at h
  split at h
  · cases h
  · rename_i hn
    exact hn ps h
theorem noTab_at {H : Hp} {b : Addr} {o : HO} (h : H b = some o) (hn : ∀ ps, o ≠ .tbl ps) : noTab H b = some o := by
  unfold noTab
  rw [h]
  cases o <;> first | rfl | exact absurd rfl (hn _)
theorem noTab_sq {H : Hp} {a : Addr} {xs : List V} (h : SqL K H a xs) : SqL K (noTab H) a xs := by
  rcases h with (h | ⟨o, h⟩) | h
  · exact .inl (.inl (noTab_at h fun ps e => by cases e))
  · exact .inl (.inr ⟨o, noTab_at h fun ps e => by cases e⟩)
  · exact .inr h
/-- the law's own contract from what the head gives -/
theorem ls_law {S : CT} {H : Hp} {a : Addr} {ns : List Int} (hl : ns.length ≤ 63) (hT : ∀ x ∈ Tb.t, H x.1 = some (.tbl #[])) (hS : SqL K H a (ns.map V.int)) (h : ∀ Q : SV → Mu → Prop, Q (.d (.bool true)) [] → S [.scr ns] [] Q) : LS K S [.ref a] H (fun v _ => v = .bl true) fun _ _ _ => False :=
  ⟨⟨noTab H, []⟩, [.scr ns], [], fun sv _ => sv = .d (.bool true), ⟨noTab_same H, rfl, List.nodup_nil, fun _ z => by simp at z, fun l b o e _ => by simp at e, ⟨fun b ps q => noTab_ne H b ps q, fun x hx => ⟨by simp, by show noTab H x.1 = none; unfold noTab; rw [hT x hx], #[], hT x hx, True.intro, fun pos cv hc => by
    have z : codeAmong pos [] = some cv := hc
    simp [codeAmong] at z⟩⟩⟩, .cons ⟨a, rfl, noTab_sq hS⟩ .nil, h _ rfl, fun g' v sv μ' H' _ _ r e => by
    subst e
    cases r
    rfl⟩
end
end J
namespace J
open PySem PySem.Spec PyProof.Rows L2
variable [Tb]
section
variable {P : Program} {w : World} {K : PySem.W.Frag} {mg : Str → Option Value} {base : Heap}
theorem fn_DC {name qual : Str} {params : Arguments} {body : List Stmt} {scope : Scope} {dV kV doc pm cdv ct oc : Value} {an od : Option Addr} {osl : Array (Option Value)} {f : Addr} {N ps : List Str} {k : Nat} (fin : Fin) (hfin : FinOk fin)
    (lk : K.lookup f = some ⟨oc, od, .func (PySem.W.fnOf name qual params body scope dV kV doc pm an cdv ct), osl⟩) (hc : PySem.W.codeIn K cdv qual = true) (Sc : FnScope N ps scope) (S : CT) (T : DTS) (hlen : ∀ svs μ Q, S svs μ Q → svs.length = ps.length)
    (hb : ∀ (A : Around) (outer : List Env) (s : Shared) (H : Hp) (E : XK), Room k (A.deeper (envOfC qual scope s.heap.objs.size f cdv)) → DSs (cxOf CX0 P w K mg base N qual scope f cdv A outer s H E).nox body T)
    (hT : ∀ svs μ Q, S svs μ Q → T ⟨fun _ μ' => fin Q μ.length (.d .none) μ', fun sv μ' => fin Q μ.length sv μ', fun _ _ => False, fun _ _ => False⟩ (startE N svs) μ) :
    FnOk P w K mg base CX0 (k + 1) f (PySem.W.fnOf name qual params body scope dV kV doc pm an cdv ct) ps (LS K S) := by
  have len : ∀ (vs : List V) (H : Hp) (Q : VK) (E : XK), LS K S vs H Q E → vs.length = ps.length := fun vs H Q E h => by
    obtain ⟨g, svs, μ, QD, ok, r, hs, q⟩ := h
    rw [r.length]; exact hlen svs μ QD hs
  refine ⟨len, fun A outer s H args us vs Q E hr env hbd hv h => LamX.run_ofS lk hc Sc hr env hbd hv (len vs H Q E h) fun hr' => ⟨_, (hb A outer s H E hr').ps.nox, ?_⟩⟩
  obtain ⟨g, svs, μ, QD, ok, r, hs, q⟩ := h
  have out : ∀ g' v sv μ' H', Ext g H g' H' → StOk K g' μ' H' → RS K g' v sv → fin QD μ.length sv μ' → Q v H' := fun g' v sv μ' H' x1 ok1 r1 t1 => by
    obtain ⟨g2, sv2, μ2, x2, ok2, r2, t2⟩ := hfin K g H g' H' v sv μ μ' QD ok x1 ok1 r1 t1
    exact q g2 v sv2 μ2 H' x2 ok2 r2 t2
  exact ⟨g, startE N svs, μ, _, ok, start_ok r, hT svs μ QD hs, ⟨fun g' ρ' μ' σ' H' x1 ok1 _ t1 => out g' .non (.d .none) μ' H' x1 ok1 Rp.non t1, fun g' v sv μ' H' x1 ok1 r1 t1 => out g' v sv μ' H' x1 ok1 r1 t1, fun _ _ _ _ _ _ _ _ z => z.elim, fun _ _ _ _ _ _ _ _ z => z.elim⟩⟩
/-- an exception's class of the program's own, over ValueError -/
structure ExAt (K : PySem.W.Frag) (mg : Str → Option Value) (n : Str) (bm : List Value) (C : Addr) : Prop where
  g : mg n = some (.ref C)
  x : PySem.W.excIn K C bm "ValueError.__new__" = true
  k : PySem.W.keepIn K (.ref C) = true
  b : PySem.W.subIn K (.ref C) (.type "BaseException") = some true
  t : PySem.W.typeIn K (.ref C) = some (.type "type")
  e : PySem.W.exmOne K (.ref C) (.ref C) = some true
/-- raise X("..") -/
theorem dx_own {X : Cx} {W : WX} {n m : Str} {j : Nat} {p p2 p3 pos : Pos} {bm : List Value} (hc : X.calm = true) (tk : Takes X W) (F : ExcBaseFacts "ValueError" "ValueError.__new__" "ValueError.__init__" bm) (h : ∃ C, ExAt X.K X.mg n bm C) (hg : Gl X n) (hd : (n == ("__debug__" : Str)) = false := by decide) :
    DX X W [.Raise (some (.Call (.Name n p) [.Constant (.str m) j p2] [] p3)) none pos] (raiseX n) := by
  obtain ⟨C, h⟩ := h
  exact dx_raise hc tk F h.x h.g h.k (raises_own h.b h.t) hg hd
theorem dx_any {X : Cx} {W : WX} (sts : List Stmt) : DX X W sts noX := ⟨(dss_any sts).ps.weak fun D σ H ⟨g, ρ, μ, QX, ok, en, t, w⟩ => t.elim⟩
/-- raising contract of a function that says what is raised -/
abbrev XC := List SV → Mu → Option (Str × Mu)
def ofX (m : XC) : XT := fun svs μ QX => oP (m svs μ) fun p => QX p.1 p.2
end
/-- the catching def called with a lambda, by its facts -/
theorem de_ref {X : Cx} {n x a : Str} {st : Stmt} {c P : Addr} {k : Nat} {Ng : List Str} {params : Arguments} {body : Expr} {scope : Scope} {TX : DTX} {p lpos pos : Pos} {bm : List Value}
    (hg : Gl X x) (F : FnAt X.K X.mg x st) (hbd : ∀ (kV doc pm : Value) (an : Option Addr) (cdv ct : Value) (us : List Value), us.length = ([a] : List Str).length → bindArgs (PySem.W.fnOf x x (defArgs st) (defBody st) (defScope st) .none kV doc pm an cdv ct) ⟨us, []⟩ = pure (([a] : List Str).zip us))
    (Sg : FnScope Ng [a] (defScope st)) (hNg : Ng[0]? = some a) (hva : Vis (defScope st) a) (hG : ∀ CS : Addr, X.mg n = some (.ref CS) → ∀ (g : Addr) (cdv : Value), LamX.GivesTo X Ng x (defScope st) g cdv (defBody st) a (X.env.qual ++ ("<lambda>" : Str)) (TTref X.K CS)) (TB : LamX.TabB X.base X.mg c P) (hcode : X.env.code = .ref c)
    (hmT : (P, X.env.qual ++ ("<lambda>" : Str)) ∈ Tb.t) (hu : ∀ p : Addr × Str, p ∈ Tb.t → p.1 = P → p.2 = X.env.qual ++ ("<lambda>" : Str)) (hr : Room (k + 2) X.A) (L : LamX.LamS X.env.scope scope) (hdef : defaultsOf params X.env = ([], []))
    (hbind : ∀ (q : Str) (cl : List (Str × Addr)) (pm cv ctv : Value), bindArgs (PySem.W.kla_fn ("<lambda>" : Str) q params body scope cl pm cv ctv) { } = pure [])
    (hE : ∃ CS, ExAt X.K X.mg n bm CS)
    (hbody : ∀ (A : Around) (outer : List Env) (s : Shared) (H : Hp) (E : XK) (f c' : Addr), Room k (A.deeper (LamX.lamEnv X scope s.heap.objs.size f c')) → Takes (LamX.lamCx X A outer s H E scope f c') (fun cls d _ H' => E cls d H') → EX (LamX.lamCx X A outer s H E scope f c') (fun cls d _ H' => E cls d H') body TX)
    (h1 : (x == ("__debug__" : Str)) = false := by decide) (h2 : (a == ("__debug__" : Str)) = false := by decide) (h3 : (a == ("__classdict__" : Str)) = false := by decide) :
    DE X (.Call (.Name x p) [.Lambda params body scope lpos] [] pos) (refT n TX) := by
  obtain ⟨CS, hE⟩ := hE
  obtain ⟨g, fd, F, hm⟩ := F
  have hb := F.binds hbd
  have hk := F.kp
  obtain ⟨oc, od, kV, doc, pm, an, cdv, ct, osl, rfl, lk, hcd⟩ := F.ex
  exact de_refused hg hm hk lk hcd hb Sg hNg hva (hG CS hE.g g cdv) TB hcode hmT hu hr L hdef hbind hE.g hE.e hbody h1 h2 h3
end J
namespace J
open PySem PySem.Spec PyProof.Rows L2
variable [Tb]
abbrev XS := En → Mu → Option (Str × Mu)
def ImX (T : DTX) (x : XS) : Prop := ∀ ρ μ QX, oP (x ρ μ) (fun p => QX p.1 p.2) → T ρ μ QX
section
variable {U : DTB} {u : FB} {Es : DTA} {es : FA} {S : DTS} {s : FS} {T T1 T2 : DTX} {x x1 x2 : XS}
@[simp] def raF (n : Str) : XS := fun _ μ => some (n, μ)
theorem ix_ra (n : Str) : ImX (raiseX n) (raF n) := fun ρ μ QX h => h
@[simp] def noXF : XS := fun _ _ => none
theorem ix_no : ImX noX noXF := fun ρ μ QX h => h
/-- run on, if the statement falls through -/
def thenX (o : Option Ou) (f : XS) : Option (Str × Mu) := match o with
  | some (.nx ρ μ) => f ρ μ
  | _ => none
@[simp] theorem thenX_nx (ρ : En) (μ : Mu) (f : XS) : thenX (some (.nx ρ μ)) f = f ρ μ := rfl
@[simp] theorem thenX_rt (v : SV) (μ : Mu) (f : XS) : thenX (some (.rt v μ)) f = none := rfl
@[simp] theorem thenX_none (f : XS) : thenX none f = none := rfl
@[simp] theorem thenX_ite {c : Prop} [Decidable c] (a b : Option Ou) (f : XS) : thenX (if c then a else b) f = if c then thenX a f else thenX b f := by split <;> rfl
@[simp] def sqXF (s : FS) (x : XS) : XS := fun ρ μ => thenX (s ρ μ) x
theorem ix_sq (hs : ImS S s) (hx : ImX T x) : ImX (seqX S T) (sqXF s x) := fun ρ μ QX h => by
  refine hs _ ρ μ ?_
  unfold sqXF at h
  cases e : s ρ μ with
  | none => rw [e] at h; exact h.elim
  | some o =>
    rw [e] at h
    cases o with
    | nx ρ' μ' => exact hx _ _ _ h
    | _ => exact h.elim
@[simp] def ifXF (u : FB) (x y : XS) : XS := fun ρ μ => bnd (u ρ μ) fun k μ1 => if k = true then x ρ μ1 else y ρ μ1
theorem ix_if (hu : Im U u) (h1 : ImX T1 x1) (h2 : ImX T2 x2) : ImX (ifX U T1 T2) (ifXF u x1 x2) := fun ρ μ QX h => hu.step h fun k _ h => by
  cases k with
  | true => exact h1 _ _ _ h
  | false => exact h2 _ _ _ h
@[simp] def cllXF (m : XC) (es : FA) : XS := fun ρ μ => bnd (es ρ μ) fun svs μ1 => m svs μ1
theorem ix_cll (m : XC) (he : Im Es es) : ImX (cllX (ofX m) Es) (cllXF m es) := fun ρ μ QX h => he.step h fun _ _ h => h
def orO (o : Option (Str × Mu)) (f : Option (Str × Mu)) : Option (Str × Mu) := match o with
  | some r => some r
  | none => f
@[simp] theorem orO_some (r : Str × Mu) (f : Option (Str × Mu)) : orO (some r) f = some r := rfl
@[simp] theorem orO_none (f : Option (Str × Mu)) : orO none f = f := rfl
@[simp] def orXF (x y : XS) : XS := fun ρ μ => orO (x ρ μ) (y ρ μ)
theorem ix_or (h1 : ImX T1 x1) (h2 : ImX T2 x2) : ImX (orX T1 T2) (orXF x1 x2) := fun ρ μ QX h => by
  unfold orXF at h
  cases e : x1 ρ μ with
  | none => rw [e] at h; exact .inr (h2 _ _ _ h)
  | some r => rw [e] at h; exact .inl (h1 _ _ _ (by rw [e]; exact h))
/-- a def that raises -/
@[simp] def xdefF (k m : Nat) (x : XS) : XC := fun svs μ => if svs.length = k then (x (svs.map some ++ List.replicate (m - k) none) μ).map fun p => (p.1, p.2.take μ.length) else none
theorem xdef_len {k m : Nat} {x : XS} : ∀ svs μ QX, ofX (xdefF k m x) svs μ QX → svs.length = k := fun svs μ QX h => by
  unfold ofX xdefF at h
  split at h
  · assumption
  · exact h.elim
theorem xdef_hT {k m : Nat} {T : DTX} {x : XS} {N : List Str} (hx : ImX T x) (hn : N.length = m) : ∀ svs μ QX, ofX (xdefF k m x) svs μ QX → T (startE N svs) μ fun n μ' => QX n (μ'.take μ.length) := fun svs μ QX h => by
  unfold ofX xdefF at h
  split at h
  · rename_i e
    refine hx _ _ _ ?_
    unfold startE
    rw [hn, e]
    exact oP_map h
  · exact h.elim
end
end J
namespace PJ
open PySem PySem.Spec J
noncomputable section
def m_is_text_of : FC := defF 3 4 fD (sqF (ifF (orBF (notBF (bF (isiF "str" (vF 0)))) (notBF (chBF leD leD (cF (.int 1)) (biF lenD (consF (vF 0) nilF)) (vF 2)))) (rtF (cF (.bool false))) skipF) (rtF (biF allD (consF (frF (lcF (.n 3) (seqF (vF 0)) yesF (cmF inD (vF 3) (vF 1)) [3])) nilF))))
def c_WORDS : PyData := .tuple [.str "needs", .str "reads", .str "soft", .str "if"]
def c_MOST_NAME : PyData := .int 8
def c_LETTERS : PyData := .str "abcdefghijklmnopqrstuvwxyz"
def m_is_name : FC := defF 1 1 fD (rtF (andF (clF m_is_text_of (consF (vF 0) (consF (cF c_LETTERS) (consF (cF c_MOST_NAME) nilF)))) (cmF notinD (vF 0) (cF c_WORDS))))
def m_are_names : FC := defF 2 5 fD (sqF (ifF (orBF (notBF (bF (isiF "tuple" (vF 0)))) (orBF (cmBF gtD (biF lenD (consF (vF 0) nilF)) (vF 1)) (notBF (bF (biF allD (consF (frF (lcF (.n 2) (seqF (vF 0)) yesF (clF m_is_name (consF (vF 2) nilF)) [2])) nilF)))))) (rtF (cF (.bool false))) skipF) (rtF (biF allD (consF (frF (lcF (.t [3, 4]) (zipF (consF (vF 0) (consF (slF (vF 0) (someF (cF (.int 1))) noF) nilF))) yesF (cmF ltD (vF 3) (vF 4)) [3, 4])) nilF))))
def c_STATUSES : PyData := .tuple [.str "bad", .str "good", .str "passed", .str "stopped"]
def m_is_status : FC := defF 1 1 fD (rtF (andF (isiF "str" (vF 0)) (cmF inD (vF 0) (cF c_STATUSES))))
def c_MOST_PARTS : PyData := .int 4
def c_PLAIN : PyData := .tuple [.str "good", .str "bad", .str "always", .str "stopped"]
def m_is_within : Nat → FC
  | 0 => fun _ _ => none
  | n + 1 => defF 2 5 fD (sqF (ifF (orBF (notBF (bF (isiF "tuple" (vF 0)))) (orBF (cmBF eqD (vF 0) (tupF nilF)) (orBF (notBF (bF (isiF "str" (ixF (vF 0) (cF (.int 0)))))) (cmBF eqD (vF 1) (cF (.int 0)))))) (rtF (cF (.bool false))) skipF) (sqF (pa2F 2 3 (consF (ixF (vF 0) (cF (.int 0))) (consF (slF (vF 0) (someF (cF (.int 1))) noF) nilF))) (sqF (ifF (cmBF inD (vF 2) (cF c_PLAIN)) (rtF (cmF eqD (vF 3) (tupF nilF))) skipF) (sqF (ifF (cmBF eqD (vF 2) (cF (.str "is"))) (rtF (andF (cmF eqD (biF lenD (consF (vF 3) nilF)) (cF (.int 2))) (andF (clF m_is_name (consF (ixF (vF 3) (cF (.int 0))) nilF)) (clF m_is_status (consF (ixF (vF 3) (cF (.int 1))) nilF))))) skipF) (sqF (ifF (cmBF eqD (vF 2) (cF (.str "flag"))) (rtF (andF (cmF eqD (biF lenD (consF (vF 3) nilF)) (cF (.int 1))) (clF m_is_name (consF (ixF (vF 3) (cF (.int 0))) nilF)))) skipF) (sqF (ifF (cmBF eqD (vF 2) (cF (.str "not"))) (rtF (andF (cmF eqD (biF lenD (consF (vF 3) nilF)) (cF (.int 1))) (clF (m_is_within n) (consF (ixF (vF 3) (cF (.int 0))) (consF (opF subD (vF 1) (cF (.int 1))) nilF))))) skipF) (sqF (ifF (cmBF inD (vF 2) (tupF (consF (cF (.str "and")) (consF (cF (.str "or")) nilF)))) (rtF (andF (cmF leD (biF lenD (consF (vF 3) nilF)) (cF c_MOST_PARTS)) (biF allD (consF (frF (lcF (.n 4) (seqF (vF 3)) yesF (clF (m_is_within n) (consF (vF 4) (consF (opF subD (vF 1) (cF (.int 1))) nilF))) [4])) nilF)))) skipF) (rtF (cF (.bool false))))))))))
def c_MOST_DEEP : PyData := .int 4
def m_is_condition : FC := defF 1 1 fD (rtF (clF (m_is_within 6) (consF (vF 0) (consF (cF c_MOST_DEEP) nilF))))
def m_words_in : Nat → FC
  | 0 => fun _ _ => none
  | n + 1 => defF 2 4 fD (sqF (ifF (cmBF eqD (ixF (vF 0) (cF (.int 0))) (vF 1)) (rtF (tupF (consF (ixF (vF 0) (cF (.int 1))) nilF))) skipF) (sqF (stF 2 (frF (lstF nilF))) (sqF (ifF (cmBF inD (ixF (vF 0) (cF (.int 0))) (tupF (consF (cF (.str "not")) (consF (cF (.str "and")) (consF (cF (.str "or")) nilF))))) (foF (.n 3) (seqF (slF (vF 0) (someF (cF (.int 1))) noF)) (stF 2 (opF addD (vF 2) (frF (biN listN (consF (clF (m_words_in n) (consF (vF 3) (consF (vF 1) nilF))) nilF)))))) skipF) (rtF (biF tupD (consF (frF (sosF (vF 2))) nilF))))))
def c_BAD : PyData := .str "bad"
def c_GOOD : PyData := .str "good"
def m_does_hold : Nat → FC
  | 0 => fun _ _ => none
  | n + 1 => defF 4 9 fD (sqF (stF 4 (ixF (vF 0) (cF (.int 0)))) (sqF (ifF (cmBF eqD (vF 4) (cF (.str "good"))) (rtF (andF (notF (vF 3)) (biF allD (consF (frF (lcF (.t [6, 7]) (seqF (vF 1)) yesF (cmF eqD (vF 7) (cF c_GOOD)) [6, 7])) nilF)))) skipF) (sqF (ifF (cmBF eqD (vF 4) (cF (.str "bad"))) (rtF (andF (notF (vF 3)) (biF anyD (consF (frF (lcF (.t [6, 7]) (seqF (vF 1)) yesF (cmF eqD (vF 7) (cF c_BAD)) [6, 7])) nilF)))) skipF) (sqF (ifF (cmBF inD (vF 4) (tupF (consF (cF (.str "always")) (consF (cF (.str "stopped")) nilF)))) (rtF (orF (vF 3) (cmF eqD (vF 4) (cF (.str "always"))))) skipF) (sqF (ifF (cmBF eqD (vF 4) (cF (.str "is"))) (rtF (cmF inD (slF (vF 0) (someF (cF (.int 1))) noF) (vF 1))) skipF) (sqF (ifF (cmBF eqD (vF 4) (cF (.str "flag"))) (rtF (cmF inD (ixF (vF 0) (cF (.int 1))) (vF 2))) skipF) (sqF (ifF (cmBF eqD (vF 4) (cF (.str "not"))) (rtF (notF (clF (m_does_hold n) (consF (ixF (vF 0) (cF (.int 1))) (consF (vF 1) (consF (vF 2) (consF (vF 3) nilF))))))) skipF) (sqF (stF 5 (frF (lcF (.n 8) (seqF (slF (vF 0) (someF (cF (.int 1))) noF)) yesF (clF (m_does_hold n) (consF (vF 8) (consF (vF 1) (consF (vF 2) (consF (vF 3) nilF))))) [8]))) (rtF (ifEF (cmBF eqD (vF 4) (cF (.str "and"))) (biF allD (consF (vF 5) nilF)) (biF anyD (consF (vF 5) nilF))))))))))))
def c_MOST_READS : PyData := .int 4
def c_MOST_NEEDS : PyData := .int 4
def m_is_job : FC := defF 1 2 fD (sqF (ifF (orBF (notBF (bF (isiF "tuple" (vF 0)))) (orBF (cmBF neD (biF lenD (consF (vF 0) nilF)) (cF (.int 5))) (orBF (notBF (bF (clF m_is_name (consF (ixF (vF 0) (cF (.int 0))) nilF)))) (notBF (bF (clF m_are_names (consF (ixF (vF 0) (cF (.int 1))) (consF (cF c_MOST_NEEDS) nilF)))))))) (rtF (cF (.bool false))) skipF) (sqF (ifF (orBF (notBF (bF (clF m_is_condition (consF (ixF (vF 0) (cF (.int 2))) nilF)))) (cmBF neD (frF (lcF (.n 1) (seqF (clF (m_words_in 20) (consF (ixF (vF 0) (cF (.int 2))) (consF (cF (.str "is")) nilF)))) (cmBF notinD (vF 1) (ixF (vF 0) (cF (.int 1)))) (vF 1) [1])) (frF (lstF nilF)))) (rtF (cF (.bool false))) skipF) (rtF (andF (clF m_are_names (consF (ixF (vF 0) (cF (.int 3))) (consF (cF c_MOST_READS) nilF))) (isiF "bool" (ixF (vF 0) (cF (.int 4))))))))
def m_flags_of : FC := defF 1 3 fD (sqF (stF 1 (frF (lstF nilF))) (sqF (foF (.n 2) (seqF (vF 0)) (stF 1 (opF addD (vF 1) (frF (biN listN (consF (clF (m_words_in 20) (consF (ixF (vF 2) (cF (.int 2))) (consF (cF (.str "flag")) nilF))) nilF)))))) (rtF (biF tupD (consF (frF (sosF (vF 1))) nilF)))))
def c_MOST_FLAGS : PyData := .int 3
def c_MOST_JOBS : PyData := .int 8
def m_is_pipeline : FC := defF 1 4 fD (sqF (ifF (orBF (notBF (bF (isiF "tuple" (vF 0)))) (notBF (chBF leD leD (cF (.int 1)) (biF lenD (consF (vF 0) nilF)) (cF c_MOST_JOBS)))) (rtF (cF (.bool false))) skipF) (sqF (stF 1 (owF (lstF nilF))) (sqF (foF (.n 2) (seqF (vF 0)) (sqF (ifF (orBF (notBF (bF (clF m_is_job (consF (vF 2) nilF)))) (orBF (cmBF inD (ixF (vF 2) (cF (.int 0))) (vF 1)) (cmBF neD (frF (lcF (.n 3) (seqF (ixF (vF 2) (cF (.int 1)))) (cmBF notinD (vF 3) (vF 1)) (vF 3) [3])) (frF (lstF nilF))))) (rtF (cF (.bool false))) skipF) (exF (appF (vF 1) (ixF (vF 2) (cF (.int 0))))))) (rtF (cmF leD (biF lenD (consF (clF m_flags_of (consF (vF 0) nilF)) nilF)) (cF c_MOST_FLAGS))))))
def m_names_of : FC := defF 1 2 fD (rtF (biF tupD (consF (frF (lcF (.n 1) (seqF (vF 0)) yesF (ixF (vF 1) (cF (.int 0))) [1])) nilF)))
def m_need_pipeline : FC := defF 1 1 fD (ifF (notBF (bF (clF m_is_pipeline (consF (vF 0) nilF)))) nevF skipF)
def m_need_flags : FC := defF 2 3 fD (ifF (orBF (notBF (bF (clF m_are_names (consF (vF 1) (consF (cF c_MOST_FLAGS) nilF))))) (cmBF neD (frF (lcF (.n 2) (seqF (vF 1)) (cmBF notinD (vF 2) (clF m_flags_of (consF (vF 0) nilF))) (vF 2) [2])) (frF (lstF nilF)))) nevF skipF)
def m_need_bads : FC := defF 2 3 fD (ifF (orBF (notBF (bF (clF m_are_names (consF (vF 1) (consF (cF c_MOST_JOBS) nilF))))) (cmBF neD (frF (lcF (.n 2) (seqF (vF 1)) (cmBF notinD (vF 2) (clF m_names_of (consF (vF 0) nilF))) (vF 2) [2])) (frF (lstF nilF)))) nevF skipF)
def m_need_case : FC := defF 3 3 fD (sqF (exF (clF m_need_pipeline (consF (vF 0) nilF))) (sqF (exF (clF m_need_flags (consF (vF 0) (consF (vF 1) nilF)))) (exF (clF m_need_bads (consF (vF 0) (consF (vF 2) nilF))))))
def m_seen_by : FC := defF 2 3 fD (rtF (biF tupD (consF (frF (lcF (.n 2) (seqF (ixF (vF 0) (cF (.int 1)))) yesF (tupF (consF (vF 2) (consF (ixF (vF 1) (vF 2)) nilF))) [2])) nilF)))
def m_ended_as : FC := defF 2 2 fD (rtF (ifEF (andBF (cmBF inD (ixF (vF 0) (cF (.int 0))) (vF 1)) (notBF (bF (ixF (vF 0) (cF (.int 4)))))) (cF c_BAD) (cF c_GOOD)))
def c_PASSED : PyData := .str "passed"
def m_known_in : FC := defF 3 5 fD (sqF (stF 3 (owF dctF)) (sqF (foF (.n 4) (seqF (vF 0)) (ifF (bF (clF (m_does_hold 20) (consF (ixF (vF 4) (cF (.int 2))) (consF (clF m_seen_by (consF (vF 4) (consF (vF 3) nilF))) (consF (vF 1) (consF (cF (.bool false)) nilF)))))) (sxF (clF m_ended_as (consF (vF 4) (consF (vF 2) nilF))) (vF 3) (ixF (vF 4) (cF (.int 0)))) (sxF (cF c_PASSED) (vF 3) (ixF (vF 4) (cF (.int 0)))))) (rtF (vF 3))))
def m_statuses_of : FC := defF 3 5 fD (sqF (stF 3 (clF m_known_in (consF (vF 0) (consF (vF 1) (consF (vF 2) nilF))))) (rtF (biF tupD (consF (frF (lcF (.n 4) (seqF (clF m_names_of (consF (vF 0) nilF))) yesF (ixF (vF 3) (vF 4)) [4])) nilF))))
def m_ran_in : FC := defF 3 5 fD (sqF (stF 3 (clF m_known_in (consF (vF 0) (consF (vF 1) (consF (vF 2) nilF))))) (rtF (biF tupD (consF (frF (lcF (.n 4) (seqF (clF m_names_of (consF (vF 0) nilF))) (cmBF neD (ixF (vF 3) (vF 4)) (cF c_PASSED)) (vF 4) [4])) nilF))))
def m_statuses : FC := defF 3 3 fD (sqF (exF (clF m_need_case (consF (vF 0) (consF (vF 1) (consF (vF 2) nilF))))) (rtF (clF m_statuses_of (consF (vF 0) (consF (vF 1) (consF (vF 2) nilF))))))
def m_ran : FC := defF 3 3 fD (sqF (exF (clF m_need_case (consF (vF 0) (consF (vF 1) (consF (vF 2) nilF))))) (rtF (clF m_ran_in (consF (vF 0) (consF (vF 1) (consF (vF 2) nilF))))))
def m_verdict : FC := defF 3 3 fD (rtF (ifEF (cmBF inD (cF c_BAD) (clF m_statuses (consF (vF 0) (consF (vF 1) (consF (vF 2) nilF))))) (cF c_BAD) (cF c_GOOD)))
def m__law_source : FC := defF 2 3 fN (sqF (stF 2 (cF (.int 0))) (sqF (ifF (cmBF ltD (vF 1) (biF lenD (consF (vF 0) nilF))) (stF 2 (biF absD (consF (ixF (vF 0) (vF 1)) nilF))) skipF) (sqF (ifF (cmBF ltD (vF 2) (opF powD (cF (.int 10)) (cF (.int 18)))) (rtF (owF (lstF (consF (cF (.int 0)) (consF (opF addD (cF (.int 1)) (opF modD (opF addD (opF mulD (vF 2) (cF (.int 7919))) (opF mulD (cF (.int 104729)) (vF 1))) (cF (.int 2147483646)))) nilF))))) skipF) (rtF (owF (lstF (consF (vF 2) (consF (opF addD (cF (.int 1)) (opF modD (opF addD (vF 2) (vF 1)) (cF (.int 2147483646)))) nilF))))))))
def m__law_holds : Nat → FC
  | 0 => fun _ _ => none
  | n + 1 => defF 4 10 fD (sqF (pa2F 4 5 (consF (ixF (vF 0) (cF (.int 0))) (consF (slF (vF 0) (someF (cF (.int 1))) noF) nilF))) (sqF (ifF (cmBF eqD (vF 4) (cF (.str "good"))) (rtF (andF (notF (vF 3)) (cmF eqD (frF (lcF (.t [7, 8]) (seqF (vF 1)) (cmBF neD (vF 8) (cF (.str "good"))) (cF (.int 1)) [7, 8])) (frF (lstF nilF))))) skipF) (sqF (ifF (cmBF eqD (vF 4) (cF (.str "bad"))) (rtF (andF (notF (vF 3)) (cmF neD (frF (lcF (.t [7, 8]) (seqF (vF 1)) (cmBF eqD (vF 8) (cF (.str "bad"))) (cF (.int 1)) [7, 8])) (frF (lstF nilF))))) skipF) (sqF (ifF (cmBF eqD (vF 4) (cF (.str "is"))) (rtF (cmF inD (vF 5) (vF 1))) skipF) (sqF (ifF (cmBF eqD (vF 4) (cF (.str "flag"))) (rtF (cmF inD (ixF (vF 5) (cF (.int 0))) (vF 2))) skipF) (sqF (ifF (cmBF eqD (vF 4) (cF (.str "not"))) (rtF (notF (clF (m__law_holds n) (consF (ixF (vF 5) (cF (.int 0))) (consF (vF 1) (consF (vF 2) (consF (vF 3) nilF))))))) skipF) (sqF (ifF (cmBF inD (vF 4) (tupF (consF (cF (.str "and")) (consF (cF (.str "or")) nilF)))) (sqF (stF 6 (frF (lcF (.n 9) (seqF (vF 5)) yesF (clF (m__law_holds n) (consF (vF 9) (consF (vF 1) (consF (vF 2) (consF (vF 3) nilF))))) [9]))) (rtF (ifEF (cmBF eqD (vF 4) (cF (.str "and"))) (cmF notinD (cF (.bool false)) (vF 6)) (cmF inD (cF (.bool true)) (vF 6))))) skipF) (rtF (orF (cmF eqD (vF 4) (cF (.str "always"))) (vF 3))))))))))
def m__law_known : FC := defF 3 11 fD (sqF (stF 3 (owF dctF)) (sqF (foF (.t [4, 5, 6, 7, 8]) (seqF (vF 0)) (sqF (stF 9 (frF (lcF (.n 10) (seqF (vF 5)) yesF (tupF (consF (vF 10) (consF (ixF (vF 3) (vF 10)) nilF))) [10]))) (ifF (notBF (bF (clF (m__law_holds 20) (consF (vF 6) (consF (vF 9) (consF (vF 1) (consF (cF (.bool false)) nilF))))))) (sxF (cF (.str "passed")) (vF 3) (vF 4)) (sxF (ifEF (andBF (cmBF inD (vF 4) (vF 2)) (notBF (bF (vF 8)))) (cF (.str "bad")) (cF (.str "good"))) (vF 3) (vF 4))))) (rtF (vF 3))))
def m__law_names : FC := defF 1 2 fD (rtF (biF tupD (consF (frF (lcF (.n 1) (seqF (vF 0)) yesF (ixF (vF 1) (cF (.int 0))) [1])) nilF)))
def m__law_flags : Nat → FC
  | 0 => fun _ _ => none
  | n + 1 => defF 1 3 fD (sqF (ifF (cmBF eqD (ixF (vF 0) (cF (.int 0))) (cF (.str "flag"))) (rtF (frF (lstF (consF (ixF (vF 0) (cF (.int 1))) nilF)))) skipF) (sqF (stF 1 (frF (lstF nilF))) (sqF (ifF (cmBF inD (ixF (vF 0) (cF (.int 0))) (tupF (consF (cF (.str "not")) (consF (cF (.str "and")) (consF (cF (.str "or")) nilF))))) (foF (.n 2) (seqF (slF (vF 0) (someF (cF (.int 1))) noF)) (stF 1 (opF addD (vF 1) (clF (m__law_flags n) (consF (vF 2) nilF))))) skipF) (rtF (vF 1)))))
def m__law_all_flags : FC := defF 1 3 fD (sqF (stF 1 (frF (lstF nilF))) (sqF (foF (.n 2) (seqF (vF 0)) (stF 1 (opF addD (vF 1) (clF (m__law_flags 20) (consF (ixF (vF 2) (cF (.int 2))) nilF))))) (rtF (biF tupD (consF (frF (sosF (vF 1))) nilF)))))
def m_all_flags : FC := defF 1 1 fD (sqF (exF (clF m_need_pipeline (consF (vF 0) nilF))) (rtF (clF m_flags_of (consF (vF 0) nilF))))
def m__law_is_name : FC := defF 1 2 fD (sqF (ifF (orBF (notBF (bF (isiF "str" (vF 0)))) (orBF (notBF (chBF leD leD (cF (.int 1)) (biF lenD (consF (vF 0) nilF)) (cF (.int 8)))) (cmBF inD (vF 0) (tupF (consF (cF (.str "needs")) (consF (cF (.str "reads")) (consF (cF (.str "soft")) (consF (cF (.str "if")) nilF)))))))) (rtF (cF (.bool false))) skipF) (rtF (cmF eqD (frF (lcF (.n 1) (seqF (vF 0)) (notBF (chBF leD leD (cF (.str "a")) (vF 1) (cF (.str "z")))) (vF 1) [1])) (frF (lstF nilF)))))
def m__law_asked : Nat → FC
  | 0 => fun _ _ => none
  | n + 1 => defF 1 3 fD (sqF (ifF (cmBF eqD (ixF (vF 0) (cF (.int 0))) (cF (.str "is"))) (rtF (frF (lstF (consF (ixF (vF 0) (cF (.int 1))) nilF)))) skipF) (sqF (stF 1 (frF (lstF nilF))) (sqF (ifF (cmBF inD (ixF (vF 0) (cF (.int 0))) (tupF (consF (cF (.str "not")) (consF (cF (.str "and")) (consF (cF (.str "or")) nilF))))) (foF (.n 2) (seqF (slF (vF 0) (someF (cF (.int 1))) noF)) (stF 1 (opF addD (vF 1) (clF (m__law_asked n) (consF (vF 2) nilF))))) skipF) (rtF (vF 1)))))
def m_need_condition : FC := defF 1 1 fD (ifF (notBF (bF (clF m_is_condition (consF (vF 0) nilF)))) nevF skipF)
def m_flags_in : FC := defF 1 1 fD (sqF (exF (clF m_need_condition (consF (vF 0) nilF))) (rtF (clF (m_words_in 20) (consF (vF 0) (consF (cF (.str "flag")) nilF)))))
def m_is_seen : FC := defF 2 5 fD (sqF (ifF (orBF (notBF (bF (isiF "tuple" (vF 0)))) (cmBF gtD (biF lenD (consF (vF 0) nilF)) (vF 1))) (rtF (cF (.bool false))) skipF) (sqF (foF (.n 2) (seqF (vF 0)) (ifF (orBF (notBF (bF (isiF "tuple" (vF 2)))) (orBF (cmBF neD (biF lenD (consF (vF 2) nilF)) (cF (.int 2))) (orBF (notBF (bF (clF m_is_name (consF (ixF (vF 2) (cF (.int 0))) nilF)))) (notBF (bF (clF m_is_status (consF (ixF (vF 2) (cF (.int 1))) nilF))))))) (rtF (cF (.bool false))) skipF)) (rtF (biF allD (consF (frF (lcF (.t [3, 4]) (zipF (consF (vF 0) (consF (slF (vF 0) (someF (cF (.int 1))) noF) nilF))) yesF (cmF ltD (ixF (vF 3) (cF (.int 0))) (ixF (vF 4) (cF (.int 0)))) [3, 4])) nilF)))))
def m_need_bool : FC := defF 1 1 fD (ifF (notBF (bF (isiF "bool" (vF 0)))) nevF skipF)
def c_MOST_FLAGS_v2 : PyData := .int 8
def c_MOST_SEEN : PyData := .int 4
def m_holds : FC := defF 4 7 fD (sqF (exF (clF m_need_condition (consF (vF 0) nilF))) (sqF (stF 4 (ifEF (bF (clF m_is_seen (consF (vF 1) (consF (cF c_MOST_SEEN) nilF)))) (frF (lcF (.n 5) (seqF (vF 1)) yesF (ixF (vF 5) (cF (.int 0))) [5])) (cF (.none)))) (sqF (ifF (orBF (bF (isnF (vF 4))) (cmBF neD (frF (lcF (.n 6) (seqF (clF (m_words_in 20) (consF (vF 0) (consF (cF (.str "is")) nilF)))) (cmBF notinD (vF 6) (vF 4)) (vF 6) [6])) (frF (lstF nilF)))) nevF skipF) (sqF (ifF (notBF (bF (clF m_are_names (consF (vF 2) (consF (cF c_MOST_FLAGS_v2) nilF))))) nevF skipF) (sqF (exF (clF m_need_bool (consF (vF 3) nilF))) (rtF (clF (m_does_hold 20) (consF (vF 0) (consF (vF 1) (consF (vF 2) (consF (vF 3) nilF)))))))))))
def m__wall : FC := defF 1 1 fD (whF (bF (cF (.bool true))) skipF)
def m_all_parts : FC := defF 1 4 fD (sqF (stF 1 (frF (lstF (consF (tupF nilF) nilF)))) (sqF (foF (.n 2) (seqF (vF 0)) (stF 1 (opF addD (vF 1) (frF (lcF (.n 3) (seqF (vF 1)) yesF (opF addD (vF 3) (tupF (consF (vF 2) nilF))) [3]))))) (rtF (frF (biN sortN (consF (vF 1) nilF))))))
def m_all_cases : FC := defF 2 6 fD (sqF (stF 2 (clF m_all_parts (consF (frF (biN sortN (consF (clF m_names_of (consF (vF 0) nilF)) nilF))) nilF))) (sqF (stF 3 (frF (lstF nilF))) (sqF (foF (.n 4) (seqF (clF m_all_parts (consF (vF 1) nilF))) (stF 3 (opF addD (vF 3) (frF (lcF (.n 5) (seqF (vF 2)) yesF (tupF (consF (vF 4) (consF (vF 5) nilF))) [5]))))) (rtF (vF 3)))))
def m_first_unlike : FC := defF 2 9 fD (sqF (paF [2, 3] (consF (clF m_flags_of (consF (vF 0) nilF)) (consF (clF m_flags_of (consF (vF 1) nilF)) nilF))) (sqF (foF (.t [4, 5]) (seqF (clF m_all_cases (consF (vF 0) (consF (biF tupD (consF (frF (sosF (opF addD (vF 2) (vF 3)))) nilF)) nilF)))) (sqF (stF 6 (clF m_known_in (consF (vF 0) (consF (biF tupD (consF (frF (lcF (.n 8) (seqF (vF 4)) (cmBF inD (vF 8) (vF 2)) (vF 8) [8])) nilF)) (consF (vF 5) nilF))))) (sqF (stF 7 (clF m_known_in (consF (vF 1) (consF (biF tupD (consF (frF (lcF (.n 8) (seqF (vF 4)) (cmBF inD (vF 8) (vF 3)) (vF 8) [8])) nilF)) (consF (vF 5) nilF))))) (ifF (cmBF neD (frF (lcF (.n 8) (seqF (clF m_names_of (consF (vF 0) nilF))) (cmBF neD (ixF (vF 6) (vF 8)) (ixF (vF 7) (vF 8))) (vF 8) [8])) (frF (lstF nilF))) (rtF (tupF (consF (vF 4) (consF (vF 5) nilF)))) skipF)))) (rtF (cF (.none)))))
def m_can_compare : FC := defF 2 2 fD (sqF (ifF (cmBF neD (frF (biN sortN (consF (clF m_names_of (consF (vF 0) nilF)) nilF))) (frF (biN sortN (consF (clF m_names_of (consF (vF 1) nilF)) nilF)))) (rtF (cF (.bool false))) skipF) (rtF (cmF leD (losF (opF addD (clF m_flags_of (consF (vF 0) nilF)) (clF m_flags_of (consF (vF 1) nilF)))) (cF c_MOST_FLAGS))))
def c_STOPPED : PyData := .str "stopped"
def m_settled : FC := defF 5 8 fD (sqF (stF 5 (owF (biN dictN (consF (vF 2) nilF)))) (sqF (foF (.n 6) (seqF (vF 0)) (ifF (andBF (cmBF notinD (ixF (vF 6) (cF (.int 0))) (vF 5)) (andBF (cmBF notinD (ixF (vF 6) (cF (.int 0))) (vF 3)) (bF (biF allD (consF (frF (lcF (.n 7) (seqF (ixF (vF 6) (cF (.int 1)))) yesF (cmF inD (vF 7) (vF 5)) [7])) nilF))))) (ifF (notBF (bF (clF (m_does_hold 20) (consF (ixF (vF 6) (cF (.int 2))) (consF (clF m_seen_by (consF (vF 6) (consF (vF 5) nilF))) (consF (vF 1) (consF (vF 4) nilF))))))) (sxF (ifEF (bF (vF 4)) (cF c_STOPPED) (cF c_PASSED)) (vF 5) (ixF (vF 6) (cF (.int 0)))) skipF) skipF)) (rtF (vF 5))))
def m_known_before : FC := defF 4 8 fN (sqF (stF 4 (owF dctF)) (sqF (foF (.n 5) (seqF (vF 0)) (ifF (bF (biF allD (consF (frF (lcF (.n 7) (seqF (ixF (vF 5) (cF (.int 1)))) yesF (cmF inD (vF 7) (vF 4)) [7])) nilF))) (sqF (stF 6 (clF (m_does_hold 20) (consF (ixF (vF 5) (cF (.int 2))) (consF (clF m_seen_by (consF (vF 5) (consF (vF 4) nilF))) (consF (vF 1) (consF (cF (.bool false)) nilF)))))) (ifF (andBF (bF (vF 6)) (cmBF inD (ixF (vF 5) (cF (.int 0))) (vF 3))) (sxF (clF m_ended_as (consF (vF 5) (consF (vF 2) nilF))) (vF 4) (ixF (vF 5) (cF (.int 0)))) (ifF (notBF (bF (vF 6))) (sxF (cF c_PASSED) (vF 4) (ixF (vF 5) (cF (.int 0)))) skipF))) skipF)) (sqF (ifF (cmBF neD (frF (lcF (.n 7) (seqF (vF 3)) (cmBF eqD (dg2F (vF 4) (vF 7) (cF c_PASSED)) (cF c_PASSED)) (vF 7) [7])) (frF (lstF nilF))) (rtF (cF (.none))) skipF) (rtF (vF 4)))))
def m_statuses_after : FC := defF 4 8 fD (sqF (exF (clF m_need_case (consF (vF 0) (consF (vF 1) (consF (vF 2) nilF))))) (sqF (stF 4 (cF (.none))) (sqF (ifF (andBF (bF (clF m_are_names (consF (vF 3) (consF (cF c_MOST_JOBS) nilF)))) (cmBF eqD (frF (lcF (.n 7) (seqF (vF 3)) (cmBF notinD (vF 7) (clF m_names_of (consF (vF 0) nilF))) (vF 7) [7])) (frF (lstF nilF)))) (stF 4 (clF m_known_before (consF (vF 0) (consF (vF 1) (consF (vF 2) (consF (vF 3) nilF)))))) skipF) (sqF (ifF (bF (isnF (vF 4))) nevF skipF) (sqF (foF (.n 5) (seqF (vF 0)) (ifF (cmBF notinD (ixF (vF 5) (cF (.int 0))) (vF 4)) (sqF (stF 6 (clF (m_does_hold 20) (consF (ixF (vF 5) (cF (.int 2))) (consF (clF m_seen_by (consF (vF 5) (consF (vF 4) nilF))) (consF (vF 1) (consF (cF (.bool true)) nilF)))))) (sxF (ifEF (bF (vF 6)) (clF m_ended_as (consF (vF 5) (consF (vF 2) nilF))) (cF c_STOPPED)) (vF 4) (ixF (vF 5) (cF (.int 0))))) skipF)) (rtF (biF tupD (consF (frF (lcF (.n 7) (seqF (clF m_names_of (consF (vF 0) nilF))) yesF (ixF (vF 4) (vF 7)) [7])) nilF))))))))
def m__law_parts : FC := defF 1 4 fD (sqF (stF 1 (frF (lstF (consF (tupF nilF) nilF)))) (sqF (foF (.n 2) (seqF (frF (biN sortN (consF (vF 0) nilF)))) (stF 1 (opF addD (vF 1) (frF (lcF (.n 3) (seqF (vF 1)) yesF (opF addD (vF 3) (tupF (consF (vF 2) nilF))) [3]))))) (rtF (vF 1))))
def m_need_name : FC := defF 2 2 fD (ifF (orBF (notBF (bF (clF m_is_name (consF (vF 1) nilF)))) (cmBF notinD (vF 1) (clF m_names_of (consF (vF 0) nilF)))) nevF skipF)
def m_names_of__x : FC := defF 1 2 fD (rtF (bxF tupX (consF (frF (lcF (.n 1) (seqF (vF 0)) yesF (ixF (vF 1) (cF (.int 0))) [1])) nilF)))
def m_possible_statuses : FC := defF 2 6 fN (sqF (exF (clF m_need_pipeline (consF (vF 0) nilF))) (sqF (exF (clF m_need_name (consF (vF 0) (consF (vF 1) nilF)))) (sqF (stF 2 (idxF (clF m_names_of__x (consF (vF 0) nilF)) (vF 1))) (sqF (stF 3 (clF m_all_cases (consF (vF 0) (consF (clF m_flags_of (consF (vF 0) nilF)) nilF)))) (rtF (owF (sosF (frF (lcF (.t [4, 5]) (seqF (vF 3)) yesF (ixF (clF m_statuses_of (consF (vF 0) (consF (vF 4) (consF (vF 5) nilF)))) (vF 2)) [4, 5])))))))))
def m_never_run : FC := defF 1 6 fD (sqF (exF (clF m_need_pipeline (consF (vF 0) nilF))) (sqF (stF 1 (frF (biN sortN (consF (clF m_names_of (consF (vF 0) nilF)) nilF)))) (sqF (foF (.t [2, 3]) (seqF (clF m_all_cases (consF (vF 0) (consF (clF m_flags_of (consF (vF 0) nilF)) nilF)))) (sqF (stF 4 (clF m_ran_in (consF (vF 0) (consF (vF 2) (consF (vF 3) nilF))))) (stF 1 (frF (lcF (.n 5) (seqF (vF 1)) (cmBF notinD (vF 5) (vF 4)) (vF 5) [5]))))) (rtF (vF 1)))))
def m_always_run : FC := defF 1 6 fD (sqF (exF (clF m_need_pipeline (consF (vF 0) nilF))) (sqF (stF 1 (frF (biN sortN (consF (clF m_names_of (consF (vF 0) nilF)) nilF)))) (sqF (foF (.t [2, 3]) (seqF (clF m_all_cases (consF (vF 0) (consF (clF m_flags_of (consF (vF 0) nilF)) nilF)))) (sqF (stF 4 (clF m_ran_in (consF (vF 0) (consF (vF 2) (consF (vF 3) nilF))))) (stF 1 (frF (lcF (.n 5) (seqF (vF 1)) (cmBF inD (vF 5) (vF 4)) (vF 5) [5]))))) (rtF (vF 1)))))
def m__law_cases : FC := defF 1 4 fD (sqF (stF 1 (frF (lstF nilF))) (sqF (foF (.n 2) (seqF (clF m__law_parts (consF (clF m__law_all_flags (consF (vF 0) nilF)) nilF))) (stF 1 (opF addD (vF 1) (frF (lcF (.n 3) (seqF (clF m__law_parts (consF (clF m__law_names (consF (vF 0) nilF)) nilF))) yesF (tupF (consF (vF 2) (consF (vF 3) nilF))) [3]))))) (rtF (vF 1))))
def m_telling_case : FC := defF 2 2 fD (sqF (exF (clF m_need_pipeline (consF (vF 0) nilF))) (sqF (exF (clF m_need_pipeline (consF (vF 1) nilF))) (sqF (ifF (notBF (bF (clF m_can_compare (consF (vF 0) (consF (vF 1) nilF))))) nevF skipF) (rtF (clF m_first_unlike (consF (vF 0) (consF (vF 1) nilF)))))))
def m_same_pipelines : FC := defF 2 2 fD (rtF (isnF (clF m_telling_case (consF (vF 0) (consF (vF 1) nilF)))))
def m_with_job : FC := defF 3 3 fD (rtF (opF addD (opF addD (slF (vF 0) noF (someF (vF 1))) (tupF (consF (vF 2) nilF))) (slF (vF 0) (someF (opF addD (vF 1) (cF (.int 1)))) noF)))
def m_needless_needs : FC := defF 2 8 fN (sqF (exF (clF m_need_pipeline (consF (vF 0) nilF))) (sqF (exF (clF m_need_name (consF (vF 0) (consF (vF 1) nilF)))) (sqF (stF 2 (idxF (clF m_names_of__x (consF (vF 0) nilF)) (vF 1))) (sqF (pa2F 3 4 (consF (ixF (vF 0) (vF 2)) (consF (owF (lstF nilF)) nilF))) (sqF (foF (.n 5) (seqF (ixF (vF 3) (cF (.int 1)))) (ifF (cmBF notinD (vF 5) (clF (m_words_in 20) (consF (ixF (vF 3) (cF (.int 2))) (consF (cF (.str "is")) nilF)))) (sqF (stF 6 (biF tupD (consF (frF (lcF (.n 7) (seqF (ixF (vF 3) (cF (.int 1)))) (cmBF neD (vF 7) (vF 5)) (vF 7) [7])) nilF))) (ifF (bF (isnF (clF m_first_unlike (consF (vF 0) (consF (clF m_with_job (consF (vF 0) (consF (vF 2) (consF (opF addD (tupF (consF (vF 1) (consF (vF 6) nilF))) (slF (vF 3) (someF (cF (.int 2))) noF)) nilF)))) nilF))))) (exF (appF (vF 4) (vF 5))) skipF)) skipF)) (rtF (vF 4)))))))
def m_status_of : FC := defF 4 4 fD (rtF (ixF (clF m_statuses_of (consF (vF 0) (consF (vF 1) (consF (vF 2) nilF)))) (idxF (clF m_names_of__x (consF (vF 0) nilF)) (vF 3))))
def m_explains : FC := defF 5 10 fD (sqF (stF 5 (frF (lcF (.n 9) (seqF (vF 4)) (cmBF inD (vF 9) (vF 2)) (vF 9) [9]))) (sqF (stF 6 (frF (lcF (.n 9) (seqF (frF (biN sortN (consF (clF m_names_of (consF (vF 0) nilF)) nilF)))) (cmBF notinD (vF 9) (vF 4)) (vF 9) [9]))) (sqF (stF 7 (clF m_status_of (consF (vF 0) (consF (vF 1) (consF (vF 2) (consF (vF 3) nilF)))))) (sqF (foF (.n 8) (seqF (clF m_all_parts (consF (vF 6) nilF))) (ifF (cmBF neD (clF m_status_of (consF (vF 0) (consF (vF 1) (consF (biF tupD (consF (frF (biN sortN (consF (opF addD (vF 5) (frF (biN listN (consF (vF 8) nilF)))) nilF))) nilF)) (consF (vF 3) nilF))))) (vF 7)) (rtF (cF (.bool false))) skipF)) (rtF (cF (.bool true)))))))
def m_reasons : FC := defF 4 8 fD (sqF (exF (clF m_need_case (consF (vF 0) (consF (vF 1) (consF (vF 2) nilF))))) (sqF (exF (clF m_need_name (consF (vF 0) (consF (vF 3) nilF)))) (sqF (stF 4 (idxF (clF m_names_of__x (consF (vF 0) nilF)) (vF 3))) (sqF (stF 5 (clF m_all_parts (consF (frF (biN sortN (consF (slF (clF m_names_of (consF (vF 0) nilF)) noF (someF (opF addD (vF 4) (cF (.int 1))))) nilF))) nilF))) (sqF (foF (.n 6) (rngF (consF (opF addD (biF lenD (consF (vF 0) nilF)) (cF (.int 1))) nilF)) (foF (.n 7) (seqF (vF 5)) (ifF (andBF (cmBF eqD (biF lenD (consF (vF 7) nilF)) (vF 6)) (bF (clF m_explains (consF (vF 0) (consF (vF 1) (consF (vF 2) (consF (vF 3) (consF (vF 7) nilF)))))))) (rtF (vF 7)) skipF))) (rtF (biF tupD (consF (frF (biN sortN (consF (clF m_names_of (consF (vF 0) nilF)) nilF))) nilF))))))))
def m_fewest_reasons : FC := defF 4 4 fD (rtF (biF lenD (consF (clF m_reasons (consF (vF 0) (consF (vF 1) (consF (vF 2) (consF (vF 3) nilF))))) nilF)))
def m_turned : FC := defF 2 4 fD (sqF (stF 2 (frF (lcF (.n 3) (seqF (vF 0)) (cmBF neD (vF 3) (vF 1)) (vF 3) [3]))) (rtF (biF tupD (consF (frF (biN sortN (consF (opF addD (vF 2) (opF mulD (frF (lstF (consF (vF 1) nilF))) (biF intD (consF (cmF notinD (vF 1) (vF 0)) nilF)))) nilF))) nilF))))
def m_turning_jobs : FC := defF 4 7 fN (sqF (exF (clF m_need_case (consF (vF 0) (consF (vF 1) (consF (vF 2) nilF))))) (sqF (exF (clF m_need_name (consF (vF 0) (consF (vF 3) nilF)))) (sqF (stF 4 (clF m_status_of (consF (vF 0) (consF (vF 1) (consF (vF 2) (consF (vF 3) nilF)))))) (sqF (stF 5 (frF (biN sortN (consF (clF m_names_of (consF (vF 0) nilF)) nilF)))) (rtF (owF (lcF (.n 6) (seqF (vF 5)) (cmBF neD (clF m_status_of (consF (vF 0) (consF (vF 1) (consF (clF m_turned (consF (vF 2) (consF (vF 6) nilF))) (consF (vF 3) nilF))))) (vF 4)) (vF 6) [6])))))))
def m_need_seen : FC := defF 2 4 fD (sqF (stF 2 (clF m_names_of (consF (vF 0) nilF))) (ifF (orBF (notBF (bF (clF m_is_seen (consF (vF 1) (consF (cF c_MOST_JOBS) nilF))))) (cmBF neD (frF (lcF (.n 3) (seqF (vF 1)) (cmBF notinD (ixF (vF 3) (cF (.int 0))) (vF 2)) (vF 3) [3])) (frF (lstF nilF)))) nevF skipF))
def m_fitting : FC := defF 3 8 fD (sqF (stF 3 (owF (lstF nilF))) (sqF (foF (.n 4) (seqF (clF m_all_parts (consF (frF (biN sortN (consF (clF m_names_of (consF (vF 0) nilF)) nilF))) nilF))) (sqF (stF 5 (clF m_known_in (consF (vF 0) (consF (vF 1) (consF (vF 4) nilF))))) (ifF (bF (biF allD (consF (frF (lcF (.t [6, 7]) (seqF (vF 2)) yesF (cmF eqD (ixF (vF 5) (vF 6)) (vF 7)) [6, 7])) nilF))) (exF (appF (vF 3) (vF 4))) skipF))) (rtF (vF 3))))
def m_sure_statuses : FC := defF 3 9 fD (sqF (exF (clF m_need_pipeline (consF (vF 0) nilF))) (sqF (exF (clF m_need_flags (consF (vF 0) (consF (vF 1) nilF)))) (sqF (exF (clF m_need_seen (consF (vF 0) (consF (vF 2) nilF)))) (sqF (stF 3 (frF (lcF (.n 7) (seqF (clF m_fitting (consF (vF 0) (consF (vF 1) (consF (vF 2) nilF))))) yesF (clF m_known_in (consF (vF 0) (consF (vF 1) (consF (vF 7) nilF)))) [7]))) (sqF (ifF (cmBF eqD (vF 3) (frF (lstF nilF))) (rtF (cF (.none))) skipF) (sqF (stF 4 (owF (lstF nilF))) (sqF (foF (.n 5) (seqF (clF m_names_of (consF (vF 0) nilF))) (sqF (stF 6 (frF (sosF (frF (lcF (.n 8) (seqF (vF 3)) yesF (ixF (vF 8) (vF 5)) [8]))))) (exF (appF (vF 4) (ifEF (cmBF eqD (biF lenD (consF (vF 6) nilF)) (cF (.int 1))) (ixF (vF 6) (cF (.int 0))) (cF (.none))))))) (rtF (biF tupD (consF (vF 4) nilF))))))))))
def m_possible_flags : FC := defF 2 3 fD (sqF (exF (clF m_need_pipeline (consF (vF 0) nilF))) (sqF (exF (clF m_need_seen (consF (vF 0) (consF (vF 1) nilF)))) (rtF (frF (lcF (.n 2) (seqF (clF m_all_parts (consF (clF m_flags_of (consF (vF 0) nilF)) nilF))) (cmBF neD (clF m_fitting (consF (vF 0) (consF (vF 2) (consF (vF 1) nilF)))) (frF (lstF nilF))) (vF 2) [2])))))
def c_MOST_CHANGED : PyData := .int 8
def m_need_names : FC := defF 1 1 fD (ifF (notBF (bF (clF m_are_names (consF (vF 0) (consF (cF c_MOST_CHANGED) nilF))))) nevF skipF)
def m_again_of : FC := defF 3 11 fD (sqF (paF [3, 4] (consF (owF (lstF nilF)) (consF (owF (lstF nilF)) nilF))) (sqF (foF (.t [5, 6, 7, 8, 9]) (seqF (vF 0)) (ifF (cmBF neD (opF addD (frF (lcF (.n 10) (seqF (vF 8)) (cmBF inD (vF 10) (vF 1)) (vF 10) [10])) (frF (lcF (.n 10) (seqF (vF 6)) (cmBF inD (vF 10) (vF 4)) (vF 10) [10]))) (frF (lstF nilF))) (sqF (exF (appF (vF 3) (vF 5))) (ifF (cmBF notinD (vF 5) (vF 2)) (exF (appF (vF 4) (vF 5))) skipF)) skipF)) (rtF (biF tupD (consF (vF 3) nilF)))))
def m_touched : FC := defF 2 2 fD (sqF (exF (clF m_need_pipeline (consF (vF 0) nilF))) (sqF (exF (clF m_need_names (consF (vF 1) nilF))) (rtF (clF m_again_of (consF (vF 0) (consF (vF 1) (consF (tupF nilF) nilF)))))))
def m_run_again : FC := defF 3 4 fD (sqF (exF (clF m_need_pipeline (consF (vF 0) nilF))) (sqF (exF (clF m_need_names (consF (vF 1) nilF))) (sqF (exF (clF m_need_names (consF (vF 2) nilF))) (sqF (ifF (cmBF neD (frF (lcF (.n 3) (seqF (vF 2)) (cmBF notinD (vF 3) (clF m_names_of (consF (vF 0) nilF))) (vF 3) [3])) (frF (lstF nilF))) nevF skipF) (rtF (clF m_again_of (consF (vF 0) (consF (vF 1) (consF (vF 2) nilF)))))))))
def c_MOST_VALUES : PyData := .int 4
def m_is_side : FC := defF 1 2 fD (sqF (ifF (orBF (notBF (bF (isiF "tuple" (vF 0)))) (orBF (cmBF neD (biF lenD (consF (vF 0) nilF)) (cF (.int 2))) (notBF (bF (clF m_is_name (consF (ixF (vF 0) (cF (.int 0))) nilF)))))) (rtF (cF (.bool false))) skipF) (sqF (ifF (orBF (notBF (bF (isiF "tuple" (ixF (vF 0) (cF (.int 1)))))) (notBF (chBF leD leD (cF (.int 1)) (biF lenD (consF (ixF (vF 0) (cF (.int 1))) nilF)) (cF c_MOST_VALUES)))) (rtF (cF (.bool false))) skipF) (rtF (andF (biF allD (consF (frF (lcF (.n 1) (seqF (ixF (vF 0) (cF (.int 1)))) yesF (clF m_is_text_of (consF (vF 1) (consF (cF c_LETTERS) (consF (cF c_MOST_NAME) nilF)))) [1])) nilF)) (cmF eqD (losF (ixF (vF 0) (cF (.int 1)))) (biF lenD (consF (ixF (vF 0) (cF (.int 1))) nilF)))))))
def c_MOST_SIDES : PyData := .int 3
def m_is_matrix : FC := defF 1 2 fD (sqF (ifF (orBF (notBF (bF (isiF "tuple" (vF 0)))) (notBF (chBF leD leD (cF (.int 1)) (biF lenD (consF (vF 0) nilF)) (cF c_MOST_SIDES)))) (rtF (cF (.bool false))) skipF) (sqF (ifF (notBF (bF (biF allD (consF (frF (lcF (.n 1) (seqF (vF 0)) yesF (clF m_is_side (consF (vF 1) nilF)) [1])) nilF)))) (rtF (cF (.bool false))) skipF) (rtF (cmF eqD (losF (frF (lcF (.n 1) (seqF (vF 0)) yesF (ixF (vF 1) (cF (.int 0))) [1]))) (biF lenD (consF (vF 0) nilF))))))
def m_need_matrix : FC := defF 1 1 fD (ifF (notBF (bF (clF m_is_matrix (consF (vF 0) nilF)))) nevF skipF)
def m_all_pairs : FC := defF 1 5 fD (sqF (stF 1 (frF (lstF nilF))) (sqF (foF (.t [2, 3]) (seqF (vF 0)) (stF 1 (opF addD (vF 1) (frF (lcF (.n 4) (seqF (vF 3)) yesF (tupF (consF (vF 2) (consF (vF 4) nilF))) [4]))))) (rtF (vF 1))))
def m_is_choice : FC := defF 2 6 fD (sqF (ifF (orBF (notBF (bF (isiF "tuple" (vF 1)))) (notBF (chBF leD leD (cF (.int 1)) (biF lenD (consF (vF 1) nilF)) (biF lenD (consF (vF 0) nilF))))) (rtF (cF (.bool false))) skipF) (sqF (stF 2 (clF m_all_pairs (consF (vF 0) nilF))) (sqF (ifF (notBF (bF (biF allD (consF (frF (lcF (.n 3) (seqF (vF 1)) yesF (andF (isiF "tuple" (vF 3)) (andF (cmF eqD (biF lenD (consF (vF 3) nilF)) (cF (.int 2))) (clF m_is_name (consF (ixF (vF 3) (cF (.int 0))) nilF)))) [3])) nilF)))) (rtF (cF (.bool false))) skipF) (sqF (ifF (notBF (bF (biF allD (consF (frF (lcF (.n 3) (seqF (vF 1)) yesF (andF (isiF "str" (ixF (vF 3) (cF (.int 1)))) (cmF inD (vF 3) (vF 2))) [3])) nilF)))) (rtF (cF (.bool false))) skipF) (rtF (biF allD (consF (frF (lcF (.t [4, 5]) (zipF (consF (vF 1) (consF (slF (vF 1) (someF (cF (.int 1))) noF) nilF))) yesF (cmF ltD (ixF (vF 4) (cF (.int 0))) (ixF (vF 5) (cF (.int 0)))) [4, 5])) nilF)))))))
def m_are_choices : FC := defF 3 4 fD (rtF (andF (isiF "tuple" (vF 1)) (andF (cmF leD (biF lenD (consF (vF 1) nilF)) (vF 2)) (biF allD (consF (frF (lcF (.n 3) (seqF (vF 1)) yesF (clF m_is_choice (consF (vF 0) (consF (vF 3) nilF))) [3])) nilF)))))
def c_MOST_LEFT : PyData := .int 12
def m_need_left : FC := defF 2 2 fD (ifF (notBF (bF (clF m_are_choices (consF (vF 0) (consF (vF 1) (consF (cF c_MOST_LEFT) nilF)))))) nevF skipF)
def m_all_full : FC := defF 1 7 fD (sqF (stF 1 (frF (lstF (consF (tupF nilF) nilF)))) (sqF (foF (.t [2, 3]) (seqF (vF 0)) (sqF (stF 4 (frF (lstF nilF))) (sqF (foF (.n 5) (seqF (vF 1)) (stF 4 (opF addD (vF 4) (frF (lcF (.n 6) (seqF (vF 3)) yesF (opF addD (vF 5) (tupF (consF (tupF (consF (vF 2) (consF (vF 6) nilF))) nilF))) [6]))))) (stF 1 (vF 4))))) (rtF (frF (lcF (.n 5) (seqF (vF 1)) yesF (biF tupD (consF (frF (biN sortN (consF (vF 5) nilF))) nilF)) [5])))))
def m_has : FC := defF 2 3 fD (rtF (biF allD (consF (frF (lcF (.n 2) (seqF (vF 1)) yesF (cmF inD (vF 2) (vF 0)) [2])) nilF)))
def m_kept : FC := defF 2 4 fD (rtF (frF (lcF (.n 2) (seqF (clF m_all_full (consF (vF 0) nilF))) (notBF (bF (biF anyD (consF (frF (lcF (.n 3) (seqF (vF 1)) yesF (clF m_has (consF (vF 2) (consF (vF 3) nilF))) [3])) nilF)))) (vF 2) [2])))
def m_full_choices : FC := defF 2 2 fD (sqF (exF (clF m_need_matrix (consF (vF 0) nilF))) (sqF (exF (clF m_need_left (consF (vF 0) (consF (vF 1) nilF)))) (rtF (clF m_kept (consF (vF 0) (consF (vF 1) nilF))))))
def m_same_left : FC := defF 3 3 fD (sqF (exF (clF m_need_matrix (consF (vF 0) nilF))) (sqF (exF (clF m_need_left (consF (vF 0) (consF (vF 1) nilF)))) (sqF (exF (clF m_need_left (consF (vF 0) (consF (vF 2) nilF)))) (rtF (cmF eqD (clF m_kept (consF (vF 0) (consF (vF 1) nilF))) (clF m_kept (consF (vF 0) (consF (vF 2) nilF))))))))
def m_all_choices : FC := defF 1 7 fD (sqF (stF 1 (frF (lstF (consF (tupF nilF) nilF)))) (sqF (foF (.t [2, 3]) (seqF (vF 0)) (sqF (stF 4 (frF (lstF nilF))) (sqF (foF (.n 5) (seqF (vF 1)) (stF 4 (opF addD (opF addD (vF 4) (frF (lstF (consF (vF 5) nilF)))) (frF (lcF (.n 6) (seqF (vF 3)) yesF (opF addD (vF 5) (tupF (consF (tupF (consF (vF 2) (consF (vF 6) nilF))) nilF))) [6]))))) (stF 1 (vF 4))))) (rtF (frF (biN sortN (consF (frF (lcF (.n 5) (seqF (vF 1)) (cmBF neD (vF 5) (tupF nilF)) (biF tupD (consF (frF (biN sortN (consF (vF 5) nilF))) nilF)) [5])) nilF))))))
def m_cover : Nat → FC
  | 0 => fun _ _ => none
  | n + 1 => defF 3 7 fD (sqF (ifF (cmBF eqD (vF 0) (frF (lstF nilF))) (rtF (tupF nilF)) skipF) (sqF (ifF (cmBF eqD (vF 2) (cF (.int 0))) (rtF (cF (.none))) skipF) (sqF (foF (.t [3, 4]) (seqF (vF 1)) (ifF (cmBF inD (ixF (vF 0) (cF (.int 0))) (vF 4)) (sqF (stF 5 (clF (m_cover n) (consF (frF (lcF (.n 6) (seqF (vF 0)) (cmBF notinD (vF 6) (vF 4)) (vF 6) [6])) (consF (vF 1) (consF (opF subD (vF 2) (cF (.int 1))) nilF))))) (ifF (bF (nonF (vF 5))) (rtF (opF addD (tupF (consF (vF 3) nilF)) (vF 5))) skipF)) skipF)) (rtF (cF (.none))))))
def c_MOST_FULL : PyData := .int 16
def m_least_left : FC := defF 2 11 fD (sqF (exF (clF m_need_matrix (consF (vF 0) nilF))) (sqF (ifF (orBF (notBF (bF (clF m_are_choices (consF (vF 0) (consF (vF 1) (consF (cF c_MOST_FULL) nilF)))))) (notBF (bF (biF allD (consF (frF (lcF (.n 9) (seqF (vF 1)) yesF (cmF eqD (biF lenD (consF (vF 9) nilF)) (biF lenD (consF (vF 0) nilF))) [9])) nilF))))) nevF skipF) (sqF (ifF (cmBF neD (losF (vF 1)) (biF lenD (consF (vF 1) nilF))) nevF skipF) (sqF (stF 2 (clF m_all_full (consF (vF 0) nilF))) (sqF (ifF (cmBF gtD (biF lenD (consF (vF 2) nilF)) (cF c_MOST_FULL)) nevF skipF) (sqF (stF 3 (owF (lstF nilF))) (sqF (foF (.n 4) (seqF (clF m_all_choices (consF (vF 0) nilF))) (sqF (stF 5 (frF (lcF (.n 10) (seqF (vF 2)) (bF (clF m_has (consF (vF 10) (consF (vF 4) nilF)))) (vF 10) [10]))) (ifF (cmBF eqD (frF (lcF (.n 10) (seqF (vF 5)) (cmBF inD (vF 10) (vF 1)) (vF 10) [10])) (frF (lstF nilF))) (exF (appF (vF 3) (tupF (consF (vF 4) (consF (vF 5) nilF))))) skipF))) (sqF (stF 6 (frF (lcF (.n 10) (seqF (vF 2)) (cmBF notinD (vF 10) (vF 1)) (vF 10) [10]))) (sqF (pa2F 7 8 (consF (cF (.none)) (consF (cF (.int 0)) nilF))) (sqF (whF (bF (isnF (vF 7))) (sqF (stF 7 (clF (m_cover 20) (consF (vF 6) (consF (vF 3) (consF (vF 8) nilF))))) (stF 8 (opF addD (vF 8) (cF (.int 1)))))) (rtF (vF 7))))))))))))
def m_fewest_left : FC := defF 2 2 fD (rtF (biF lenD (consF (clF m_least_left (consF (vF 0) (consF (vF 1) nilF))) nilF)))
def m_is_between : FC := defF 3 3 fD (rtF (andF (isiF "int" (vF 0)) (andF (notF (isiF "bool" (vF 0))) (chF leD leD (vF 1) (vF 0) (vF 2)))))
def c_MOST_LENGTH : PyData := .int 1000
def m_need_lengths : FC := defF 2 3 fD (sqF (ifF (orBF (notBF (bF (isiF "tuple" (vF 1)))) (cmBF neD (biF lenD (consF (vF 1) nilF)) (biF lenD (consF (vF 0) nilF)))) nevF skipF) (ifF (notBF (bF (biF allD (consF (frF (lcF (.n 2) (seqF (vF 1)) yesF (clF m_is_between (consF (vF 2) (consF (cF (.int 1)) (consF (cF c_MOST_LENGTH) nilF)))) [2])) nilF)))) nevF skipF))
def m_need_plan : FC := defF 4 4 fD (sqF (exF (clF m_need_case (consF (vF 0) (consF (vF 1) (consF (vF 2) nilF))))) (exF (clF m_need_lengths (consF (vF 0) (consF (vF 3) nilF)))))
def c_MOST_KEY : PyData := .int 40
def c_SIGNS : PyData := .str "abcdefghijklmnopqrstuvwxyz0123456789-"
def m_is_key : FC := defF 1 1 fD (rtF (clF m_is_text_of (consF (vF 0) (consF (cF c_SIGNS) (consF (cF c_MOST_KEY) nilF)))))
def m_need_key : FC := defF 1 1 fD (ifF (notBF (bF (clF m_is_key (consF (vF 0) nilF)))) nevF skipF)
def m_split_parts : FC := defF 1 5 fD (sqF (pa3F 1 2 3 (consF (owF (lstF nilF)) (consF (cF (.str "")) (consF (cF (.int 0)) nilF)))) (sqF (foF (.n 4) (seqF (vF 0)) (sqF (stF 3 (opF subD (opF addD (vF 3) (biF intD (consF (cmF eqD (vF 4) (cF (.str "("))) nilF))) (biF intD (consF (cmF eqD (vF 4) (cF (.str ")"))) nilF)))) (sqF (ifF (cmBF ltD (vF 3) (cF (.int 0))) (rtF (cF (.none))) skipF) (ifF (andBF (cmBF eqD (vF 4) (cF (.str ","))) (cmBF eqD (vF 3) (cF (.int 0)))) (sqF (exF (appF (vF 1) (vF 2))) (stF 2 (cF (.str "")))) (stF 2 (opF addD (vF 2) (vF 4))))))) (rtF (ifEF (cmBF eqD (vF 3) (cF (.int 0))) (opF addD (vF 1) (frF (lstF (consF (vF 2) nilF)))) (cF (.none))))))
def m_names_from : FC := defF 2 4 fD (sqF (ifF (cmBF neD (slF (vF 0) noF (someF (cF (.int 1)))) (frF (lstF (consF (vF 1) nilF)))) (rtF (tupF (consF (tupF nilF) (consF (vF 0) nilF)))) skipF) (sqF (pa2F 2 3 (consF (owF (lstF nilF)) (consF (slF (vF 0) (someF (cF (.int 1))) noF) nilF))) (sqF (whF (andBF (cmBF neD (vF 3) (frF (lstF nilF))) (cmBF notinD (ixF (vF 3) (cF (.int 0))) (tupF (consF (cF (.str "reads")) (consF (cF (.str "soft")) (consF (cF (.str "if")) nilF)))))) (sqF (exF (appF (vF 2) (ixF (vF 3) (cF (.int 0))))) (stF 3 (slF (vF 3) (someF (cF (.int 1))) noF)))) (rtF (tupF (consF (biF tupD (consF (vF 2) nilF)) (consF (vF 3) nilF)))))))
def c_MOST_GROUPS : PyData := .int 3
def m_need_groups : FC := defF 2 5 fD (sqF (stF 2 (frF (lstF nilF))) (sqF (ifF (orBF (notBF (bF (isiF "tuple" (vF 1)))) (cmBF gtD (biF lenD (consF (vF 1) nilF)) (cF c_MOST_GROUPS))) nevF skipF) (sqF (foF (.n 3) (seqF (vF 1)) (sqF (ifF (orBF (notBF (bF (clF m_are_names (consF (vF 3) (consF (cF c_MOST_JOBS) nilF))))) (cmBF ltD (biF lenD (consF (vF 3) nilF)) (cF (.int 2)))) nevF skipF) (stF 2 (opF addD (vF 2) (frF (biN listN (consF (vF 3) nilF))))))) (ifF (orBF (cmBF neD (losF (vF 2)) (biF lenD (consF (vF 2) nilF))) (cmBF neD (frF (lcF (.n 4) (seqF (vF 2)) (cmBF notinD (vF 4) (clF m_names_of (consF (vF 0) nilF))) (vF 4) [4])) (frF (lstF nilF)))) nevF skipF))))
def m_looked : FC := defF 3 6 fD (sqF (stF 3 (owF (biN dictN (consF (vF 2) nilF)))) (sqF (foF (.n 4) (seqF (vF 0)) (ifF (andBF (cmBF notinD (ixF (vF 4) (cF (.int 0))) (vF 3)) (bF (biF allD (consF (frF (lcF (.n 5) (seqF (ixF (vF 4) (cF (.int 1)))) yesF (cmF inD (vF 5) (vF 3)) [5])) nilF)))) (ifF (notBF (bF (clF (m_does_hold 20) (consF (ixF (vF 4) (cF (.int 2))) (consF (clF m_seen_by (consF (vF 4) (consF (vF 3) nilF))) (consF (vF 1) (consF (cF (.bool false)) nilF))))))) (sxF (cF c_PASSED) (vF 3) (ixF (vF 4) (cF (.int 0)))) skipF) skipF)) (rtF (vF 3))))
def m_behind : FC := defF 4 7 fD (sqF (stF 4 (owF (biN dictN (consF (vF 3) nilF)))) (sqF (sxF (clF m_ended_as (consF (vF 0) (consF (vF 2) nilF))) (vF 4) (ixF (vF 0) (cF (.int 0)))) (sqF (foF (.n 5) (seqF (vF 1)) (ifF (andBF (cmBF inD (ixF (vF 0) (cF (.int 0))) (vF 5)) (cmBF eqD (ixF (vF 4) (ixF (vF 0) (cF (.int 0)))) (cF c_BAD))) (foF (.n 6) (seqF (vF 5)) (sxF (dg2F (vF 4) (vF 6) (cF c_STOPPED)) (vF 4) (vF 6))) skipF)) (rtF (vF 4)))))
def m_possible_statuses_v2 : FC := defF 2 6 fD (sqF (exF (clF m_need_pipeline (consF (vF 0) nilF))) (sqF (exF (clF m_need_name (consF (vF 0) (consF (vF 1) nilF)))) (sqF (stF 2 (idxF (clF m_names_of__x (consF (vF 0) nilF)) (vF 1))) (sqF (stF 3 (clF m_all_cases (consF (vF 0) (consF (clF m_flags_of (consF (vF 0) nilF)) nilF)))) (rtF (frF (sosF (frF (lcF (.t [4, 5]) (seqF (vF 3)) yesF (ixF (clF m_statuses_of (consF (vF 0) (consF (vF 4) (consF (vF 5) nilF)))) (vF 2)) [4, 5])))))))))
def m_needless_needs_v2 : FC := defF 2 8 fD (sqF (exF (clF m_need_pipeline (consF (vF 0) nilF))) (sqF (exF (clF m_need_name (consF (vF 0) (consF (vF 1) nilF)))) (sqF (stF 2 (idxF (clF m_names_of__x (consF (vF 0) nilF)) (vF 1))) (sqF (pa2F 3 4 (consF (ixF (vF 0) (vF 2)) (consF (owF (lstF nilF)) nilF))) (sqF (foF (.n 5) (seqF (ixF (vF 3) (cF (.int 1)))) (ifF (cmBF notinD (vF 5) (clF (m_words_in 20) (consF (ixF (vF 3) (cF (.int 2))) (consF (cF (.str "is")) nilF)))) (sqF (stF 6 (biF tupD (consF (frF (lcF (.n 7) (seqF (ixF (vF 3) (cF (.int 1)))) (cmBF neD (vF 7) (vF 5)) (vF 7) [7])) nilF))) (ifF (bF (isnF (clF m_first_unlike (consF (vF 0) (consF (clF m_with_job (consF (vF 0) (consF (vF 2) (consF (opF addD (tupF (consF (vF 1) (consF (vF 6) nilF))) (slF (vF 3) (someF (cF (.int 2))) noF)) nilF)))) nilF))))) (exF (appF (vF 4) (vF 5))) skipF)) skipF)) (rtF (vF 4)))))))
def m_turning_jobs_v2 : FC := defF 4 7 fD (sqF (exF (clF m_need_case (consF (vF 0) (consF (vF 1) (consF (vF 2) nilF))))) (sqF (exF (clF m_need_name (consF (vF 0) (consF (vF 3) nilF)))) (sqF (stF 4 (clF m_status_of (consF (vF 0) (consF (vF 1) (consF (vF 2) (consF (vF 3) nilF)))))) (sqF (stF 5 (frF (biN sortN (consF (clF m_names_of (consF (vF 0) nilF)) nilF)))) (rtF (frF (lcF (.n 6) (seqF (vF 5)) (cmBF neD (clF m_status_of (consF (vF 0) (consF (vF 1) (consF (clF m_turned (consF (vF 2) (consF (vF 6) nilF))) (consF (vF 3) nilF))))) (vF 4)) (vF 6) [6])))))))
def x_need_pipeline : XC := xdefF 1 1 (ifXF (notBF (bF (clF m_is_pipeline (consF (vF 0) nilF)))) (raF "InvalidPipeline") (sqXF skipF noXF))
def x_need_flags : XC := xdefF 2 3 (ifXF (orBF (notBF (bF (clF m_are_names (consF (vF 1) (consF (cF c_MOST_FLAGS) nilF))))) (cmBF neD (frF (lcF (.n 2) (seqF (vF 1)) (cmBF notinD (vF 2) (clF m_flags_of (consF (vF 0) nilF))) (vF 2) [2])) (frF (lstF nilF)))) (raF "InvalidFlags") (sqXF skipF noXF))
def x_need_bads : XC := xdefF 2 3 (ifXF (orBF (notBF (bF (clF m_are_names (consF (vF 1) (consF (cF c_MOST_JOBS) nilF))))) (cmBF neD (frF (lcF (.n 2) (seqF (vF 1)) (cmBF notinD (vF 2) (clF m_names_of (consF (vF 0) nilF))) (vF 2) [2])) (frF (lstF nilF)))) (raF "InvalidBads") (sqXF skipF noXF))
def x_need_case : XC := xdefF 3 3 (orXF (cllXF x_need_pipeline (consF (vF 0) nilF)) (sqXF (exF (clF m_need_pipeline (consF (vF 0) nilF))) (orXF (cllXF x_need_flags (consF (vF 0) (consF (vF 1) nilF))) (sqXF (exF (clF m_need_flags (consF (vF 0) (consF (vF 1) nilF)))) (cllXF x_need_bads (consF (vF 0) (consF (vF 2) nilF)))))))
def x_statuses : XC := xdefF 3 3 (cllXF x_need_case (consF (vF 0) (consF (vF 1) (consF (vF 2) nilF))))
def x_ran : XC := xdefF 3 3 (cllXF x_need_case (consF (vF 0) (consF (vF 1) (consF (vF 2) nilF))))
def x_all_flags : XC := xdefF 1 1 (cllXF x_need_pipeline (consF (vF 0) nilF))
def x_need_condition : XC := xdefF 1 1 (ifXF (notBF (bF (clF m_is_condition (consF (vF 0) nilF)))) (raF "InvalidCondition") (sqXF skipF noXF))
def x_flags_in : XC := xdefF 1 1 (cllXF x_need_condition (consF (vF 0) nilF))
def x_need_bool : XC := xdefF 1 1 (ifXF (notBF (bF (isiF "bool" (vF 0)))) (raF "InvalidValue") (sqXF skipF noXF))
def x_holds : XC := xdefF 4 7 (orXF (cllXF x_need_condition (consF (vF 0) nilF)) (sqXF (exF (clF m_need_condition (consF (vF 0) nilF))) (sqXF (stF 4 (ifEF (bF (clF m_is_seen (consF (vF 1) (consF (cF c_MOST_SEEN) nilF)))) (frF (lcF (.n 5) (seqF (vF 1)) yesF (ixF (vF 5) (cF (.int 0))) [5])) (cF (.none)))) (ifXF (orBF (bF (isnF (vF 4))) (cmBF neD (frF (lcF (.n 6) (seqF (clF (m_words_in 20) (consF (vF 0) (consF (cF (.str "is")) nilF)))) (cmBF notinD (vF 6) (vF 4)) (vF 6) [6])) (frF (lstF nilF)))) (raF "InvalidSeen") (sqXF skipF (ifXF (notBF (bF (clF m_are_names (consF (vF 2) (consF (cF c_MOST_FLAGS_v2) nilF))))) (raF "InvalidFlags") (sqXF skipF (cllXF x_need_bool (consF (vF 3) nilF)))))))))
def x_statuses_after : XC := xdefF 4 8 (orXF (cllXF x_need_case (consF (vF 0) (consF (vF 1) (consF (vF 2) nilF)))) (sqXF (exF (clF m_need_case (consF (vF 0) (consF (vF 1) (consF (vF 2) nilF))))) (sqXF (stF 4 (cF (.none))) (sqXF (ifF (andBF (bF (clF m_are_names (consF (vF 3) (consF (cF c_MOST_JOBS) nilF)))) (cmBF eqD (frF (lcF (.n 7) (seqF (vF 3)) (cmBF notinD (vF 7) (clF m_names_of (consF (vF 0) nilF))) (vF 7) [7])) (frF (lstF nilF)))) (stF 4 (clF m_known_before (consF (vF 0) (consF (vF 1) (consF (vF 2) (consF (vF 3) nilF)))))) skipF) (ifXF (bF (isnF (vF 4))) (raF "InvalidEnded") (sqXF skipF noXF))))))
def m_never_run_v2 : FC := defF 1 6 fN (sqF (exF (clF m_need_pipeline (consF (vF 0) nilF))) (sqF (stF 1 (owF (biN sortN (consF (clF m_names_of (consF (vF 0) nilF)) nilF)))) (sqF (foF (.t [2, 3]) (seqF (clF m_all_cases (consF (vF 0) (consF (clF m_flags_of (consF (vF 0) nilF)) nilF)))) (sqF (stF 4 (clF m_ran_in (consF (vF 0) (consF (vF 2) (consF (vF 3) nilF))))) (stF 1 (owF (lcF (.n 5) (seqF (vF 1)) (cmBF notinD (vF 5) (vF 4)) (vF 5) [5]))))) (rtF (vF 1)))))
def x_need_name : XC := xdefF 2 2 (ifXF (orBF (notBF (bF (clF m_is_name (consF (vF 1) nilF)))) (cmBF notinD (vF 1) (clF m_names_of (consF (vF 0) nilF)))) (raF "InvalidName") (sqXF skipF noXF))
def x_possible_statuses : XC := xdefF 2 6 (orXF (cllXF x_need_pipeline (consF (vF 0) nilF)) (sqXF (exF (clF m_need_pipeline (consF (vF 0) nilF))) (cllXF x_need_name (consF (vF 0) (consF (vF 1) nilF)))))
def x_never_run : XC := xdefF 1 6 (cllXF x_need_pipeline (consF (vF 0) nilF))
def x_always_run : XC := xdefF 1 6 (cllXF x_need_pipeline (consF (vF 0) nilF))
def x_telling_case : XC := xdefF 2 2 (orXF (cllXF x_need_pipeline (consF (vF 0) nilF)) (sqXF (exF (clF m_need_pipeline (consF (vF 0) nilF))) (orXF (cllXF x_need_pipeline (consF (vF 1) nilF)) (sqXF (exF (clF m_need_pipeline (consF (vF 1) nilF))) (ifXF (notBF (bF (clF m_can_compare (consF (vF 0) (consF (vF 1) nilF))))) (raF "InvalidPair") (sqXF skipF noXF))))))
def x_same_pipelines : XC := xdefF 2 2 (cllXF x_telling_case (consF (vF 0) (consF (vF 1) nilF)))
def x_needless_needs : XC := xdefF 2 8 (orXF (cllXF x_need_pipeline (consF (vF 0) nilF)) (sqXF (exF (clF m_need_pipeline (consF (vF 0) nilF))) (cllXF x_need_name (consF (vF 0) (consF (vF 1) nilF)))))
def x_least_pipeline : XC := xdefF 1 7 (cllXF x_need_pipeline (consF (vF 0) nilF))
def x_reasons : XC := xdefF 4 8 (orXF (cllXF x_need_case (consF (vF 0) (consF (vF 1) (consF (vF 2) nilF)))) (sqXF (exF (clF m_need_case (consF (vF 0) (consF (vF 1) (consF (vF 2) nilF))))) (cllXF x_need_name (consF (vF 0) (consF (vF 3) nilF)))))
def x_turning_jobs : XC := xdefF 4 7 (orXF (cllXF x_need_case (consF (vF 0) (consF (vF 1) (consF (vF 2) nilF)))) (sqXF (exF (clF m_need_case (consF (vF 0) (consF (vF 1) (consF (vF 2) nilF))))) (cllXF x_need_name (consF (vF 0) (consF (vF 3) nilF)))))
def x_need_seen : XC := xdefF 2 4 (sqXF (stF 2 (clF m_names_of (consF (vF 0) nilF))) (ifXF (orBF (notBF (bF (clF m_is_seen (consF (vF 1) (consF (cF c_MOST_JOBS) nilF))))) (cmBF neD (frF (lcF (.n 3) (seqF (vF 1)) (cmBF notinD (ixF (vF 3) (cF (.int 0))) (vF 2)) (vF 3) [3])) (frF (lstF nilF)))) (raF "InvalidSeen") (sqXF skipF noXF)))
def x_possible_bads : XC := xdefF 3 7 (orXF (cllXF x_need_pipeline (consF (vF 0) nilF)) (sqXF (exF (clF m_need_pipeline (consF (vF 0) nilF))) (orXF (cllXF x_need_flags (consF (vF 0) (consF (vF 1) nilF))) (sqXF (exF (clF m_need_flags (consF (vF 0) (consF (vF 1) nilF)))) (cllXF x_need_seen (consF (vF 0) (consF (vF 2) nilF)))))))
def x_sure_statuses : XC := xdefF 3 9 (orXF (cllXF x_need_pipeline (consF (vF 0) nilF)) (sqXF (exF (clF m_need_pipeline (consF (vF 0) nilF))) (orXF (cllXF x_need_flags (consF (vF 0) (consF (vF 1) nilF))) (sqXF (exF (clF m_need_flags (consF (vF 0) (consF (vF 1) nilF)))) (cllXF x_need_seen (consF (vF 0) (consF (vF 2) nilF)))))))
def x_possible_flags : XC := xdefF 2 3 (orXF (cllXF x_need_pipeline (consF (vF 0) nilF)) (sqXF (exF (clF m_need_pipeline (consF (vF 0) nilF))) (cllXF x_need_seen (consF (vF 0) (consF (vF 1) nilF)))))
def x_need_names : XC := xdefF 1 1 (ifXF (notBF (bF (clF m_are_names (consF (vF 0) (consF (cF c_MOST_CHANGED) nilF))))) (raF "InvalidNames") (sqXF skipF noXF))
def x_touched : XC := xdefF 2 2 (orXF (cllXF x_need_pipeline (consF (vF 0) nilF)) (sqXF (exF (clF m_need_pipeline (consF (vF 0) nilF))) (cllXF x_need_names (consF (vF 1) nilF))))
def x_run_again : XC := xdefF 3 4 (orXF (cllXF x_need_pipeline (consF (vF 0) nilF)) (sqXF (exF (clF m_need_pipeline (consF (vF 0) nilF))) (orXF (cllXF x_need_names (consF (vF 1) nilF)) (sqXF (exF (clF m_need_names (consF (vF 1) nilF))) (orXF (cllXF x_need_names (consF (vF 2) nilF)) (sqXF (exF (clF m_need_names (consF (vF 2) nilF))) (ifXF (cmBF neD (frF (lcF (.n 3) (seqF (vF 2)) (cmBF notinD (vF 3) (clF m_names_of (consF (vF 0) nilF))) (vF 3) [3])) (frF (lstF nilF))) (raF "InvalidNames") (sqXF skipF noXF))))))))
def x_need_matrix : XC := xdefF 1 1 (ifXF (notBF (bF (clF m_is_matrix (consF (vF 0) nilF)))) (raF "InvalidMatrix") (sqXF skipF noXF))
def x_need_left : XC := xdefF 2 2 (ifXF (notBF (bF (clF m_are_choices (consF (vF 0) (consF (vF 1) (consF (cF c_MOST_LEFT) nilF)))))) (raF "InvalidChoices") (sqXF skipF noXF))
def x_full_choices : XC := xdefF 2 2 (orXF (cllXF x_need_matrix (consF (vF 0) nilF)) (sqXF (exF (clF m_need_matrix (consF (vF 0) nilF))) (cllXF x_need_left (consF (vF 0) (consF (vF 1) nilF)))))
def x_same_left : XC := xdefF 3 3 (orXF (cllXF x_need_matrix (consF (vF 0) nilF)) (sqXF (exF (clF m_need_matrix (consF (vF 0) nilF))) (orXF (cllXF x_need_left (consF (vF 0) (consF (vF 1) nilF))) (sqXF (exF (clF m_need_left (consF (vF 0) (consF (vF 1) nilF)))) (cllXF x_need_left (consF (vF 0) (consF (vF 2) nilF)))))))
def x_least_left : XC := xdefF 2 11 (orXF (cllXF x_need_matrix (consF (vF 0) nilF)) (sqXF (exF (clF m_need_matrix (consF (vF 0) nilF))) (ifXF (orBF (notBF (bF (clF m_are_choices (consF (vF 0) (consF (vF 1) (consF (cF c_MOST_FULL) nilF)))))) (notBF (bF (biF allD (consF (frF (lcF (.n 9) (seqF (vF 1)) yesF (cmF eqD (biF lenD (consF (vF 9) nilF)) (biF lenD (consF (vF 0) nilF))) [9])) nilF))))) (raF "InvalidChoices") (sqXF skipF (ifXF (cmBF neD (losF (vF 1)) (biF lenD (consF (vF 1) nilF))) (raF "InvalidChoices") (sqXF skipF (sqXF (stF 2 (clF m_all_full (consF (vF 0) nilF))) (ifXF (cmBF gtD (biF lenD (consF (vF 2) nilF)) (cF c_MOST_FULL)) (raF "TooMany") (sqXF skipF noXF)))))))))
def x_need_lengths : XC := xdefF 2 3 (ifXF (orBF (notBF (bF (isiF "tuple" (vF 1)))) (cmBF neD (biF lenD (consF (vF 1) nilF)) (biF lenD (consF (vF 0) nilF)))) (raF "InvalidLengths") (sqXF skipF (ifXF (notBF (bF (biF allD (consF (frF (lcF (.n 2) (seqF (vF 1)) yesF (clF m_is_between (consF (vF 2) (consF (cF (.int 1)) (consF (cF c_MOST_LENGTH) nilF)))) [2])) nilF)))) (raF "InvalidLengths") (sqXF skipF noXF))))
def x_need_plan : XC := xdefF 4 4 (orXF (cllXF x_need_case (consF (vF 0) (consF (vF 1) (consF (vF 2) nilF)))) (sqXF (exF (clF m_need_case (consF (vF 0) (consF (vF 1) (consF (vF 2) nilF))))) (cllXF x_need_lengths (consF (vF 0) (consF (vF 3) nilF)))))
def c_MOST_WORKERS : PyData := .int 8
def x_timeline : XC := xdefF 5 5 (orXF (cllXF x_need_plan (consF (vF 0) (consF (vF 1) (consF (vF 2) (consF (vF 3) nilF))))) (sqXF (exF (clF m_need_plan (consF (vF 0) (consF (vF 1) (consF (vF 2) (consF (vF 3) nilF)))))) (ifXF (notBF (bF (clF m_is_between (consF (vF 4) (consF (cF (.int 1)) (consF (cF c_MOST_WORKERS) nilF)))))) (raF "InvalidNumber") (sqXF skipF noXF))))
def x_enough_workers : XC := xdefF 4 6 (cllXF x_need_plan (consF (vF 0) (consF (vF 1) (consF (vF 2) (consF (vF 3) nilF)))))
def x_longest_row : XC := xdefF 4 10 (cllXF x_need_plan (consF (vF 0) (consF (vF 1) (consF (vF 2) (consF (vF 3) nilF)))))
def x_need_key : XC := xdefF 1 1 (ifXF (notBF (bF (clF m_is_key (consF (vF 0) nilF)))) (raF "InvalidKey") (sqXF skipF noXF))
def x_condition_text : XC := xdefF 1 1 (cllXF x_need_condition (consF (vF 0) nilF))
def x_pipeline_text : XC := xdefF 1 2 (cllXF x_need_pipeline (consF (vF 0) nilF))
def x_need_groups : XC := xdefF 2 5 (sqXF (stF 2 (frF (lstF nilF))) (ifXF (orBF (notBF (bF (isiF "tuple" (vF 1)))) (cmBF gtD (biF lenD (consF (vF 1) nilF)) (cF c_MOST_GROUPS))) (raF "InvalidGroups") (sqXF skipF (sqXF (foF (.n 3) (seqF (vF 1)) (sqF (ifF (orBF (notBF (bF (clF m_are_names (consF (vF 3) (consF (cF c_MOST_JOBS) nilF))))) (cmBF ltD (biF lenD (consF (vF 3) nilF)) (cF (.int 2)))) nevF skipF) (stF 2 (opF addD (vF 2) (frF (biN listN (consF (vF 3) nilF))))))) (ifXF (orBF (cmBF neD (losF (vF 2)) (biF lenD (consF (vF 2) nilF))) (cmBF neD (frF (lcF (.n 4) (seqF (vF 2)) (cmBF notinD (vF 4) (clF m_names_of (consF (vF 0) nilF))) (vF 4) [4])) (frF (lstF nilF)))) (raF "InvalidGroups") (sqXF skipF noXF))))))
def x_all_endings : XC := xdefF 4 4 (orXF (cllXF x_need_pipeline (consF (vF 0) nilF)) (sqXF (exF (clF m_need_pipeline (consF (vF 0) nilF))) (orXF (cllXF x_need_groups (consF (vF 0) (consF (vF 1) nilF))) (sqXF (exF (clF m_need_groups (consF (vF 0) (consF (vF 1) nilF)))) (cllXF x_need_case (consF (vF 0) (consF (vF 2) (consF (vF 3) nilF))))))))
def c_MOST_TRIED : PyData := .int 6
def x_racing_case : XC := xdefF 2 4 (orXF (cllXF x_need_pipeline (consF (vF 0) nilF)) (sqXF (exF (clF m_need_pipeline (consF (vF 0) nilF))) (orXF (cllXF x_need_groups (consF (vF 0) (consF (vF 1) nilF))) (sqXF (exF (clF m_need_groups (consF (vF 0) (consF (vF 1) nilF)))) (ifXF (cmBF gtD (biF lenD (consF (vF 0) nilF)) (cF c_MOST_TRIED)) (raF "TooMany") (sqXF skipF noXF))))))
end
end PJ
namespace J
open PySem PySem.Spec L2
local instance : J.Tb := ⟨[]⟩
/-- data of depth at most n, short -/
def gdL (L : Nat) : Nat → PyData → Bool
  | _, .none => true
  | _, .bool _ => true
  | _, .int _ => true
  | _, .str x => PyData.strOk x && szOk x.length
  | n + 1, .list xs => decide (xs.length ≤ L) && xs.all (gdL L n)
  | n + 1, .tuple xs => decide (xs.length ≤ L) && xs.all (gdL L n)
  | _, _ => false
abbrev gd (n : Nat) (d : PyData) : Bool := gdL 1000 n d
theorem gd_tup {L n : Nat} {xs : List PyData} (h : gdL L n (.tuple xs) = true) : ∃ m, n = m + 1 ∧ xs.length ≤ L ∧ ∀ x ∈ xs, gdL L m x = true := by
  cases n with
  | zero => unfold gdL at h; cases h
  | succ m =>
    unfold gdL at h
    rw [Bool.and_eq_true, decide_eq_true_iff, List.all_eq_true] at h
    exact ⟨m, rfl, h⟩
theorem gd_lst {L n : Nat} {xs : List PyData} (h : gdL L n (.list xs) = true) : ∃ m, n = m + 1 ∧ xs.length ≤ L ∧ ∀ x ∈ xs, gdL L m x = true := by
  cases n with
  | zero => unfold gdL at h; cases h
  | succ m =>
    unfold gdL at h
    rw [Bool.and_eq_true, decide_eq_true_iff, List.all_eq_true] at h
    exact ⟨m, rfl, h⟩
theorem gd_tup' {L m : Nat} {xs : List PyData} (h : xs.length ≤ L) (q : ∀ x ∈ xs, gdL L m x = true) : gdL L (m + 1) (.tuple xs) = true := by
  unfold gdL
  rw [Bool.and_eq_true, decide_eq_true_iff, List.all_eq_true]
  exact ⟨h, q⟩
theorem gd_lst' {L m : Nat} {xs : List PyData} (h : xs.length ≤ L) (q : ∀ x ∈ xs, gdL L m x = true) : gdL L (m + 1) (.list xs) = true := by
  unfold gdL
  rw [Bool.and_eq_true, decide_eq_true_iff, List.all_eq_true]
  exact ⟨h, q⟩
theorem gd_str {L n : Nat} {x : Str} (h : gdL L n (.str x) = true) : PyData.strOk x = true ∧ szOk x.length = true := by
  have h : (PyData.strOk x && szOk x.length) = true := by
    cases n <;> exact h
  exact Bool.and_eq_true_iff.mp h
theorem gd_up {L : Nat} : ∀ {n : Nat} {d : PyData}, gdL L n d = true → gdL L (n + 1) d = true
  | n, .none, _ => by unfold gdL; rfl
  | n, .bool _, _ => by unfold gdL; rfl
  | n, .int _, _ => by unfold gdL; rfl
  | n, .str x, h => by
    have := gd_str h
    unfold gdL; rw [this.1, this.2]; rfl
  | n, .dict _, h => by cases n <;> cases h
  | 0, .list _, h => by cases h
  | 0, .tuple _, h => by cases h
  | n + 1, .list xs, h => by
    obtain ⟨m, e, h1, h2⟩ := gd_lst h
    cases e
    exact gd_lst' h1 fun x hx => gd_up (h2 x hx)
  | n + 1, .tuple xs, h => by
    obtain ⟨m, e, h1, h2⟩ := gd_tup h
    cases e
    exact gd_tup' h1 fun x hx => gd_up (h2 x hx)
theorem gd_le {L n m : Nat} {d : PyData} (h : gdL L n d = true) (l : n ≤ m) : gdL L m d = true := by
  induction m with
  | zero => rwa [Nat.le_zero.mp l] at h
  | succ m ih =>
    by_cases c : n = m + 1
    · subst c; exact h
    · exact gd_up (ih (by omega))
theorem gdL_le {L M : Nat} (l : L ≤ M) : ∀ {n : Nat} {d : PyData}, gdL L n d = true → gdL M n d = true
  | n, .none, _ => by unfold gdL; rfl
  | n, .bool _, _ => by unfold gdL; rfl
  | n, .int _, _ => by unfold gdL; rfl
  | n, .str x, h => by
    have := gd_str h
    unfold gdL; rw [this.1, this.2]; rfl
  | n, .dict _, h => by cases n <;> cases h
  | 0, .list _, h => by cases h
  | 0, .tuple _, h => by cases h
  | n + 1, .list xs, h => by
    obtain ⟨m, e, h1, h2⟩ := gd_lst h
    cases e
    exact gd_lst' (by omega) fun x hx => gdL_le l (h2 x hx)
  | n + 1, .tuple xs, h => by
    obtain ⟨m, e, h1, h2⟩ := gd_tup h
    cases e
    exact gd_tup' (by omega) fun x hx => gdL_le l (h2 x hx)
theorem lay_all : ∀ {xs : List PyData}, (∀ x ∈ xs, x.canLay0 = true) → PyData.canLayAll0 xs = true
  | [], _ => rfl
  | x :: r, h => by
    unfold PyData.canLayAll0
    rw [h x List.mem_cons_self, lay_all fun y hy => h y (List.mem_cons_of_mem _ hy)]
    rfl
theorem depth_all {k : Nat} : ∀ {xs : List PyData}, (∀ x ∈ xs, x.depth ≤ k) → PyData.depthAll xs ≤ k
  | [], _ => Nat.zero_le _
  | x :: r, h => by
    unfold PyData.depthAll
    exact Nat.max_le.mpr ⟨h x List.mem_cons_self, depth_all fun y hy => h y (List.mem_cons_of_mem _ hy)⟩
theorem gd_shape : ∀ {n : Nat} {d : PyData}, gd n d = true → d.canLay0 = true ∧ d.depth ≤ n
  | n, .none, _ => ⟨rfl, Nat.zero_le _⟩
  | n, .bool _, _ => ⟨rfl, Nat.zero_le _⟩
  | n, .int _, _ => ⟨rfl, Nat.zero_le _⟩
  | n, .str x, h => ⟨(gd_str h).1, Nat.zero_le _⟩
  | n, .dict _, h => by cases n <;> cases h
  | 0, .list _, h => by cases h
  | 0, .tuple _, h => by cases h
  | n + 1, .list xs, h => by
    obtain ⟨m, e, h1, h2⟩ := gd_lst h
    cases e
    refine ⟨lay_all fun x hx => (gd_shape (h2 x hx)).1, ?_⟩
    unfold PyData.depth
    exact Nat.succ_le_succ (depth_all fun x hx => (gd_shape (h2 x hx)).2)
  | n + 1, .tuple xs, h => by
    obtain ⟨m, e, h1, h2⟩ := gd_tup h
    cases e
    refine ⟨lay_all fun x hx => (gd_shape (h2 x hx)).1, ?_⟩
    unfold PyData.depth
    exact Nat.succ_le_succ (depth_all fun x hx => (gd_shape (h2 x hx)).2)
theorem gd_okD {n : Nat} {d : PyData} (h : gd n d = true) (l : n ≤ 64) : okD d = true := by
  obtain ⟨h1, h2⟩ := gd_shape h
  unfold okD SeqAt.shaped
  rw [h1, Bool.true_and, decide_eq_true_iff]; omega
theorem okD_nil : okD (.tuple []) = true := by decide
theorem okD_nilL : okD (.list []) = true := by decide
theorem eqv_str (a b : Str) : PyData.eqv (.str a) (.str b) = (a == b) := by rw [PyData.eqv]
theorem eqv_nil (xs : List PyData) : PyData.eqv (.tuple xs) (.tuple []) = xs.isEmpty := by
  rw [PyData.eqv]
  cases xs <;> rfl
theorem eqv_nilL (xs : List PyData) : PyData.eqv (.list xs) (.list []) = xs.isEmpty := by
  rw [PyData.eqv]
  cases xs <;> rfl
@[simp] theorem eqD_str (a b : Str) : eqD (.str a) (.str b) = some (a == b) := by
  unfold eqD; rw [eqv_str]; rfl
@[simp] theorem neD_str (a b : Str) : neD (.str a) (.str b) = some (!(a == b)) := by
  unfold neD; rw [eqv_str]; rfl
@[simp] theorem eqD_int (a b : Int) : eqD (.int a) (.int b) = some (a == b) := by
  unfold eqD; rw [PyData.eqv]; rfl
@[simp] theorem neD_int (a b : Int) : neD (.int a) (.int b) = some (!(a == b)) := by
  unfold neD; rw [PyData.eqv]; rfl
@[simp] theorem eqD_bool (a b : Bool) : eqD (.bool a) (.bool b) = some (a == b) := by
  unfold eqD; rw [PyData.eqv]; rfl
@[simp] theorem neD_bool (a b : Bool) : neD (.bool a) (.bool b) = some (!(a == b)) := by
  unfold neD; rw [PyData.eqv]; rfl
theorem eqD_nil {xs : List PyData} (h : okD (.tuple xs) = true) : eqD (.tuple xs) (.tuple []) = some xs.isEmpty := by
  unfold eqD eqOk; rw [eqv_nil, h, okD_nil]; simp
theorem neD_nil {xs : List PyData} (h : okD (.tuple xs) = true) : neD (.tuple xs) (.tuple []) = some (!xs.isEmpty) := by
  unfold neD eqOk; rw [eqv_nil, h, okD_nil]; simp
theorem eqD_nilL {xs : List PyData} (h : okD (.list xs) = true) : eqD (.list xs) (.list []) = some xs.isEmpty := by
  unfold eqD eqOk; rw [eqv_nilL, h, okD_nilL]; simp
theorem neD_nilL {xs : List PyData} (h : okD (.list xs) = true) : neD (.list xs) (.list []) = some (!xs.isEmpty) := by
  unfold neD eqOk; rw [eqv_nilL, h, okD_nilL]; simp
theorem eqv_strsT : ∀ {a b : List Str}, PyData.eqv (.tuple (a.map .str)) (.tuple (b.map .str)) = (a == b)
  | a, b => by
    rw [PyData.eqv]
    induction a generalizing b with
    | nil => cases b <;> rfl
    | cons x r ih =>
      cases b with
      | nil => rfl
      | cons y s =>
        show PyData.eqvAll (.str x :: r.map .str) (.str y :: s.map .str) = _
        rw [PyData.eqvAll, eqv_str, ih]
        rfl
theorem chars_inj : ∀ {a b : List Char}, a.map Char.toNat = b.map Char.toNat → a = b
  | [], [], _ => rfl
  | [], _ :: _, h => by simp at h
  | _ :: _, [], h => by simp at h
  | x :: r, y :: s, h => by
    rw [List.map_cons, List.map_cons, List.cons.injEq] at h
    have e : x = y := Char.ext (UInt32.toNat_inj.mp h.1)
    rw [e, chars_inj h.2]
@[simp] theorem ofString_inj {a b : String} : (Str.ofString a = Str.ofString b) ↔ a = b := by
  constructor
  · intro h
    rw [Str.ofString_eq_toList, Str.ofString_eq_toList, Str.mk.injEq] at h
    have h2 := congrArg Array.toList h
    simp only [] at h2
    exact String.toList_inj.mp (chars_inj h2)
  · intro h; rw [h]
@[simp] theorem ofString_beq (a b : String) : (Str.ofString a == Str.ofString b) = decide (a = b) := by
  rw [Bool.eq_iff_iff, beq_iff_eq, ofString_inj, decide_eq_true_iff]
theorem strOk_lit (a : String) : PyData.strOk (Str.ofString a) = true := by
  rw [Str.ofString_eq_toList]
  unfold PyData.strOk
  rw [Array.all_eq_true_iff_forall_mem]
  intro x hx
  have hx : x ∈ a.toList.map Char.toNat := by simpa using hx
  obtain ⟨c, _, rfl⟩ := List.mem_map.mp hx
  have := c.valid
  rw [decide_eq_true_iff]
  rcases this with h | ⟨_, h⟩
  · have : c.toNat < 0xd800 := h
    omega
  · exact h
theorem len_lit (a : String) : (Str.ofString a).length = a.length := by
  rw [Str.ofString_eq_toList]
  show (a.toList.map Char.toNat).toArray.size = _
  rw [List.size_toArray, List.length_map]
  first | rfl | exact String.length_toList | simp
theorem gd_lit (n : Nat) (a : String) (h : a.length ≤ 16777216 := by decide) : gd n (.str (Str.ofString a)) = true := by
  have h1 : szOk (Str.ofString a).length = true := by
    rw [len_lit]; unfold szOk; simpa using h
  cases n <;> (unfold gd gdL; rw [strOk_lit, h1]; rfl)
theorem atI_nat {α : Type} (xs : List α) (k : Nat) : atI xs (k : Int) = xs[k]? := by
  unfold atI ixN
  rw [if_pos (by omega)]
  by_cases h : k < xs.length
  · rw [if_pos (by omega)]; simp
  · rw [if_neg (by omega)]
    simp; omega
@[simp] theorem atI_0 {α : Type} (xs : List α) : atI xs 0 = xs[0]? := atI_nat xs 0
@[simp] theorem atI_1 {α : Type} (xs : List α) : atI xs 1 = xs[1]? := atI_nat xs 1
@[simp] theorem atI_2 {α : Type} (xs : List α) : atI xs 2 = xs[2]? := atI_nat xs 2
@[simp] theorem atI_3 {α : Type} (xs : List α) : atI xs 3 = xs[3]? := atI_nat xs 3
@[simp] theorem atI_4 {α : Type} (xs : List α) : atI xs 4 = xs[4]? := atI_nat xs 4
@[simp] theorem atI_5 {α : Type} (xs : List α) : atI xs 5 = xs[5]? := atI_nat xs 5
theorem cut_from (ds : List PyData) (k : Nat) : cutD ds (some (k : Int)) none = ds.drop k := by
  unfold cutD
  rw [HT.sIx_nat, HT.sIx_none]
  by_cases h : k ≤ ds.length
  · rw [Nat.min_eq_left h, ← List.length_drop, List.take_length]
  · rw [Nat.min_eq_right (by omega), List.drop_of_length_le (Nat.le_refl _), List.drop_of_length_le (by omega), List.take_nil]
theorem cut_to (ds : List PyData) (k : Nat) : cutD ds none (some (k : Int)) = ds.take k := by
  unfold cutD
  rw [HT.sIx_nat, HT.sIx_none, List.drop_zero, Nat.sub_zero]
  by_cases h : k ≤ ds.length
  · rw [Nat.min_eq_left h]
  · rw [Nat.min_eq_right (by omega), List.take_length, List.take_of_length_le (by omega)]
@[simp] theorem cut_1 (ds : List PyData) : cutD ds (some 1) none = ds.drop 1 := cut_from ds 1
@[simp] theorem cut_2 (ds : List PyData) : cutD ds (some 2) none = ds.drop 2 := cut_from ds 2
@[simp] theorem szOk_0 : szOk 0 = true := rfl
@[simp] theorem szOk_1 : szOk 1 = true := rfl
@[simp] theorem szOk_2 : szOk 2 = true := rfl
@[simp] theorem szOk_3 : szOk 3 = true := rfl
@[simp] theorem szOk_4 : szOk 4 = true := rfl
@[simp] theorem szOk_5 : szOk 5 = true := rfl
@[simp] theorem szOk_6 : szOk 6 = true := rfl
@[simp] theorem szOk_7 : szOk 7 = true := rfl
@[simp] theorem szOk_8 : szOk 8 = true := rfl
@[simp] theorem szOk_9 : szOk 9 = true := rfl
@[simp] theorem szOk_10 : szOk 10 = true := rfl
@[simp] theorem szOk_11 : szOk 11 = true := rfl
@[simp] theorem szOk_12 : szOk 12 = true := rfl
@[simp] theorem szOk_13 : szOk 13 = true := rfl
@[simp] theorem szOk_14 : szOk 14 = true := rfl
@[simp] theorem szOk_15 : szOk 15 = true := rfl
@[simp] theorem szOk_16 : szOk 16 = true := rfl
@[simp] theorem szOk_17 : szOk 17 = true := rfl
@[simp] theorem szOk_18 : szOk 18 = true := rfl
@[simp] theorem szOk_19 : szOk 19 = true := rfl
@[simp] theorem szOk_20 : szOk 20 = true := rfl
@[simp] theorem szOk_21 : szOk 21 = true := rfl
@[simp] theorem szOk_22 : szOk 22 = true := rfl
@[simp] theorem szOk_23 : szOk 23 = true := rfl
@[simp] theorem szOk_24 : szOk 24 = true := rfl
theorem lcGoF_map {t : Tg} {u : FB} {a : FE} {g : GdF} {ρ0 : En} {μ : Mu} (f : PyData → PyData) (hg : gchk g μ = true) : ∀ (items : List PyData),
    (∀ x ∈ items, ∃ ρ, t.put (.d x) ρ0 = some ρ ∧ u ρ μ = some (true, μ) ∧ a ρ μ = some (.d (f x), μ)) → lcGoF t u a g ρ0 items μ = some (items.map f, μ)
  | [], _ => by unfold lcGoF; rw [if_pos hg]; rfl
  | x :: r, h => by
    obtain ⟨ρ, e1, e2, e3⟩ := h x List.mem_cons_self
    unfold lcGoF
    rw [if_pos hg, e1]
    simp [e2, e3, lcGoF_map f hg r (fun y hy => h y (List.mem_cons_of_mem _ hy))]
theorem lcGoF_filter {t : Tg} {u : FB} {a : FE} {g : GdF} {ρ0 : En} {μ : Mu} (p : PyData → Bool) (f : PyData → PyData) (hg : gchk g μ = true) : ∀ (items : List PyData),
    (∀ x ∈ items, ∃ ρ, t.put (.d x) ρ0 = some ρ ∧ u ρ μ = some (p x, μ) ∧ (p x = true → a ρ μ = some (.d (f x), μ))) → lcGoF t u a g ρ0 items μ = some ((items.filter p).map f, μ)
  | [], _ => by unfold lcGoF; rw [if_pos hg]; rfl
  | x :: r, h => by
    obtain ⟨ρ, e1, e2, e3⟩ := h x List.mem_cons_self
    have ih := lcGoF_filter p f hg r (fun y hy => h y (List.mem_cons_of_mem _ hy))
    unfold lcGoF
    rw [if_pos hg, e1]
    cases hp : p x with
    | true => simp [e2, e3 hp, hp, ih]
    | false => simp [e2, hp, ih]
@[simp] theorem bools_of_map {α : Type} (f : α → Bool) (ds : List α) : bools? (ds.map fun x => .bool (f x)) = some (ds.map f) := by
  induction ds with
  | nil => rfl
  | cons x r ih => show (bools? (r.map fun x => .bool (f x))).map (f x :: ·) = _; rw [ih]; rfl
theorem chars_ok {x : Str} (h : PyData.strOk x = true) {c : Nat} (hc : c ∈ x.cps.toList) : PyData.strOk ⟨#[c]⟩ = true := by
  unfold PyData.strOk at h ⊢
  rw [Array.all_eq_true_iff_forall_mem] at h
  have := h c (Array.mem_toList_iff.mp hc)
  simpa using this
theorem chars_okD {x : Str} (h : PyData.strOk x = true) (p : PyData → Bool) : okD (.list ((x.cps.toList.map fun c => PyData.str ⟨#[c]⟩).filter p)) = true := by
  unfold okD SeqAt.shaped
  rw [Bool.and_eq_true, decide_eq_true_iff]
  refine ⟨lay_all fun y hy => ?_, ?_⟩
  · obtain ⟨c, hc, rfl⟩ := List.mem_map.mp (List.mem_filter.mp hy).1
    exact chars_ok h hc
  · unfold PyData.depth
    have := depth_all (k := 0) (xs := (x.cps.toList.map fun c => PyData.str ⟨#[c]⟩).filter p) fun y hy => by
      obtain ⟨c, hc, rfl⟩ := List.mem_map.mp (List.mem_filter.mp hy).1
      exact Nat.le_refl _
    omega
end J
namespace PJ
open PySem PySem.Spec J L2
local instance : J.Tb := ⟨[]⟩
def chrIn (c : Nat → Bool) : PyData → Bool
  | .str x => match x.cps.toList with
    | [k] => c k
    | _ => false
  | _ => false
def textOf (signs : Str) (most : Int) (x : Str) : Bool := decide (1 ≤ (x.length : Int)) && decide ((x.length : Int) ≤ most) && x.cps.toList.all (fun c => decide (c ∈ signs.cps.toList))
theorem all_chars (x : Str) (p : Nat → Bool) : ((x.cps.toList.map fun c => PyData.str ⟨#[c]⟩).map fun d => PyData.bool (chrIn p d)) = (x.cps.toList.map fun c => .bool (p c)) := by
  rw [List.map_map]; rfl
theorem is_text_of_str (x signs : Str) (most : Int) (μ : Mu) (hs : szOk x.length = true) : m_is_text_of [.d (.str x), .d (.str signs), .d (.int most)] μ = some (.d (.bool (textOf signs most x)), μ) := by
  have hz : szOk (x.cps.toList.map fun c => PyData.str ⟨#[c]⟩).length = true := by rw [List.length_map]; exact hs
  have hz2 : szOk x.cps.size = true := hs
  simp [m_is_text_of, hs, hz2]
  rw [lcGoF_map (fun d => .bool (chrIn (fun c => decide (c ∈ signs.cps.toList)) d)) rfl _ (fun d hd => by
    obtain ⟨c, hc, rfl⟩ := List.mem_map.mp hd
    exact ⟨_, rfl, rfl, by simp [chrIn]⟩)]
  unfold textOf
  by_cases h1 : 1 ≤ (x.length : Int)
  · by_cases h2 : most < (x.length : Int)
    · simp [h1, h2]; intro h3; omega
    · rw [all_chars]
      simp [h1, h2]
      omega
  · simp [h1]
theorem is_text_of_no (v : PyData) (signs : Str) (most : Int) (μ : Mu) (h : ∀ x, v ≠ .str x) (h2 : ∀ x, v ≠ .dict x) : m_is_text_of [.d v, .d (.str signs), .d (.int most)] μ = some (.d (.bool false), μ) := by
  cases v with
  | str x => exact (h x rfl).elim
  | dict x => exact (h2 x rfl).elim
  | _ => simp [m_is_text_of]
def lowers : Str := "abcdefghijklmnopqrstuvwxyz"
def wordL : List PyData := [.str "needs", .str "reads", .str "soft", .str "if"]
def isName : PyData → Bool
  | .str x => textOf lowers 8 x && !(wordL.any fun y => PyData.eqv y (.str x))
  | _ => false
theorem is_name_ok {n : Nat} (v : PyData) (μ : Mu) (h : gd n v = true) : m_is_name [.d v] μ = some (.d (.bool (isName v)), μ) := by
  cases v with
  | str x =>
    have := is_text_of_str x lowers 8 μ (gd_str h).2
    unfold lowers at this
    simp [m_is_name, c_LETTERS, c_MOST_NAME, this, c_WORDS, isName, lowers, wordL]
    cases textOf "abcdefghijklmnopqrstuvwxyz" 8 x <;> simp
  | dict x => cases n <;> cases h
  | _ =>
    rw [m_is_name]
    simp [c_LETTERS, c_MOST_NAME, is_text_of_no, isName]
def statL : List PyData := [.str "bad", .str "good", .str "passed", .str "stopped"]
def isStatus : PyData → Bool
  | .str x => statL.any fun y => PyData.eqv y (.str x)
  | _ => false
theorem is_status_ok {n : Nat} (v : PyData) (μ : Mu) (h : gd n v = true) : m_is_status [.d v] μ = some (.d (.bool (isStatus v)), μ) := by
  cases v with
  | str x => simp [m_is_status, c_STATUSES, isStatus, statL]
  | dict x => cases n <;> cases h
  | _ => simp [m_is_status, isStatus]
end PJ
namespace PJ
open PySem PySem.Spec J L2
local instance : J.Tb := ⟨[]⟩
def isCond : Nat → PyData → Bool
  | 0, _ => false
  | d + 1, .tuple (.str w :: rest) => if (statP w) = true then rest.isEmpty else if w == "is" then (match rest with
    | [a, b] => isName a && isStatus b
    | _ => false) else if w == "flag" then (match rest with
    | [a] => isName a
    | _ => false) else if w == "not" then (match rest with
    | [a] => isCond d a
    | _ => false) else if w == "and" || w == "or" then decide (rest.length ≤ 4) && rest.all (isCond d) else false
  | _, _ => false
where statP (w : Str) : Bool := "good" == w || ("bad" == w || ("always" == w || "stopped" == w))
theorem bool_all {α : Type} (p : α → Bool) (l : List α) : (l.map p).all id = l.all p := by
  rw [List.all_map]; rfl
theorem is_within_ok : ∀ (d j k : Nat) (v : PyData) (μ : Mu), gd k v = true → k ≤ 30 → m_is_within (d + 1 + j) [.d v, .d (.int d)] μ = some (.d (.bool (isCond d v)), μ) := by
  intro d
  induction d with
  | zero =>
    intro j k v μ h hk
    rw [show 0 + 1 + j = j + 1 by omega]
    have ok := gd_okD h (by omega)
    cases v with
    | tuple xs =>
      cases xs with
      | nil => simp [m_is_within, isCond, eqD_nil ok]
      | cons x r =>
        simp [m_is_within, isCond, eqD_nil ok]
        cases x with
        | dict _ => obtain ⟨m, rfl, h1, h2⟩ := gd_tup h; have := h2 _ List.mem_cons_self; cases m <;> cases this
        | _ => simp
    | dict x => cases k <;> cases h
    | _ => simp [m_is_within, isCond]
  | succ d ih =>
    intro j k v μ h hk
    rw [show d + 1 + 1 + j = d + 1 + j + 1 by omega]
    have ok := gd_okD h (by omega)
    cases v with
    | tuple xs =>
      cases xs with
      | nil => simp [m_is_within, isCond, eqD_nil ok]
      | cons x r =>
        obtain ⟨m, rfl, h1, h2⟩ := gd_tup h
        have hr : gd (m + 1) (.tuple r) = true := gd_tup' (by rw [List.length_cons] at h1; omega) fun y hy => h2 y (List.mem_cons_of_mem _ hy)
        have okr := gd_okD hr (by omega)
        have hd0 : ¬ ((d : Int) + 1 = 0) := by omega
        cases x with
        | dict _ => have := h2 _ List.mem_cons_self; cases m <;> cases this
        | str w =>
          simp [m_is_within, isCond, eqD_nil ok, eqD_nil okr, hd0, c_PLAIN, eqv_str, isCond.statP, c_MOST_PARTS]
          by_cases c1 : Str.ofString "good" = w ∨ Str.ofString "bad" = w ∨ Str.ofString "always" = w ∨ Str.ofString "stopped" = w
          · simp only [eq_true c1, if_true]
          simp only [eq_false c1, if_false]
          by_cases c2 : w = Str.ofString "is"
          · simp only [eq_true c2, if_true]
            rcases r with _ | ⟨a, _ | ⟨b, _ | ⟨c, t⟩⟩⟩
            · simp
            · simp
            · have ha := is_name_ok a μ (h2 a (by simp))
              have hb := is_status_ok b μ (h2 b (by simp))
              simp [ha, hb]
              cases isName a <;> simp
            · simp <;> try (intro h; omega)
          simp only [eq_false c2, if_false]
          by_cases c3 : w = Str.ofString "flag"
          · simp only [eq_true c3, if_true]
            rcases r with _ | ⟨a, _ | ⟨b, t⟩⟩
            · simp
            · have ha := is_name_ok a μ (h2 a (by simp))
              simp [ha]
            · simp; try (intro h; omega)
          simp only [eq_false c3, if_false]
          by_cases c4 : w = Str.ofString "not"
          · simp only [eq_true c4, if_true]
            rcases r with _ | ⟨a, _ | ⟨b, t⟩⟩
            · simp
            · have ha := ih j m a μ (h2 a (by simp)) (by omega)
              simp [ha]
            · simp; try (intro h; omega)
          simp only [eq_false c4, if_false]
          by_cases c5 : Str.ofString "and" = w ∨ Str.ofString "or" = w
          · simp only [eq_true c5, if_true]
            have c6 : (decide (w = Str.ofString "and") || decide (w = Str.ofString "or")) = true := by
              rcases c5 with e | e <;> simp [← e]
            rw [c6]
            have hz : szOk r.length = true := by
              rw [List.length_cons] at h1
              unfold szOk; rw [decide_eq_true_iff]; omega
            have hs2 : szOk 2 = true := by decide
            have hs3 : szOk 1 = true := by decide
            rw [lcGoF_map (fun d' => .bool (isCond d d')) rfl _ (fun y hy => ⟨_, rfl, rfl, by
              have hy2 := ih j m y μ (h2 y (List.mem_cons_of_mem _ hy)) (by omega)
              simp [hy2]⟩)]
            simp [hz, hs2]
            by_cases hl : r.length ≤ 4
            · have hl2 : (r.length : Int) ≤ 4 := by omega
              simp [hl, hl2]
            · have hl2 : ¬ (r.length : Int) ≤ 4 := by omega
              simp [hl, hl2]
          · have c6 : (decide (w = Str.ofString "and") || decide (w = Str.ofString "or")) = false := by
              rw [Bool.or_eq_false_iff, decide_eq_false_iff_not, decide_eq_false_iff_not]
              exact ⟨fun e => c5 (.inl e.symm), fun e => c5 (.inr e.symm)⟩
            simp only [eq_false c5, if_false]
            rw [c6]
            have hs2 : szOk 2 = true := by decide
            simp [hs2]
        | _ => simp [m_is_within, isCond, eqD_nil ok]
    | dict x => cases k <;> cases h
    | _ => simp [m_is_within, isCond]
theorem lt_one (a b : Nat) : ((⟨#[a]⟩ : Str).cps.toList < (⟨#[b]⟩ : Str).cps.toList) ↔ a < b := by
  show ([a] : List Nat) < [b] ↔ _
  rw [List.cons_lt_cons_iff]; simp
theorem str_a : Str.ofString "a" = ⟨#[97]⟩ := by decide +kernel
theorem str_z : Str.ofString "z" = ⟨#[122]⟩ := by decide +kernel
theorem lower_iff (c : Nat) : (c ∈ lowers.cps.toList) ↔ (97 ≤ c ∧ c ≤ 122) := by
  have e : lowers.cps.toList = (List.range 26).map (· + 97) := by decide +kernel
  rw [e, List.mem_map]
  constructor
  · rintro ⟨a, ha, rfl⟩
    have := List.mem_range.mp ha
    omega
  · rintro ⟨h1, h2⟩
    exact ⟨c - 97, List.mem_range.mpr (by omega), by omega⟩
theorem filter_nil {α : Type} (p : α → Bool) (l : List α) : ((l.filter p).isEmpty) = l.all fun x => !p x := by
  induction l with
  | nil => rfl
  | cons x r ih =>
    rw [List.filter_cons, List.all_cons]
    cases p x <;> simp [ih]
theorem law_is_name_ok {n : Nat} (v : PyData) (μ : Mu) (h : gd n v = true) : m__law_is_name [.d v] μ = some (.d (.bool (isName v)), μ) := by
  cases v with
  | str x =>
    have hs := (gd_str h).2
    have hz : szOk (x.cps.toList.map fun c => PyData.str ⟨#[c]⟩).length = true := by rw [List.length_map]; exact hs
    have hz2 : szOk x.cps.size = true := hs
    simp [m__law_is_name, hs, hz2]
    rw [lcGoF_filter (chrIn fun c => !(decide (97 ≤ c) && decide (c ≤ 122))) id rfl _ (fun d hd => by
      obtain ⟨c, hc, rfl⟩ := List.mem_map.mp hd
      refine ⟨_, rfl, ?_, fun _ => rfl⟩
      simp [chrIn, str_a, str_z]
      have z1 : ([97] : List Nat) ≤ [c] ↔ 97 ≤ c := by
        rw [← List.not_lt, List.cons_lt_cons_iff]; simp
      have z2 : ([122] : List Nat) < [c] ↔ 122 < c := by
        rw [List.cons_lt_cons_iff]; simp
      simp only [z1, z2]
      by_cases h1 : 97 ≤ c
      · by_cases h2 : c ≤ 122
        · simp [h1, h2]
        · simp [h1, h2]; omega
      · simp [h1])]
    have ok := chars_okD (gd_str h).1 (chrIn fun c => !(decide (97 ≤ c) && decide (c ≤ 122)))
    simp only [List.map_id, bnd_some, Option.map_some, SO.data, Option.bind_some]
    rw [eqD_nilL ok]
    have key : ((x.cps.toList.map fun c => PyData.str ⟨#[c]⟩).filter (chrIn fun c => !(decide (97 ≤ c) && decide (c ≤ 122)))).isEmpty = x.cps.toList.all fun c => decide (c ∈ lowers.cps.toList) := by
      rw [filter_nil, List.all_map]
      congr 1
      funext c
      rw [Bool.eq_iff_iff]
      simp [chrIn]
      have := lower_iff c
      rw [Array.mem_toList_iff] at this
      rw [this]
    rw [key]
    simp [isName, wordL, textOf]
    by_cases h1 : 1 ≤ (x.length : Int)
    · by_cases h2 : 8 < (x.length : Int)
      · simp [h1, h2]; intro h3; omega
      · have h3 : (x.length : Int) ≤ 8 := by omega
        simp [h1, h2, h3]
        split
        · rename_i h4; rcases h4 with h4 | h4 | h4 | h4 <;> simp [h4]
        · rename_i h4; simp at h4; simp [h4]
    · simp [h1]
  | dict x => cases n <;> cases h
  | _ => simp [m__law_is_name, isName]
theorem isCond_no {d : Nat} {x : PyData} {r : List PyData} (h : ∀ w, x ≠ .str w) : isCond d (.tuple (x :: r)) = false := by
  cases d with
  | zero => rfl
  | succ d => cases x with
    | str w => exact (h w rfl).elim
    | _ => rfl
theorem filter_gd {m : Nat} {r : List PyData} (p : PyData → Bool) (h1 : r.length ≤ 1000) (h2 : ∀ x ∈ r, gd m x = true) (hm : m ≤ 30) : okD (.list (r.filter p)) = true :=
  gd_okD (n := m + 1) (gd_lst' (Nat.le_trans (List.length_filter_le _ _) h1) fun y hy => h2 y (List.mem_filter.mp hy).1) (by omega)
end PJ
namespace PJ
open PySem PySem.Spec J L2
local instance : J.Tb := ⟨[]⟩
def leafL : List PyData := [.tuple [.str "good"], .tuple [.str "bad"], .tuple [.str "always"], .tuple [.str "stopped"]]
def statusL : List PyData := [.str "good", .str "bad", .str "passed", .str "stopped"]
/-- conditions: names that N allows, flags that F allows, at most m parts -/
inductive IsG (N F : Str → Prop) (m : Nat) : Nat → PyData → Prop
  | leaf {d : Nat} {c : PyData} : c ∈ leafL → IsG N F m (d + 1) c
  | flag {d : Nat} {f : Str} : F f → IsG N F m (d + 1) (.tuple [.str "flag", .str f])
  | is {d : Nat} {n : Str} {s : PyData} : N n → s ∈ statusL → IsG N F m (d + 1) (.tuple [.str "is", .str n, s])
  | not {d : Nat} {c : PyData} : IsG N F m d c → IsG N F m (d + 1) (.tuple [.str "not", c])
  | many {d : Nat} {w : PyData} {cs : List PyData} : w ∈ ([.str "and", .str "or"] : List PyData) → cs.length ≤ m → (∀ c ∈ cs, IsG N F m d c) → IsG N F m (d + 1) (.tuple (w :: cs))
abbrev Nm (x : Str) : Prop := isName (.str x) = true
theorem status_of {b : PyData} (h : isStatus b = true) : b ∈ statusL := by
  cases b with
  | str x =>
    simp [isStatus, statL, eqv_str] at h
    simp [statusL]
    rcases h with h | h | h | h <;> simp [h]
  | _ => cases h
theorem name_of {a : PyData} (h : isName a = true) : ∃ x, a = .str x ∧ Nm x := by
  cases a with
  | str x => exact ⟨x, rfl, h⟩
  | _ => cases h
theorem cond_G : ∀ {d : Nat} {v : PyData}, isCond d v = true → IsG Nm Nm 4 d v
  | 0, _, h => by cases h
  | d + 1, .tuple (.str w :: r), h => by
    unfold isCond at h
    split at h
    · rename_i hp
      cases r with
      | cons _ _ => cases h
      | nil =>
        refine .leaf ?_
        simp [isCond.statP] at hp
        simp [leafL]
        rcases hp with e | e | e | e <;> simp [← e]
    · split at h
      · rename_i hw
        have hw : w = Str.ofString "is" := by simpa using hw
        subst hw
        rcases r with _ | ⟨a, _ | ⟨b, _ | ⟨c, t⟩⟩⟩
        · cases h
        · cases h
        · rw [Bool.and_eq_true] at h
          obtain ⟨x, rfl, hx⟩ := name_of h.1
          exact .is hx (status_of h.2)
        · cases h
      · split at h
        · rename_i hw
          have hw : w = Str.ofString "flag" := by simpa using hw
          subst hw
          rcases r with _ | ⟨a, _ | ⟨b, t⟩⟩
          · cases h
          · obtain ⟨x, rfl, hx⟩ := name_of h
            exact .flag hx
          · cases h
        · split at h
          · rename_i hw
            have hw : w = Str.ofString "not" := by simpa using hw
            subst hw
            rcases r with _ | ⟨a, _ | ⟨b, t⟩⟩
            · cases h
            · exact .not (cond_G h)
            · cases h
          · split at h
            · rename_i hw
              rw [Bool.and_eq_true, decide_eq_true_iff, List.all_eq_true] at h
              refine .many ?_ h.1 fun x hx => cond_G (h.2 x hx)
              simp at hw ⊢
              exact hw
            · cases h
  | d + 1, .tuple [], h => by cases h
  | d + 1, .tuple (.none :: _), h => by cases h
  | d + 1, .tuple (.bool _ :: _), h => by cases h
  | d + 1, .tuple (.int _ :: _), h => by cases h
  | d + 1, .tuple (.list _ :: _), h => by cases h
  | d + 1, .tuple (.tuple _ :: _), h => by cases h
  | d + 1, .tuple (.dict _ :: _), h => by cases h
  | d + 1, .none, h => by cases h
  | d + 1, .bool _, h => by cases h
  | d + 1, .int _, h => by cases h
  | d + 1, .str _, h => by cases h
  | d + 1, .list _, h => by cases h
  | d + 1, .dict _, h => by cases h
end PJ
namespace PJ
open PySem PySem.Spec J L2
local instance : J.Tb := ⟨[]⟩
theorem foGo_inv {t : Tg} {s : FS} {μ : Mu} (I : List PyData → En → Prop) (st : ∀ x r ρ, I (x :: r) ρ → ∃ ρ1 ρ2, t.put (.d x) ρ = some ρ1 ∧ s ρ1 μ = some (.nx ρ2 μ) ∧ I r ρ2) :
    ∀ items ρ, I items ρ → ∃ ρ', foGo t s none items ρ μ = some (.nx ρ' μ) ∧ I [] ρ'
  | [], ρ, h => ⟨ρ, by unfold foGo; rw [if_pos (gchk_none μ)], h⟩
  | x :: r, ρ, h => by
    obtain ⟨ρ1, ρ2, e1, e2, h2⟩ := st x r ρ h
    obtain ⟨ρ', e3, h3⟩ := foGo_inv I st r ρ2 h2
    refine ⟨ρ', ?_, h3⟩
    unfold foGo
    rw [if_pos (gchk_none μ), e1, Option.bind_some, e2, fnext_nx, e3]
def wordsOf (w : Str) : Nat → PyData → List Str
  | 0, _ => []
  | d + 1, .tuple (.str v :: r) => if v = w then (match r with
    | .str x :: _ => [x]
    | _ => []) else if v = Str.ofString "not" ∨ v = Str.ofString "and" ∨ v = Str.ofString "or" then r.flatMap (wordsOf w d) else []
  | _, _ => []
theorem szOk_le {n : Nat} (h : n ≤ 16777216) : szOk n = true := by unfold szOk; simpa using h
theorem flat_len {α : Type} (f : α → List Str) (k : Nat) : ∀ (l : List α), (∀ x ∈ l, (f x).length ≤ k) → (l.flatMap f).length ≤ l.length * k
  | [], _ => by simp
  | x :: r, h => by
    rw [List.flatMap_cons, List.length_append, List.length_cons, Nat.succ_mul]
    have h1 := h x List.mem_cons_self
    have h2 := flat_len f k r fun y hy => h y (List.mem_cons_of_mem _ hy)
    omega
theorem pow4 {d : Nat} (h : d + 1 ≤ 4) : 4 ^ d ≤ 64 := Nat.le_trans (Nat.pow_le_pow_right (by omega) (show d ≤ 3 by omega)) (by decide)
section
variable {N F : Str → Prop} {m : Nat}
theorem IsG.words_len (hm : m ≤ 4) {w : Str} {d : Nat} {c : PyData} (h : IsG N F m d c) : (wordsOf w d c).length ≤ 4 ^ d := by
  induction h with
  | leaf h =>
    simp [leafL] at h
    rcases h with h | h | h | h <;> subst h <;> simp only [wordsOf] <;> split <;> simp
  | flag h =>
    have := Nat.one_le_pow (‹Nat› + 1) 4 (by omega)
    simp only [wordsOf]
    split
    · simpa using this
    · simp
  | is h1 h2 =>
    have := Nat.one_le_pow (‹Nat› + 1) 4 (by omega)
    simp only [wordsOf]
    split
    · simpa using this
    · simp
  | not h ih =>
    simp only [wordsOf]
    split
    · split
      · simp; exact Nat.one_le_pow _ 4 (by omega)
      · simp
    · simp
      rw [Nat.pow_succ]
      omega
  | many h1 h2 h3 ih =>
    rename_i d w' cs
    simp at h1
    rcases h1 with h1 | h1 <;> subst h1
    all_goals
      simp only [wordsOf]
      split
      · split
        · simp; exact Nat.one_le_pow _ 4 (by omega)
        · simp
      · rw [if_pos (by simp)]
        have := flat_len (wordsOf w d) (4 ^ d) cs ih
        have h5 : cs.length * 4 ^ d ≤ 4 * 4 ^ d := Nat.mul_le_mul_right _ (by omega)
        rw [Nat.pow_succ]; omega
theorem strs_app (a b : List Str) : a.map PyData.str ++ b.map PyData.str = (a ++ b).map PyData.str := by rw [List.map_append]
theorem sort_parts (f : PyData → List Str) (l : List PyData) : sortSet (l.flatMap fun x => sortSet (f x)) = sortSet (l.flatMap f) :=
  sortSet_congr fun x => by
    rw [List.mem_flatMap, List.mem_flatMap]
    constructor <;> (rintro ⟨a, h1, h2⟩; exact ⟨a, h1, by first | exact mem_sortSet.mp h2 | exact mem_sortSet.mpr h2⟩)
theorem IsG.words (hm : m ≤ 4) {w : Str} (hw : w = Str.ofString "flag" ∨ w = Str.ofString "is") {d : Nat} {c : PyData} (h : IsG N F m d c) (hd : d ≤ 4) : ∀ j μ,
    m_words_in (d + j) [.d c, .d (.str w)] μ = some (.d (.tuple ((sortSet (wordsOf w d c)).map .str)), μ) := by
  induction h with
  | leaf h =>
    intro j μ
    rename_i d c
    rw [show d + 1 + j = d + j + 1 by omega]
    simp [leafL] at h
    rcases h with h | h | h | h <;> subst h <;> rcases hw with hw | hw <;> subst hw <;> simp [m_words_in, wordsOf, eqv_str, sortSet]
  | flag h =>
    intro j μ
    rename_i d f
    rw [show d + 1 + j = d + j + 1 by omega]
    rcases hw with hw | hw <;> subst hw <;> simp [m_words_in, wordsOf, eqv_str, sortSet, insS]
  | is h1 h2 =>
    intro j μ
    rename_i d n s
    rw [show d + 1 + j = d + j + 1 by omega]
    rcases hw with hw | hw <;> subst hw <;> simp [m_words_in, wordsOf, eqv_str, sortSet, insS]
  | not h ih =>
    intro j μ
    rename_i d c
    rw [show d + 1 + j = d + j + 1 by omega]
    have hl := IsG.words_len hm (w := w) h
    have ih := ih (by omega) j μ
    have h6 := sortSet_len (xs := wordsOf w d c)
    have h7 := pow4 hd
    have z : szOk (sortSet (wordsOf w d c)).length = true := szOk_le (by omega)
    rcases hw with hw | hw <;> subst hw <;> simp [m_words_in, wordsOf, eqv_str, foGo, ih, z]
    all_goals exact ⟨by omega, by rw [sortSet_of_strict (strict_sortSet _)]⟩
  | many h1 h2 h3 ih =>
    intro j μ
    rename_i d v cs
    rw [show d + 1 + j = d + j + 1 by omega]
    have key : ∀ v : Str, v = Str.ofString "and" ∨ v = Str.ofString "or" → ∀ z0, ∃ z, foGo (.n 3) (stF 2 (opF addD (vF 2) (frF (biN listN (consF (clF (m_words_in (d + j)) (consF (vF 3) (consF (vF 1) nilF))) nilF))))) none cs
        [some (.d (.tuple (.str v :: cs))), some (.d (.str w)), some (.d (.list [])), z0] μ = some (.nx [some (.d (.tuple (.str v :: cs))), some (.d (.str w)), some (.d (.list ((cs.flatMap fun x => sortSet (wordsOf w d x)).map .str))), z] μ) := by
      intro v hv z0
      obtain ⟨ρ', e, acc, z, rfl, _, e2, _⟩ := foGo_inv (t := .n 3) (s := stF 2 (opF addD (vF 2) (frF (biN listN (consF (clF (m_words_in (d + j)) (consF (vF 3) (consF (vF 1) nilF))) nilF))))) (μ := μ)
        (fun rest ρ => ∃ (acc : List Str) (z : Option SV), ρ = [some (.d (.tuple (.str v :: cs))), some (.d (.str w)), some (.d (.list (acc.map .str))), z] ∧ (∀ x ∈ rest, x ∈ cs) ∧ acc ++ rest.flatMap (fun x => sortSet (wordsOf w d x)) = cs.flatMap (fun x => sortSet (wordsOf w d x)) ∧ acc.length + rest.length * 64 ≤ 256)
        (fun x r ρ ⟨acc, z, er, hmm, e1, hl⟩ => by
          subst er
          have hx := ih x (hmm x List.mem_cons_self) (by omega) j μ
          have h6 := sortSet_len (xs := wordsOf w d x)
          have h7 := pow4 hd
          have h8 := IsG.words_len hm (w := w) (h3 x (hmm x List.mem_cons_self))
          rw [List.length_cons] at hl
          have zz : szOk (acc.length + (sortSet (wordsOf w d x)).length) = true := szOk_le (by omega)
          refine ⟨_, _, rfl, ?_, acc ++ sortSet (wordsOf w d x), some (.d x), rfl, fun y hy => hmm y (List.mem_cons_of_mem _ hy), by rw [← e1, List.flatMap_cons, List.append_assoc], by rw [List.length_append]; omega⟩
          simp [hx, zz]) cs _ ⟨[], z0, rfl, fun _ h => h, by simp, by simp; omega⟩
      refine ⟨z, ?_⟩
      rw [List.map_nil] at e
      rw [e, ← e2]
      simp
    have hb : (cs.flatMap fun x => sortSet (wordsOf w d x)).length ≤ 4000 := by
      have h7 := pow4 hd
      have := flat_len (fun x => sortSet (wordsOf w d x)) 64 cs fun x hx => by
        have h8 := IsG.words_len hm (w := w) (h3 x hx)
        have h6 := sortSet_len (xs := wordsOf w d x)
        omega
      omega
    have e4 := sort_parts (wordsOf w d) cs
    simp at h1
    rcases h1 with h1 | h1 <;> subst h1
    · obtain ⟨z, e⟩ := key _ (.inl rfl) none
      rcases hw with hw | hw <;> subst hw <;> simp [m_words_in, wordsOf, eqv_str, e, hb, e4, -List.length_flatMap]
    · obtain ⟨z, e⟩ := key _ (.inr rfl) none
      rcases hw with hw | hw <;> subst hw <;> simp [m_words_in, wordsOf, eqv_str, e, hb, e4, -List.length_flatMap]
theorem IsG.lflags (hm : m ≤ 4) {d : Nat} {c : PyData} (h : IsG N F m d c) (hd : d ≤ 4) : ∀ j μ,
    m__law_flags (d + j) [.d c] μ = some (.d (.list ((wordsOf (Str.ofString "flag") d c).map .str)), μ) := by
  induction h with
  | leaf h =>
    intro j μ
    rename_i d c
    rw [show d + 1 + j = d + j + 1 by omega]
    simp [leafL] at h
    rcases h with h | h | h | h <;> subst h <;> simp [m__law_flags, wordsOf, eqv_str]
  | flag h =>
    intro j μ
    rename_i d f
    rw [show d + 1 + j = d + j + 1 by omega]
    simp [m__law_flags, wordsOf, eqv_str]
  | is h1 h2 =>
    intro j μ
    rename_i d n s
    rw [show d + 1 + j = d + j + 1 by omega]
    simp [m__law_flags, wordsOf, eqv_str]
  | not h ih =>
    intro j μ
    rename_i d c
    rw [show d + 1 + j = d + j + 1 by omega]
    have hl := IsG.words_len hm (w := Str.ofString "flag") h
    have ih := ih (by omega) j μ
    have h7 := pow4 hd
    have z : szOk (wordsOf (Str.ofString "flag") d c).length = true := szOk_le (by omega)
    simp [m__law_flags, wordsOf, eqv_str, foGo, ih, z]
  | many h1 h2 h3 ih =>
    intro j μ
    rename_i d v cs
    rw [show d + 1 + j = d + j + 1 by omega]
    have key : ∀ v : Str, v = Str.ofString "and" ∨ v = Str.ofString "or" → ∀ z0, ∃ z, foGo (.n 2) (stF 1 (opF addD (vF 1) (clF (m__law_flags (d + j)) (consF (vF 2) nilF)))) none cs
        [some (.d (.tuple (.str v :: cs))), some (.d (.list [])), z0] μ = some (.nx [some (.d (.tuple (.str v :: cs))), some (.d (.list ((cs.flatMap fun x => wordsOf (Str.ofString "flag") d x).map .str))), z] μ) := by
      intro v hv z0
      obtain ⟨ρ', e, acc, z, rfl, _, e2, _⟩ := foGo_inv (t := .n 2) (s := stF 1 (opF addD (vF 1) (clF (m__law_flags (d + j)) (consF (vF 2) nilF)))) (μ := μ)
        (fun rest ρ => ∃ (acc : List Str) (z : Option SV), ρ = [some (.d (.tuple (.str v :: cs))), some (.d (.list (acc.map .str))), z] ∧ (∀ x ∈ rest, x ∈ cs) ∧ acc ++ rest.flatMap (fun x => wordsOf (Str.ofString "flag") d x) = cs.flatMap (fun x => wordsOf (Str.ofString "flag") d x) ∧ acc.length + rest.length * 64 ≤ 256)
        (fun x r ρ ⟨acc, z, er, hmm, e1, hl⟩ => by
          subst er
          have hx := ih x (hmm x List.mem_cons_self) (by omega) j μ
          have h7 := pow4 hd
          have h8 := IsG.words_len hm (w := Str.ofString "flag") (h3 x (hmm x List.mem_cons_self))
          rw [List.length_cons] at hl
          have zz : szOk (acc.length + (wordsOf (Str.ofString "flag") d x).length) = true := szOk_le (by omega)
          refine ⟨_, _, rfl, ?_, acc ++ wordsOf (Str.ofString "flag") d x, some (.d x), rfl, fun y hy => hmm y (List.mem_cons_of_mem _ hy), by rw [← e1, List.flatMap_cons, List.append_assoc], by rw [List.length_append]; omega⟩
          simp [hx, zz]) cs _ ⟨[], z0, rfl, fun _ h => h, by simp, by simp; omega⟩
      refine ⟨z, ?_⟩
      rw [List.map_nil] at e
      rw [e, ← e2]
      simp
    simp at h1
    rcases h1 with h1 | h1 <;> subst h1
    · obtain ⟨z, e⟩ := key _ (.inl rfl) none
      simp [m__law_flags, wordsOf, eqv_str, e]
    · obtain ⟨z, e⟩ := key _ (.inr rfl) none
      simp [m__law_flags, wordsOf, eqv_str, e]
theorem IsG.lasked (hm : m ≤ 4) {d : Nat} {c : PyData} (h : IsG N F m d c) (hd : d ≤ 4) : ∀ j μ,
    m__law_asked (d + j) [.d c] μ = some (.d (.list ((wordsOf (Str.ofString "is") d c).map .str)), μ) := by
  induction h with
  | leaf h =>
    intro j μ
    rename_i d c
    rw [show d + 1 + j = d + j + 1 by omega]
    simp [leafL] at h
    rcases h with h | h | h | h <;> subst h <;> simp [m__law_asked, wordsOf, eqv_str]
  | flag h =>
    intro j μ
    rename_i d f
    rw [show d + 1 + j = d + j + 1 by omega]
    simp [m__law_asked, wordsOf, eqv_str]
  | is h1 h2 =>
    intro j μ
    rename_i d n s
    rw [show d + 1 + j = d + j + 1 by omega]
    simp [m__law_asked, wordsOf, eqv_str]
  | not h ih =>
    intro j μ
    rename_i d c
    rw [show d + 1 + j = d + j + 1 by omega]
    have hl := IsG.words_len hm (w := Str.ofString "is") h
    have ih := ih (by omega) j μ
    have h7 := pow4 hd
    have z : szOk (wordsOf (Str.ofString "is") d c).length = true := szOk_le (by omega)
    simp [m__law_asked, wordsOf, eqv_str, foGo, ih, z]
  | many h1 h2 h3 ih =>
    intro j μ
    rename_i d v cs
    rw [show d + 1 + j = d + j + 1 by omega]
    have key : ∀ v : Str, v = Str.ofString "and" ∨ v = Str.ofString "or" → ∀ z0, ∃ z, foGo (.n 2) (stF 1 (opF addD (vF 1) (clF (m__law_asked (d + j)) (consF (vF 2) nilF)))) none cs
        [some (.d (.tuple (.str v :: cs))), some (.d (.list [])), z0] μ = some (.nx [some (.d (.tuple (.str v :: cs))), some (.d (.list ((cs.flatMap fun x => wordsOf (Str.ofString "is") d x).map .str))), z] μ) := by
      intro v hv z0
      obtain ⟨ρ', e, acc, z, rfl, _, e2, _⟩ := foGo_inv (t := .n 2) (s := stF 1 (opF addD (vF 1) (clF (m__law_asked (d + j)) (consF (vF 2) nilF)))) (μ := μ)
        (fun rest ρ => ∃ (acc : List Str) (z : Option SV), ρ = [some (.d (.tuple (.str v :: cs))), some (.d (.list (acc.map .str))), z] ∧ (∀ x ∈ rest, x ∈ cs) ∧ acc ++ rest.flatMap (fun x => wordsOf (Str.ofString "is") d x) = cs.flatMap (fun x => wordsOf (Str.ofString "is") d x) ∧ acc.length + rest.length * 64 ≤ 256)
        (fun x r ρ ⟨acc, z, er, hmm, e1, hl⟩ => by
          subst er
          have hx := ih x (hmm x List.mem_cons_self) (by omega) j μ
          have h7 := pow4 hd
          have h8 := IsG.words_len hm (w := Str.ofString "is") (h3 x (hmm x List.mem_cons_self))
          rw [List.length_cons] at hl
          have zz : szOk (acc.length + (wordsOf (Str.ofString "is") d x).length) = true := szOk_le (by omega)
          refine ⟨_, _, rfl, ?_, acc ++ wordsOf (Str.ofString "is") d x, some (.d x), rfl, fun y hy => hmm y (List.mem_cons_of_mem _ hy), by rw [← e1, List.flatMap_cons, List.append_assoc], by rw [List.length_append]; omega⟩
          simp [hx, zz]) cs _ ⟨[], z0, rfl, fun _ h => h, by simp, by simp; omega⟩
      refine ⟨z, ?_⟩
      rw [List.map_nil] at e
      rw [e, ← e2]
      simp
    simp at h1
    rcases h1 with h1 | h1 <;> subst h1
    · obtain ⟨z, e⟩ := key _ (.inl rfl) none
      simp [m__law_asked, wordsOf, eqv_str, e]
    · obtain ⟨z, e⟩ := key _ (.inr rfl) none
      simp [m__law_asked, wordsOf, eqv_str, e]
theorem IsG.flag_in {d : Nat} {c : PyData} (h : IsG N F m d c) : ∀ x ∈ wordsOf (Str.ofString "flag") d c, F x := by
  induction h with
  | leaf h =>
    simp [leafL] at h
    rcases h with h | h | h | h <;> subst h <;> simp [wordsOf]
  | flag h => simpa [wordsOf] using h
  | is h1 h2 => simp [wordsOf]
  | not h ih => simp [wordsOf]; exact ih
  | many h1 h2 h3 ih =>
    simp at h1
    rcases h1 with h1 | h1 <;> subst h1 <;> simp [wordsOf] <;> exact fun x y hy hx => ih y hy x hx
theorem IsG.is_in {d : Nat} {c : PyData} (h : IsG N F m d c) : ∀ x ∈ wordsOf (Str.ofString "is") d c, N x := by
  induction h with
  | leaf h =>
    simp [leafL] at h
    rcases h with h | h | h | h <;> subst h <;> simp [wordsOf]
  | flag h => simp [wordsOf]
  | is h1 h2 => simpa [wordsOf] using h1
  | not h ih => simp [wordsOf]; exact ih
  | many h1 h2 h3 ih =>
    simp at h1
    rcases h1 with h1 | h1 <;> subst h1 <;> simp [wordsOf] <;> exact fun x y hy hx => ih y hy x hx
end
end PJ
namespace PJ
open PySem PySem.Spec J L2
local instance : J.Tb := ⟨[]⟩
def ltP : PyData → PyData → Bool
  | .str a, .str b => ltS a b
  | _, _ => false
def ascD (xs : List PyData) : Bool := (xs.zip (xs.drop 1)).all fun p => ltP p.1 p.2
def areN (most : Nat) : PyData → Bool
  | .tuple xs => decide (xs.length ≤ most) && (xs.all isName && ascD xs)
  | _ => false
def ltT : PyData → PyData
  | .tuple [a, b] => .bool (ltP a b)
  | _ => .none
theorem names_strs : ∀ {xs : List PyData}, xs.all isName = true → ∃ ss : List Str, xs = ss.map .str ∧ ∀ s ∈ ss, Nm s
  | [], _ => ⟨[], rfl, by simp⟩
  | x :: r, h => by
    rw [List.all_cons, Bool.and_eq_true] at h
    obtain ⟨s, rfl, hs⟩ := name_of h.1
    obtain ⟨ss, rfl, h2⟩ := names_strs h.2
    exact ⟨s :: ss, rfl, by simpa using ⟨hs, h2⟩⟩
theorem adj_strict : ∀ l : List Str, ((l.zip (l.drop 1)).all fun p => ltS p.1 p.2) = true ↔ StrictS l
  | [] => by simp [StrictS]
  | [a] => by simp [StrictS]
  | a :: b :: r => by
    have ih := adj_strict (b :: r)
    simp only [List.drop_succ_cons, List.drop_zero, List.zip_cons_cons, List.all_cons, Bool.and_eq_true] at ih ⊢
    rw [ih]
    constructor
    · rintro ⟨h1, h2⟩
      refine List.pairwise_cons.mpr ⟨fun y hy => ?_, h2⟩
      rcases List.mem_cons.mp hy with e | hy
      · rw [e]; exact h1
      · exact ltS_trans h1 ((List.pairwise_cons.mp h2).1 y hy)
    · intro h
      obtain ⟨h1, h2⟩ := List.pairwise_cons.mp h
      exact ⟨h1 b List.mem_cons_self, h2⟩
theorem asc_strs (ss : List Str) : ascD (ss.map .str) = ((ss.zip (ss.drop 1)).all fun p => ltS p.1 p.2) := by
  unfold ascD
  rw [← List.map_drop, List.zip_map, List.all_map]
  rfl
theorem asc_sort (ss : List Str) : ascD (ss.map .str) = (ss == sortSet ss) := by
  rw [asc_strs, Bool.eq_iff_iff, adj_strict, beq_iff_eq]
  exact ⟨fun h => (sortSet_of_strict h).symm, fun h => by rw [h]; exact strict_sortSet _⟩
theorem are_names_ok {k : Nat} (most : Nat) (v : PyData) (μ : Mu) (h : gd k v = true) : m_are_names [.d v, .d (.int most)] μ = some (.d (.bool (areN most v)), μ) := by
  cases v with
  | dict x => cases k <;> cases h
  | tuple xs =>
    obtain ⟨m, rfl, h1, h2⟩ := gd_tup h
    have z1 : szOk xs.length = true := szOk_le (by omega)
    have z2 : szOk (((xs.zip (xs.drop 1)).map fun p => PyData.tuple [p.1, p.2]).length) = true := szOk_le (by rw [List.length_map, List.length_zip]; omega)
    have e1 : ∀ a b c d : Option SV, lcGoF (.n 2) yesF (clF m_is_name (consF (vF 2) nilF)) none [some (.d (.tuple xs)), some (.d (.int most)), none, none, none] xs μ = some (xs.map fun x => .bool (isName x), μ) := fun _ _ _ _ =>
      lcGoF_map (fun x => .bool (isName x)) rfl _ fun x hx => ⟨_, rfl, rfl, by have := is_name_ok x μ (h2 x hx); simp [this]⟩
    have hm : ((most : Int) < xs.length) ↔ ¬ (xs.length ≤ most) := by omega
    by_cases c1 : xs.length ≤ most
    · by_cases c2 : xs.all isName = true
      · have e2 : lcGoF (.t [3, 4]) yesF (cmF ltD (vF 3) (vF 4)) none [some (.d (.tuple xs)), some (.d (.int most)), none, none, none] ((xs.zip (xs.drop 1)).map fun p => PyData.tuple [p.1, p.2]) μ = some (((xs.zip (xs.drop 1)).map fun p => PyData.tuple [p.1, p.2]).map ltT, μ) := by
          obtain ⟨ss, rfl, _⟩ := names_strs c2
          refine lcGoF_map ltT rfl _ fun x hx => ?_
          obtain ⟨p, hp, rfl⟩ := List.mem_map.mp hx
          rw [← List.map_drop, List.zip_map] at hp
          obtain ⟨q, _, rfl⟩ := List.mem_map.mp hp
          exact ⟨_, rfl, rfl, by simp [ltT, ltP, ltS]⟩
        have e3 : ((xs.zip (xs.drop 1)).map fun p => PyData.tuple [p.1, p.2]).map ltT = (xs.zip (xs.drop 1)).map fun p => .bool (ltP p.1 p.2) := by rw [List.map_map]; rfl
        rw [e3] at e2
        have c2' := c2
        rw [List.all_eq_true] at c2'
        rw [List.drop_one] at e2
        have z4 : szOk (xs.length - 1) = true := szOk_le (by omega)
        have z3 : szOk (min xs.length (xs.length - 1)) = true := szOk_le (by omega)
        simp [m_are_names, areN, z1, z2, z3, z4, e1 none none none none, e2, hm, c1, c2, ascD]
      · have c3 : xs.all isName = false := by simpa using c2
        simp [m_are_names, areN, z1, z2, e1 none none none none, hm, c1, c3]
    · simp [m_are_names, areN, z1, z2, hm, c1]
  | _ => simp [m_are_names, areN]
theorem szOk_of {k n : Nat} {xs : List PyData} (h : gd k (.tuple xs) = true) (l : n ≤ xs.length + 1000) : szOk n = true := by
  obtain ⟨m, _, h1, _⟩ := gd_tup h
  exact szOk_le (by omega)
end PJ
namespace PJ
open PySem PySem.Spec J L2
local instance : J.Tb := ⟨[]⟩
theorem nm_gd {x : Str} (h : Nm x) (L n : Nat) : gdL L n (.str x) = true := by
  unfold Nm isName textOf at h
  simp only [Bool.and_eq_true, decide_eq_true_iff, List.all_eq_true] at h
  obtain ⟨⟨⟨_, h2⟩, h3⟩, _⟩ := h
  have s1 : PyData.strOk x = true := by
    unfold PyData.strOk
    rw [Array.all_eq_true_iff_forall_mem]
    intro c hc
    have := (lower_iff c).mp (h3 c (Array.mem_toList_iff.mpr hc))
    rw [decide_eq_true_iff]; omega
  have s2 : szOk x.length = true := szOk_le (by omega)
  cases n <;> (unfold gdL; rw [s1, s2]; rfl)
def hasS (ds : List PyData) (w : Str) : Bool := ds.any fun y => PyData.eqv y (.str w)
def isBl : PyData → Bool
  | .bool _ => true
  | _ => false
def isJob : PyData → Bool
  | .tuple [n, .tuple needs, c, reads, soft] => isName n && (areN 4 (.tuple needs) && (isCond 4 c && ((wordsOf (Str.ofString "is") 4 c).all (hasS needs) && (areN 4 reads && isBl soft))))
  | _ => false
theorem areN_flat {most : Nat} {v : PyData} (h : areN most v = true) : ∃ ss : List Str, v = .tuple (ss.map .str) ∧ ss.length ≤ most ∧ (∀ s ∈ ss, Nm s) ∧ StrictS ss := by
  cases v with
  | tuple xs =>
    unfold areN at h
    rw [Bool.and_eq_true, decide_eq_true_iff, Bool.and_eq_true] at h
    obtain ⟨ss, rfl, hs⟩ := names_strs h.2.1
    refine ⟨ss, rfl, by simpa using h.1, hs, ?_⟩
    have := h.2.2
    rw [asc_strs] at this
    exact (adj_strict ss).mp this
  | _ => cases h
theorem flat_strs (ss : List Str) : (ss.map PyData.str).all flatD = true := by rw [List.all_map]; simp
theorem notin_T (w : Str) (ss : List Str) : notinD (.str w) (.tuple (ss.map .str)) = some (!hasS (ss.map .str) w) := by
  simp only [notinD, inD]
  rw [if_pos (.inl (by rw [flat_strs]; rfl))]
  rfl
theorem notin_L (w : Str) (ss : List Str) : notinD (.str w) (.list (ss.map .str)) = some (!hasS (ss.map .str) w) := by
  simp only [notinD, inD]
  rw [if_pos (.inl (by rw [flat_strs]; rfl))]
  rfl
theorem in_L (w : Str) (ss : List Str) : inD (.str w) (.list (ss.map .str)) = some (hasS (ss.map .str) w) := by
  simp only [inD]
  rw [if_pos (.inl (by rw [flat_strs]; rfl))]
  rfl
theorem is_condition_ok' {k : Nat} (v : PyData) (μ : Mu) (h : gd k v = true) (hk : k ≤ 30) : m_is_condition [.d v] μ = some (.d (.bool (isCond 4 v)), μ) := by
  have := is_within_ok 4 1 k v μ h hk
  simp at this
  simp [m_is_condition, c_MOST_DEEP, this]
theorem hasS_mem {ss : List Str} {w : Str} : hasS (ss.map .str) w = true ↔ w ∈ ss := by
  unfold hasS
  rw [List.any_map, List.any_eq_true]
  simp [Function.comp_def, eqv_str]
theorem okD_filterS (ws : List Str) (hw : ∀ w ∈ ws, Nm w) (hl : ws.length ≤ 1000) (p : PyData → Bool) : okD (.list ((ws.map PyData.str).filter p)) = true :=
  gd_okD (n := 1) (gd_lst' (Nat.le_trans (List.length_filter_le _ _) (by rw [List.length_map]; exact hl)) fun x hx => by
    obtain ⟨w, hw2, rfl⟩ := List.mem_map.mp (List.mem_filter.mp hx).1
    exact nm_gd (hw w hw2) _ _) (by omega)
def hasP (ds : List PyData) : PyData → Bool
  | .str w => hasS ds w
  | _ => false
theorem filter_hasP (ws : List Str) (ds : List PyData) : ((ws.map PyData.str).filter fun x => !hasP ds x).isEmpty = ws.all (hasS ds) := by
  rw [filter_nil, List.all_map]
  simp [Function.comp_def, hasP]
theorem all_sortSet (p : Str → Bool) (ws : List Str) : (sortSet ws).all p = ws.all p := by
  rw [Bool.eq_iff_iff, List.all_eq_true, List.all_eq_true]
  exact ⟨fun h x hx => h x (mem_sortSet.mpr hx), fun h x hx => h x (mem_sortSet.mp hx)⟩
def tyN : PyData → String
  | .none => "NoneType"
  | .bool _ => "bool"
  | .int _ => "int"
  | .str _ => "str"
  | .list _ => "list"
  | .tuple _ => "tuple"
  | .dict _ => "str"
theorem isJob_n {n ne c re so : PyData} (h : isName n = false) : isJob (.tuple [n, ne, c, re, so]) = false := by
  cases ne <;> simp [isJob, h]
theorem isJob_ne {n ne c re so : PyData} (h : areN 4 ne = false) : isJob (.tuple [n, ne, c, re, so]) = false := by
  cases ne <;> simp [isJob, h]
theorem is_job_ok {k : Nat} (v : PyData) (μ : Mu) (h : gd k v = true) (hk : k ≤ 30) : m_is_job [.d v] μ = some (.d (.bool (isJob v)), μ) := by
  cases v with
  | dict x => cases k <;> cases h
  | tuple xs =>
    obtain ⟨m, rfl, h1, h2⟩ := gd_tup h
    have z1 : szOk xs.length = true := szOk_le (by omega)
    by_cases c5 : xs.length = 5
    · obtain ⟨n, ne, c, re, so, rfl⟩ : ∃ n ne c re so, xs = [n, ne, c, re, so] := by
        rcases xs with _ | ⟨a, _ | ⟨b, _ | ⟨c, _ | ⟨d, _ | ⟨e, _ | ⟨f, t⟩⟩⟩⟩⟩⟩ <;> simp at c5
        exact ⟨a, b, c, d, e, rfl⟩
      have i1 := is_name_ok n μ (h2 n (by simp))
      have i2 : m_are_names [.d ne, .d (.int 4)] μ = some (.d (.bool (areN 4 ne)), μ) := are_names_ok 4 ne μ (h2 ne (by simp))
      have i3 := is_condition_ok' c μ (h2 c (by simp)) (by omega)
      have i4 : m_are_names [.d re, .d (.int 4)] μ = some (.d (.bool (areN 4 re)), μ) := are_names_ok 4 re μ (h2 re (by simp))
      have hso := h2 so (by simp)
      have isb : kitB (tyN so) "bool" = some (isBl so) := by cases so <;> simp [tyN, isBl]
      have htt : tyD μ (.d so) = some (tyN so) := by
        cases so with
        | dict x => cases m <;> cases hso
        | _ => rfl
      cases e1 : isName n with
      | false => simp [m_is_job, i1, e1, isJob_n e1]
      | true =>
        cases e2 : areN 4 ne with
        | false => simp [m_is_job, i1, i2, e1, e2, c_MOST_NEEDS, isJob_ne e2]
        | true =>
          obtain ⟨ss, rfl, hl, hs, hst⟩ := areN_flat e2
          cases e3 : isCond 4 c with
          | false => simp [m_is_job, i1, i2, i3, e1, e2, e3, c_MOST_NEEDS, isJob]
          | true =>
            have hG := cond_G e3
            have hw : m_words_in 20 [.d c, .d (.str (Str.ofString "is"))] μ = _ := hG.words (Nat.le_refl 4) (.inr rfl) (Nat.le_refl 4) 16 μ
            have wl := hG.words_len (Nat.le_refl 4) (w := Str.ofString "is")
            have wl2 := sortSet_len (xs := wordsOf (Str.ofString "is") 4 c)
            have hnm : ∀ w ∈ sortSet (wordsOf (Str.ofString "is") 4 c), Nm w := fun w hw => hG.is_in w (mem_sortSet.mp hw)
            have z2 : szOk (sortSet (wordsOf (Str.ofString "is") 4 c)).length = true := szOk_le (by simp at wl; omega)
            have okf := okD_filterS _ hnm (by simp at wl; omega) (fun x => !hasP (ss.map .str) x)
            have fe := filter_hasP (sortSet (wordsOf (Str.ofString "is") 4 c)) (ss.map .str)
            rw [all_sortSet] at fe
            have go : lcGoF (.n 1) (cmBF notinD (vF 1) (ixF (vF 0) (cF (.int 1)))) (vF 1) none [some (.d (.tuple [n, .tuple (ss.map .str), c, re, so])), none] ((sortSet (wordsOf (Str.ofString "is") 4 c)).map .str) μ = some ((((sortSet (wordsOf (Str.ofString "is") 4 c)).map PyData.str).filter fun x => !hasP (ss.map .str) x).map id, μ) :=
              lcGoF_filter (fun x => !hasP (ss.map .str) x) id rfl _ fun x hx => by
                obtain ⟨w, _, rfl⟩ := List.mem_map.mp hx
                refine ⟨_, rfl, ?_, fun _ => rfl⟩
                have e := notin_T w ss
                simp [e, hasP, -notinD, -inD]
            rw [List.map_id] at go
            cases e5 : (wordsOf (Str.ofString "is") 4 c).all (hasS (ss.map .str)) with
            | false => simp [m_is_job, i1, i2, i3, i4, e1, e2, e3, e5, c_MOST_NEEDS, isJob, hw, z2, go, neD_nilL okf, fe]
            | true =>
              cases e6 : areN 4 re with
              | false => simp [m_is_job, i1, i2, i3, i4, e1, e2, e3, e5, e6, c_MOST_NEEDS, c_MOST_READS, isJob, hw, z2, go, neD_nilL okf, fe]
              | true => cases so with
                | dict x => cases m <;> cases hso
                | _ => simp [m_is_job, i1, i2, i3, i4, e1, e2, e3, e5, e6, c_MOST_NEEDS, c_MOST_READS, isJob, hw, z2, go, neD_nilL okf, fe, isBl]
    · have c5' : ¬ ((xs.length : Int) = 5) := by omega
      have e : isJob (.tuple xs) = false := by
        rcases xs with _ | ⟨a, _ | ⟨b, _ | ⟨c, _ | ⟨d, _ | ⟨e, _ | ⟨f, t⟩⟩⟩⟩⟩⟩ <;> first | rfl | (exact (c5 rfl).elim) | (cases b <;> rfl)
      simp [m_is_job, c5', e]
  | _ => simp [m_is_job, isJob]
end PJ
namespace PJ
open PySem PySem.Spec J L2
local instance : J.Tb := ⟨[]⟩
def jobIn (ks : List Str) : PyData → Bool
  | .tuple (.str n :: .tuple needs :: _) => !hasS (ks.map .str) n && needs.all (hasP (ks.map .str))
  | _ => false
theorem filter_hasP' (ss : List Str) (ds : List PyData) : ((ss.map PyData.str).filter fun x => !hasP ds x).isEmpty = (ss.map PyData.str).all (hasP ds) := by
  rw [filter_nil]; simp
def condOf : PyData → PyData
  | .tuple (_ :: _ :: c :: _) => c
  | _ => .none
def nameOf : PyData → Str
  | .tuple (.str n :: _) => n
  | _ => Str.empty
def flagsOf (js : List PyData) : List Str := js.flatMap fun j => wordsOf (Str.ofString "flag") 4 (condOf j)
theorem job_inv {v : PyData} (h : isJob v = true) : ∃ (n : Str) (ss : List Str) (c re so : PyData), v = .tuple [.str n, .tuple (ss.map .str), c, re, so] ∧ Nm n ∧ isCond 4 c = true ∧ (∀ s ∈ ss, Nm s) ∧ ss.length ≤ 4 := by
  unfold isJob at h
  split at h
  · rename_i n needs c re so
    simp only [Bool.and_eq_true] at h
    obtain ⟨x, rfl, hx⟩ := name_of h.1
    obtain ⟨ss, e, hl, hs, _⟩ := areN_flat h.2.1
    cases e
    exact ⟨x, ss, c, re, so, rfl, hx, h.2.2.1, hs, hl⟩
  · cases h
theorem flags_of_ok {js : List PyData} (hj : ∀ j ∈ js, isJob j = true) (hl : js.length ≤ 8) (μ : Mu) : m_flags_of [.d (.tuple js)] μ = some (.d (.tuple ((sortSet (flagsOf js)).map .str)), μ) := by
  obtain ⟨ρ', e, acc, z, rfl, _, e2, _⟩ := foGo_inv (t := .n 2) (s := stF 1 (opF addD (vF 1) (frF (biN listN (consF (clF (m_words_in 20) (consF (ixF (vF 2) (cF (.int 2))) (consF (cF (.str "flag")) nilF))) nilF))))) (μ := μ)
    (fun rest ρ => ∃ (acc : List Str) (z : Option SV), ρ = [some (.d (.tuple js)), some (.d (.list (acc.map .str))), z] ∧ (∀ x ∈ rest, x ∈ js) ∧ acc ++ rest.flatMap (fun j => sortSet (wordsOf (Str.ofString "flag") 4 (condOf j))) = js.flatMap (fun j => sortSet (wordsOf (Str.ofString "flag") 4 (condOf j))) ∧ acc.length + rest.length * 256 ≤ 2048)
    (fun x r ρ ⟨acc, z, er, hmm, e1, hl⟩ => by
      subst er
      obtain ⟨n, ss, c, re, so, rfl, _, hc, _, _⟩ := job_inv (hj x (hmm x List.mem_cons_self))
      have hG := cond_G hc
      have hx : m_words_in 20 [.d c, .d (.str (Str.ofString "flag"))] μ = _ := hG.words (Nat.le_refl 4) (.inl rfl) (Nat.le_refl 4) 16 μ
      have h8 := hG.words_len (Nat.le_refl 4) (w := Str.ofString "flag")
      have h6 := sortSet_len (xs := wordsOf (Str.ofString "flag") 4 c)
      simp at h8
      rw [List.length_cons] at hl
      have zz : szOk (acc.length + (sortSet (wordsOf (Str.ofString "flag") 4 c)).length) = true := szOk_le (by omega)
      refine ⟨_, _, rfl, ?_, acc ++ sortSet (wordsOf (Str.ofString "flag") 4 c), some (.d (.tuple [.str n, .tuple (ss.map .str), c, re, so])), rfl, fun y hy => hmm y (List.mem_cons_of_mem _ hy), by rw [← e1, List.flatMap_cons, List.append_assoc]; rfl, by rw [List.length_append]; omega⟩
      simp [hx, zz]) js [some (.d (.tuple js)), some (.d (.list ([].map PyData.str))), none] ⟨[], none, rfl, fun _ h => h, by simp, by simp; omega⟩
  rw [List.map_nil] at e
  have e3 : acc = js.flatMap (fun j => sortSet (wordsOf (Str.ofString "flag") 4 (condOf j))) := by rw [← e2]; simp
  have e4 : sortSet acc = sortSet (flagsOf js) := by
    rw [e3]; exact sort_parts (fun j => wordsOf (Str.ofString "flag") 4 (condOf j)) js
  have hb : acc.length ≤ 4000 := by
    rw [e3]
    have := flat_len (fun j => sortSet (wordsOf (Str.ofString "flag") 4 (condOf j))) 256 js fun j hjm => by
      obtain ⟨n, ss, c, re, so, rfl, _, hc, _, _⟩ := job_inv (hj j hjm)
      have h8 := (cond_G hc).words_len (Nat.le_refl 4) (w := Str.ofString "flag")
      have h6 := sortSet_len (xs := wordsOf (Str.ofString "flag") 4 c)
      simp at h8
      show (sortSet (wordsOf (Str.ofString "flag") 4 c)).length ≤ 256
      omega
    omega
  simp [m_flags_of, e, hb, e4]
theorem law_flags_of_ok {js : List PyData} (hj : ∀ j ∈ js, isJob j = true) (hl : js.length ≤ 8) (μ : Mu) : m__law_all_flags [.d (.tuple js)] μ = some (.d (.tuple ((sortSet (flagsOf js)).map .str)), μ) := by
  obtain ⟨ρ', e, acc, z, rfl, _, e2, hb⟩ := foGo_inv (t := .n 2) (s := stF 1 (opF addD (vF 1) (clF (m__law_flags 20) (consF (ixF (vF 2) (cF (.int 2))) nilF)))) (μ := μ)
    (fun rest ρ => ∃ (acc : List Str) (z : Option SV), ρ = [some (.d (.tuple js)), some (.d (.list (acc.map .str))), z] ∧ (∀ x ∈ rest, x ∈ js) ∧ acc ++ flagsOf rest = flagsOf js ∧ acc.length + rest.length * 256 ≤ 2048)
    (fun x r ρ ⟨acc, z, er, hmm, e1, hl⟩ => by
      subst er
      obtain ⟨n, ss, c, re, so, rfl, _, hc, _, _⟩ := job_inv (hj x (hmm x List.mem_cons_self))
      have hG := cond_G hc
      have hx : m__law_flags 20 [.d c] μ = _ := hG.lflags (Nat.le_refl 4) (Nat.le_refl 4) 16 μ
      have h8 := hG.words_len (Nat.le_refl 4) (w := Str.ofString "flag")
      simp at h8
      rw [List.length_cons] at hl
      have zz : szOk (acc.length + (wordsOf (Str.ofString "flag") 4 c).length) = true := szOk_le (by omega)
      refine ⟨_, _, rfl, ?_, acc ++ wordsOf (Str.ofString "flag") 4 c, some (.d (.tuple [.str n, .tuple (ss.map .str), c, re, so])), rfl, fun y hy => hmm y (List.mem_cons_of_mem _ hy), by rw [← e1]; unfold flagsOf; rw [List.flatMap_cons, List.append_assoc]; rfl, by rw [List.length_append]; omega⟩
      simp [hx, zz]) js [some (.d (.tuple js)), some (.d (.list ([].map PyData.str))), none] ⟨[], none, rfl, fun _ h => h, by simp, by simp; omega⟩
  rw [List.map_nil] at e
  have e3 : acc = flagsOf js := by rw [← e2]; simp [flagsOf]
  have hb2 : acc.length ≤ 4000 := by simp at hb; omega
  simp [m__law_all_flags, e, hb2, e3]
  rw [← e3]; exact hb2
end PJ
namespace PJ
open PySem PySem.Spec J L2
local instance : J.Tb := ⟨[]⟩
def pipeGo : List Str → List PyData → Bool
  | _, [] => true
  | ks, v :: r => (isJob v && jobIn ks v) && pipeGo (ks ++ [nameOf v]) r
theorem at_new (μ : Mu) (so : SO) : (μ ++ [so])[μ.length]? = some so := by simp
theorem set_new (μ : Mu) (so so' : SO) : (μ ++ [so]).set μ.length so' = μ ++ [so'] := by simp
noncomputable abbrev bodyP : FS := (sqF (ifF (orBF (notBF (bF (clF m_is_job (consF (vF 2) nilF)))) (orBF (cmBF inD (ixF (vF 2) (cF (.int 0))) (vF 1)) (cmBF neD (frF (lcF (.n 3) (seqF (ixF (vF 2) (cF (.int 1)))) (cmBF notinD (vF 3) (vF 1)) (vF 3) [3])) (frF (lstF nilF))))) (rtF (cF (.bool false))) skipF) (exF (appF (vF 1) (ixF (vF 2) (cF (.int 0))))))
theorem body_ok {k : Nat} {ks : List Str} (v x0 : PyData) (z : Option SV) (μ : Mu) (h : gd k v = true) (hk : k ≤ 30) (hl : ks.length < 1000) :
    bodyP [some (.d x0), some (.r μ.length), some (.d v), z] (μ ++ [.lst (ks.map .str)]) = if (isJob v && jobIn ks v) = true then some (.nx [some (.d x0), some (.r μ.length), some (.d v), z] (μ ++ [.lst ((ks ++ [nameOf v]).map .str)])) else some (.rt (.d (.bool false)) (μ ++ [.lst (ks.map .str)])) := by
  have i1 := is_job_ok v (μ ++ [.lst (ks.map .str)]) h hk
  cases e1 : isJob v with
  | false => simp [i1, e1]
  | true =>
    obtain ⟨n, ss, c, re, so, rfl, hn, hc, hs, hl4⟩ := job_inv e1
    have n1 := in_L n ks
    cases e0 : hasS (ks.map .str) n with
    | true => simp [i1, e1, n1, e0, jobIn, -inD, -List.all_map]
    | false =>
      have z3 : szOk ss.length = true := szOk_le (by omega)
      have ok1 := okD_filterS ss hs (by omega) (fun x => !hasP (ks.map .str) x)
      have fe1 := filter_hasP' ss (ks.map .str)
      have go1 : ∀ z, lcGoF (.n 3) (cmBF notinD (vF 3) (vF 1)) (vF 3) none [some (.d x0), some (.r μ.length), some (.d (.tuple [.str n, .tuple (ss.map .str), c, re, so])), z] (ss.map .str) (μ ++ [.lst (ks.map .str)]) = some (((ss.map PyData.str).filter fun x => !hasP (ks.map .str) x).map id, μ ++ [.lst (ks.map .str)]) := fun z =>
        lcGoF_filter (fun x => !hasP (ks.map .str) x) id rfl _ fun y hy => by
          obtain ⟨w, _, rfl⟩ := List.mem_map.mp hy
          refine ⟨_, rfl, ?_, fun _ => rfl⟩
          have e := notin_L w ks
          simp [e, hasP, -notinD, -inD]
      simp only [List.map_id] at go1
      have hl3 : ks.length < 16777216 := by omega
      cases e9 : (ss.map PyData.str).all (hasP (ks.map .str)) with
      | false => simp [i1, e1, n1, e0, jobIn, z3, go1, neD_nilL ok1, fe1, e9, -inD, -List.all_map]
      | true => simp [i1, e1, n1, e0, jobIn, z3, go1, neD_nilL ok1, fe1, e9, nameOf, hl3, -inD, -List.all_map]
theorem loop_P {k : Nat} {x0 : PyData} {μ : Mu} (hk : k ≤ 30) : ∀ (items : List PyData) (ks : List Str) (z1 z2 : Option SV), (∀ v ∈ items, gd k v = true) → ks.length + items.length < 1000 →
    (pipeGo ks items = true → ∃ y1 y2 so, foGo (.n 2) bodyP none items [some (.d x0), some (.r μ.length), z1, z2] (μ ++ [.lst (ks.map .str)]) = some (.nx [some (.d x0), some (.r μ.length), y1, y2] (μ ++ [so]))) ∧
    (pipeGo ks items = false → ∃ so, foGo (.n 2) bodyP none items [some (.d x0), some (.r μ.length), z1, z2] (μ ++ [.lst (ks.map .str)]) = some (.rt (.d (.bool false)) (μ ++ [so]))) := by
  intro items
  induction items with
  | nil =>
    intro ks z1 z2 _ _
    exact ⟨fun _ => ⟨z1, z2, .lst (ks.map .str), by simp [foGo]⟩, fun h => by cases h⟩
  | cons v r ih =>
    intro ks z1 z2 hg hl
    rw [List.length_cons] at hl
    have hb := body_ok (ks := ks) v x0 z2 μ (hg v List.mem_cons_self) hk (by omega)
    have un : foGo (.n 2) bodyP none (v :: r) [some (.d x0), some (.r μ.length), z1, z2] (μ ++ [.lst (ks.map .str)]) = fnext (bodyP [some (.d x0), some (.r μ.length), some (.d v), z2] (μ ++ [.lst (ks.map .str)])) (foGo (.n 2) bodyP none r) := by
      rw [foGo]
      rfl
    rw [un, hb]
    unfold pipeGo
    cases e : isJob v && jobIn ks v with
    | false => exact ⟨fun h => (by cases h), fun _ => ⟨_, rfl⟩⟩
    | true =>
      have := ih (ks ++ [nameOf v]) (some (.d v)) z2 (fun y hy => hg y (List.mem_cons_of_mem _ hy)) (by rw [List.length_append, List.length_singleton]; omega)
      simpa using this
theorem pipeGo_jobs : ∀ {js : List PyData} {ks : List Str}, pipeGo ks js = true → ∀ j ∈ js, isJob j = true
  | [], _, _, j, h => by simp at h
  | v :: r, ks, h, j, hj => by
    unfold pipeGo at h
    simp only [Bool.and_eq_true] at h
    rcases List.mem_cons.mp hj with e | hj
    · rw [e]; exact h.1.1
    · exact pipeGo_jobs h.2 j hj
def isPipe : PyData → Bool
  | .tuple js => decide (1 ≤ js.length) && (decide (js.length ≤ 8) && (pipeGo [] js && decide ((sortSet (flagsOf js)).length ≤ 3)))
  | _ => false
theorem is_pipeline_ok {k : Nat} (v : PyData) (μ : Mu) (h : gd k v = true) (hk : k ≤ 30) : m_is_pipeline [.d v] μ = some (.d (.bool (isPipe v)), μ) := by
  cases v with
  | dict x => cases k <;> cases h
  | tuple js =>
    obtain ⟨m, rfl, h1, h2⟩ := gd_tup h
    have z1 : szOk js.length = true := szOk_le (by omega)
    by_cases c1 : 1 ≤ js.length
    · by_cases c8 : js.length ≤ 8
      · have c1' : (1 : Int) ≤ js.length := by omega
        have c8' : ¬ (8 : Int) < js.length := by omega
        have lp := loop_P (k := m) (x0 := .tuple js) (μ := μ) (by omega) js [] none none h2 (by simp; omega)
        rw [List.map_nil] at lp
        cases e : pipeGo [] js with
        | false =>
          obtain ⟨so, e2⟩ := lp.2 e
          simp only [bodyP] at e2
          simp [m_is_pipeline, c_MOST_JOBS, z1, c1', c8', e2, isPipe, e]
        | true =>
          obtain ⟨y1, y2, so, e2⟩ := lp.1 e
          simp only [bodyP] at e2
          have fo := flags_of_ok (pipeGo_jobs e) c8 (μ ++ [so])
          simp [m_is_pipeline, c_MOST_JOBS, c_MOST_FLAGS, z1, c1, c8, c1', c8', e2, isPipe, e, fo]
          omega
      · have c1' : (1 : Int) ≤ js.length := by omega
        have c8' : (8 : Int) < js.length := by omega
        simp [m_is_pipeline, c_MOST_JOBS, z1, c1', c8', isPipe, c8]
    · have c1' : ¬ (1 : Int) ≤ js.length := by omega
      simp [m_is_pipeline, c_MOST_JOBS, z1, c1', isPipe, c1]
  | _ => simp [m_is_pipeline, isPipe]
end PJ
namespace PJ
open PySem PySem.Spec J L2
local instance : J.Tb := ⟨[]⟩
def prS (p : Str × Str) : PyData := .tuple [.str p.1, .str p.2]
def holdsG (ps : List (Str × Str)) (fl : List Str) (st : Bool) : Nat → PyData → Bool
  | 0, _ => false
  | d + 1, .tuple (.str v :: r) => if v = Str.ofString "good" then !st && ps.all (fun p => p.2 == Str.ofString "good") else if v = Str.ofString "bad" then !st && ps.any (fun p => p.2 == Str.ofString "bad")
    else if v = Str.ofString "always" then true else if v = Str.ofString "stopped" then st
    else if v = Str.ofString "is" then (match r with
      | [.str n, .str s] => decide ((n, s) ∈ ps)
      | _ => false)
    else if v = Str.ofString "flag" then (match r with
      | [.str f] => decide (f ∈ fl)
      | _ => false)
    else if v = Str.ofString "not" then !holdsG ps fl st d (r.headD .none) else if v = Str.ofString "and" then r.all (holdsG ps fl st d) else r.any (holdsG ps fl st d)
  | _, _ => false
theorem stat_str {s : PyData} (h : s ∈ statusL) : ∃ x, s = .str x ∧ .str x ∈ statusL := by
  simp [statusL] at h
  rcases h with h | h | h | h <;> subst h <;> exact ⟨_, rfl, by simp [statusL]⟩
theorem stat_gd {x : Str} (h : PyData.str x ∈ statusL) (L n : Nat) : gdL L n (.str x) = true := by
  simp [statusL] at h
  have key : ∀ a : String, a.length ≤ 16777216 → gdL L n (.str (Str.ofString a)) = true := fun a ha => by
    have h1 : szOk (Str.ofString a).length = true := by rw [len_lit]; unfold szOk; simpa using ha
    cases n <;> (unfold gdL; rw [strOk_lit, h1]; rfl)
  rcases h with h | h | h | h <;> subst h <;> exact key _ (by decide)
structure SeenG (ps : List (Str × Str)) : Prop where
  len : ps.length ≤ 8
  nm : ∀ p ∈ ps, Nm p.1
  st : ∀ p ∈ ps, .str p.2 ∈ statusL
theorem SeenG.gd {ps : List (Str × Str)} (h : SeenG ps) : ∀ x ∈ ps.map prS, gdL 10 1 x = true := fun x hx => by
  obtain ⟨p, hp, rfl⟩ := List.mem_map.mp hx
  refine gd_tup' (by simp) fun y hy => ?_
  simp at hy
  rcases hy with hy | hy <;> subst hy
  · exact nm_gd (h.nm p hp) _ _
  · exact stat_gd (h.st p hp) _ _
theorem okD10 {n : Nat} {d : PyData} (h : gdL 10 n d = true) (hn : n ≤ 64 := by omega) : okD d = true := gd_okD (gdL_le (by omega) h) hn
theorem SeenG.okT {ps : List (Str × Str)} (h : SeenG ps) : okD (.tuple (ps.map prS)) = true := okD10 (n := 2) (gd_tup' (by rw [List.length_map]; have := h.len; omega) h.gd)
theorem SeenG.okL {ps : List (Str × Str)} (h : SeenG ps) : okD (.list (ps.map prS)) = true := okD10 (n := 2) (gd_lst' (by rw [List.length_map]; have := h.len; omega) h.gd)
def stIs (g : Str) : PyData → Bool
  | .tuple [_, .str s] => s == g
  | _ => false
theorem map_stIs (g : Str) (ps : List (Str × Str)) : (ps.map prS).map (fun d => PyData.bool (stIs g d)) = ps.map fun p => .bool (p.2 == g) := by
  rw [List.map_map]; rfl
theorem eqv_prS (p : Str × Str) (n s : Str) : PyData.eqv (prS p) (.tuple [.str n, .str s]) = decide ((n, s) = p) := by
  obtain ⟨a, b⟩ := p
  unfold prS
  rw [PyData.eqv, PyData.eqvAll, PyData.eqvAll, PyData.eqvAll, eqv_str, eqv_str]
  rw [Bool.eq_iff_iff]
  simp
  constructor
  · rintro ⟨rfl, rfl⟩; exact ⟨rfl, rfl⟩
  · rintro ⟨rfl, rfl⟩; exact ⟨rfl, rfl⟩
theorem any_prS (ps : List (Str × Str)) (n s : Str) : ((ps.map prS).any fun y => PyData.eqv y (.tuple [.str n, .str s])) = decide ((n, s) ∈ ps) := by
  rw [List.any_map, Bool.eq_iff_iff, List.any_eq_true, decide_eq_true_iff]
  constructor
  · rintro ⟨p, hp, h⟩
    have h : PyData.eqv (prS p) (.tuple [.str n, .str s]) = true := h
    rw [eqv_prS, decide_eq_true_iff] at h
    rw [h]; exact hp
  · intro h
    exact ⟨_, h, by show PyData.eqv (prS _) (.tuple [.str n, .str s]) = true; rw [eqv_prS, decide_eq_true_iff]⟩
theorem hasS_dec {ss : List Str} {w : Str} : hasS (ss.map .str) w = decide (w ∈ ss) := by
  rw [Bool.eq_iff_iff, hasS_mem, decide_eq_true_iff]
theorem in_T (w : Str) (ss : List Str) : inD (.str w) (.tuple (ss.map .str)) = some (decide (w ∈ ss)) := by
  have := notin_T w ss
  rw [hasS_dec] at this
  unfold notinD at this
  cases e : inD (.str w) (.tuple (ss.map .str)) with
  | none => rw [e] at this; cases this
  | some b => rw [e] at this; simp at this; rw [show b = decide (w ∈ ss) by revert this; cases b <;> simp]
theorem in_Ld (w : Str) (ss : List Str) : inD (.str w) (.list (ss.map .str)) = some (decide (w ∈ ss)) := by rw [in_L, hasS_dec]
theorem notin_Td (w : Str) (ss : List Str) : notinD (.str w) (.tuple (ss.map .str)) = some (!decide (w ∈ ss)) := by rw [notin_T, hasS_dec]
theorem notin_Ld (w : Str) (ss : List Str) : notinD (.str w) (.list (ss.map .str)) = some (!decide (w ∈ ss)) := by rw [notin_L, hasS_dec]
section
variable {N F : Str → Prop} {m : Nat}
theorem IsG.doesG (hN : ∀ x, N x → Nm x) (hm : m ≤ 4) {ps : List (Str × Str)} (hs : SeenG ps) (fl : List Str) (st : Bool) {d : Nat} {c : PyData} (h : IsG N F m d c) (hd : d ≤ 4) : ∀ j μ,
    m_does_hold (d + j) [.d c, .d (.tuple (ps.map prS)), .d (.tuple (fl.map .str)), .d (.bool st)] μ = some (.d (.bool (holdsG ps fl st d c)), μ) := by
  have zl2 : szOk ps.length = true := szOk_le (by have := hs.len; omega)
  have okT := hs.okT
  induction h with
  | leaf h =>
    intro j μ
    rename_i d c
    rw [show d + 1 + j = d + j + 1 by omega]
    simp [leafL] at h
    rcases h with h | h | h | h <;> subst h
    · simp [m_does_hold, holdsG, eqv_str, c_GOOD, zl2]
      cases st with
      | true => simp
      | false =>
        simp
        rw [lcGoF_map (fun d => .bool (stIs (Str.ofString "good") d)) rfl _ (fun x hx => by
          obtain ⟨p, hp, rfl⟩ := List.mem_map.mp hx
          exact ⟨_, rfl, rfl, by simp [prS, stIs]⟩), map_stIs]
        simp
    · simp [m_does_hold, holdsG, eqv_str, c_BAD, zl2]
      cases st with
      | true => simp
      | false =>
        simp
        rw [lcGoF_map (fun d => .bool (stIs (Str.ofString "bad") d)) rfl _ (fun x hx => by
          obtain ⟨p, hp, rfl⟩ := List.mem_map.mp hx
          exact ⟨_, rfl, rfl, by simp [prS, stIs]⟩), map_stIs]
        simp
    · simp [m_does_hold, holdsG, eqv_str]
    · simp [m_does_hold, holdsG, eqv_str]; cases st <;> rfl
  | flag h =>
    intro j μ
    rename_i d f
    rw [show d + 1 + j = d + j + 1 by omega]
    have := in_T f fl
    have q1 : inD (.str (Str.ofString "flag")) (.tuple [.str (Str.ofString "always"), .str (Str.ofString "stopped")]) = some false := by simp [eqv_str]
    simp [m_does_hold, holdsG, eqv_str, this, q1, -inD]
  | is h1 h2 =>
    intro j μ
    rename_i d n s
    rw [show d + 1 + j = d + j + 1 by omega]
    obtain ⟨x, rfl, hx⟩ := stat_str h2
    have ok2 : okD (.tuple [.str n, .str x]) = true := okD10 (n := 1) (gd_tup' (by simp) fun y hy => by
      simp at hy
      rcases hy with hy | hy <;> subst hy
      · exact nm_gd (hN _ h1) _ _
      · exact stat_gd hx _ _)
    have e : inD (.tuple [.str n, .str x]) (.tuple (ps.map prS)) = some (decide ((n, x) ∈ ps)) := by
      show (if _ then _ else _) = _
      rw [if_pos (.inr (by rw [ok2, okT]; rfl)), any_prS]
    have q1 : inD (.str (Str.ofString "is")) (.tuple [.str (Str.ofString "always"), .str (Str.ofString "stopped")]) = some false := by simp [eqv_str]
    simp [m_does_hold, holdsG, eqv_str, e, q1, -inD]
  | not h ih =>
    intro j μ
    rename_i d c
    rw [show d + 1 + j = d + j + 1 by omega]
    have ih := ih (by omega) j μ
    simp [m_does_hold, holdsG, eqv_str, ih]
  | many h1 h2 h3 ih =>
    intro j μ
    rename_i d v cs
    rw [show d + 1 + j = d + j + 1 by omega]
    have zc : szOk cs.length = true := szOk_le (by omega)
    simp at h1
    have go : ∀ (v : Str) (a b c : Option SV), lcGoF (.n 8) yesF (clF (m_does_hold (d + j)) (consF (vF 8) (consF (vF 1) (consF (vF 2) (consF (vF 3) nilF))))) none
        [some (.d (.tuple (.str v :: cs))), some (.d (.tuple (ps.map prS))), some (.d (.tuple (fl.map .str))), some (.d (.bool st)), some (.d (.str v)), none, none, none, none] cs μ = some (cs.map fun x => .bool (holdsG ps fl st d x), μ) := fun v a b c =>
      lcGoF_map (fun x => .bool (holdsG ps fl st d x)) rfl _ fun x hx => ⟨_, rfl, rfl, by
        have := ih x hx (by omega) j μ
        simp [this]⟩
    rcases h1 with h1 | h1 <;> subst h1 <;> simp [m_does_hold, holdsG, eqv_str, zc, go _ none none none]
theorem IsG.lawholdsG (hN : ∀ x, N x → Nm x) (hm : m ≤ 4) {ps : List (Str × Str)} (hs : SeenG ps) (fl : List Str) (st : Bool) {d : Nat} {c : PyData} (h : IsG N F m d c) (hd : d ≤ 4) : ∀ j μ,
    m__law_holds (d + j) [.d c, .d (.list (ps.map prS)), .d (.tuple (fl.map .str)), .d (.bool st)] μ = some (.d (.bool (holdsG ps fl st d c)), μ) := by
  have zl2 : szOk ps.length = true := szOk_le (by have := hs.len; omega)
  have okL := hs.okL
  induction h with
  | leaf h =>
    intro j μ
    rename_i d c
    rw [show d + 1 + j = d + j + 1 by omega]
    simp [leafL] at h
    have okf : ∀ p : PyData → Bool, okD (.list (((ps.map prS).filter p).map fun _ => PyData.int 1)) = true := fun p => okD10 (n := 1) (gd_lst' (by
      rw [List.length_map]; exact Nat.le_trans (List.length_filter_le _ _) (by rw [List.length_map]; have := hs.len; omega)) fun x hx => by
        obtain ⟨y, _, rfl⟩ := List.mem_map.mp hx
        rfl)
    rcases h with h | h | h | h <;> subst h
    · simp [m__law_holds, holdsG, eqv_str, zl2]
      cases st with
      | true => simp
      | false =>
        simp
        rw [lcGoF_filter (fun d => !stIs (Str.ofString "good") d) (fun _ => .int 1) rfl _ (fun x hx => by
          obtain ⟨p, hp, rfl⟩ := List.mem_map.mp hx
          exact ⟨_, rfl, by simp [prS, stIs], fun _ => rfl⟩)]
        simp only [bnd_some, SO.data, Option.bind_some, rd]
        rw [eqD_nilL (okf _), List.isEmpty_map, filter_nil, List.all_map]
        simp [stIs, prS, Function.comp_def]
    · simp [m__law_holds, holdsG, eqv_str, zl2]
      cases st with
      | true => simp
      | false =>
        simp
        rw [lcGoF_filter (fun d => stIs (Str.ofString "bad") d) (fun _ => .int 1) rfl _ (fun x hx => by
          obtain ⟨p, hp, rfl⟩ := List.mem_map.mp hx
          exact ⟨_, rfl, by simp [prS, stIs], fun _ => rfl⟩)]
        simp only [bnd_some, SO.data, Option.bind_some, rd]
        rw [neD_nilL (okf _), List.isEmpty_map, filter_nil, List.all_map]
        simp [stIs, prS, Function.comp_def]
        rw [Bool.eq_iff_iff]; simp
    · simp [m__law_holds, holdsG, eqv_str]
    · simp [m__law_holds, holdsG, eqv_str]
  | flag h =>
    intro j μ
    rename_i d f
    rw [show d + 1 + j = d + j + 1 by omega]
    have := in_T f fl
    simp [m__law_holds, holdsG, eqv_str, this, -inD]
  | is h1 h2 =>
    intro j μ
    rename_i d n s
    rw [show d + 1 + j = d + j + 1 by omega]
    obtain ⟨x, rfl, hx⟩ := stat_str h2
    have ok2 : okD (.tuple [.str n, .str x]) = true := okD10 (n := 1) (gd_tup' (by simp) fun y hy => by
      simp at hy
      rcases hy with hy | hy <;> subst hy
      · exact nm_gd (hN _ h1) _ _
      · exact stat_gd hx _ _)
    have e : inD (.tuple [.str n, .str x]) (.list (ps.map prS)) = some (decide ((n, x) ∈ ps)) := by
      show (if _ then _ else _) = _
      rw [if_pos (.inr (by rw [ok2, okL]; rfl)), any_prS]
    simp [m__law_holds, holdsG, eqv_str, e, -inD]
  | not h ih =>
    intro j μ
    rename_i d c
    rw [show d + 1 + j = d + j + 1 by omega]
    have ih := ih (by omega) j μ
    simp [m__law_holds, holdsG, eqv_str, ih]
  | many h1 h2 h3 ih =>
    intro j μ
    rename_i d v cs
    rw [show d + 1 + j = d + j + 1 by omega]
    have zc : szOk cs.length = true := szOk_le (by omega)
    simp at h1
    have go : ∀ (v : Str), lcGoF (.n 9) yesF (clF (m__law_holds (d + j)) (consF (vF 9) (consF (vF 1) (consF (vF 2) (consF (vF 3) nilF))))) none
        [some (.d (.tuple (.str v :: cs))), some (.d (.list (ps.map prS))), some (.d (.tuple (fl.map .str))), some (.d (.bool st)), some (.d (.str v)), some (.d (.tuple cs)), none, none, none, none] cs μ = some (cs.map fun x => .bool (holdsG ps fl st d x), μ) := fun v =>
      lcGoF_map (fun x => .bool (holdsG ps fl st d x)) rfl _ fun x hx => ⟨_, rfl, rfl, by
        have := ih x hx (by omega) j μ
        simp [this]⟩
    have ev : ∀ a b : Bool, PyData.eqv (.bool a) (.bool b) = (a == b) := fun a b => by cases a <;> cases b <;> rfl
    have bf : (List.map (fun x => PyData.bool (holdsG ps fl st d x)) cs).all flatD = true := by rw [List.all_map]; simp
    rcases h1 with h1 | h1 <;> subst h1
    · simp [m__law_holds, holdsG, eqv_str, zc, go, Function.comp_def]
      rw [Bool.eq_iff_iff]; simp [ev]
    · simp [m__law_holds, holdsG, eqv_str, zc, go, Function.comp_def, ev]
end
end PJ
namespace PJ
open PySem PySem.Spec J L2
local instance : J.Tb := ⟨[]⟩
structure Jb where
  nm : Str
  needs : List Str
  cond : PyData
  reads : List Str
  soft : Bool
def Jb.d (j : Jb) : PyData := .tuple [.str j.nm, .tuple (j.needs.map .str), j.cond, .tuple (j.reads.map .str), .bool j.soft]
def pD (p : List Jb) : PyData := .tuple (p.map Jb.d)
structure JbOk (ks : List Str) (j : Jb) : Prop where
  nm : Nm j.nm
  new : j.nm ∉ ks
  nnm : ∀ x ∈ j.needs, Nm x
  nst : StrictS j.needs
  nlen : j.needs.length ≤ 4
  nin : ∀ x ∈ j.needs, x ∈ ks
  cond : IsG (· ∈ j.needs) Nm 4 4 j.cond
  rnm : ∀ x ∈ j.reads, Nm x
  rst : StrictS j.reads
  rlen : j.reads.length ≤ 4
def PipeOk : List Str → List Jb → Prop
  | _, [] => True
  | ks, j :: r => JbOk ks j ∧ PipeOk (ks ++ [j.nm]) r
def namesP (p : List Jb) : List Str := p.map Jb.nm
def flagsP (p : List Jb) : List Str := p.flatMap fun j => wordsOf (Str.ofString "flag") 4 j.cond
theorem flagsP_of (p : List Jb) : flagsOf (p.map Jb.d) = flagsP p := by
  unfold flagsOf flagsP
  rw [List.flatMap_map]; rfl
theorem IsG.cond {N F : Str → Prop} {m : Nat} (hN : ∀ x, N x → Nm x) (hF : ∀ x, F x → Nm x) (hm : m ≤ 4) {d : Nat} {c : PyData} (h : IsG N F m d c) : ∀ e, d ≤ e → isCond e c = true := by
  induction h with
  | leaf h =>
    intro e he
    obtain ⟨e, rfl⟩ : ∃ f, e = f + 1 := ⟨e - 1, by omega⟩
    simp [leafL] at h
    rcases h with h | h | h | h <;> subst h <;> simp [isCond, isCond.statP]
  | flag h =>
    intro e he
    obtain ⟨e, rfl⟩ : ∃ f, e = f + 1 := ⟨e - 1, by omega⟩
    simp [isCond, isCond.statP]
    exact hF _ h
  | is h1 h2 =>
    intro e he
    obtain ⟨e, rfl⟩ : ∃ f, e = f + 1 := ⟨e - 1, by omega⟩
    simp [isCond, isCond.statP]
    refine ⟨hN _ h1, ?_⟩
    simp [statusL] at h2
    rcases h2 with h | h | h | h <;> subst h <;> simp [isStatus, statL, eqv_str]
  | not h ih =>
    intro e he
    obtain ⟨e, rfl⟩ : ∃ f, e = f + 1 := ⟨e - 1, by omega⟩
    simp [isCond, isCond.statP]
    exact ih e (by omega)
  | many h1 h2 h3 ih =>
    intro e he
    obtain ⟨e, rfl⟩ : ∃ f, e = f + 1 := ⟨e - 1, by omega⟩
    simp at h1
    rcases h1 with h1 | h1 <;> subst h1 <;> simp [isCond, isCond.statP] <;> exact ⟨by omega, fun x hx => ih x hx e (by omega)⟩
theorem IsG.mono {N F N' F' : Str → Prop} {m m' : Nat} (hN : ∀ x, N x → N' x) (hF : ∀ x, F x → F' x) (hm : m ≤ m') {d : Nat} {c : PyData} (h : IsG N F m d c) : ∀ e, d ≤ e → IsG N' F' m' e c := by
  induction h with
  | leaf h =>
    intro e he
    obtain ⟨e, rfl⟩ : ∃ f, e = f + 1 := ⟨e - 1, by omega⟩
    exact .leaf h
  | flag h =>
    intro e he
    obtain ⟨e, rfl⟩ : ∃ f, e = f + 1 := ⟨e - 1, by omega⟩
    exact .flag (hF _ h)
  | is h1 h2 =>
    intro e he
    obtain ⟨e, rfl⟩ : ∃ f, e = f + 1 := ⟨e - 1, by omega⟩
    exact .is (hN _ h1) h2
  | not h ih =>
    intro e he
    obtain ⟨e, rfl⟩ : ∃ f, e = f + 1 := ⟨e - 1, by omega⟩
    exact .not (ih e (by omega))
  | many h1 h2 h3 ih =>
    intro e he
    obtain ⟨e, rfl⟩ : ∃ f, e = f + 1 := ⟨e - 1, by omega⟩
    exact .many h1 (by omega) fun x hx => ih x hx e (by omega)
theorem wordsOf_up {N F : Str → Prop} {m : Nat} {w : Str} {d : Nat} {c : PyData} (h : IsG N F m d c) : ∀ e, d ≤ e → wordsOf w e c = wordsOf w d c := by
  induction h with
  | leaf h =>
    intro e he
    obtain ⟨e, rfl⟩ : ∃ f, e = f + 1 := ⟨e - 1, by omega⟩
    simp [leafL] at h
    rcases h with h | h | h | h <;> subst h <;> simp [wordsOf]
  | flag h =>
    intro e he
    obtain ⟨e, rfl⟩ : ∃ f, e = f + 1 := ⟨e - 1, by omega⟩
    simp [wordsOf]
  | is h1 h2 =>
    intro e he
    obtain ⟨e, rfl⟩ : ∃ f, e = f + 1 := ⟨e - 1, by omega⟩
    simp [wordsOf]
  | not h ih =>
    intro e he
    obtain ⟨e, rfl⟩ : ∃ f, e = f + 1 := ⟨e - 1, by omega⟩
    have := ih e (by omega)
    simp [wordsOf, this]
  | many h1 h2 h3 ih =>
    intro e he
    rename_i d w' cs
    obtain ⟨e, rfl⟩ : ∃ f, e = f + 1 := ⟨e - 1, by omega⟩
    have hc : cs.flatMap (wordsOf w e) = cs.flatMap (wordsOf w d) := by
      have : ∀ c ∈ cs, wordsOf w e c = wordsOf w d c := fun c hc => ih c hc e (by omega)
      clear h1 h2 h3 ih
      induction cs with
      | nil => rfl
      | cons x r ihc =>
        rw [List.flatMap_cons, List.flatMap_cons, this x List.mem_cons_self, ihc fun y hy => this y (List.mem_cons_of_mem _ hy)]
    simp at h1
    rcases h1 with h1 | h1 <;> subst h1 <;> simp [wordsOf, hc]
theorem areN_of {ss : List Str} (h : ∀ s ∈ ss, Nm s) (hs : StrictS ss) {m : Nat} (hl : ss.length ≤ m) : areN m (.tuple (ss.map .str)) = true := by
  unfold areN
  rw [Bool.and_eq_true, Bool.and_eq_true, decide_eq_true_iff, asc_strs, adj_strict, List.length_map, List.all_map, List.all_eq_true]
  exact ⟨hl, fun x hx => h x hx, hs⟩
theorem gd_anyL (L n : Nat) (a : String) (h : a.length ≤ 16777216 := by decide) : gdL L n (.str (Str.ofString a)) = true := by
  have h1 : szOk (Str.ofString a).length = true := by
    rw [len_lit]; unfold szOk; simpa using h
  cases n <;> (unfold gdL; rw [strOk_lit, h1]; rfl)
theorem IsG.gd {N F : Str → Prop} {m : Nat} (hN : ∀ x, N x → Nm x) (hF : ∀ x, F x → Nm x) (hm : m ≤ 4) {d : Nat} {c : PyData} (h : IsG N F m d c) : gdL 10 d c = true := by
  induction h with
  | leaf h =>
    simp [leafL] at h
    rcases h with h | h | h | h <;> subst h <;> exact gd_tup' (by decide) fun x hx => by
      rw [List.mem_singleton] at hx; subst hx; exact gd_anyL _ _ _
  | flag h =>
    refine gd_tup' (by simp) fun x hx => ?_
    simp at hx
    rcases hx with hx | hx <;> subst hx
    · exact gd_anyL _ _ _
    · exact nm_gd (hF _ h) _ _
  | is h1 h2 =>
    refine gd_tup' (by simp) fun x hx => ?_
    simp at hx
    rcases hx with hx | hx | hx <;> subst hx
    · exact gd_anyL _ _ _
    · exact nm_gd (hN _ h1) _ _
    · simp [statusL] at h2
      rcases h2 with h | h | h | h <;> subst h <;> exact gd_anyL _ _ _
  | not h ih =>
    refine gd_tup' (by simp) fun x hx => ?_
    simp at hx
    rcases hx with hx | hx <;> subst hx
    · exact gd_anyL _ _ _
    · exact ih
  | many h1 h2 h3 ih =>
    refine gd_tup' (by simp; omega) fun x hx => ?_
    rcases List.mem_cons.mp hx with hx | hx
    · subst hx; simp at h1; rcases h1 with h1 | h1 <;> subst h1 <;> exact gd_anyL _ _ _
    · exact ih x hx
section
variable {ks : List Str} {j : Jb} {p : List Jb}
theorem JbOk.job (h : JbOk ks j) : isJob j.d = true := by
  unfold Jb.d
  simp only [isJob, Bool.and_eq_true]
  refine ⟨h.nm, areN_of h.nnm h.nst h.nlen, h.cond.cond h.nnm (fun _ h => h) (by omega) 4 (by omega), ?_, areN_of h.rnm h.rst h.rlen, rfl⟩
  rw [List.all_eq_true]
  intro w hw
  exact hasS_mem.mpr (h.cond.is_in w hw)
theorem JbOk.jin (h : JbOk ks j) : jobIn ks j.d = true := by
  unfold Jb.d
  simp only [jobIn, Bool.and_eq_true, Bool.not_eq_true', List.all_map, List.all_eq_true]
  refine ⟨?_, fun x hx => hasS_mem.mpr (h.nin x hx)⟩
  cases e : hasS (ks.map .str) j.nm with
  | false => rfl
  | true => exact (h.new (hasS_mem.mp e)).elim
theorem JbOk.gd (h : JbOk ks j) : gdL 10 5 j.d = true := by
  refine gd_tup' (by simp) fun x hx => ?_
  simp at hx
  rcases hx with hx | hx | hx | hx | hx <;> subst hx
  · exact nm_gd h.nm _ _
  · exact gd_tup' (by rw [List.length_map]; have := h.nlen; omega) fun y hy => by
      obtain ⟨z, hz, rfl⟩ := List.mem_map.mp hy
      exact nm_gd (h.nnm z hz) _ _
  · exact h.cond.gd h.nnm (fun _ h => h) (by omega)
  · exact gd_tup' (by rw [List.length_map]; have := h.rlen; omega) fun y hy => by
      obtain ⟨z, hz, rfl⟩ := List.mem_map.mp hy
      exact nm_gd (h.rnm z hz) _ _
  · unfold gdL; rfl
theorem PipeOk.go : ∀ {p : List Jb} {ks : List Str}, PipeOk ks p → pipeGo ks (p.map Jb.d) = true
  | [], _, _ => rfl
  | j :: r, ks, ⟨h1, h2⟩ => by
    rw [List.map_cons, pipeGo, h1.job, h1.jin]
    exact PipeOk.go h2
theorem PipeOk.all : ∀ {p : List Jb} {ks : List Str}, PipeOk ks p → ∀ j ∈ p, ∃ ks', JbOk ks' j
  | [], _, _, j, hj => by simp at hj
  | _ :: r, ks, ⟨h1, h2⟩, j, hj => by
    rcases List.mem_cons.mp hj with e | hj
    · subst e; exact ⟨_, h1⟩
    · exact PipeOk.all h2 j hj
theorem PipeOk.nd : ∀ {p : List Jb} {ks : List Str}, PipeOk ks p → ks.Nodup → (ks ++ namesP p).Nodup
  | [], _, _, h => by simpa [namesP] using h
  | j :: r, ks, ⟨h1, h2⟩, h => by
    have := PipeOk.nd h2 (List.nodup_append.mpr ⟨h, by simp, fun a ha b hb => by
      rw [List.mem_singleton] at hb
      subst hb
      exact fun e => h1.new (e ▸ ha)⟩)
    simpa [namesP] using this
theorem PipeOk.nm (h : PipeOk ks p) : ∀ x ∈ namesP p, Nm x := fun x hx => by
  obtain ⟨j, hj, rfl⟩ := List.mem_map.mp hx
  obtain ⟨ks', h'⟩ := h.all j hj
  exact h'.nm
theorem PipeOk.fnm (h : PipeOk ks p) : ∀ x ∈ flagsP p, Nm x := fun x hx => by
  obtain ⟨j, hj, h2⟩ := List.mem_flatMap.mp hx
  obtain ⟨ks', h'⟩ := h.all j hj
  exact h'.cond.flag_in x h2
theorem PipeOk.gd (h : PipeOk ks p) (hl : p.length ≤ 10) : gdL 10 6 (pD p) = true := gd_tup' (by rw [List.length_map]; exact hl) fun x hx => by
  obtain ⟨j, hj, rfl⟩ := List.mem_map.mp hx
  obtain ⟨ks', h'⟩ := h.all j hj
  exact h'.gd
/-- a pipeline -/
structure Pipe (p : List Jb) : Prop where
  ok : PipeOk [] p
  one : 1 ≤ p.length
  most : p.length ≤ 8
  few : (sortSet (flagsP p)).length ≤ 3
theorem Pipe.is (h : Pipe p) : isPipe (pD p) = true := by
  simp only [isPipe, pD, Bool.and_eq_true, decide_eq_true_iff, flagsP_of, List.length_map]
  exact ⟨h.one, h.most, h.ok.go, h.few⟩
theorem Pipe.gd (h : Pipe p) : gdL 10 6 (pD p) = true := h.ok.gd (by have := h.most; omega)
theorem Pipe.ok_is (h : Pipe p) (μ : Mu) : m_is_pipeline [.d (pD p)] μ = some (.d (.bool true), μ) := by
  rw [is_pipeline_ok (k := 6) (pD p) μ (gdL_le (by omega) h.gd) (by omega), h.is]
theorem Pipe.need (h : Pipe p) (μ : Mu) : m_need_pipeline [.d (pD p)] μ = some (.d .none, μ) := by
  simp [m_need_pipeline, h.ok_is μ]
theorem PipeOk.jobs (h : PipeOk ks p) : ∀ v ∈ p.map Jb.d, isJob v = true := fun v hv => by
  obtain ⟨j, hj, rfl⟩ := List.mem_map.mp hv
  obtain ⟨ks', h'⟩ := h.all j hj
  exact h'.job
theorem Pipe.flags (h : Pipe p) (μ : Mu) : m_flags_of [.d (pD p)] μ = some (.d (.tuple ((sortSet (flagsP p)).map .str)), μ) := by
  rw [← flagsP_of]
  exact flags_of_ok h.ok.jobs (by rw [List.length_map]; exact h.most) μ
theorem Pipe.lawflags (h : Pipe p) (μ : Mu) : m__law_all_flags [.d (pD p)] μ = some (.d (.tuple ((sortSet (flagsP p)).map .str)), μ) := by
  rw [← flagsP_of]
  exact law_flags_of_ok h.ok.jobs (by rw [List.length_map]; exact h.most) μ
theorem Pipe.nd (h : Pipe p) : (namesP p).Nodup := by simpa using h.ok.nd List.nodup_nil
end
/-- names of all jobs -/
def nmOf : PyData → PyData
  | .tuple (x :: _) => x
  | _ => .none
theorem names_of_ok (p : List Jb) (hl : p.length ≤ 1000) (μ : Mu) : m_names_of [.d (pD p)] μ = some (.d (.tuple ((namesP p).map .str)), μ) := by
  have go : lcGoF (.n 1) yesF (ixF (vF 1) (cF (.int 0))) none [some (.d (pD p)), none] (p.map Jb.d) μ = some ((p.map Jb.d).map nmOf, μ) := lcGoF_map nmOf rfl _ fun x hx => by
    obtain ⟨j, _, rfl⟩ := List.mem_map.mp hx
    exact ⟨_, rfl, rfl, by simp [Jb.d, nmOf]⟩
  have z1 : szOk p.length = true := szOk_le (by omega)
  have z2 : ∀ f : Jb → PyData, szOk (p.map f).length = true := fun f => by rw [List.length_map]; exact z1
  have e : (p.map Jb.d).map nmOf = (namesP p).map .str := by
    rw [namesP, List.map_map, List.map_map]; rfl
  rw [e] at go
  simp [m_names_of, pD] at go ⊢
  simp [go, z1]
theorem law_names_ok (p : List Jb) (hl : p.length ≤ 1000) (μ : Mu) : m__law_names [.d (pD p)] μ = some (.d (.tuple ((namesP p).map .str)), μ) := names_of_ok p hl μ
end PJ
namespace PJ
open PySem PySem.Spec J L2
local instance : J.Tb := ⟨[]⟩
/-- a dict from names to statuses -/
def dcS (k : List (Str × Str)) : List (Key × PyData) := k.map fun p => (.inr p.1, .str p.2)
def dD (k : List (Str × Str)) : PyData := (SO.dct (dcS k)).data
def lkS (k : List (Str × Str)) (n : Str) : Str := ((k.find? fun p => decide (p.1 = n)).map (·.2)).getD (Str.ofString "")
theorem lkS_cons (a b : Str) (k : List (Str × Str)) (n : Str) : lkS ((a, b) :: k) n = if a = n then b else lkS k n := by
  unfold lkS
  rw [List.find?_cons]
  by_cases c : a = n <;> simp [c]
theorem assoc_dcS {n : Str} : ∀ {k : List (Str × Str)}, n ∈ k.map Prod.fst → assocK (dcS k) (.inr n) = some (.str (lkS k n))
  | [], h => by simp at h
  | (a, b) :: k, h => by
    rw [lkS_cons]
    by_cases c : a = n
    · simp [assocK, dcS, List.find?_cons, c]
    · have h : n ∈ k.map Prod.fst := by
        simp at h
        rcases h with h | h
        · exact (c h.symm).elim
        · simpa using h
      have := assoc_dcS h
      rw [if_neg c]
      rw [← this]
      simp [assocK, dcS, List.find?_cons, c]
theorem assoc_none {n : Str} : ∀ {k : List (Str × Str)}, n ∉ k.map Prod.fst → assocK (dcS k) (.inr n) = none
  | [], h => rfl
  | (a, b) :: k, h => by
    have c : ¬ a = n := fun e => h (by simp [e])
    have := assoc_none (n := n) (k := k) fun x => h (by simp at x ⊢; exact .inr x)
    rw [← this]
    simp [assocK, dcS, List.find?_cons, c]
theorem put_dcS {n s : Str} {k : List (Str × Str)} (h : n ∉ k.map Prod.fst) : putD (dcS k) (.inr n) (.str s) = dcS (k ++ [(n, s)]) := by
  unfold putD
  rw [if_neg]
  · simp [dcS]
  · simp [dcS]
    intro a hab
    exact h (List.mem_map.mpr ⟨_, hab, rfl⟩)
@[simp] theorem dcAt_dD (μ : Mu) (k : List (Str × Str)) : dcAt μ (.d (dD k)) = some (dcS k) := by simp [dD]
theorem lkS_in {P : Str → Prop} {n : Str} : ∀ {k : List (Str × Str)}, n ∈ k.map Prod.fst → (∀ q ∈ k, P q.2) → P (lkS k n)
  | [], h, _ => by simp at h
  | (a, b) :: k, h, hp => by
    rw [lkS_cons]
    split
    · exact hp _ List.mem_cons_self
    · rename_i c
      refine lkS_in ?_ fun q hq => hp q (List.mem_cons_of_mem _ hq)
      simp at h
      rcases h with h | h
      · exact (c h.symm).elim
      · simpa using h
theorem lkS_app {n : Str} {b : List (Str × Str)} : ∀ {a : List (Str × Str)}, n ∈ a.map Prod.fst → lkS (a ++ b) n = lkS a n
  | [], h => by simp at h
  | (x, y) :: a, h => by
    rw [List.cons_append, lkS_cons, lkS_cons]
    split
    · rfl
    · rename_i c
      refine lkS_app ?_
      simp at h
      rcases h with h | h
      · exact (c h.symm).elim
      · simpa using h
theorem lkS_snoc {n s : Str} : ∀ {a : List (Str × Str)}, n ∉ a.map Prod.fst → lkS (a ++ [(n, s)]) n = s
  | [], h => by simp [lkS_cons]
  | (x, y) :: a, h => by
    rw [List.cons_append, lkS_cons, if_neg fun e => h (by simp [e])]
    exact lkS_snoc fun q => h (by simp at q ⊢; exact .inr q)
def good : Str := Str.ofString "good"
def bad : Str := Str.ofString "bad"
def passed : Str := Str.ofString "passed"
def stopped : Str := Str.ofString "stopped"
def seenOf (k : List (Str × Str)) (ns : List Str) : List (Str × Str) := ns.map fun n => (n, lkS k n)
def endS (bd : List Str) (j : Jb) : Str := if (decide (j.nm ∈ bd) && !j.soft) = true then bad else good
def stOf (fl bd : List Str) (k : List (Str × Str)) (j : Jb) : Str := if holdsG (seenOf k j.needs) fl false 4 j.cond = true then endS bd j else passed
def runP (fl bd : List Str) : List (Str × Str) → List Jb → List (Str × Str)
  | k, [] => k
  | k, j :: r => runP fl bd (k ++ [(j.nm, stOf fl bd k j)]) r
def knownP (p : List Jb) (fl bd : List Str) : List (Str × Str) := runP fl bd [] p
/-- known so far: names are names, statuses are statuses -/
structure KnOk (k : List (Str × Str)) : Prop where
  st : ∀ q ∈ k, .str q.2 ∈ statusL
theorem good_in : PyData.str good ∈ statusL := by simp [statusL, good]
theorem bad_in : PyData.str bad ∈ statusL := by simp [statusL, bad]
theorem passed_in : PyData.str passed ∈ statusL := by simp [statusL, passed]
theorem stopped_in : PyData.str stopped ∈ statusL := by simp [statusL, stopped]
theorem endS_in (bd : List Str) (j : Jb) : PyData.str (endS bd j) ∈ statusL := by
  unfold endS; split
  · exact bad_in
  · exact good_in
theorem stOf_in (fl bd : List Str) (k : List (Str × Str)) (j : Jb) : PyData.str (stOf fl bd k j) ∈ statusL := by
  unfold stOf; split
  · exact endS_in bd j
  · exact passed_in
theorem KnOk.snoc {k : List (Str × Str)} {n s : Str} (h : KnOk k) (hs : .str s ∈ statusL) : KnOk (k ++ [(n, s)]) := ⟨fun q hq => by
  rcases List.mem_append.mp hq with hq | hq
  · exact h.st q hq
  · rw [List.mem_singleton.mp hq]; exact hs⟩
theorem seenG_of {k : List (Str × Str)} (h : KnOk k) {ns : List Str} (hn : ∀ n ∈ ns, Nm n ∧ n ∈ k.map Prod.fst) (hl : ns.length ≤ 8) : SeenG (seenOf k ns) := by
  refine ⟨by simpa [seenOf] using hl, fun p hp => ?_, fun p hp => ?_⟩
  · obtain ⟨n, h1, rfl⟩ := List.mem_map.mp hp
    exact (hn n h1).1
  · obtain ⟨n, h1, rfl⟩ := List.mem_map.mp hp
    exact lkS_in (P := fun s => .str s ∈ statusL) (hn n h1).2 h.st
/-- the pair of a need and its status -/
def pairOf (k : List (Str × Str)) : PyData → PyData
  | .str n => prS (n, lkS k n)
  | _ => .none
theorem map_pairOf (k : List (Str × Str)) (ns : List Str) : (ns.map PyData.str).map (pairOf k) = (seenOf k ns).map prS := by
  rw [List.map_map, seenOf, List.map_map]; rfl
theorem seen_by_ok {k : List (Str × Str)} {ks : List Str} {j : Jb} (hj : JbOk ks j) {x : SV} {μ : Mu} (hx : dcAt μ x = some (dcS k)) (hk : ∀ n ∈ j.needs, n ∈ k.map Prod.fst) : m_seen_by [.d j.d, x] μ = some (.d (.tuple ((seenOf k j.needs).map prS)), μ) := by
  have go : lcGoF (.n 2) yesF (tupF (consF (vF 2) (consF (ixF (vF 1) (vF 2)) nilF))) none [some (.d j.d), some x, none] (j.needs.map .str) μ = some ((j.needs.map .str).map (pairOf k), μ) := lcGoF_map (pairOf k) rfl _ fun y hy => by
    obtain ⟨n, hn, rfl⟩ := List.mem_map.mp hy
    refine ⟨_, rfl, rfl, ?_⟩
    have := assoc_dcS (hk n hn)
    simp [hx, this, pairOf, prS, -dcAt]
  rw [map_pairOf] at go
  have z1 : szOk j.needs.length = true := szOk_le (by have := hj.nlen; omega)
  have z2 : (seenOf k j.needs).length = j.needs.length := by simp [seenOf]
  simp [m_seen_by, Jb.d] at go ⊢
  simp [go, z1, z2]
theorem ended_ok {j : Jb} {bd : List Str} {bv : PyData} (hb : ∀ w : Str, inD (.str w) bv = some (decide (w ∈ bd))) (μ : Mu) : m_ended_as [.d j.d, .d bv] μ = some (.d (.str (endS bd j)), μ) := by
  have := hb j.nm
  simp [m_ended_as, Jb.d, this, c_BAD, c_GOOD, -inD]
  unfold endS
  by_cases c : j.nm ∈ bd <;> cases e : j.soft <;> simp [c, good, bad]
theorem does_ok {k : List (Str × Str)} {ks : List Str} {j : Jb} (hj : JbOk ks j) (hk : KnOk k) (hn : ∀ n ∈ j.needs, n ∈ k.map Prod.fst) (fl : List Str) (st : Bool) (μ : Mu) :
    m_does_hold 20 [.d j.cond, .d (.tuple ((seenOf k j.needs).map prS)), .d (.tuple (fl.map .str)), .d (.bool st)] μ = some (.d (.bool (holdsG (seenOf k j.needs) fl st 4 j.cond)), μ) :=
  hj.cond.doesG hj.nnm (by omega) (seenG_of hk (fun n h => ⟨hj.nnm n h, hn n h⟩) (by have := hj.nlen; omega)) fl st (by omega) 16 μ
theorem lawdoes_ok {k : List (Str × Str)} {ks : List Str} {j : Jb} (hj : JbOk ks j) (hk : KnOk k) (hn : ∀ n ∈ j.needs, n ∈ k.map Prod.fst) (fl : List Str) (st : Bool) (μ : Mu) :
    m__law_holds 20 [.d j.cond, .d (.list ((seenOf k j.needs).map prS)), .d (.tuple (fl.map .str)), .d (.bool st)] μ = some (.d (.bool (holdsG (seenOf k j.needs) fl st 4 j.cond)), μ) :=
  hj.cond.lawholdsG hj.nnm (by omega) (seenG_of hk (fun n h => ⟨hj.nnm n h, hn n h⟩) (by have := hj.nlen; omega)) fl st (by omega) 16 μ
noncomputable abbrev bodyK : FS := (ifF (bF (clF (m_does_hold 20) (consF (ixF (vF 4) (cF (.int 2))) (consF (clF m_seen_by (consF (vF 4) (consF (vF 3) nilF))) (consF (vF 1) (consF (cF (.bool false)) nilF)))))) (sxF (clF m_ended_as (consF (vF 4) (consF (vF 2) nilF))) (vF 3) (ixF (vF 4) (cF (.int 0)))) (sxF (cF c_PASSED) (vF 3) (ixF (vF 4) (cF (.int 0)))))
theorem bodyK_ok {k : List (Str × Str)} {j : Jb} (hj : JbOk (k.map Prod.fst) j) (hk : KnOk k) (hl : k.length < 1000) {fl bd : List Str} {bv P : PyData} (hb : ∀ w : Str, inD (.str w) bv = some (decide (w ∈ bd))) (μ : Mu) :
    bodyK [some (.d P), some (.d (.tuple (fl.map .str))), some (.d bv), some (.r μ.length), some (.d j.d)] (μ ++ [.dct (dcS k)]) =
      some (.nx [some (.d P), some (.d (.tuple (fl.map .str))), some (.d bv), some (.r μ.length), some (.d j.d)] (μ ++ [.dct (dcS (k ++ [(j.nm, stOf fl bd k j)]))])) := by
  have e1 := seen_by_ok (k := k) (x := .r μ.length) (μ := μ ++ [.dct (dcS k)]) hj (by simp) hj.nin
  have e2 := does_ok hj hk hj.nin fl false (μ ++ [.dct (dcS k)])
  have e3 := ended_ok (j := j) hb (μ ++ [.dct (dcS k)])
  have e4 : ixD (μ ++ [.dct (dcS k)]) (.d j.d) (.d (.int 2)) = some j.cond := by simp [Jb.d]
  have e5 : ixD (μ ++ [.dct (dcS k)]) (.d j.d) (.d (.int 0)) = some (.str j.nm) := by simp [Jb.d]
  have hl2 : (dcS k).length < 16777216 := by simp [dcS]; omega
  have e6 : ∀ s, putD (dcS k) (.inr j.nm) (.str s) = dcS (k ++ [(j.nm, s)]) := fun s => put_dcS hj.new
  simp [bodyK, e1, e2, e3, e4, e5, J.keyOf, hl2, e6, -ixD]
  unfold stOf
  cases holdsG (seenOf k j.needs) fl false 4 j.cond <;> simp [passed, c_PASSED, e6]
theorem known_loop {fl bd : List Str} {bv P : PyData} (hb : ∀ w : Str, inD (.str w) bv = some (decide (w ∈ bd))) (μ : Mu) : ∀ (p : List Jb) (k : List (Str × Str)) (z : Option SV), PipeOk (k.map Prod.fst) p → KnOk k → k.length + p.length < 1000 →
    ∃ z', foGo (.n 4) bodyK none (p.map Jb.d) [some (.d P), some (.d (.tuple (fl.map .str))), some (.d bv), some (.r μ.length), z] (μ ++ [.dct (dcS k)]) =
      some (.nx [some (.d P), some (.d (.tuple (fl.map .str))), some (.d bv), some (.r μ.length), z'] (μ ++ [.dct (dcS (runP fl bd k p))])) := by
  intro p
  induction p with
  | nil => exact fun k z _ _ _ => ⟨z, by simp [foGo, runP]⟩
  | cons j r ih =>
    intro k z ⟨h1, h2⟩ hk hl
    rw [List.length_cons] at hl
    have hb1 := bodyK_ok (P := P) (fl := fl) (bd := bd) h1 hk (by omega) hb μ
    have un : foGo (.n 4) bodyK none ((j :: r).map Jb.d) [some (.d P), some (.d (.tuple (fl.map .str))), some (.d bv), some (.r μ.length), z] (μ ++ [.dct (dcS k)]) =
        fnext (bodyK [some (.d P), some (.d (.tuple (fl.map .str))), some (.d bv), some (.r μ.length), some (.d j.d)] (μ ++ [.dct (dcS k)])) (foGo (.n 4) bodyK none (r.map Jb.d)) := by
      rw [List.map_cons, foGo]; rfl
    rw [un, hb1, fnext_nx]
    exact ih (k ++ [(j.nm, stOf fl bd k j)]) (some (.d j.d)) (by simpa using h2) (hk.snoc (stOf_in fl bd k j)) (by rw [List.length_append, List.length_singleton]; omega)
theorem known_in_ok {p : List Jb} (hp : PipeOk [] p) (hl : p.length < 1000) {fl bd : List Str} {bv : PyData} (hb : ∀ w : Str, inD (.str w) bv = some (decide (w ∈ bd))) (μ : Mu) :
    m_known_in [.d (pD p), .d (.tuple (fl.map .str)), .d bv] μ = some (.d (dD (knownP p fl bd)), μ) := by
  obtain ⟨z', e⟩ := known_loop (P := pD p) (fl := fl) hb μ p [] none hp ⟨by simp⟩ (by simpa using hl)
  simp only [bodyK] at e
  have e : _ := e
  rw [show dcS [] = [] from rfl] at e
  simp [m_known_in, pD] at e ⊢
  simp [e, fD, dD, knownP]
noncomputable abbrev bodyKL : FS := (sqF (stF 9 (frF (lcF (.n 10) (seqF (vF 5)) yesF (tupF (consF (vF 10) (consF (ixF (vF 3) (vF 10)) nilF))) [10]))) (ifF (notBF (bF (clF (m__law_holds 20) (consF (vF 6) (consF (vF 9) (consF (vF 1) (consF (cF (.bool false)) nilF))))))) (sxF (cF (.str "passed")) (vF 3) (vF 4)) (sxF (ifEF (andBF (cmBF inD (vF 4) (vF 2)) (notBF (bF (vF 8)))) (cF (.str "bad")) (cF (.str "good"))) (vF 3) (vF 4))))
theorem bodyKL_ok {k : List (Str × Str)} {j : Jb} (hj : JbOk (k.map Prod.fst) j) (hk : KnOk k) (hl : k.length < 1000) {fl bd : List Str} {bv P : PyData} (hb : ∀ w : Str, inD (.str w) bv = some (decide (w ∈ bd))) (μ : Mu) (z9 z10 : Option SV) :
    ∃ y9 y10, bodyKL [some (.d P), some (.d (.tuple (fl.map .str))), some (.d bv), some (.r μ.length), some (.d (.str j.nm)), some (.d (.tuple (j.needs.map .str))), some (.d j.cond), some (.d (.tuple (j.reads.map .str))), some (.d (.bool j.soft)), z9, z10] (μ ++ [.dct (dcS k)]) =
      some (.nx [some (.d P), some (.d (.tuple (fl.map .str))), some (.d bv), some (.r μ.length), some (.d (.str j.nm)), some (.d (.tuple (j.needs.map .str))), some (.d j.cond), some (.d (.tuple (j.reads.map .str))), some (.d (.bool j.soft)), y9, y10] (μ ++ [.dct (dcS (k ++ [(j.nm, stOf fl bd k j)]))])) := by
  have hd : dcAt (μ ++ [.dct (dcS k)]) (.r μ.length) = some (dcS k) := by simp
  have go : lcGoF (.n 10) yesF (tupF (consF (vF 10) (consF (ixF (vF 3) (vF 10)) nilF))) none [some (.d P), some (.d (.tuple (fl.map .str))), some (.d bv), some (.r μ.length), some (.d (.str j.nm)), some (.d (.tuple (j.needs.map .str))), some (.d j.cond), some (.d (.tuple (j.reads.map .str))), some (.d (.bool j.soft)), z9, none] (j.needs.map .str) (μ ++ [.dct (dcS k)]) = some ((j.needs.map .str).map (pairOf k), μ ++ [.dct (dcS k)]) := lcGoF_map (pairOf k) rfl _ fun y hy => by
    obtain ⟨n, hn, rfl⟩ := List.mem_map.mp hy
    refine ⟨_, rfl, rfl, ?_⟩
    have := assoc_dcS (hj.nin n hn)
    simp [hd, this, pairOf, prS]
  rw [map_pairOf] at go
  have e2 := lawdoes_ok hj hk hj.nin fl false (μ ++ [.dct (dcS k)])
  have hl2 : (dcS k).length < 16777216 := by simp [dcS]; omega
  have e6 : ∀ s, putD (dcS k) (.inr j.nm) (.str s) = dcS (k ++ [(j.nm, s)]) := fun s => put_dcS hj.new
  have z1 : szOk j.needs.length = true := szOk_le (by have := hj.nlen; omega)
  have hbn := hb j.nm
  refine ⟨some (.d (.list ((seenOf k j.needs).map prS))), z10, ?_⟩
  unfold stOf endS
  cases e : holdsG (seenOf k j.needs) fl false 4 j.cond <;> simp [bodyKL, go, e, e2, J.keyOf, hl2, e6, z1, hbn, passed, -inD]
  by_cases c : j.nm ∈ bd <;> cases e' : j.soft <;> simp [c, good, bad, e6, hl2]
theorem lawknown_loop {fl bd : List Str} {bv P : PyData} (hb : ∀ w : Str, inD (.str w) bv = some (decide (w ∈ bd))) (μ : Mu) : ∀ (p : List Jb) (k : List (Str × Str)) (z4 z5 z6 z7 z8 z9 z10 : Option SV), PipeOk (k.map Prod.fst) p → KnOk k → k.length + p.length < 1000 →
    ∃ y4 y5 y6 y7 y8 y9 y10, foGo (.t [4, 5, 6, 7, 8]) bodyKL none (p.map Jb.d) [some (.d P), some (.d (.tuple (fl.map .str))), some (.d bv), some (.r μ.length), z4, z5, z6, z7, z8, z9, z10] (μ ++ [.dct (dcS k)]) =
      some (.nx [some (.d P), some (.d (.tuple (fl.map .str))), some (.d bv), some (.r μ.length), y4, y5, y6, y7, y8, y9, y10] (μ ++ [.dct (dcS (runP fl bd k p))])) := by
  intro p
  induction p with
  | nil => exact fun k z4 z5 z6 z7 z8 z9 z10 _ _ _ => ⟨z4, z5, z6, z7, z8, z9, z10, by simp [foGo, runP]⟩
  | cons j r ih =>
    intro k z4 z5 z6 z7 z8 z9 z10 ⟨h1, h2⟩ hk hl
    rw [List.length_cons] at hl
    obtain ⟨y9, y10, hb1⟩ := bodyKL_ok (P := P) (fl := fl) (bd := bd) h1 hk (by omega) hb μ z9 z10
    have un : foGo (.t [4, 5, 6, 7, 8]) bodyKL none ((j :: r).map Jb.d) [some (.d P), some (.d (.tuple (fl.map .str))), some (.d bv), some (.r μ.length), z4, z5, z6, z7, z8, z9, z10] (μ ++ [.dct (dcS k)]) =
        fnext (bodyKL [some (.d P), some (.d (.tuple (fl.map .str))), some (.d bv), some (.r μ.length), some (.d (.str j.nm)), some (.d (.tuple (j.needs.map .str))), some (.d j.cond), some (.d (.tuple (j.reads.map .str))), some (.d (.bool j.soft)), z9, z10] (μ ++ [.dct (dcS k)])) (foGo (.t [4, 5, 6, 7, 8]) bodyKL none (r.map Jb.d)) := by
      rw [List.map_cons, foGo]; rfl
    rw [un, hb1, fnext_nx]
    exact ih (k ++ [(j.nm, stOf fl bd k j)]) _ _ _ _ _ _ _ (by simpa using h2) (hk.snoc (stOf_in fl bd k j)) (by rw [List.length_append, List.length_singleton]; omega)
theorem law_known_ok {p : List Jb} (hp : PipeOk [] p) (hl : p.length < 1000) {fl bd : List Str} {bv : PyData} (hb : ∀ w : Str, inD (.str w) bv = some (decide (w ∈ bd))) (μ : Mu) :
    m__law_known [.d (pD p), .d (.tuple (fl.map .str)), .d bv] μ = some (.d (dD (knownP p fl bd)), μ) := by
  obtain ⟨y4, y5, y6, y7, y8, y9, y10, e⟩ := lawknown_loop (P := pD p) (fl := fl) hb μ p [] none none none none none none none hp ⟨by simp⟩ (by simpa using hl)
  simp only [bodyKL] at e
  rw [show dcS [] = [] from rfl] at e
  simp [m__law_known, pD] at e ⊢
  simp [e, fD, dD, knownP]
end PJ
namespace PJ
open PySem PySem.Spec J L2
local instance : J.Tb := ⟨[]⟩
/-- the law's source: two small whole numbers -/
def okSrc (so : SO) : Prop := ∃ a b : Int, so = .lst [.int a, .int b] ∧ 0 ≤ a ∧ 0 ≤ b ∧ b < 2147483648
def S__law_draw : CT := fun svs μ Q => match svs with
  | [.r l, .d (.int n)] => (∃ so, μ[l]? = some so ∧ okSrc so) ∧ 0 < n ∧ n < 1000000 ∧ ∀ (r : Int) so, 0 ≤ r → r < n → okSrc so → Q (.d (.int r)) (μ.set l so)
  | _ => False
def S__law_choice : CT := fun svs μ Q => match svs with
  | [.r l, .d (.list xs)] => (∃ so, μ[l]? = some so ∧ okSrc so) ∧ 0 < xs.length ∧ xs.length < 1000000 ∧ ∀ x so, x ∈ xs → okSrc so → Q (.d x) (μ.set l so)
  | _ => False
def Fl (f : Str) : Prop := f = Str.ofString "fast" ∨ f = Str.ofString "full"
def Sc__law_condition (n : Nat) : CT := fun svs μ Q => match svs with
  | [.r l, .d (.tuple xs), .d (.int d)] => (∃ so, μ[l]? = some so ∧ okSrc so) ∧ ∃ ns : List Str, xs = ns.map .str ∧ (∀ x ∈ ns, Nm x) ∧ ns.length ≤ 4 ∧ (∃ e : Nat, d = e ∧ 0 < e ∧ e ≤ n + 1 ∧ ∀ c so, IsG (· ∈ ns) Fl 3 e c → okSrc so → Q (.d c) (μ.set l so))
  | _ => False
def S__law_condition : Nat → CT
  | 0 => fun _ _ _ => False
  | n + 1 => Sc__law_condition n
def readL : List Str := [Str.ofString "main", Str.ofString "rules", Str.ofString "tests"]
def eight : List Str := [Str.ofString "b", Str.ofString "a", Str.ofString "deploy", Str.ofString "c", Str.ofString "test", Str.ofString "build", Str.ofString "z", Str.ofString "lint"]
/-- a job that the law makes, the names ks known -/
structure DrawnJ (ks : List Str) (n : Str) (j : Jb) : Prop where
  ok : JbOk ks j
  nm : j.nm = n
  fl : ∀ f ∈ wordsOf (Str.ofString "flag") 4 j.cond, Fl f
  rd : ∀ x ∈ j.reads, x ∈ readL
def S__law_job : CT := fun svs μ Q => match svs with
  | [.r l, .d (.str n), .r k] => (∃ so, μ[l]? = some so ∧ okSrc so) ∧ l ≠ k ∧ Nm n ∧ ∃ ks : List Str, μ[k]? = some (.lst (ks.map .str)) ∧ n ∉ ks ∧ (∀ x ∈ ks, Nm x) ∧ ks.Nodup ∧ ks.length ≤ 8 ∧ ∀ j so, DrawnJ ks n j → okSrc so → Q (.d j.d) (μ.set l so)
  | _ => False
structure DrawnP (m : Int) (p : List Jb) : Prop where
  pipe : Pipe p
  len : (p.length : Int) ≤ m
  fl : ∀ f ∈ flagsP p, Fl f
  nm : ∀ x ∈ namesP p, x ∈ eight
  rd : ∀ j ∈ p, ∀ x ∈ j.reads, x ∈ readL
def S__law_pipeline : CT := fun svs μ Q => match svs with
  | [.r l, .d (.int m)] => (∃ so, μ[l]? = some so ∧ okSrc so) ∧ 0 < m ∧ m ≤ 8 ∧ ∀ p so, DrawnP m p → okSrc so → Q (.d (pD p)) (μ.set l so)
  | _ => False
def S__law_some : CT := fun svs μ Q => match svs with
  | [.r l, .d (.tuple xs)] => (∃ so, μ[l]? = some so ∧ okSrc so) ∧ ∃ ns : List Str, xs = ns.map .str ∧ ns.length < 64 ∧ ∀ as so, List.Sublist as (sortStr ns) → okSrc so → Q (.d (.tuple (as.map .str))) (μ.set l so)
  | [.r l, .d (.list xs)] => (∃ so, μ[l]? = some so ∧ okSrc so) ∧ ∃ ns : List Str, xs = ns.map .str ∧ ns.length < 64 ∧ ∀ as so, List.Sublist as (sortStr ns) → okSrc so → Q (.d (.tuple (as.map .str))) (μ.set l so)
  | _ => False
/-- a law: over the script -/
def S_law : CT := fun svs μ Q => match svs with
  | [.scr ns] => ns.length ≤ 63 ∧ μ = [] ∧ Q (.d (.bool true)) μ
  | _ => False
theorem l_law : ∀ svs μ Q, S_law svs μ Q → svs.length = 1 := fun svs μ Q h => by
  unfold S_law at h
  split at h
  · rfl
  · exact h.elim
theorem law_in (ns : List Int) (h : ns.length ≤ 63) (Q : SV → Mu → Prop) (q : Q (.d (.bool true)) []) : S_law [.scr ns] [] Q := ⟨h, rfl, q⟩
end PJ
namespace PJ
open PySem PySem.Spec J
noncomputable section
def T__law_draw : DTS := (seqS (ifS (cmB gtD (ixT (vT 0) (cT (.int 0))) (cT (.int 0))) (seqS (setS 2 (opT modD (ixT (vT 0) (cT (.int 0))) (vT 1)))
    (seqS (setixS (opT fdivD (ixT (vT 0) (cT (.int 0))) (vT 1)) (vT 0) (cT (.int 0)))
    (retS (vT 2)))) skipS)
    (seqS (setixS (opT modD (opT mulD (ixT (vT 0) (cT (.int 1))) (cT (.int 48271))) (cT (.int 2147483647))) (vT 0) (cT (.int 1)))
    (retS (opT modD (opT fdivD (opT modD (opT mulD (ixT (vT 0) (cT (.int 1))) (ixT (vT 0) (cT (.int 1)))) (cT (.int 2147483629))) (cT (.int 64))) (vT 1)))))
def T__law_choice : DTS := (retS (ixT (vT 1) (callF S__law_draw (consA (vT 0) (consA (callT lenD (consA (vT 1) nilA)) nilA)))))
def T__law_condition (n : Nat) : DTS := (seqS (setS 3 (callF S__law_draw (consA (vT 0) (consA (ifT (cmB gtD (vT 2) (cT (.int 1))) (cT (.int 9)) (cT (.int 5))) nilA))))
    (seqS (ifS (orB (cmB ltD (vT 3) (cT (.int 2))) (andB (cmB eqD (vT 3) (cT (.int 3))) (cmB eqD (vT 1) (tupT nilA)))) (retS (callF S__law_choice (consA (vT 0) (consA (frT (lstN (consA (tupT (consA (cT (.str "good")) nilA)) (consA (tupT (consA (cT (.str "good")) nilA)) (consA (tupT (consA (cT (.str "bad")) nilA)) (consA (tupT (consA (cT (.str "always")) nilA)) (consA (tupT (consA (cT (.str "stopped")) nilA)) nilA))))))) nilA)))) skipS)
    (seqS (ifS (cmB eqD (vT 3) (cT (.int 2))) (retS (tupT (consA (cT (.str "flag")) (consA (callF S__law_choice (consA (vT 0) (consA (frT (lstN (consA (cT (.str "fast")) (consA (cT (.str "full")) nilA)))) nilA))) nilA)))) skipS)
    (seqS (ifS (cmB inD (vT 3) (tupT (consA (cT (.int 3)) (consA (cT (.int 4)) nilA)))) (seqS (ifS (cmB eqD (vT 1) (tupT nilA)) (retS (tupT (consA (cT (.str "always")) nilA))) skipS)
    (seqS (setS 4 (callF S__law_choice (consA (vT 0) (consA (frT (lstN (consA (cT (.str "good")) (consA (cT (.str "bad")) (consA (cT (.str "bad")) (consA (cT (.str "passed")) (consA (cT (.str "stopped")) nilA))))))) nilA))))
    (retS (tupT (consA (cT (.str "is")) (consA (callF S__law_choice (consA (vT 0) (consA (frT (callN listN (consA (vT 1) nilA))) nilA))) (consA (vT 4) nilA))))))) skipS)
    (seqS (ifS (cmB eqD (vT 3) (cT (.int 5))) (retS (tupT (consA (cT (.str "not")) (consA (callF (S__law_condition n) (consA (vT 0) (consA (vT 1) (consA (opT subD (vT 2) (cT (.int 1))) nilA)))) nilA)))) skipS)
    (seqS (setS 5 (tupT nilA))
    (seqS (forS (.n 6) (rng1I (consA (callF S__law_choice (consA (vT 0) (consA (frT (lstN (consA (cT (.int 2)) (consA (cT (.int 2)) (consA (cT (.int 1)) (consA (cT (.int 3)) (consA (cT (.int 0)) nilA))))))) nilA))) nilA))
    (setS 5 (opT addD (vT 5) (tupT (consA (callF (S__law_condition n) (consA (vT 0) (consA (vT 1) (consA (opT subD (vT 2) (cT (.int 1))) nilA)))) nilA)))))
    (retS (opT addD (tupT (consA (callF S__law_choice (consA (vT 0) (consA (frT (lstN (consA (cT (.str "and")) (consA (cT (.str "or")) nilA)))) nilA))) nilA)) (vT 5))))))))))
def T__law_job : DTS := (seqS (setS 3 (callT tupD (consA (frT (callN sortN (consA (slT (frT (lcN (.n 6) (seqI (vT 2)) (cmB eqD (callF S__law_draw (consA (vT 0) (consA (cT (.int 2)) nilA))) (cT (.int 0))) (vT 6) [6])) noP (someP (cT (.int 4)))) nilA))) nilA)))
    (seqS (setS 4 (callF S__law_choice (consA (vT 0) (consA (frT (lstN (consA (cT (.int 1)) (consA (cT (.int 1)) (consA (cT (.int 2)) (consA (cT (.int 3)) (consA (cT (.int 4)) nilA))))))) nilA))))
    (seqS (setS 5 (callT tupD (consA (frT (lcN (.n 7) (seqI (tupT (consA (cT (.str "main")) (consA (cT (.str "rules")) (consA (cT (.str "tests")) nilA))))) (cmB eqD (callF S__law_draw (consA (vT 0) (consA (cT (.int 3)) nilA))) (cT (.int 0))) (vT 7) [7])) nilA)))
    (retS (tupT (consA (vT 1) (consA (vT 3) (consA (callF (S__law_condition 5) (consA (vT 0) (consA (vT 3) (consA (vT 4) nilA)))) (consA (vT 5) (consA (cmT eqD (callF S__law_draw (consA (vT 0) (consA (cT (.int 4)) nilA))) (cT (.int 0))) nilA))))))))))
def T__law_pipeline : DTS := (seqS (par3S 2 3 4 (consA (owT (lstN (consA (cT (.str "b")) (consA (cT (.str "a")) (consA (cT (.str "deploy")) (consA (cT (.str "c")) (consA (cT (.str "test")) (consA (cT (.str "build")) (consA (cT (.str "z")) (consA (cT (.str "lint")) nilA)))))))))) (consA (owT (lstN nilA)) (consA (tupT nilA) nilA))))
    (seqS (forS (.n 5) (rng1I (consA (opT addD (cT (.int 1)) (callF S__law_draw (consA (vT 0) (consA (vT 1) nilA)))) nilA))
    (seqS (setS 6 (popT (vT 2) (callF S__law_draw (consA (vT 0) (consA (callT lenD (consA (vT 2) nilA)) nilA)))))
    (seqS (setS 4 (opT addD (vT 4) (tupT (consA (callF S__law_job (consA (vT 0) (consA (vT 6) (consA (vT 3) nilA)))) nilA))))
    (exprS (appT (vT 3) (vT 6))))))
    (retS (vT 4))))
def T__law_some : DTS := (retS (callT tupD (consA (frT (lcN (.n 2) (seqI (frT (callN sortN (consA (vT 1) nilA)))) (cmB eqD (callF S__law_draw (consA (vT 0) (consA (cT (.int 2)) nilA))) (cT (.int 0))) (vT 2) [2])) nilA)))
end
end PJ
namespace J
open PySem PySem.Spec PyProof.Rows L2
variable [Tb]
section
variable {prog : Program} {w : World} {A : Around} {E : Value → Shared → Prop} {s : Shared}
theorem adjust_rev (n : Nat) : Builtin.Slice.sliceAdjust none none (-1) (n : Int) = ((n : Int) - 1, -1) := by
  unfold Builtin.Slice.sliceAdjust
  simp
theorem places_rev (n : Nat) : Builtin.Slice.slicePlaces ((n : Int) - 1) (-1) (-1) = n := by
  unfold Builtin.Slice.slicePlaces
  simp
  omega
theorem sliceApplied_rev {sl : Addr} {t : Tok} {n : Nat} {Q : Int × Int × Nat → Shared → Prop} (hs : s.heap.IsSliceOf sl .none .none (.int (-1) t)) (h : Q ((n : Int) - 1, -1, n) s) :
    wpAny (model prog w) A (Builtin.Slice.sliceApplied (.ref sl) (pure (n : Int))) Q E s := by
  obtain ⟨os, hos, hcs, hds⟩ := id hs
  unfold Builtin.Slice.sliceApplied Builtin.Slice.sliceFields
  refine wpAny_bind (wpAny_bind (wpAny_field hos hds (x := .none) rfl (wpAny_bind (wpAny_field hos hds (x := .none) rfl (wpAny_bind (wpAny_field hos hds (x := .int (-1) t) rfl (wpAny_pure ?_)))))))
  refine wpAny_bind (slicePart_int ?_)
  show wpAny _ _ (if ((-1 : Int) == 0) = true then _ else _) _ _ s
  rw [if_neg (by decide)]
  refine wpAny_bind (slicePart_none (wpAny_bind (slicePart_none (wpAny_bind (wpAny_pure ?_)))))
  show wpAny _ _ (match Builtin.Slice.sliceAdjust none none (-1) (n : Int) with | (lo, hi) => pure (lo, (-1 : Int), Builtin.Slice.slicePlaces lo hi (-1))) _ _ s
  rw [adjust_rev]
  show wpAny _ _ (pure ((n : Int) - 1, (-1 : Int), Builtin.Slice.slicePlaces ((n : Int) - 1) (-1) (-1))) _ _ s
  rw [places_rev]
  exact wpAny_pure h
theorem filterMap_some {α β : Type} (f : α → Option β) (g : α → β) : ∀ l : List α, (∀ m ∈ l, f m = some (g m)) → l.filterMap f = l.map g
  | [], _ => rfl
  | x :: r, h => by
    rw [List.filterMap_cons, h x List.mem_cons_self, List.map_cons]
    dsimp only
    rw [filterMap_some f g r fun m hm => h m (List.mem_cons_of_mem _ hm)]
theorem pick_rev (xs : Array Value) : ((List.range xs.size).filterMap fun (m : Nat) => xs[(((xs.size : Int) - 1) + (m : Int) * (-1)).toNat]?).toArray = xs.toList.reverse.toArray := by
  congr 1
  have e : ∀ m ∈ List.range xs.size, xs[(((xs.size : Int) - 1) + (m : Int) * (-1)).toNat]? = some ((xs.toList.reverse)[m]?.getD .none) := fun m hm => by
    have hm := List.mem_range.mp hm
    have h1 : (((xs.size : Int) - 1) + (m : Int) * (-1)).toNat = xs.size - 1 - m := by omega
    rw [h1, List.getElem?_reverse (by simpa using hm)]
    rw [Array.length_toList, ← Array.getElem?_toList]
    have h2 : xs.size - 1 - m < xs.toList.length := by rw [Array.length_toList]; omega
    rw [List.getElem?_eq_getElem h2]
    rfl
  have e2 : (List.range xs.size).filterMap (fun (m : Nat) => xs[(((xs.size : Int) - 1) + (m : Int) * (-1)).toNat]?) = (List.range xs.size).map fun m => (xs.toList.reverse)[m]?.getD .none := by
    exact filterMap_some _ _ _ e
  rw [e2]
  refine List.ext_getElem? fun i => ?_
  rw [List.getElem?_map]
  by_cases hi : i < xs.size
  · rw [List.getElem?_range hi]
    have h2 : i < xs.toList.reverse.length := by simpa using hi
    rw [Option.map_some, List.getElem?_eq_getElem h2]
    rfl
  · rw [List.getElem?_eq_none (by simpa using hi), List.getElem?_eq_none (by simpa using hi)]
    rfl
theorem getItem_tuple_rev {t sl : Addr} {items : Array Value} {u : Tok} {Q : Value → Shared → Prop} (ht : IsTup s.heap t items) (hs : s.heap.IsSliceOf sl .none .none (.int (-1) u))
    (h : Q (.ref s.heap.objs.size) { s with heap := s.heap.push { cls := .type "tuple", data := .seq items.toList.reverse.toArray } }) (hsz : items.size ≤ sizeLine) : wpAny (model prog w) A (getItem (.ref t) (.ref sl)) Q E s := by
  have htake : sizeOk (.seq items.toList.reverse.toArray) := by
    show items.toList.reverse.toArray.size ≤ sizeLine
    simpa using hsz
  obtain ⟨os, hos, hcs, hds⟩ := id hs
  have hTs : s.TypeIs (.ref sl) "slice" := ⟨os, hos, hcs⟩
  unfold getItem
  try with_reducible refine wpAny_holding ?_
  first | refine wpAny_bind (wpAny_pure ?_) | skip
  refine wpAny_bind (wpAny_sequenceKey ht.typeIs (by decide) ?_)
  refine wpAny_bind (wpAny_callSpecial?_slot (name := Str.ofString "__getitem__") ht.typeIs PyProof.Rows.slot_tuple_getitem
    (wpAny_call_entry PyProof.Rows.slot_tuple_getitem ht.typeIs entry_tuple_getitem ?_ (args_tuple_getitem _ _)))
  show wpAny _ _ (Builtin.Tuple.tupleItemsOf (.ref t) >>= _) _ _ s
  refine wpAny_bind (tupleItemsOf_ ht ?_)
  refine wpAny_bind (wpAny_typeOf hTs ?_)
  rw [if_pos (by decide)]
  refine wpAny_bind (sliceApplied_rev (n := items.size) hs ?_)
  have hno : ¬ ((((items.size : Int) - 1) == 0 && (-1 : Int) == 1 && items.size == items.size) = true) := by
    intro q
    rw [Bool.and_eq_true, Bool.and_eq_true] at q
    exact absurd q.1.2 (by decide)
  show wpAny _ _ (if (((items.size : Int) - 1) == 0 && (-1 : Int) == 1 && items.size == items.size) = true then _ else _) _ _ s
  rw [if_neg hno, pick_rev]
  first
    | exact wpAny_bind (m := Builtin.Tuple.tupleExact _) (wpAny_newObj_type (wpAny_pure ⟨_, rfl, wpAny_pure h⟩) htake)
    | exact wpAny_bind (m := Builtin.Tuple.tupleExact _) (wpAny_newObj_type (wpAny_bind (wpAny_pure (wpAny_pure ⟨_, rfl, wpAny_pure h⟩))) htake)
    | exact wpAny_bind (wpAny_bind (m := Builtin.Tuple.tupleExact _) (wpAny_newObj_type (wpAny_pure (wpAny_pure ⟨_, rfl, wpAny_pure h⟩)) htake))
    | exact wpAny_bind (wpAny_bind (m := Builtin.Tuple.tupleExact _) (wpAny_newObj_type (wpAny_pure ⟨_, rfl, wpAny_pure h⟩) htake))
end
section
variable {X : Cx} {a e : Expr} {te : TE} {pos p2 p3 p4 : Pos} {Ta : DT}
def tRev (K : PySem.W.Frag) (te : TE) : TE := fun σ H Q => te σ H fun x H1 => ∃ a xs, x = .ref a ∧ SqT K H1 a xs ∧ ∀ p, H1 p = none → Q (.ref p) (upd H1 p (.tup xs.reverse))
theorem vals_reverse : ∀ {xs : List V} {us : List Value}, Vals xs us → Vals xs.reverse us.reverse
  | _, _, .nil => .nil
  | _, _, .cons h t => by
    rw [List.reverse_cons, List.reverse_cons]
    exact (vals_reverse t).append (.cons h .nil)
theorem pe_rev {j : Nat} (he : PE X e te) : PE X (.Subscript e (.Slice none none (some (.UnaryOp .USub (.Constant (.int 1) j p4) p3)) p2) pos) (tRev X.K te) := by
  refine ⟨fun pins s σ H Q I h => ?_⟩
  refine Subscript_ (thn (he.run pins s σ H _ I h) fun v s1 ⟨x, H1, I1, r1, a, xs, ex, hx, q⟩ => ?_)
  subst ex
  cases (show v = Value.ref a from r1)
  refine wpAny_Slice ?_
  rw [evalPart_none]
  refine wpAny_pure (wpAny_pure ?_)
  rw [evalPart_some]
  have hn : PE X (.UnaryOp .USub (.Constant (.int 1) j p4) p3) _ := pe_un un_neg pe_int
  refine thn (hn.run pins s1 σ H1 (fun z H2 => z = .int (-1) ∧ H2 = H1) I1 ⟨1, rfl, rfl, rfl⟩) fun u s2 ⟨z, H2, I2, r2, ez, eH⟩ => ?_
  subst ez eH
  obtain ⟨t, rfl⟩ := r2
  have I4 : Inv X pins σ H2 { s2 with heap := s2.heap.push { cls := .type "slice", data := .fields #[.none, .none, .int (-1) t] } } := I2.kept (t' := s2.toks) fun b ob q => Heap.get?_push_of_some _ q
  obtain ⟨its, r, ht, hz⟩ := I4.tuple hx
  show wpAny (model X.prog X.w) X.A (subscriptTail e (.Slice none none (some (.UnaryOp .USub (.Constant (.int 1) j p4) p3)) p2) (.ref a) (.ref s2.heap.objs.size)) (EP X pins σ Q) X.xe { s2 with heap := s2.heap.push { cls := .type "slice", data := .fields #[.none, .none, .int (-1) t] } }
  refine tail_any (ops := [.ref a, .ref s2.heap.objs.size]) ht.typeIs PyProof.Rows.slot_tuple_getitem.lookup ?_ (by with_unfolding_all rfl)
  refine getItem_tuple_rev ht (Heap.IsSliceOf.new ..) ?_ (by rw [List.size_toArray, ← r.length]; exact hz)
  refine ⟨.ref _, _, I4.laid (t' := s2.toks) (o := .tup xs.reverse) (fun b ob q => Heap.get?_push_of_some _ q) (Nat.le_refl _) ?_, rfl, q _ (I4.hok.fresh (Nat.le_refl _))⟩
  exact ⟨by rw [List.length_reverse]; exact hz, _, vals_reverse r, IsTup.new _ _⟩
def revT (Ta : DT) : DT := fun ρ μ Q => Ta ρ μ fun x μ1 => match x with
  | .d (.tuple ds) => Q (.d (.tuple ds.reverse)) μ1
  | _ => False
theorem RpAll.reverse {K : PySem.W.Frag} {H : Hp} : ∀ {vs : List V} {ds : List PyData}, RpAll K H vs ds → RpAll K H vs.reverse ds.reverse
  | _, _, .nil => .nil
  | _, _, .cons h t => by
    rw [List.reverse_cons, List.reverse_cons]
    exact (RpAll.reverse t).append (.cons h .nil)
theorem de_rev {j : Nat} (ha : DE X a Ta) : DE X (.Subscript a (.Slice none none (some (.UnaryOp .USub (.Constant (.int 1) j p4) p3)) p2) pos) (revT Ta) :=
  ⟨(pe_rev ha.pe).weak fun σ H Q ⟨g, ρ, μ, QD, ok, en, t, q⟩ => ⟨g, ρ, μ, _, ok, en, t, fun g1 v sv μ1 H1 x1 ok1 r1 t1 => by
    cases sv with
    | d x =>
      cases x with
      | tuple ds =>
        have t1 : QD (.d (.tuple ds.reverse)) μ1 := t1
        cases r1 with
        | tup h1 h2 =>
          refine ⟨_, _, rfl, same_sqT ok1.ex h1, fun p hp => ?_⟩
          obtain ⟨k1, k2, k3, k4⟩ := ok1.grow (.tup _) hp
          obtain ⟨k5, k6⟩ := k1.frozen k2 hp k3 k4 upd_same
          exact q _ _ (.d (.tuple ds.reverse)) _ _ (x1.trans k6) k5 (Rp.tup (.inl (.inl upd_same)) (h2.reverse.mono k6.le.f)) t1
      | _ => exact t1.elim
    | _ => exact t1.elim⟩⟩
@[simp] def revF (a : FE) : FE := fun ρ μ => bnd (a ρ μ) fun x μ1 => match x with
  | .d (.tuple ds) => some (.d (.tuple ds.reverse), μ1)
  | _ => none
theorem im_rev {a : FE} (ha : Im Ta a) : Im (revT Ta) (revF a) := fun ρ μ Q q => ha.step q fun x μ1 q => by
  cases x with
  | d x => cases x <;> first | exact q | exact q.elim
  | _ => exact q.elim
@[simp] def refF (n : Str) (x : XS) : FE := fun ρ μ => (x ρ μ).bind fun p => if decide (p.1 = n) = true then some (.d (.bool true), p.2) else none
theorem im_ref (n : Str) {T : DTX} {x : XS} (hx : ImX T x) : Im (refT n T) (refF n x) := fun ρ μ Q q => hx ρ μ _ ((oP_bind q).imp fun p q => by
  obtain ⟨h, q⟩ := oP_if q
  exact ⟨of_decide_eq_true h, q⟩)
end
end J
namespace J
open PySem PySem.Spec PyProof.Rows L2
variable [Tb]
def sameIn (kb : List (Key × PyData)) : List (Key × PyData) → Bool
  | [] => true
  | p :: r => match assocK kb p.1 with
    | some d => PyData.eqv p.2 d && sameIn kb r
    | none => false
def okKv (ka : List (Key × PyData)) : Bool := ka.all fun p => okD p.2
def dictEq (ka kb : List (Key × PyData)) : Bool := ka.length == kb.length && sameIn kb ka
/-- ==, of two dicts, or of other data -/
def eqU : PyData → PyData → Option Bool
  | .dict da, .dict db => (unK da).bind fun ka => (unK db).bind fun kb => if (okKv ka && okKv kb) = true then some (dictEq ka kb) else none
  | d, e => eqD d e
def neU : PyData → PyData → Option Bool
  | .dict da, .dict db => (unK da).bind fun ka => (unK db).bind fun kb => if (okKv ka && okKv kb) = true then some (!dictEq ka kb) else none
  | d, e => neD d e
section
variable {X : Cx}
theorem assoc_ok : ∀ {kb : List (Key × PyData)} {k : Key} {d : PyData}, okKv kb = true → assocK kb k = some d → okD d = true
  | [], k, d, _, e => by simp [assocK] at e
  | (a, b) :: r, k, d, h, e => by
    unfold okKv at h
    rw [List.all_cons, Bool.and_eq_true] at h
    unfold assocK at e
    rw [List.find?_cons] at e
    by_cases c : a = k
    · simp [c] at e; subst e; exact h.1
    · simp [c] at e
      exact assoc_ok (kb := r) (k := k) h.2 (by unfold assocK; simpa using e)
theorem hits_of {pins : List (Addr × Obj)} {s : Shared} {σ : L2.St} {H : Hp} (I : Inv X pins σ H s) (hu : X.A.units + 65 < cLine) {wb : List (Key × V)} {vb : List (Key × Value)} {kb : List (Key × PyData)} (rb : KV wb vb) (hb : KvOk X.K H wb kb) (ob : okKv kb = true) :
    ∀ {wa : List (Key × V)} {va : List (Key × Value)} {ka : List (Key × PyData)}, KV wa va → KvOk X.K H wa ka → okKv ka = true → PySem.W.KeqHits X.A.in1 s vb va (sameIn kb ka)
  | _, _, _, .nil, .nil, _ => .nil
  | (k, w) :: wa, (k', v) :: va, (k'', d) :: ka, .cons r rs, .cons h hs, o => by
    obtain ⟨e1, rv⟩ := r
    obtain ⟨e2, rp⟩ := h
    have e1 : k = k' := e1
    have e2 : k = k'' := e2
    subst e1 e2
    unfold okKv at o
    rw [List.all_cons, Bool.and_eq_true] at o
    have val := rb.val k
    obtain ⟨q1, q2⟩ := kv_at k hb
    show PySem.W.KeqHits X.A.in1 s vb ((k, v) :: va) (match assocK kb k with
      | some d' => PyData.eqv d d' && sameIn kb ka
      | none => false)
    cases e : assocK kb k with
    | none =>
      rw [e] at q1
      have hn : valV wb k = none := by
        cases z : valV wb k with
        | none => rfl
        | some x => rw [z] at q1; cases q1
      exact .miss (RelO.none_of (by rw [← hn]; exact val))
    | some d' =>
      obtain ⟨y, hy, ry⟩ := q2 d' e
      obtain ⟨y', hy', ry'⟩ := RelO.some_of (v := y) (o := valueAt vb k) (by rw [← hy]; exact val)
      obtain ⟨as, r1⟩ := Dp.reads I d w v (rp_dp rp o.1) rv
      obtain ⟨bs, r2⟩ := Dp.reads I d' y y' (rp_dp ry (assoc_ok ob e)) ry'
      exact .hit hy' (PySem.W.keq_at r1 r2 o.1 (assoc_ok ob e) (by show X.A.units + 1 + 64 < cLine; omega)) (hits_of I hu rb hb ob rs hs o.2)
theorem do_eqU (hu : X.A.units + 65 < cLine) : OpR X (compareOp .Eq) (LOB X.K eqU) := by
  intro pins s σ H x y v u Q I rx ry ⟨g, μ, sx, sy, QD, ok, r1, r2, t, q⟩
  obtain ⟨dx, e1, t1⟩ := t.of
  obtain ⟨dy, e2, t2⟩ := t1.of
  obtain ⟨z, e3, t3⟩ := t2.of
  unfold eqU at e3
  split at e3
  · rename_i da db
    cases h1 : unK da with
    | none => rw [h1] at e3; cases e3
    | some ka =>
      cases h2 : unK db with
      | none => rw [h1, h2] at e3; cases e3
      | some kb =>
        rw [h1, h2] at e3
        have e3 : (if (okKv ka && okKv kb) = true then some (dictEq ka kb) else none) = some z := e3
        split at e3
        · rename_i hc
          rw [Bool.and_eq_true] at hc
          cases e3
          obtain ⟨a, wa, rfl, p1, k1⟩ := rp_dict (r1.rep ok e1) h1
          obtain ⟨b, wb, rfl, p2, k2⟩ := rp_dict (r2.rep ok e2) h2
          cases rx
          cases ry
          obtain ⟨_, n1, va, kv1, d1⟩ := dk_of I.hok p1
          obtain ⟨_, n2, vb, kv2, d2⟩ := dk_of I.hok p2
          have l1 : va.length = ka.length := by rw [← Paired.length kv1, Paired.length k1]
          have l2 : vb.length = kb.length := by rw [← Paired.length kv2, Paired.length k2]
          refine PySem.W.keq_eq n1 n2 d1 d2 (by omega) (fun _ => hits_of I hu kv2 k2 hc.2 kv1 k1 hc.1) ⟨.bl (dictEq ka kb), H, I, ?_, q _ t3⟩
          show Value.bool _ = Value.bool _
          rw [l1, l2]; rfl
        · cases e3
  · exact do_eq (by omega) pins s σ H x y v u Q I rx ry ⟨g, μ, sx, sy, QD, ok, r1, r2, by rw [e1, e2]; show oP (eqD _ _) QD; rw [e3]; exact t3, q⟩
theorem do_neU (hu : X.A.units + 65 < cLine) : OpR X (compareOp .NotEq) (LOB X.K neU) := by
  intro pins s σ H x y v u Q I rx ry ⟨g, μ, sx, sy, QD, ok, r1, r2, t, q⟩
  obtain ⟨dx, e1, t1⟩ := t.of
  obtain ⟨dy, e2, t2⟩ := t1.of
  obtain ⟨z, e3, t3⟩ := t2.of
  unfold neU at e3
  split at e3
  · rename_i da db
    cases h1 : unK da with
    | none => rw [h1] at e3; cases e3
    | some ka =>
      cases h2 : unK db with
      | none => rw [h1, h2] at e3; cases e3
      | some kb =>
        rw [h1, h2] at e3
        have e3 : (if (okKv ka && okKv kb) = true then some (!dictEq ka kb) else none) = some z := e3
        split at e3
        · rename_i hc
          rw [Bool.and_eq_true] at hc
          cases e3
          obtain ⟨a, wa, rfl, p1, k1⟩ := rp_dict (r1.rep ok e1) h1
          obtain ⟨b, wb, rfl, p2, k2⟩ := rp_dict (r2.rep ok e2) h2
          cases rx
          cases ry
          obtain ⟨_, n1, va, kv1, d1⟩ := dk_of I.hok p1
          obtain ⟨_, n2, vb, kv2, d2⟩ := dk_of I.hok p2
          have l1 : va.length = ka.length := by rw [← Paired.length kv1, Paired.length k1]
          have l2 : vb.length = kb.length := by rw [← Paired.length kv2, Paired.length k2]
          refine PySem.W.keq_ne n1 n2 d1 d2 (by omega) (fun _ => hits_of I hu kv2 k2 hc.2 kv1 k1 hc.1) ⟨.bl (!dictEq ka kb), H, I, ?_, q _ t3⟩
          show Value.bool _ = Value.bool _
          rw [l1, l2]; rfl
        · cases e3
  · exact do_ne (by omega) pins s σ H x y v u Q I rx ry ⟨g, μ, sx, sy, QD, ok, r1, r2, by rw [e1, e2]; show oP (neD _ _) QD; rw [e3]; exact t3, q⟩
end
end J
namespace JR
open PySem PySem.Spec PyProof.Rows L2
theorem meets_enum1 {v : Value} {o : Obj} {H : Heap → Prop} (B : Begins v o H) :
    Meets (Builtin.«enumerate.__new__» ⟨[.type "enumerate", v], []⟩) (fun _ R s => H s.heap ∧
      R (.ok (.ret (.ref (s.heap.push o).objs.size))) { s with heap := (s.heap.push o).push { cls := .type "enumerate", data := .fields #[.none, .bool false, .ref s.heap.objs.size, rawInt 0, .none, .none] } }) :=
  .of_wp fun prog w A R s h => by
    obtain ⟨hp, g, d, tk, os⟩ := s; obtain ⟨h1, h⟩ := h
    have hsub := sub_enumerate
    have q1 : ∀ {A' : Around} {E : Value → Shared → Prop} {Q : Value → Shared → Prop}, Q (.ref hp.objs.size) ⟨hp.push o, g, d, tk, os⟩ → wpAny (model prog w) A' (pyIter v) Q E ⟨hp, g, d, tk, os⟩ :=
      fun q => B.iter prog w _ _ ⟨hp, g, d, tk, os⟩ _ h1 q
    wp_walk using q1
    refine wpAny_stack_any fun st => wpAny_pure ?_
    split
    · rename_i c _ _ _ _ _
      cases (c == Value.type "enumerate")
      · wp_walk using q1
        exact ⟨_, rfl, h⟩
      · wp_walk using q1
        exact ⟨_, rfl, h⟩
    · wp_walk using q1
      exact ⟨_, rfl, h⟩
theorem enum_begins1 {prog : Program} {w : World} {A : Around} {E : Value → Shared → Prop} {s : Shared} {v : Value} {o : Obj} {H : Heap → Prop} {Q : Value → Shared → Prop} (B : Begins v o H) (h1 : H s.heap)
    (h : ∀ h', IsEnum h' (s.heap.objs.size + 1) s.heap.objs.size 0 .none → h'.get? s.heap.objs.size = some o → h'.objs.size = s.heap.objs.size + 2 →
      (∀ b o, s.heap.get? b = some o → h'.get? b = some o) → Q (.ref (s.heap.objs.size + 1)) { s with heap := h' }) :
    wpAny (model prog w) A (call (.type "enumerate") [v]) Q E s := by
  refine callType_new F.called_enumerate (by decide) (F.typeCall_enumerate_1 _) (F.newCall_enumerate_1 _) (fun obj => F.args_object_init_2 obj _) F.entry_enumerate_new
    (meets_enum1 B) ⟨h1, ?_⟩
  have hz : (s.heap.push o).objs.size = s.heap.objs.size + 1 := Heap.size_push ..
  show _ ∧ _
  rw [hz]
  have he : IsEnum ((s.heap.push o).push { cls := .type "enumerate", data := .fields #[.none, .bool false, .ref s.heap.objs.size, rawInt 0, .none, .none] }) (s.heap.objs.size + 1) s.heap.objs.size 0 .none := by
    have := Heap.get?_push_size (s.heap.push o) (o := { cls := .type "enumerate", data := .fields #[.none, .bool false, .ref s.heap.objs.size, rawInt 0, .none, .none] }) rfl
    rw [hz] at this; exact this
  refine ⟨⟨_, he, rfl⟩, h _ he (Heap.get?_push_of_some _ (Heap.get?_push_size _ B.free)) (by rw [Heap.size_push, hz]) fun b o x => Heap.get?_push_of_some _ (Heap.get?_push_of_some _ x)⟩
/-- the tuple at a, each item in a new pair -/
def IteT (K : PySem.W.Frag) (a : Addr) : It :=
  ⟨fun i H => ∃ (xs : List V) (x : V), SqT K H a xs ∧ xs[i]? = some x, fun i H v H' => ∃ T x, v = .ref T ∧ H T = none ∧ H' = upd H T (.tup [.int (i : Nat), x]) ∧ ∀ xs, SqT K H a xs → xs[i]? = some x, fun i H => ∃ xs : List V, SqT K H a xs ∧ xs.length = i⟩
theorem turn_enumT {P : Program} {w : World} {K : PySem.W.Frag} {elts : List Expr} {kk : Nat} {tpos : Pos} (a e it : Addr) :
    Turn P w K (.Tuple elts kk tpos) (IteT K a) [e, it] e (fun i h => (∃ old, IsEnum h e it ((i : Nat) : Int) old) ∧ h.IsTupleIter it a i ∧ e ≠ it ∧ e ≠ a ∧ a ≠ it) where
  mem := by simp
  obj := fun i h st b hb => by
    obtain ⟨⟨old, he⟩, ⟨o, ho, hc, hd⟩, _⟩ := st
    have e' : b = e ∨ b = it := by simpa using hb
    rcases e' with z | z
    · rw [z]; exact ⟨_, he, fun v q => nomatch q⟩
    · rw [z]; exact ⟨o, ho, fun v q => by rw [hd] at q; cases q⟩
  keep := fun i h h' st k => let ⟨⟨old, he⟩, hi, hne⟩ := st; ⟨⟨old, k e (by simp) _ he⟩, hi.at fun o q => k it (by simp) o q, hne⟩
  item := by
    intro X hP hw hK hc i pins s σ H E I hf st hg
    subst hP hw hK
    obtain ⟨⟨old, he⟩, hit, hne, hea, hai⟩ := st
    obtain ⟨xs, x, hq, hx⟩ := hg
    obtain ⟨its, rv, p, hz⟩ := I.tuple hq
    obtain ⟨u, hu, ru⟩ := rv.get hx
    have hel : e < s.heap.objs.size := Heap.lt_size he
    have hil : it < s.heap.objs.size := by obtain ⟨_, q, _⟩ := hit; exact Heap.lt_size q
    have hlt : i < its.toArray.size := by
      have := List.getElem?_eq_some_iff.mp hu
      simpa using this.1
    have D : Draws X.prog X.w X.A.in1 it [it, a] its.toArray.size (fun i v => its.toArray[i]? = some v) (fun i h => h.IsTupleIter it a i ∧ h.IsTuple a its.toArray) := Draws.tuple (A := X.A.in1) (I.ok.hd hc) it a hai its.toArray
    refine wpAny_pyNext_enum_itemD D he ⟨hit, p⟩ hlt hne (by simp [hne, hea]) fun x' h' tk hP ho ⟨hit', _⟩ hT hsz hk => ?_
    have ex : x' = u := by
      have : its[i]? = some x' := by simpa using hP
      rw [hu] at this; cases this; rfl
    subst ex
    refine ⟨_, rfl, wpAny_letOwnedTupleGo_enum (s := { s with heap := h', toks := tk + 1 }) ho fun h'' he' sb => ?_⟩
    have hT2 : h''.get? s.heap.objs.size = some { cls := .type "tuple", data := .seq #[.int i tk, x'] } := (sb.2 _ (Nat.ne_of_gt hel)).trans hT
    have new : ObjOk X.prog X.w (upd H s.heap.objs.size (.tup [.int (i : Nat), x])) h'' s.heap.objs.size (.tup [.int (i : Nat), x]) :=
      ⟨by show 2 ≤ sizeLine; decide, [.int i tk, x'], .cons ⟨_, rfl⟩ (.cons ru .nil), ⟨_, hT2, rfl, _, rfl⟩⟩
    have I1 : Inv X pins σ (upd H s.heap.objs.size (.tup [.int (i : Nat), x])) { s with heap := h'', toks := tk + 1 } :=
      I.turnedNew (ch := [e, it]) (fun b ob hb q => (sb.2 b (fun z => hb (by simp [z]))).trans (hk b ob (fun z => hb (by simp [z])) (fun z => hb (by simp [z])) q)) hf (Nat.le_refl _) new
    refine ⟨.ref s.heap.objs.size, _, I1, rfl, ⟨_, x, rfl, I.hok.fresh (Nat.le_refl _), rfl, fun ys hy => by rw [I.tuple_inj hy hq]; exact hx⟩, ⟨⟨x', ?_⟩, hit'.at fun o q => (sb.2 it (Ne.symm hne)).trans q, hne, hea, hai⟩, fun b hb => ?_⟩
    · have e1 : ((i + 1 : Nat) : Int) = (i : Int) + 1 := by omega
      rw [e1]; exact he'
    · have hb' : b < s.heap.objs.size := by
        have e' : b = e ∨ b = it := by simpa using hb
        rcases e' with z | z
        · rw [z]; exact hel
        · rw [z]; exact hil
      rw [upd_ne (Nat.ne_of_lt hb')]
      exact (hf b hb).1
  done := by
    intro X hP hw hK hc i pins s σ H E I hf st hg
    subst hP hw hK
    obtain ⟨⟨old, he⟩, hit, hne, hea, hai⟩ := st
    obtain ⟨xs, hq, hx⟩ := hg
    obtain ⟨its, rv, p, hz⟩ := I.tuple hq
    obtain ⟨f0, f1, f2, f3, f4, f5⟩ := hf it (by simp)
    have hl := rv.length
    have hi : i = its.toArray.size := by simp; omega
    subst hi
    have D : Draws X.prog X.w X.A.in1 it [it, a] its.toArray.size (fun i v => its.toArray[i]? = some v) (fun i h => h.IsTupleIter it a i ∧ h.IsTuple a its.toArray) := Draws.tuple (A := X.A.in1) (I.ok.hd hc) it a hai its.toArray
    exact wpAny_pyNext_enum_endD D he ⟨hit, p⟩ fun h' eb => ⟨rfl, I.turned (t' := s.toks) (fun b o hb q => eb b o hb q) f0 f1 f3 f4 f5⟩
  self := fun A i s Q E st h => let ⟨⟨_, he⟩, _⟩ := st; wpAny_pyIter_enum he h
def iEnumA (K : PySem.W.Frag) (ta : TA) : TI := fun σ H R => ta σ H fun vs H1 => ∃ a xs, vs = [.ref a] ∧ ((SqL K H1 a xs ∧ R (Ite K a) H1) ∨ (SqT K H1 a xs ∧ R (IteT K a) H1))
theorem pi_enumA {X : Cx} {e : Expr} {ta : TA} {p pos tpos : Pos} {elts : List Expr} {kk : Nat} (hg : Gl X "enumerate") (hm : X.mg "enumerate" = none) (ha : PA X [e] ta) (hs : starEach [e] X.env = [(false, eval e X.env)] := by rfl) :
    PI X (.Tuple elts kk tpos) (.Call (.Name "enumerate" p) [e] [] pos) (iEnumA X.K ta) := by
  refine ⟨fun pins s σ H R I h => ?_⟩
  refine Call_ (ld_blt I hg hm boot_enumerate (PyProof.Rows.callWith_type1 (thn (ha.run pos pins s σ H _ I h) fun us s1 ⟨vs, H1, I1, r1, q1⟩ => ?_) hs rfl))
  obtain ⟨a, xs, ex, q1⟩ := q1
  subst ex
  cases r1 with
  | cons r rr =>
    cases rr
    cases r
    have fresh2 : ∀ c, c ∈ [s1.heap.objs.size + 1, s1.heap.objs.size] → FpOk X pins H1 c := fun b hb => by
      have e' : b = s1.heap.objs.size + 1 ∨ b = s1.heap.objs.size := by simpa using hb
      have hle : s1.heap.objs.size ≤ b := by
        rcases e' with z | z
        · rw [z]; exact Nat.le_add_right _ _
        · rw [z]; exact Nat.le_refl _
      exact I1.fpOk hle (I1.hok.fresh hle)
    rcases q1 with ⟨hq, q⟩ | ⟨hq, q⟩
    · obtain ⟨its, rv, p', hz⟩ := I1.list hq
      refine call_enumerate_list p'.isList fun h' he hit hsz hk => wpAny_pyIter_enum he ?_
      have I2 : Inv X pins σ H1 { s1 with heap := h' } := I1.kept (t' := s1.toks) hk
      exact ⟨s1.heap.objs.size + 1, [s1.heap.objs.size + 1, s1.heap.objs.size], _, _, H1, rfl, I2, turn_enum a (s1.heap.objs.size + 1) s1.heap.objs.size, ⟨⟨.none, he⟩, hit, Nat.succ_ne_self _⟩, fresh2, q⟩
    · obtain ⟨its, rv, p', hz⟩ := I1.tuple hq
      have hal : a < s1.heap.objs.size := by obtain ⟨_, q, _⟩ := id p'; exact Heap.lt_size q
      refine enum_begins1 (begins_tuple a its.toArray) p' fun h' he hit hsz hk => wpAny_pyIter_enum he ?_
      have I2 : Inv X pins σ H1 { s1 with heap := h' } := I1.kept (t' := s1.toks) hk
      exact ⟨s1.heap.objs.size + 1, [s1.heap.objs.size + 1, s1.heap.objs.size], _, _, H1, rfl, I2, turn_enumT a (s1.heap.objs.size + 1) s1.heap.objs.size, ⟨⟨.none, he⟩, ⟨_, hit, rfl, rfl⟩, Nat.succ_ne_self _, Nat.ne_of_gt (Nat.lt_succ_of_lt hal), Nat.ne_of_lt hal⟩, fresh2, q⟩
end JR
namespace J
open PySem PySem.Spec L2
def enD (ds : List PyData) : List PyData := ds.zipIdx.map fun p => .tuple [.int (p.2 : Nat), p.1]
theorem enD_get {ds : List PyData} {i : Nat} {d : PyData} (h : (enD ds)[i]? = some d) : ∃ x, ds[i]? = some x ∧ d = .tuple [.int (i : Nat), x] := by
  unfold enD at h
  rw [List.getElem?_map, List.getElem?_zipIdx] at h
  cases e : ds[i]? with
  | none => rw [e] at h; cases h
  | some x => rw [e] at h; simp at h; exact ⟨x, rfl, h.symm⟩
theorem enD_len {ds : List PyData} : (enD ds).length = ds.length := by unfold enD; simp
def enumI (Es : DTA) : DTI := fun ρ μ Q => Es ρ μ fun svs μ1 => match svs with
  | [.d (.list ds)] => Q (enD ds) (fun _ => True) μ1
  | [.d (.tuple ds)] => Q (enD ds) (fun _ => True) μ1
  | _ => False
variable [Tb] {X : Cx} {a : Expr} {Es : DTA} {p pos : Pos}
theorem di_enum {tg : List Expr} {kk : Nat} {tpos : Pos} (hg : Gl X "enumerate") (hm : X.mg "enumerate" = none) (ha : DA X [a] Es) (hs : starEach [a] X.env = [(false, eval a X.env)] := by rfl) :
    DI X (.Tuple tg kk tpos) (.Call (.Name "enumerate" p) [a] [] pos) (enumI Es) := by
  refine ⟨⟨fun pins s σ H R I ⟨g, ρ, μ, QD, ok, en, t, q⟩ => (JR.pi_enumA hg hm ha.pa hs).run pins s σ H R I ⟨g, ρ, μ, _, ok, en, t, fun g1 vs svs μ1 H1 x1 ok1 r1 t1 => ?_⟩⟩⟩
  split at t1
  · rename_i ds
    obtain ⟨v, rfl, rv⟩ := rss1 r1
    cases rv with
    | @lst a xs _ h1 h2 =>
    refine ⟨a, xs, rfl, .inl ⟨.inl (.inl (ok1.ex _ _ h1)), q g1 _ _ μ1 H1 _ x1 ok1 ⟨fun g μ H x ok _ => ?_, fun g μ H i x ok _ hi => ?_, fun g μ H i d v H' x ok _ hd hy => ?_⟩ t1⟩⟩
    · exact ⟨xs, .inl (.inl (ok.ex _ _ (x.le.f _ _ h1))), by rw [enD_len, h2.length]; exact Nat.le_refl _⟩
    · rw [enD_len] at hi
      have hi1 : i < xs.length := by rw [h2.length]; omega
      exact ⟨xs, xs[i], .inl (.inl (ok.ex _ _ (x.le.f _ _ h1))), List.getElem?_eq_getElem hi1⟩
    · obtain ⟨T, x', rfl, hT, rfl, f1⟩ := hy
      obtain ⟨d1, e1, rfl⟩ := enD_get hd
      obtain ⟨w1, g1', g2'⟩ := (h2.mono x.le.f).get e1
      have z1 := f1 xs (.inl (.inl (ok.ex _ _ (x.le.f _ _ h1))))
      rw [g1'] at z1; cases z1
      obtain ⟨k1, k2, k3, k4⟩ := ok.grow (.tup [.int (i : Nat), x']) hT
      obtain ⟨k5, k6⟩ := k1.frozen k2 hT k3 k4 upd_same
      exact ⟨_, k5, k6, .tup (.inl (.inl upd_same)) (.cons (.int _) (.one (g2'.mono k6.le.f)))⟩
  · rename_i ds
    obtain ⟨v, rfl, rv⟩ := rss1 r1
    cases rv with
    | @tup a xs _ h1 h2 =>
    refine ⟨a, xs, rfl, .inr ⟨same_sqT ok1.ex h1, q g1 _ _ μ1 H1 _ x1 ok1 ⟨fun g μ H x ok _ => ?_, fun g μ H i x ok _ hi => ?_, fun g μ H i d v H' x ok _ hd hy => ?_⟩ t1⟩⟩
    · exact ⟨xs, same_sqT ok.ex (same_sqT x.le.f h1), by rw [enD_len, h2.length]⟩
    · rw [enD_len] at hi
      have hi1 : i < xs.length := by rw [h2.length]; omega
      exact ⟨xs, xs[i], same_sqT ok.ex (same_sqT x.le.f h1), List.getElem?_eq_getElem hi1⟩
    · obtain ⟨T, x', rfl, hT, rfl, f1⟩ := hy
      obtain ⟨d1, e1, rfl⟩ := enD_get hd
      obtain ⟨w1, g1', g2'⟩ := (h2.mono x.le.f).get e1
      have z1 := f1 xs (same_sqT ok.ex (same_sqT x.le.f h1))
      rw [g1'] at z1; cases z1
      obtain ⟨k1, k2, k3, k4⟩ := ok.grow (.tup [.int (i : Nat), x']) hT
      obtain ⟨k5, k6⟩ := k1.frozen k2 hT k3 k4 upd_same
      exact ⟨_, k5, k6, .tup (.inl (.inl upd_same)) (.cons (.int _) (.one (g2'.mono k6.le.f)))⟩
  · exact t1.elim
def enumOf : List SV → Option (List PyData)
  | [.d (.list ds)] => some (enD ds)
  | [.d (.tuple ds)] => some (enD ds)
  | _ => none
@[simp] theorem enumOf_l (ds : List PyData) : enumOf [.d (.list ds)] = some (enD ds) := rfl
@[simp] theorem enumOf_t (ds : List PyData) : enumOf [.d (.tuple ds)] = some (enD ds) := rfl
@[simp] def enumF (es : FA) : FI := fun ρ μ => bnd (es ρ μ) fun svs μ1 => (enumOf svs).map fun l => ((l, none), μ1)
theorem im_enum {es : FA} (he : Im Es es) : ImI (enumI Es) (enumF es) := fun ρ μ Q q => he.step q fun svs μ1 q => by
  replace q := oP_map q
  unfold enumOf at q
  split at q
  · exact q
  · exact q
  · exact q.elim
end J
namespace PJ
open PySem PySem.Spec J
noncomputable section
def m__law_same : FC := defF 2 7 fD (sqF (stF 2 (clF m__law_all_flags (consF (vF 1) nilF))) (sqF (foF (.t [3, 4]) (seqF (clF m__law_cases (consF (vF 0) nilF))) (sqF (stF 5 (biF tupD (consF (frF (lcF (.n 6) (seqF (vF 3)) (cmBF inD (vF 6) (vF 2)) (vF 6) [6])) nilF))) (ifF (cmBF neU (clF m__law_known (consF (vF 0) (consF (vF 3) (consF (vF 4) nilF)))) (clF m__law_known (consF (vF 1) (consF (vF 5) (consF (vF 4) nilF))))) (rtF (cF (.bool false))) skipF))) (rtF (cF (.bool true)))))
def m__law_with : FC := defF 4 6 fD (sqF (stF 4 (ixF (vF 0) (vF 1))) (sqF (stF 5 (tupF (consF (ixF (vF 4) (cF (.int 0))) (consF (vF 2) (consF (vF 3) (consF (ixF (vF 4) (cF (.int 3))) (consF (ixF (vF 4) (cF (.int 4))) nilF))))))) (rtF (opF addD (opF addD (slF (vF 0) noF (someF (vF 1))) (tupF (consF (vF 5) nilF))) (slF (vF 0) (someF (opF addD (vF 1) (cF (.int 1)))) noF)))))
def m__law_is_needless : FC := defF 3 6 fD (sqF (stF 3 (ixF (vF 0) (vF 1))) (sqF (stF 4 (biF tupD (consF (frF (lcF (.n 5) (seqF (ixF (vF 3) (cF (.int 1)))) (cmBF neD (vF 5) (vF 2)) (vF 5) [5])) nilF))) (sqF (ifF (cmBF inD (vF 2) (clF (m__law_asked 20) (consF (ixF (vF 3) (cF (.int 2))) nilF))) (rtF (cF (.bool false))) skipF) (rtF (clF m__law_same (consF (vF 0) (consF (clF m__law_with (consF (vF 0) (consF (vF 1) (consF (vF 4) (consF (ixF (vF 3) (cF (.int 2))) nilF))))) nilF)))))))
def m__law_plain : FC := defF 2 3 fD (sqF (foF (.n 2) (seqF (frF (lstF (consF (tupF (consF (cF (.str "always")) nilF)) (consF (tupF (consF (cF (.str "or")) nilF)) (consF (tupF (consF (cF (.str "good")) nilF)) (consF (tupF (consF (cF (.str "bad")) nilF)) nilF))))))) (ifF (bF (clF m__law_same (consF (vF 0) (consF (clF m__law_with (consF (vF 0) (consF (vF 1) (consF (ixF (ixF (vF 0) (vF 1)) (cF (.int 1))) (consF (vF 2) nilF))))) nilF)))) (rtF (vF 2)) skipF)) (rtF (ixF (ixF (vF 0) (vF 1)) (cF (.int 2)))))
def m_least_pipeline : FC := defF 1 7 fD (sqF (exF (clF m_need_pipeline (consF (vF 0) nilF))) (sqF (stF 1 (vF 0)) (sqF (foF (.t [2, 3]) (enumF (consF (vF 0) nilF)) (sqF (stF 4 (cF (.none))) (sqF (foF (.n 5) (seqF (tupF (consF (tupF (consF (cF (.str "always")) nilF)) (consF (tupF (consF (cF (.str "or")) nilF)) (consF (tupF (consF (cF (.str "good")) nilF)) (consF (tupF (consF (cF (.str "bad")) nilF)) nilF)))))) (sqF (stF 6 (clF m_with_job (consF (vF 0) (consF (vF 2) (consF (opF addD (opF addD (slF (vF 3) noF (someF (cF (.int 2)))) (tupF (consF (vF 5) nilF))) (slF (vF 3) (someF (cF (.int 3))) noF)) nilF))))) (ifF (andBF (bF (isnF (vF 4))) (bF (isnF (clF m_first_unlike (consF (vF 0) (consF (vF 6) nilF)))))) (stF 4 (vF 5)) skipF))) (ifF (bF (nonF (vF 4))) (stF 1 (clF m_with_job (consF (vF 1) (consF (vF 2) (consF (opF addD (opF addD (slF (vF 3) noF (someF (cF (.int 2)))) (tupF (consF (vF 4) nilF))) (slF (vF 3) (someF (cF (.int 3))) noF)) nilF))))) skipF)))) (rtF (vF 1)))))
end
end PJ
namespace PJ
open PySem PySem.Spec J
noncomputable section
def T_law : DTS := (seqS (forS (.n 1) (rng1I (consA (opT addD (cT (.int 1)) (callT minD (consA (callT lenD (consA (vT 0) nilA)) (consA (cT (.int 4)) nilA)))) nilA))
    (seqS (setS 2 (callF (ofF m__law_source) (consA (vT 0) (consA (vT 1) nilA))))
    (seqS (setS 3 (callF S__law_pipeline (consA (vT 2) (consA (cT (.int 5)) nilA))))
    (seqS (setS 4 (vT 3))
    (seqS (forS (.t [5, 6]) (enumI (consA (vT 3) nilA))
    (seqS (setS 4 (callF (ofF m__law_with) (consA (vT 4) (consA (vT 5) (consA (ixT (vT 6) (cT (.int 1))) (consA (callF (ofF m__law_plain) (consA (vT 3) (consA (vT 5) nilA))) nilA))))))
    (seqS (setS 7 (frT (lcN (.n 10) (seqI (ixT (vT 6) (cT (.int 1)))) (bT (callF (ofF m__law_is_needless) (consA (vT 3) (consA (vT 5) (consA (vT 10) nilA))))) (vT 10) [10])))
    (seqS (setS 8 (callF (ofF m_needless_needs) (consA (vT 3) (consA (ixT (vT 6) (cT (.int 0))) nilA))))
    (seqS (ifS (cmB neD (vT 8) (vT 7)) (retS (cT (.bool false))) skipS)
    (seqS (exprS (appT (vT 8) (cT (.str "more"))))
    (ifS (cmB neD (frT (popN (callF (ofF m_needless_needs) (consA (vT 3) (consA (ixT (vT 6) (cT (.int 0))) nilA))))) (vT 7)) (retS (cT (.bool false))) skipS)))))))
    (seqS (ifS (orB (cmB neD (callF (ofF m_least_pipeline) (consA (vT 3) nilA)) (vT 4)) (cmB neD (callF (ofF m_least_pipeline) (consA (vT 4) nilA)) (vT 4))) (retS (cT (.bool false))) skipS)
    (ifS (notB (bT (callF (ofF m__law_same) (consA (vT 3) (consA (vT 4) nilA))))) (retS (cT (.bool false))) skipS)))))))
    (seqS (setS 9 (tupT (consA (tupT (consA (cT (.str "a")) (consA (tupT nilA) (consA (tupT (consA (cT (.str "good")) nilA)) (consA (tupT nilA) (consA (cT (.bool false)) nilA)))))) (consA (tupT (consA (cT (.str "b")) (consA (tupT (consA (cT (.str "a")) nilA)) (consA (tupT (consA (cT (.str "and")) (consA (tupT (consA (cT (.str "bad")) nilA)) (consA (tupT (consA (cT (.str "good")) nilA)) nilA)))) (consA (tupT nilA) (consA (cT (.bool false)) nilA)))))) nilA))))
    (seqS (setS 9 (opT addD (vT 9) (tupT (consA (tupT (consA (cT (.str "c")) (consA (tupT (consA (cT (.str "a")) (consA (cT (.str "b")) nilA))) (consA (tupT (consA (cT (.str "not")) (consA (tupT (consA (cT (.str "is")) (consA (cT (.str "b")) (consA (cT (.str "good")) nilA)))) nilA))) (consA (tupT nilA) (consA (cT (.bool false)) nilA)))))) nilA))))
    (seqS (setS 4 (frT (lstN (consA (tupT (consA (cT (.str "always")) nilA)) (consA (tupT (consA (cT (.str "or")) nilA)) (consA (tupT (consA (cT (.str "always")) nilA)) nilA))))))
    (retS (andT (cmT eqD (frT (lcN (.n 6) (seqI (callF (ofF m_least_pipeline) (consA (vT 9) nilA))) yesB (ixT (vT 6) (cT (.int 2))) [6])) (vT 4)) (cmT eqD (frT (popN (callF (ofF m_needless_needs) (consA (vT 9) (consA (cT (.str "c")) nilA))))) (frT (lstN (consA (cT (.str "a")) nilA))))))))))
end
end PJ
namespace PJ
open PySem PySem.Spec J
noncomputable section
def T__law_asked (n : Nat) : DTS := (seqS (ifS (cmB eqD (ixT (vT 0) (cT (.int 0))) (cT (.str "is"))) (retS (frT (lstN (consA (ixT (vT 0) (cT (.int 1))) nilA)))) skipS)
    (seqS (setS 1 (frT (lstN nilA)))
    (seqS (ifS (cmB inD (ixT (vT 0) (cT (.int 0))) (tupT (consA (cT (.str "not")) (consA (cT (.str "and")) (consA (cT (.str "or")) nilA))))) (forS (.n 2) (seqI (slT (vT 0) (someP (cT (.int 1))) noP))
    (setS 1 (opT addD (vT 1) (callF (ofF (m__law_asked n)) (consA (vT 2) nilA))))) skipS)
    (retS (vT 1)))))
def T__law_flags (n : Nat) : DTS := (seqS (ifS (cmB eqD (ixT (vT 0) (cT (.int 0))) (cT (.str "flag"))) (retS (frT (lstN (consA (ixT (vT 0) (cT (.int 1))) nilA)))) skipS)
    (seqS (setS 1 (frT (lstN nilA)))
    (seqS (ifS (cmB inD (ixT (vT 0) (cT (.int 0))) (tupT (consA (cT (.str "not")) (consA (cT (.str "and")) (consA (cT (.str "or")) nilA))))) (forS (.n 2) (seqI (slT (vT 0) (someP (cT (.int 1))) noP))
    (setS 1 (opT addD (vT 1) (callF (ofF (m__law_flags n)) (consA (vT 2) nilA))))) skipS)
    (retS (vT 1)))))
def T__law_all_flags : DTS := (seqS (setS 1 (frT (lstN nilA)))
    (seqS (forS (.n 2) (seqI (vT 0))
    (setS 1 (opT addD (vT 1) (callF (ofF (m__law_flags 20)) (consA (ixT (vT 2) (cT (.int 2))) nilA)))))
    (retS (callT tupD (consA (frT (sosN (vT 1))) nilA)))))
def T__law_names : DTS := (retS (callT tupD (consA (frT (lcN (.n 1) (seqI (vT 0)) yesB (ixT (vT 1) (cT (.int 0))) [1])) nilA)))
def T__law_parts : DTS := (seqS (setS 1 (frT (lstN (consA (tupT nilA) nilA))))
    (seqS (forS (.n 2) (seqI (frT (callN sortN (consA (vT 0) nilA))))
    (setS 1 (opT addD (vT 1) (frT (lcN (.n 3) (seqI (vT 1)) yesB (opT addD (vT 3) (tupT (consA (vT 2) nilA))) [3])))))
    (retS (vT 1))))
def T__law_cases : DTS := (seqS (setS 1 (frT (lstN nilA)))
    (seqS (forS (.n 2) (seqI (callF (ofF m__law_parts) (consA (callF (ofF m__law_all_flags) (consA (vT 0) nilA)) nilA)))
    (setS 1 (opT addD (vT 1) (frT (lcN (.n 3) (seqI (callF (ofF m__law_parts) (consA (callF (ofF m__law_names) (consA (vT 0) nilA)) nilA))) yesB (tupT (consA (vT 2) (consA (vT 3) nilA))) [3])))))
    (retS (vT 1))))
def T__law_holds (n : Nat) : DTS := (seqS (par2S 4 5 (consA (ixT (vT 0) (cT (.int 0))) (consA (slT (vT 0) (someP (cT (.int 1))) noP) nilA)))
    (seqS (ifS (cmB eqD (vT 4) (cT (.str "good"))) (retS (andT (notT (vT 3)) (cmT eqD (frT (lcN (.t [7, 8]) (seqI (vT 1)) (cmB neD (vT 8) (cT (.str "good"))) (cT (.int 1)) [7, 8])) (frT (lstN nilA))))) skipS)
    (seqS (ifS (cmB eqD (vT 4) (cT (.str "bad"))) (retS (andT (notT (vT 3)) (cmT neD (frT (lcN (.t [7, 8]) (seqI (vT 1)) (cmB eqD (vT 8) (cT (.str "bad"))) (cT (.int 1)) [7, 8])) (frT (lstN nilA))))) skipS)
    (seqS (ifS (cmB eqD (vT 4) (cT (.str "is"))) (retS (cmT inD (vT 5) (vT 1))) skipS)
    (seqS (ifS (cmB eqD (vT 4) (cT (.str "flag"))) (retS (cmT inD (ixT (vT 5) (cT (.int 0))) (vT 2))) skipS)
    (seqS (ifS (cmB eqD (vT 4) (cT (.str "not"))) (retS (notT (callF (ofF (m__law_holds n)) (consA (ixT (vT 5) (cT (.int 0))) (consA (vT 1) (consA (vT 2) (consA (vT 3) nilA))))))) skipS)
    (seqS (ifS (cmB inD (vT 4) (tupT (consA (cT (.str "and")) (consA (cT (.str "or")) nilA)))) (seqS (setS 6 (frT (lcN (.n 9) (seqI (vT 5)) yesB (callF (ofF (m__law_holds n)) (consA (vT 9) (consA (vT 1) (consA (vT 2) (consA (vT 3) nilA))))) [9])))
    (retS (ifT (cmB eqD (vT 4) (cT (.str "and"))) (cmT notinD (cT (.bool false)) (vT 6)) (cmT inD (cT (.bool true)) (vT 6))))) skipS)
    (retS (orT (cmT eqD (vT 4) (cT (.str "always"))) (vT 3))))))))))
def T__law_known : DTS := (seqS (setS 3 (owT dctN))
    (seqS (forS (.t [4, 5, 6, 7, 8]) (seqI (vT 0))
    (seqS (setS 9 (frT (lcN (.n 10) (seqI (vT 5)) yesB (tupT (consA (vT 10) (consA (ixT (vT 3) (vT 10)) nilA))) [10])))
    (ifS (notB (bT (callF (ofF (m__law_holds 20)) (consA (vT 6) (consA (vT 9) (consA (vT 1) (consA (cT (.bool false)) nilA))))))) (setixS (cT (.str "passed")) (vT 3) (vT 4)) (setixS (ifT (andB (cmB inD (vT 4) (vT 2)) (notB (bT (vT 8)))) (cT (.str "bad")) (cT (.str "good"))) (vT 3) (vT 4)))))
    (retS (vT 3))))
def T__law_same : DTS := (seqS (setS 2 (callF (ofF m__law_all_flags) (consA (vT 1) nilA)))
    (seqS (forS (.t [3, 4]) (seqI (callF (ofF m__law_cases) (consA (vT 0) nilA)))
    (seqS (setS 5 (callT tupD (consA (frT (lcN (.n 6) (seqI (vT 3)) (cmB inD (vT 6) (vT 2)) (vT 6) [6])) nilA)))
    (ifS (cmB neU (callF (ofF m__law_known) (consA (vT 0) (consA (vT 3) (consA (vT 4) nilA)))) (callF (ofF m__law_known) (consA (vT 1) (consA (vT 5) (consA (vT 4) nilA))))) (retS (cT (.bool false))) skipS)))
    (retS (cT (.bool true)))))
def T__law_with : DTS := (seqS (setS 4 (ixT (vT 0) (vT 1)))
    (seqS (setS 5 (tupT (consA (ixT (vT 4) (cT (.int 0))) (consA (vT 2) (consA (vT 3) (consA (ixT (vT 4) (cT (.int 3))) (consA (ixT (vT 4) (cT (.int 4))) nilA)))))))
    (retS (opT addD (opT addD (slT (vT 0) noP (someP (vT 1))) (tupT (consA (vT 5) nilA))) (slT (vT 0) (someP (opT addD (vT 1) (cT (.int 1)))) noP)))))
def T__law_is_needless : DTS := (seqS (setS 3 (ixT (vT 0) (vT 1)))
    (seqS (setS 4 (callT tupD (consA (frT (lcN (.n 5) (seqI (ixT (vT 3) (cT (.int 1)))) (cmB neD (vT 5) (vT 2)) (vT 5) [5])) nilA)))
    (seqS (ifS (cmB inD (vT 2) (callF (ofF (m__law_asked 20)) (consA (ixT (vT 3) (cT (.int 2))) nilA))) (retS (cT (.bool false))) skipS)
    (retS (callF (ofF m__law_same) (consA (vT 0) (consA (callF (ofF m__law_with) (consA (vT 0) (consA (vT 1) (consA (vT 4) (consA (ixT (vT 3) (cT (.int 2))) nilA))))) nilA)))))))
def T__law_plain : DTS := (seqS (forS (.n 2) (seqI (frT (lstN (consA (tupT (consA (cT (.str "always")) nilA)) (consA (tupT (consA (cT (.str "or")) nilA)) (consA (tupT (consA (cT (.str "good")) nilA)) (consA (tupT (consA (cT (.str "bad")) nilA)) nilA)))))))
    (ifS (bT (callF (ofF m__law_same) (consA (vT 0) (consA (callF (ofF m__law_with) (consA (vT 0) (consA (vT 1) (consA (ixT (ixT (vT 0) (vT 1)) (cT (.int 1))) (consA (vT 2) nilA))))) nilA)))) (retS (vT 2)) skipS))
    (retS (ixT (ixT (vT 0) (vT 1)) (cT (.int 2)))))
def T__law_source : DTS := (seqS (setS 2 (cT (.int 0)))
    (seqS (ifS (cmB ltD (vT 1) (callT lenD (consA (vT 0) nilA))) (setS 2 (callT absD (consA (ixT (vT 0) (vT 1)) nilA))) skipS)
    (seqS (ifS (cmB ltD (vT 2) (opT powD (cT (.int 10)) (cT (.int 18)))) (retS (owT (lstN (consA (cT (.int 0)) (consA (opT addD (cT (.int 1)) (opT modD (opT addD (opT mulD (vT 2) (cT (.int 7919))) (opT mulD (cT (.int 104729)) (vT 1))) (cT (.int 2147483646)))) nilA))))) skipS)
    (retS (owT (lstN (consA (vT 2) (consA (opT addD (cT (.int 1)) (opT modD (opT addD (vT 2) (vT 1)) (cT (.int 2147483646)))) nilA))))))))
def T_all_parts : DTS := (seqS (setS 1 (frT (lstN (consA (tupT nilA) nilA))))
    (seqS (forS (.n 2) (seqI (vT 0))
    (setS 1 (opT addD (vT 1) (frT (lcN (.n 3) (seqI (vT 1)) yesB (opT addD (vT 3) (tupT (consA (vT 2) nilA))) [3])))))
    (retS (frT (callN sortN (consA (vT 1) nilA))))))
def T_names_of : DTS := (retS (callT tupD (consA (frT (lcN (.n 1) (seqI (vT 0)) yesB (ixT (vT 1) (cT (.int 0))) [1])) nilA)))
def T_all_cases : DTS := (seqS (setS 2 (callF (ofF m_all_parts) (consA (frT (callN sortN (consA (callF (ofF m_names_of) (consA (vT 0) nilA)) nilA))) nilA)))
    (seqS (setS 3 (frT (lstN nilA)))
    (seqS (forS (.n 4) (seqI (callF (ofF m_all_parts) (consA (vT 1) nilA)))
    (setS 3 (opT addD (vT 3) (frT (lcN (.n 5) (seqI (vT 2)) yesB (tupT (consA (vT 4) (consA (vT 5) nilA))) [5])))))
    (retS (vT 3)))))
def T_words_in (n : Nat) : DTS := (seqS (ifS (cmB eqD (ixT (vT 0) (cT (.int 0))) (vT 1)) (retS (tupT (consA (ixT (vT 0) (cT (.int 1))) nilA))) skipS)
    (seqS (setS 2 (frT (lstN nilA)))
    (seqS (ifS (cmB inD (ixT (vT 0) (cT (.int 0))) (tupT (consA (cT (.str "not")) (consA (cT (.str "and")) (consA (cT (.str "or")) nilA))))) (forS (.n 3) (seqI (slT (vT 0) (someP (cT (.int 1))) noP))
    (setS 2 (opT addD (vT 2) (frT (callN listN (consA (callF (ofF (m_words_in n)) (consA (vT 3) (consA (vT 1) nilA))) nilA)))))) skipS)
    (retS (callT tupD (consA (frT (sosN (vT 2))) nilA))))))
def T_flags_of : DTS := (seqS (setS 1 (frT (lstN nilA)))
    (seqS (forS (.n 2) (seqI (vT 0))
    (setS 1 (opT addD (vT 1) (frT (callN listN (consA (callF (ofF (m_words_in 20)) (consA (ixT (vT 2) (cT (.int 2))) (consA (cT (.str "flag")) nilA))) nilA))))))
    (retS (callT tupD (consA (frT (sosN (vT 1))) nilA)))))
def T_does_hold (n : Nat) : DTS := (seqS (setS 4 (ixT (vT 0) (cT (.int 0))))
    (seqS (ifS (cmB eqD (vT 4) (cT (.str "good"))) (retS (andT (notT (vT 3)) (callT allD (consA (frT (lcN (.t [6, 7]) (seqI (vT 1)) yesB (cmT eqD (vT 7) (cT c_GOOD)) [6, 7])) nilA)))) skipS)
    (seqS (ifS (cmB eqD (vT 4) (cT (.str "bad"))) (retS (andT (notT (vT 3)) (callT anyD (consA (frT (lcN (.t [6, 7]) (seqI (vT 1)) yesB (cmT eqD (vT 7) (cT c_BAD)) [6, 7])) nilA)))) skipS)
    (seqS (ifS (cmB inD (vT 4) (tupT (consA (cT (.str "always")) (consA (cT (.str "stopped")) nilA)))) (retS (orT (vT 3) (cmT eqD (vT 4) (cT (.str "always"))))) skipS)
    (seqS (ifS (cmB eqD (vT 4) (cT (.str "is"))) (retS (cmT inD (slT (vT 0) (someP (cT (.int 1))) noP) (vT 1))) skipS)
    (seqS (ifS (cmB eqD (vT 4) (cT (.str "flag"))) (retS (cmT inD (ixT (vT 0) (cT (.int 1))) (vT 2))) skipS)
    (seqS (ifS (cmB eqD (vT 4) (cT (.str "not"))) (retS (notT (callF (ofF (m_does_hold n)) (consA (ixT (vT 0) (cT (.int 1))) (consA (vT 1) (consA (vT 2) (consA (vT 3) nilA))))))) skipS)
    (seqS (setS 5 (frT (lcN (.n 8) (seqI (slT (vT 0) (someP (cT (.int 1))) noP)) yesB (callF (ofF (m_does_hold n)) (consA (vT 8) (consA (vT 1) (consA (vT 2) (consA (vT 3) nilA))))) [8])))
    (retS (ifT (cmB eqD (vT 4) (cT (.str "and"))) (callT allD (consA (vT 5) nilA)) (callT anyD (consA (vT 5) nilA))))))))))))
def T_ended_as : DTS := (retS (ifT (andB (cmB inD (ixT (vT 0) (cT (.int 0))) (vT 1)) (notB (bT (ixT (vT 0) (cT (.int 4)))))) (cT c_BAD) (cT c_GOOD)))
def T_seen_by : DTS := (retS (callT tupD (consA (frT (lcN (.n 2) (seqI (ixT (vT 0) (cT (.int 1)))) yesB (tupT (consA (vT 2) (consA (ixT (vT 1) (vT 2)) nilA))) [2])) nilA)))
def T_known_in : DTS := (seqS (setS 3 (owT dctN))
    (seqS (forS (.n 4) (seqI (vT 0))
    (ifS (bT (callF (ofF (m_does_hold 20)) (consA (ixT (vT 4) (cT (.int 2))) (consA (callF (ofF m_seen_by) (consA (vT 4) (consA (vT 3) nilA))) (consA (vT 1) (consA (cT (.bool false)) nilA)))))) (setixS (callF (ofF m_ended_as) (consA (vT 4) (consA (vT 2) nilA))) (vT 3) (ixT (vT 4) (cT (.int 0)))) (setixS (cT c_PASSED) (vT 3) (ixT (vT 4) (cT (.int 0))))))
    (retS (vT 3))))
def T_first_unlike : DTS := (seqS (parS [2, 3] (consA (callF (ofF m_flags_of) (consA (vT 0) nilA)) (consA (callF (ofF m_flags_of) (consA (vT 1) nilA)) nilA)))
    (seqS (forS (.t [4, 5]) (seqI (callF (ofF m_all_cases) (consA (vT 0) (consA (callT tupD (consA (frT (sosN (opT addD (vT 2) (vT 3)))) nilA)) nilA))))
    (seqS (setS 6 (callF (ofF m_known_in) (consA (vT 0) (consA (callT tupD (consA (frT (lcN (.n 8) (seqI (vT 4)) (cmB inD (vT 8) (vT 2)) (vT 8) [8])) nilA)) (consA (vT 5) nilA)))))
    (seqS (setS 7 (callF (ofF m_known_in) (consA (vT 1) (consA (callT tupD (consA (frT (lcN (.n 8) (seqI (vT 4)) (cmB inD (vT 8) (vT 3)) (vT 8) [8])) nilA)) (consA (vT 5) nilA)))))
    (ifS (cmB neD (frT (lcN (.n 8) (seqI (callF (ofF m_names_of) (consA (vT 0) nilA))) (cmB neD (ixT (vT 6) (vT 8)) (ixT (vT 7) (vT 8))) (vT 8) [8])) (frT (lstN nilA))) (retS (tupT (consA (vT 4) (consA (vT 5) nilA)))) skipS))))
    (retS (cT (.none)))))
def T_is_text_of : DTS := (seqS (ifS (orB (notB (bT (isiT "str" (vT 0)))) (notB (chB leD leD (cT (.int 1)) (callT lenD (consA (vT 0) nilA)) (vT 2)))) (retS (cT (.bool false))) skipS)
    (retS (callT allD (consA (frT (lcN (.n 3) (seqI (vT 0)) yesB (cmT inD (vT 3) (vT 1)) [3])) nilA))))
def T_is_name : DTS := (retS (andT (callF (ofF m_is_text_of) (consA (vT 0) (consA (cT c_LETTERS) (consA (cT c_MOST_NAME) nilA)))) (cmT notinD (vT 0) (cT c_WORDS))))
def T_are_names : DTS := (seqS (ifS (orB (notB (bT (isiT "tuple" (vT 0)))) (orB (cmB gtD (callT lenD (consA (vT 0) nilA)) (vT 1)) (notB (bT (callT allD (consA (frT (lcN (.n 2) (seqI (vT 0)) yesB (callF (ofF m_is_name) (consA (vT 2) nilA)) [2])) nilA)))))) (retS (cT (.bool false))) skipS)
    (retS (callT allD (consA (frT (lcN (.t [3, 4]) (zipI (consA (vT 0) (consA (slT (vT 0) (someP (cT (.int 1))) noP) nilA))) yesB (cmT ltD (vT 3) (vT 4)) [3, 4])) nilA))))
def T_is_status : DTS := (retS (andT (isiT "str" (vT 0)) (cmT inD (vT 0) (cT c_STATUSES))))
def T_is_within (n : Nat) : DTS := (seqS (ifS (orB (notB (bT (isiT "tuple" (vT 0)))) (orB (cmB eqD (vT 0) (tupT nilA)) (orB (notB (bT (isiT "str" (ixT (vT 0) (cT (.int 0)))))) (cmB eqD (vT 1) (cT (.int 0)))))) (retS (cT (.bool false))) skipS)
    (seqS (par2S 2 3 (consA (ixT (vT 0) (cT (.int 0))) (consA (slT (vT 0) (someP (cT (.int 1))) noP) nilA)))
    (seqS (ifS (cmB inD (vT 2) (cT c_PLAIN)) (retS (cmT eqD (vT 3) (tupT nilA))) skipS)
    (seqS (ifS (cmB eqD (vT 2) (cT (.str "is"))) (retS (andT (cmT eqD (callT lenD (consA (vT 3) nilA)) (cT (.int 2))) (andT (callF (ofF m_is_name) (consA (ixT (vT 3) (cT (.int 0))) nilA)) (callF (ofF m_is_status) (consA (ixT (vT 3) (cT (.int 1))) nilA))))) skipS)
    (seqS (ifS (cmB eqD (vT 2) (cT (.str "flag"))) (retS (andT (cmT eqD (callT lenD (consA (vT 3) nilA)) (cT (.int 1))) (callF (ofF m_is_name) (consA (ixT (vT 3) (cT (.int 0))) nilA)))) skipS)
    (seqS (ifS (cmB eqD (vT 2) (cT (.str "not"))) (retS (andT (cmT eqD (callT lenD (consA (vT 3) nilA)) (cT (.int 1))) (callF (ofF (m_is_within n)) (consA (ixT (vT 3) (cT (.int 0))) (consA (opT subD (vT 1) (cT (.int 1))) nilA))))) skipS)
    (seqS (ifS (cmB inD (vT 2) (tupT (consA (cT (.str "and")) (consA (cT (.str "or")) nilA)))) (retS (andT (cmT leD (callT lenD (consA (vT 3) nilA)) (cT c_MOST_PARTS)) (callT allD (consA (frT (lcN (.n 4) (seqI (vT 3)) yesB (callF (ofF (m_is_within n)) (consA (vT 4) (consA (opT subD (vT 1) (cT (.int 1))) nilA))) [4])) nilA)))) skipS)
    (retS (cT (.bool false))))))))))
def T_is_condition : DTS := (retS (callF (ofF (m_is_within 6)) (consA (vT 0) (consA (cT c_MOST_DEEP) nilA))))
def T_is_job : DTS := (seqS (ifS (orB (notB (bT (isiT "tuple" (vT 0)))) (orB (cmB neD (callT lenD (consA (vT 0) nilA)) (cT (.int 5))) (orB (notB (bT (callF (ofF m_is_name) (consA (ixT (vT 0) (cT (.int 0))) nilA)))) (notB (bT (callF (ofF m_are_names) (consA (ixT (vT 0) (cT (.int 1))) (consA (cT c_MOST_NEEDS) nilA)))))))) (retS (cT (.bool false))) skipS)
    (seqS (ifS (orB (notB (bT (callF (ofF m_is_condition) (consA (ixT (vT 0) (cT (.int 2))) nilA)))) (cmB neD (frT (lcN (.n 1) (seqI (callF (ofF (m_words_in 20)) (consA (ixT (vT 0) (cT (.int 2))) (consA (cT (.str "is")) nilA)))) (cmB notinD (vT 1) (ixT (vT 0) (cT (.int 1)))) (vT 1) [1])) (frT (lstN nilA)))) (retS (cT (.bool false))) skipS)
    (retS (andT (callF (ofF m_are_names) (consA (ixT (vT 0) (cT (.int 3))) (consA (cT c_MOST_READS) nilA))) (isiT "bool" (ixT (vT 0) (cT (.int 4))))))))
def T_is_pipeline : DTS := (seqS (ifS (orB (notB (bT (isiT "tuple" (vT 0)))) (notB (chB leD leD (cT (.int 1)) (callT lenD (consA (vT 0) nilA)) (cT c_MOST_JOBS)))) (retS (cT (.bool false))) skipS)
    (seqS (setS 1 (owT (lstN nilA)))
    (seqS (forS (.n 2) (seqI (vT 0))
    (seqS (ifS (orB (notB (bT (callF (ofF m_is_job) (consA (vT 2) nilA)))) (orB (cmB inD (ixT (vT 2) (cT (.int 0))) (vT 1)) (cmB neD (frT (lcN (.n 3) (seqI (ixT (vT 2) (cT (.int 1)))) (cmB notinD (vT 3) (vT 1)) (vT 3) [3])) (frT (lstN nilA))))) (retS (cT (.bool false))) skipS)
    (exprS (appT (vT 1) (ixT (vT 2) (cT (.int 0)))))))
    (retS (cmT leD (callT lenD (consA (callF (ofF m_flags_of) (consA (vT 0) nilA)) nilA)) (cT c_MOST_FLAGS))))))
def T_need_pipeline : DTS := (ifS (notB (bT (callF (ofF m_is_pipeline) (consA (vT 0) nilA)))) neverS skipS)
def T_with_job : DTS := (retS (opT addD (opT addD (slT (vT 0) noP (someP (vT 1))) (tupT (consA (vT 2) nilA))) (slT (vT 0) (someP (opT addD (vT 1) (cT (.int 1)))) noP)))
def T_least_pipeline : DTS := (seqS (exprS (callF (ofF m_need_pipeline) (consA (vT 0) nilA)))
    (seqS (setS 1 (vT 0))
    (seqS (forS (.t [2, 3]) (enumI (consA (vT 0) nilA))
    (seqS (setS 4 (cT (.none)))
    (seqS (forS (.n 5) (seqI (tupT (consA (tupT (consA (cT (.str "always")) nilA)) (consA (tupT (consA (cT (.str "or")) nilA)) (consA (tupT (consA (cT (.str "good")) nilA)) (consA (tupT (consA (cT (.str "bad")) nilA)) nilA))))))
    (seqS (setS 6 (callF (ofF m_with_job) (consA (vT 0) (consA (vT 2) (consA (opT addD (opT addD (slT (vT 3) noP (someP (cT (.int 2)))) (tupT (consA (vT 5) nilA))) (slT (vT 3) (someP (cT (.int 3))) noP)) nilA)))))
    (ifS (andB (bT (isnT (vT 4))) (bT (isnT (callF (ofF m_first_unlike) (consA (vT 0) (consA (vT 6) nilA)))))) (setS 4 (vT 5)) skipS)))
    (ifS (bT (nonT (vT 4))) (setS 1 (callF (ofF m_with_job) (consA (vT 1) (consA (vT 2) (consA (opT addD (opT addD (slT (vT 3) noP (someP (cT (.int 2)))) (tupT (consA (vT 4) nilA))) (slT (vT 3) (someP (cT (.int 3))) noP)) nilA))))) skipS))))
    (retS (vT 1)))))
def T_names_of__x : DTS := (retS (callX tupX (consA (frT (lcN (.n 1) (seqI (vT 0)) yesB (ixT (vT 1) (cT (.int 0))) [1])) nilA)))
def T_need_name : DTS := (ifS (orB (notB (bT (callF (ofF m_is_name) (consA (vT 1) nilA)))) (cmB notinD (vT 1) (callF (ofF m_names_of) (consA (vT 0) nilA)))) neverS skipS)
def T_needless_needs : DTS := (seqS (exprS (callF (ofF m_need_pipeline) (consA (vT 0) nilA)))
    (seqS (exprS (callF (ofF m_need_name) (consA (vT 0) (consA (vT 1) nilA))))
    (seqS (setS 2 (idxT (callF (ofF m_names_of__x) (consA (vT 0) nilA)) (vT 1)))
    (seqS (par2S 3 4 (consA (ixT (vT 0) (vT 2)) (consA (owT (lstN nilA)) nilA)))
    (seqS (forS (.n 5) (seqI (ixT (vT 3) (cT (.int 1))))
    (ifS (cmB notinD (vT 5) (callF (ofF (m_words_in 20)) (consA (ixT (vT 3) (cT (.int 2))) (consA (cT (.str "is")) nilA)))) (seqS (setS 6 (callT tupD (consA (frT (lcN (.n 7) (seqI (ixT (vT 3) (cT (.int 1)))) (cmB neD (vT 7) (vT 5)) (vT 7) [7])) nilA)))
    (ifS (bT (isnT (callF (ofF m_first_unlike) (consA (vT 0) (consA (callF (ofF m_with_job) (consA (vT 0) (consA (vT 2) (consA (opT addD (tupT (consA (vT 1) (consA (vT 6) nilA))) (slT (vT 3) (someP (cT (.int 2))) noP)) nilA)))) nilA))))) (exprS (appT (vT 4) (vT 5))) skipS)) skipS))
    (retS (vT 4)))))))
end
end PJ
namespace J
open PySem PySem.Spec PyProof.Rows L2
variable [Tb]
/-- a def whose code object is c -/
structure FunC (K : PySem.W.Frag) (x : Str) (st : Stmt) (f : Addr) (fd : FuncData) (c : Addr) : Prop where
  ex : ∃ (oc : Value) (od : Option Addr) (kV doc pm : Value) (an : Option Addr) (ct : Value) (osl : Array (Option Value)),
    fd = PySem.W.fnOf x x (defArgs st) (defBody st) (defScope st) .none kV doc pm an (.ref c) ct ∧ K.lookup f = some ⟨oc, od, .func fd, osl⟩ ∧ PySem.W.codeIn K (.ref c) x = true
  kp : PySem.W.keepIn K (.ref f) = true
  fn : Fun K x x st f fd
def FnAtC (K : PySem.W.Frag) (mg : Str → Option Value) (x : Str) (st : Stmt) (c : Addr) : Prop := ∃ f fd, FunC K x st f fd c ∧ mg x = some (.ref f)
theorem funC_mk {K : PySem.W.Frag} {x : Str} {st : Stmt} {f c : Addr} {oc : Value} {od an : Option Addr} {osl : Array (Option Value)} {kV doc pm ct : Value} (l : K.lookup f = some ⟨oc, od, .func (PySem.W.fnOf x x (defArgs st) (defBody st) (defScope st) .none kV doc pm an (.ref c) ct), osl⟩)
    (h : PySem.W.codeIn K (.ref c) x = true) (k : PySem.W.keepIn K (.ref f) = true) : FunC K x st f (PySem.W.fnOf x x (defArgs st) (defBody st) (defScope st) .none kV doc pm an (.ref c) ct) c :=
  ⟨⟨oc, od, kV, doc, pm, an, ct, osl, rfl, l, h⟩, k, fun_mk l h k⟩
/-- the code object's table, its lambdas' name -/
structure LamAt (base : Heap) (mg : Str → Option Value) (c Pt : Addr) (q : Str) : Prop where
  tb : LamX.TabB base mg c Pt
  m : (Pt, q) ∈ Tb.t
  u : ∀ p : Addr × Str, p ∈ Tb.t → p.1 = Pt → p.2 = q
section
variable {P : Program} {w : World} {K : PySem.W.Frag} {mg : Str → Option Value} {base : Heap}
theorem fn_DL {x : Str} {st : Stmt} {f c : Addr} {fd : FuncData} {N ps : List Str} {k : Nat} (fin : Fin) (hfin : FinOk fin) (F : FunC K x st f fd c) (Sc : FnScope N ps (defScope st)) (S : CT) (T : DTS) (hlen : ∀ svs μ Q, S svs μ Q → svs.length = ps.length)
    (hb : ∀ (A : Around) (outer : List Env) (s : Shared) (H : Hp) (E : XK), Room k (A.deeper (envOfC x (defScope st) s.heap.objs.size f (.ref c))) → DSs (cxOf CX0 P w K mg base N x (defScope st) f (.ref c) A outer s H E).nox (defBody st) T)
    (hT : ∀ svs μ Q, S svs μ Q → T ⟨fun _ μ' => fin Q μ.length (.d .none) μ', fun sv μ' => fin Q μ.length sv μ', fun _ _ => False, fun _ _ => False⟩ (startE N svs) μ) :
    FnOk P w K mg base CX0 (k + 1) f fd ps (LS K S) := by
  obtain ⟨oc, od, kV, doc, pm, an, ct, osl, rfl, lk, hc⟩ := F.ex
  exact fn_DC fin hfin lk hc Sc S T hlen hb hT
theorem fd_DL {x : Str} {st : Stmt} {f c : Addr} {fd : FuncData} {N ps : List Str} {k : Nat} (fin : Fin) (hfin : FinOk fin) (F : FunC K x st f fd c) (hm : mg x = some (.ref f)) (hbd : L2.Binds K fd ps []) (Sc : FnScope N ps (defScope st)) (S : CT) (T : DTS)
    (hb : ∀ (A : Around) (outer : List Env) (s : Shared) (H : Hp) (E : XK), Room k (A.deeper (envOfC x (defScope st) s.heap.objs.size f (.ref c))) → DSs (cxOf CX0 P w K mg base N x (defScope st) f (.ref c) A outer s H E).nox (defBody st) T)
    (hlen : ∀ svs μ Q, S svs μ Q → svs.length = ps.length)
    (hT : ∀ svs μ Q, S svs μ Q → T ⟨fun _ μ' => fin Q μ.length (.d .none) μ', fun sv μ' => fin Q μ.length sv μ', fun _ _ => False, fun _ _ => False⟩ (startE N svs) μ) : FD P w K mg base (k + 1) x S :=
  ⟨f, fd, ps, fn_DL fin hfin F Sc S T hlen hb hT, hm, F.kp, hbd⟩
theorem exAt_mk {h : Heap} {n : Str} {bm : List Value} {C : Addr} (X : K.In h) (G : h.Ns mainGlobals mg) (a : PySem.W.nsIn K mainGlobals n = some (some (.ref C))) (x : PySem.W.excIn K C bm "ValueError.__new__" = true) (k : PySem.W.keepIn K (.ref C) = true)
    (b : PySem.W.subIn K (.ref C) (.type "BaseException") = some true) (t : PySem.W.typeIn K (.ref C) = some (.type "type")) (e : PySem.W.exmOne K (.ref C) (.ref C) = some true) : ∃ C, ExAt K mg n bm C :=
  ⟨C, PySem.W.mg_of X G a, x, k, b, t, e⟩
end
section
variable {X : Cx} {W : WX} {a e : Expr} {sts : List Stmt} {pos : Pos} {T : DTX}
theorem lex_any {K : PySem.W.Frag} {mg : Str → Option Value} {σ : L2.St} {H : Hp} {Q Q' : VK} : LEX K mg W T σ H Q → LEX K mg W T σ H Q' := id
theorem ex_isN {j pos'} (ha : EX X W a T) : EX X W (.Compare a [.Is] [.Constant .none j pos'] pos) T := ⟨(pe_cmp (pc_isN ha.pe) rfl).weak fun _ _ _ h => h⟩
theorem ex_notN {j pos'} (ha : EX X W a T) : EX X W (.Compare a [.IsNot] [.Constant .none j pos'] pos) T := ⟨(pe_cmp (pc_notN ha.pe) rfl).weak fun _ _ _ h => h⟩
end
/-- what the law's end asks -/
theorem lawAtS_mk {l : PySem.W.OpenLaw} {w : World} {K : PySem.W.Frag} {k n : Nat} {x : Str} {mg : Str → Option Value} {fa : Addr} {h : Heap} {fd : FuncData} (cs : List (Addr × Addr)) (S : CT) (X : K.In h) (hn : n ≤ 63)
    (ht : Tb.t.map (·.1) = cs.map (·.2))
    (hT : ∀ p ∈ cs, h.get? p.2 = some { cls := .none, data := .fields #[] }) (nT : ∀ p ∈ cs, K.lookup p.2 = none) (C : ∀ p ∈ cs, PySem.W.CodeHd h p.1 p.2) (hb : ∀ (s : Shared) (u : Value), BindsTo s fd ⟨[u], []⟩ [(x, u)])
    (hin : ∀ ns : List Int, ns.length ≤ 63 → ∀ Q : SV → Mu → Prop, Q (.d (.bool true)) [] → S [.scr ns] [] Q)
    (hF : ∀ base : Heap, K.In base → base.Ns mainGlobals mg → (∀ p ∈ cs, LamX.TabB base mg p.1 p.2) → FnOk l.prog w K mg base CX0 k fa fd [x] (LS K S)) : LamX.LawAtS l w K CX0 k n x mg fa h := by
  refine ⟨fd, cs, LS K S, hT, nT, C, hb, fun H a ns hl _ hH hS => ls_law (Nat.le_trans hl hn) (fun y hy => ?_) hS (hin ns (Nat.le_trans hl hn)), hF⟩
  obtain ⟨p, hp, e⟩ := List.mem_map.mp (ht ▸ List.mem_map_of_mem hy : y.1 ∈ cs.map (·.2))
  rw [← e]; exact hH p hp
end J
namespace PJ
open PySem PySem.Spec PyProof.Rows L2 J
variable [J.Tb]
def top (i : Nat) : Stmt := PySem.Challenge.pw_jobwise_k08_whole_least_pipelines_and_ne.main.body.getD i (.Pass ⟨0, 0, 0, 0⟩)
abbrev s__law_asked : Stmt := top 61
theorem sc__law_asked : FnScope ["_law_condition_here", "_law_found", "_law_part"] ["_law_condition_here"] (defScope s__law_asked) := ⟨rfl, rfl, rfl, by decide +kernel, rfl, by decide +kernel, by decide +kernel⟩
abbrev s__law_flags : Stmt := top 57
theorem sc__law_flags : FnScope ["_law_condition_here", "_law_found", "_law_part"] ["_law_condition_here"] (defScope s__law_flags) := ⟨rfl, rfl, rfl, by decide +kernel, rfl, by decide +kernel, by decide +kernel⟩
abbrev s__law_all_flags : Stmt := top 58
theorem sc__law_all_flags : FnScope ["_law_pipeline_here", "_law_found", "_law_job_here"] ["_law_pipeline_here"] (defScope s__law_all_flags) := ⟨rfl, rfl, rfl, by decide +kernel, rfl, by decide +kernel, by decide +kernel⟩
abbrev s__law_names : Stmt := top 55
theorem sc__law_names : FnScope ["_law_pipeline_here", "_law_job_here"] ["_law_pipeline_here"] (defScope s__law_names) := ⟨rfl, rfl, rfl, by decide +kernel, rfl, by decide +kernel, by decide +kernel⟩
abbrev s__law_parts : Stmt := top 56
theorem sc__law_parts : FnScope ["_law_names_here", "_law_found", "_law_name", "_law_part"] ["_law_names_here"] (defScope s__law_parts) := ⟨rfl, rfl, rfl, by decide +kernel, rfl, by decide +kernel, by decide +kernel⟩
abbrev s__law_cases : Stmt := top 59
theorem sc__law_cases : FnScope ["_law_pipeline_here", "_law_found", "_law_flags_here", "_law_bads"] ["_law_pipeline_here"] (defScope s__law_cases) := ⟨rfl, rfl, rfl, by decide +kernel, rfl, by decide +kernel, by decide +kernel⟩
abbrev s__law_holds : Stmt := top 53
theorem sc__law_holds : FnScope ["_law_condition_here", "_law_seen", "_law_flags_here", "_law_stopped", "_law_word", "_law_rest", "_law_told", "_law_name", "_law_status", "_law_part"] ["_law_condition_here", "_law_seen", "_law_flags_here", "_law_stopped"] (defScope s__law_holds) := ⟨rfl, rfl, rfl, by decide +kernel, rfl, by decide +kernel, by decide +kernel⟩
abbrev s__law_known : Stmt := top 54
theorem sc__law_known : FnScope ["_law_pipeline_here", "_law_flags_here", "_law_bads", "_law_known_here", "_law_name", "_law_needs", "_law_condition_here", "_law_reads", "_law_soft", "_law_seen", "_law_need"] ["_law_pipeline_here", "_law_flags_here", "_law_bads"] (defScope s__law_known) := ⟨rfl, rfl, rfl, by decide +kernel, rfl, by decide +kernel, by decide +kernel⟩
abbrev s__law_same : Stmt := top 60
theorem sc__law_same : FnScope ["_law_pipeline_here", "_law_other", "_law_known_here", "_law_flags_here", "_law_bads", "_law_some", "_law_flag"] ["_law_pipeline_here", "_law_other"] (defScope s__law_same) := ⟨rfl, rfl, rfl, by decide +kernel, rfl, by decide +kernel, by decide +kernel⟩
abbrev s__law_with : Stmt := top 62
theorem sc__law_with : FnScope ["_law_pipeline_here", "_law_at", "_law_needs", "_law_condition_here", "_law_job_here", "_law_late"] ["_law_pipeline_here", "_law_at", "_law_needs", "_law_condition_here"] (defScope s__law_with) := ⟨rfl, rfl, rfl, by decide +kernel, rfl, by decide +kernel, by decide +kernel⟩
abbrev s__law_is_needless : Stmt := top 64
theorem sc__law_is_needless : FnScope ["_law_pipeline_here", "_law_at", "_law_need", "_law_job_here", "_law_rest", "_law_other"] ["_law_pipeline_here", "_law_at", "_law_need"] (defScope s__law_is_needless) := ⟨rfl, rfl, rfl, by decide +kernel, rfl, by decide +kernel, by decide +kernel⟩
abbrev s__law_draw : Stmt := top 48
theorem sc__law_draw : FnScope ["_law_source_here", "_law_size", "_law_drawn"] ["_law_source_here", "_law_size"] (defScope s__law_draw) := ⟨rfl, rfl, rfl, by decide +kernel, rfl, by decide +kernel, by decide +kernel⟩
abbrev s__law_choice : Stmt := top 49
theorem sc__law_choice : FnScope ["_law_source_here", "_law_items"] ["_law_source_here", "_law_items"] (defScope s__law_choice) := ⟨rfl, rfl, rfl, by decide +kernel, rfl, by decide +kernel, by decide +kernel⟩
abbrev s__law_condition : Stmt := top 50
theorem sc__law_condition : FnScope ["_law_source_here", "_law_needs", "_law_deep", "_law_way", "_law_status", "_law_parts_here", "_law_turn"] ["_law_source_here", "_law_needs", "_law_deep"] (defScope s__law_condition) := ⟨rfl, rfl, rfl, by decide +kernel, rfl, by decide +kernel, by decide +kernel⟩
abbrev s__law_job : Stmt := top 51
theorem sc__law_job : FnScope ["_law_source_here", "_law_name", "_law_known_here", "_law_needs", "_law_deep", "_law_reads", "_law_other", "_law_one"] ["_law_source_here", "_law_name", "_law_known_here"] (defScope s__law_job) := ⟨rfl, rfl, rfl, by decide +kernel, rfl, by decide +kernel, by decide +kernel⟩
abbrev s__law_pipeline : Stmt := top 52
theorem sc__law_pipeline : FnScope ["_law_source_here", "_law_most", "_law_left", "_law_known_here", "_law_found", "_law_turn", "_law_name"] ["_law_source_here", "_law_most"] (defScope s__law_pipeline) := ⟨rfl, rfl, rfl, by decide +kernel, rfl, by decide +kernel, by decide +kernel⟩
abbrev s__law_plain : Stmt := top 63
theorem sc__law_plain : FnScope ["_law_pipeline_here", "_law_at", "_law_condition_here"] ["_law_pipeline_here", "_law_at"] (defScope s__law_plain) := ⟨rfl, rfl, rfl, by decide +kernel, rfl, by decide +kernel, by decide +kernel⟩
abbrev s__law_source : Stmt := top 47
theorem sc__law_source : FnScope ["_law_script", "_law_index", "_law_cell"] ["_law_script", "_law_index"] (defScope s__law_source) := ⟨rfl, rfl, rfl, by decide +kernel, rfl, by decide +kernel, by decide +kernel⟩
abbrev s_all_parts : Stmt := top 17
theorem sc_all_parts : FnScope ["names", "found", "name", "part"] ["names"] (defScope s_all_parts) := ⟨rfl, rfl, rfl, by decide +kernel, rfl, by decide +kernel, by decide +kernel⟩
abbrev s_names_of : Stmt := top 34
theorem sc_names_of : FnScope ["pipeline", "job"] ["pipeline"] (defScope s_names_of) := ⟨rfl, rfl, rfl, by decide +kernel, rfl, by decide +kernel, by decide +kernel⟩
abbrev s_all_cases : Stmt := top 41
theorem sc_all_cases : FnScope ["pipeline", "flags", "bads", "found", "part", "bad"] ["pipeline", "flags"] (defScope s_all_cases) := ⟨rfl, rfl, rfl, by decide +kernel, rfl, by decide +kernel, by decide +kernel⟩
abbrev s_words_in : Stmt := top 24
theorem sc_words_in : FnScope ["condition", "word", "found", "part"] ["condition", "word"] (defScope s_words_in) := ⟨rfl, rfl, rfl, by decide +kernel, rfl, by decide +kernel, by decide +kernel⟩
abbrev s_flags_of : Stmt := top 32
theorem sc_flags_of : FnScope ["pipeline", "found", "job"] ["pipeline"] (defScope s_flags_of) := ⟨rfl, rfl, rfl, by decide +kernel, rfl, by decide +kernel, by decide +kernel⟩
abbrev s_does_hold : Stmt := top 25
theorem sc_does_hold : FnScope ["condition", "seen", "flags", "stopped", "word", "parts", "name", "status", "part"] ["condition", "seen", "flags", "stopped"] (defScope s_does_hold) := ⟨rfl, rfl, rfl, by decide +kernel, rfl, by decide +kernel, by decide +kernel⟩
abbrev s_ended_as : Stmt := top 38
theorem sc_ended_as : FnScope ["job", "bads"] ["job", "bads"] (defScope s_ended_as) := ⟨rfl, rfl, rfl, by decide +kernel, rfl, by decide +kernel, by decide +kernel⟩
abbrev s_seen_by : Stmt := top 37
theorem sc_seen_by : FnScope ["job", "known", "name"] ["job", "known"] (defScope s_seen_by) := ⟨rfl, rfl, rfl, by decide +kernel, rfl, by decide +kernel, by decide +kernel⟩
abbrev s_known_in : Stmt := top 39
theorem sc_known_in : FnScope ["pipeline", "flags", "bads", "known", "job"] ["pipeline", "flags", "bads"] (defScope s_known_in) := ⟨rfl, rfl, rfl, by decide +kernel, rfl, by decide +kernel, by decide +kernel⟩
abbrev s_first_unlike : Stmt := top 43
theorem sc_first_unlike : FnScope ["pipeline", "other", "one", "two", "flags", "bads", "first", "second", "name"] ["pipeline", "other"] (defScope s_first_unlike) := ⟨rfl, rfl, rfl, by decide +kernel, rfl, by decide +kernel, by decide +kernel⟩
abbrev s_is_text_of : Stmt := top 13
theorem sc_is_text_of : FnScope ["value", "signs", "most", "sign"] ["value", "signs", "most"] (defScope s_is_text_of) := ⟨rfl, rfl, rfl, by decide +kernel, rfl, by decide +kernel, by decide +kernel⟩
abbrev s_is_name : Stmt := top 14
theorem sc_is_name : FnScope ["value"] ["value"] (defScope s_is_name) := ⟨rfl, rfl, rfl, by decide +kernel, rfl, by decide +kernel, by decide +kernel⟩
abbrev s_are_names : Stmt := top 15
theorem sc_are_names : FnScope ["value", "most", "name", "one", "other"] ["value", "most"] (defScope s_are_names) := ⟨rfl, rfl, rfl, by decide +kernel, rfl, by decide +kernel, by decide +kernel⟩
abbrev s_is_status : Stmt := top 16
theorem sc_is_status : FnScope ["value"] ["value"] (defScope s_is_status) := ⟨rfl, rfl, rfl, by decide +kernel, rfl, by decide +kernel, by decide +kernel⟩
abbrev s_is_within : Stmt := top 22
theorem sc_is_within : FnScope ["value", "deep", "word", "rest", "part"] ["value", "deep"] (defScope s_is_within) := ⟨rfl, rfl, rfl, by decide +kernel, rfl, by decide +kernel, by decide +kernel⟩
abbrev s_is_condition : Stmt := top 23
theorem sc_is_condition : FnScope ["value"] ["value"] (defScope s_is_condition) := ⟨rfl, rfl, rfl, by decide +kernel, rfl, by decide +kernel, by decide +kernel⟩
abbrev s_is_job : Stmt := top 31
theorem sc_is_job : FnScope ["value", "name"] ["value"] (defScope s_is_job) := ⟨rfl, rfl, rfl, by decide +kernel, rfl, by decide +kernel, by decide +kernel⟩
abbrev s_is_pipeline : Stmt := top 33
theorem sc_is_pipeline : FnScope ["value", "known", "job", "name"] ["value"] (defScope s_is_pipeline) := ⟨rfl, rfl, rfl, by decide +kernel, rfl, by decide +kernel, by decide +kernel⟩
abbrev s_need_pipeline : Stmt := top 35
theorem sc_need_pipeline : FnScope ["pipeline"] ["pipeline"] (defScope s_need_pipeline) := ⟨rfl, rfl, rfl, by decide +kernel, rfl, by decide +kernel, by decide +kernel⟩
abbrev s_with_job : Stmt := top 42
theorem sc_with_job : FnScope ["pipeline", "place", "job"] ["pipeline", "place", "job"] (defScope s_with_job) := ⟨rfl, rfl, rfl, by decide +kernel, rfl, by decide +kernel, by decide +kernel⟩
abbrev s_least_pipeline : Stmt := top 45
theorem sc_least_pipeline : FnScope ["pipeline", "found", "place", "job", "right", "condition", "plain"] ["pipeline"] (defScope s_least_pipeline) := ⟨rfl, rfl, rfl, by decide +kernel, rfl, by decide +kernel, by decide +kernel⟩
abbrev s_need_name : Stmt := top 36
theorem sc_need_name : FnScope ["pipeline", "name"] ["pipeline", "name"] (defScope s_need_name) := ⟨rfl, rfl, rfl, by decide +kernel, rfl, by decide +kernel, by decide +kernel⟩
abbrev s_needless_needs : Stmt := top 44
theorem sc_needless_needs : FnScope ["pipeline", "name", "place", "job", "found", "need", "rest", "other"] ["pipeline", "name"] (defScope s_needless_needs) := ⟨rfl, rfl, rfl, by decide +kernel, rfl, by decide +kernel, by decide +kernel⟩
abbrev s_law : Stmt := top 65
theorem sc_law : FnScope ["_law_script", "_law_k", "_law_source_here", "_law_pipeline_here", "_law_due", "_law_at", "_law_job_here", "_law_needless", "_law_found", "_law_jobs", "_law_need"] ["_law_script"] (defScope s_law) := ⟨rfl, rfl, rfl, by decide +kernel, rfl, by decide +kernel, by decide +kernel⟩
structure Fx (K : PySem.W.Frag) (mg : Str → Option Value) (cl : Nat → Addr) : Prop where
  n_abs : mg "abs" = none
  n_all : mg "all" = none
  n_any : mg "any" = none
  n_bool : mg "bool" = none
  n_enumerate : mg "enumerate" = none
  n_isinstance : mg "isinstance" = none
  n_len : mg "len" = none
  n_list : mg "list" = none
  n_min : mg "min" = none
  n_range : mg "range" = none
  n_set : mg "set" = none
  n_sorted : mg "sorted" = none
  n_str : mg "str" = none
  n_tuple : mg "tuple" = none
  n_zip : mg "zip" = none
  c_LETTERS : GC K mg "LETTERS" c_LETTERS
  c_WORDS : GC K mg "WORDS" c_WORDS
  c_MOST_NAME : GC K mg "MOST_NAME" c_MOST_NAME
  c_GOOD : GC K mg "GOOD" c_GOOD
  c_BAD : GC K mg "BAD" c_BAD
  c_PASSED : GC K mg "PASSED" c_PASSED
  c_STATUSES : GC K mg "STATUSES" c_STATUSES
  c_MOST_DEEP : GC K mg "MOST_DEEP" c_MOST_DEEP
  c_MOST_PARTS : GC K mg "MOST_PARTS" c_MOST_PARTS
  c_PLAIN : GC K mg "PLAIN" c_PLAIN
  c_MOST_JOBS : GC K mg "MOST_JOBS" c_MOST_JOBS
  c_MOST_NEEDS : GC K mg "MOST_NEEDS" c_MOST_NEEDS
  c_MOST_READS : GC K mg "MOST_READS" c_MOST_READS
  c_MOST_FLAGS : GC K mg "MOST_FLAGS" c_MOST_FLAGS
  f__law_asked : FnAt K mg "_law_asked" s__law_asked
  f__law_flags : FnAt K mg "_law_flags" s__law_flags
  f__law_all_flags : FnAt K mg "_law_all_flags" s__law_all_flags
  f__law_names : FnAt K mg "_law_names" s__law_names
  f__law_parts : FnAt K mg "_law_parts" s__law_parts
  f__law_cases : FnAt K mg "_law_cases" s__law_cases
  f__law_holds : FnAt K mg "_law_holds" s__law_holds
  f__law_known : FnAt K mg "_law_known" s__law_known
  f__law_same : FnAt K mg "_law_same" s__law_same
  f__law_with : FnAt K mg "_law_with" s__law_with
  f__law_is_needless : FnAt K mg "_law_is_needless" s__law_is_needless
  f__law_draw : FnAt K mg "_law_draw" s__law_draw
  f__law_choice : FnAt K mg "_law_choice" s__law_choice
  f__law_condition : FnAt K mg "_law_condition" s__law_condition
  f__law_job : FnAt K mg "_law_job" s__law_job
  f__law_pipeline : FnAt K mg "_law_pipeline" s__law_pipeline
  f__law_plain : FnAt K mg "_law_plain" s__law_plain
  f__law_source : FnAt K mg "_law_source" s__law_source
  f_all_parts : FnAt K mg "all_parts" s_all_parts
  f_names_of : FnAt K mg "names_of" s_names_of
  f_all_cases : FnAt K mg "all_cases" s_all_cases
  f_words_in : FnAt K mg "words_in" s_words_in
  f_flags_of : FnAt K mg "flags_of" s_flags_of
  f_does_hold : FnAt K mg "does_hold" s_does_hold
  f_ended_as : FnAt K mg "ended_as" s_ended_as
  f_seen_by : FnAt K mg "seen_by" s_seen_by
  f_known_in : FnAt K mg "known_in" s_known_in
  f_first_unlike : FnAt K mg "first_unlike" s_first_unlike
  f_is_text_of : FnAt K mg "is_text_of" s_is_text_of
  f_is_name : FnAt K mg "is_name" s_is_name
  f_are_names : FnAt K mg "are_names" s_are_names
  f_is_status : FnAt K mg "is_status" s_is_status
  f_is_within : FnAt K mg "is_within" s_is_within
  f_is_condition : FnAt K mg "is_condition" s_is_condition
  f_is_job : FnAt K mg "is_job" s_is_job
  f_is_pipeline : FnAt K mg "is_pipeline" s_is_pipeline
  f_need_pipeline : FnAt K mg "need_pipeline" s_need_pipeline
  f_with_job : FnAt K mg "with_job" s_with_job
  f_least_pipeline : FnAt K mg "least_pipeline" s_least_pipeline
  f_need_name : FnAt K mg "need_name" s_need_name
  f_needless_needs : FnAt K mg "needless_needs" s_needless_needs
  f_law : FnAt K mg "law" s_law
theorem f__law_asked {P : Program} {w : World} {K : PySem.W.Frag} {mg : Str → Option Value} {base : Heap} {cl : Nat → Addr} {n : Nat} (Fx : Fx K mg cl) (F__law_asked : FD P w K mg base (1 + n) "_law_asked" (ofF (m__law_asked n))) :
    FD P w K mg base (1 + n + 1) "_law_asked" (ofF (m__law_asked (n + 1))) := by
  obtain ⟨f, fd, F, hm⟩ := Fx.f__law_asked
  refine fd_D finD finD_ok F hm (F.binds (ps := ["_law_condition_here"]) fun _ _ _ _ _ _ us hl => match us, hl with | [_], _ => rfl) sc__law_asked (ofF (m__law_asked (n + 1))) (T__law_asked n) (fun cdv A outer s H E hr => ?_) def_len (def_hT (T := (T__law_asked n)) if_D (is_sq (is_if (im_cmB eqD (im_ix (im_v 0) (im_c (.int 0))) (im_c (.str "is"))) (is_rt (im_fr (im_lst (im_cons (im_ix (im_v 0) (im_c (.int 1))) im_nil)))) is_skip) (is_sq (is_st 1 (im_fr (im_lst im_nil))) (is_sq (is_if (im_cmB inD (im_ix (im_v 0) (im_c (.int 0))) (im_tup (im_cons (im_c (.str "not")) (im_cons (im_c (.str "and")) (im_cons (im_c (.str "or")) im_nil))))) (is_fo (im_seqI (im_sl (im_v 0) (im_some (im_c (.int 1))) im_no)) (is_st 1 (im_op addD (im_v 1) (im_cl (m__law_asked n) (im_cons (im_v 2) im_nil))))) is_skip) (is_rt (im_v 1))))) rfl)
  have nd := sc__law_asked.nd
  exact (dss_cons (ds_if (db_cmp (do_eq (hu64 hr)) (de_ix (hu1 hr) (de_var (pv 0)) de_int) de_str (nomark _)) (dss_one (ds_ret (de_new (dn_lst (da_cons (de_ix (hu1 hr) (de_var (pv 0)) de_int) da_nil))))) dss_nil)
    (dss_cons (ds_set (i := 1) nd rfl (by first | exact Or.inl rfl | exact Or.inr rfl) (de_new (dn_lst da_nil)))
    (dss_cons (ds_if (db_cmp (do_in (hu65 hr)) (de_ix (hu1 hr) (de_var (pv 0)) de_int) (de_tup (da_cons de_str (da_cons de_str (da_cons de_str da_nil)))) rfl) (dss_one (ds_for PassesOwn.never rfl (di_seq (de_sl (de_var (pv 0)) (dp_some de_int) dp_none)) (dg_name (pg_name (i := 2) nd rfl (by first | exact Or.inl rfl | exact Or.inr rfl)))
    (dss_one (ds_set (i := 1) nd rfl (by first | exact Or.inl rfl | exact Or.inr rfl) (de_op do_add (de_var (pv 1)) (de_call F__law_asked (hr.mono (by first | decide | omega)) rfl (da_cons (de_var (pv 2)) da_nil))))))) dss_nil)
    (dss_one (ds_ret (de_var (pv 1)))))))
theorem z__law_asked {P : Program} {w : World} {K : PySem.W.Frag} {mg : Str → Option Value} {base : Heap} {cl : Nat → Addr} (Fx : Fx K mg cl) : FD P w K mg base 1 "_law_asked" (ofF (m__law_asked 0)) := by
  obtain ⟨f, fd, F, hm⟩ := Fx.f__law_asked
  exact fd_D (k := 0) finD finD_ok F hm (F.binds (ps := ["_law_condition_here"]) fun _ _ _ _ _ _ us hl => match us, hl with | [_], _ => rfl) sc__law_asked (ofF (m__law_asked 0)) _ (fun cdv A outer s H E hr => dss_any _) (fun _ _ _ h => h.elim) (fun _ _ _ h => h.elim)
theorem f__law_flags {P : Program} {w : World} {K : PySem.W.Frag} {mg : Str → Option Value} {base : Heap} {cl : Nat → Addr} {n : Nat} (Fx : Fx K mg cl) (F__law_flags : FD P w K mg base (1 + n) "_law_flags" (ofF (m__law_flags n))) :
    FD P w K mg base (1 + n + 1) "_law_flags" (ofF (m__law_flags (n + 1))) := by
  obtain ⟨f, fd, F, hm⟩ := Fx.f__law_flags
  refine fd_D finD finD_ok F hm (F.binds (ps := ["_law_condition_here"]) fun _ _ _ _ _ _ us hl => match us, hl with | [_], _ => rfl) sc__law_flags (ofF (m__law_flags (n + 1))) (T__law_flags n) (fun cdv A outer s H E hr => ?_) def_len (def_hT (T := (T__law_flags n)) if_D (is_sq (is_if (im_cmB eqD (im_ix (im_v 0) (im_c (.int 0))) (im_c (.str "flag"))) (is_rt (im_fr (im_lst (im_cons (im_ix (im_v 0) (im_c (.int 1))) im_nil)))) is_skip) (is_sq (is_st 1 (im_fr (im_lst im_nil))) (is_sq (is_if (im_cmB inD (im_ix (im_v 0) (im_c (.int 0))) (im_tup (im_cons (im_c (.str "not")) (im_cons (im_c (.str "and")) (im_cons (im_c (.str "or")) im_nil))))) (is_fo (im_seqI (im_sl (im_v 0) (im_some (im_c (.int 1))) im_no)) (is_st 1 (im_op addD (im_v 1) (im_cl (m__law_flags n) (im_cons (im_v 2) im_nil))))) is_skip) (is_rt (im_v 1))))) rfl)
  have nd := sc__law_flags.nd
  exact (dss_cons (ds_if (db_cmp (do_eq (hu64 hr)) (de_ix (hu1 hr) (de_var (pv 0)) de_int) de_str (nomark _)) (dss_one (ds_ret (de_new (dn_lst (da_cons (de_ix (hu1 hr) (de_var (pv 0)) de_int) da_nil))))) dss_nil)
    (dss_cons (ds_set (i := 1) nd rfl (by first | exact Or.inl rfl | exact Or.inr rfl) (de_new (dn_lst da_nil)))
    (dss_cons (ds_if (db_cmp (do_in (hu65 hr)) (de_ix (hu1 hr) (de_var (pv 0)) de_int) (de_tup (da_cons de_str (da_cons de_str (da_cons de_str da_nil)))) rfl) (dss_one (ds_for PassesOwn.never rfl (di_seq (de_sl (de_var (pv 0)) (dp_some de_int) dp_none)) (dg_name (pg_name (i := 2) nd rfl (by first | exact Or.inl rfl | exact Or.inr rfl)))
    (dss_one (ds_set (i := 1) nd rfl (by first | exact Or.inl rfl | exact Or.inr rfl) (de_op do_add (de_var (pv 1)) (de_call F__law_flags (hr.mono (by first | decide | omega)) rfl (da_cons (de_var (pv 2)) da_nil))))))) dss_nil)
    (dss_one (ds_ret (de_var (pv 1)))))))
theorem z__law_flags {P : Program} {w : World} {K : PySem.W.Frag} {mg : Str → Option Value} {base : Heap} {cl : Nat → Addr} (Fx : Fx K mg cl) : FD P w K mg base 1 "_law_flags" (ofF (m__law_flags 0)) := by
  obtain ⟨f, fd, F, hm⟩ := Fx.f__law_flags
  exact fd_D (k := 0) finD finD_ok F hm (F.binds (ps := ["_law_condition_here"]) fun _ _ _ _ _ _ us hl => match us, hl with | [_], _ => rfl) sc__law_flags (ofF (m__law_flags 0)) _ (fun cdv A outer s H E hr => dss_any _) (fun _ _ _ h => h.elim) (fun _ _ _ h => h.elim)
theorem f__law_all_flags {P : Program} {w : World} {K : PySem.W.Frag} {mg : Str → Option Value} {base : Heap} {cl : Nat → Addr} (Fx : Fx K mg cl) (F__law_flags : FD P w K mg base 21 "_law_flags" (ofF (m__law_flags 20))) :
    FD P w K mg base (21 + 1) "_law_all_flags" (ofF (m__law_all_flags)) := by
  obtain ⟨f, fd, F, hm⟩ := Fx.f__law_all_flags
  refine fd_D finD finD_ok F hm (F.binds (ps := ["_law_pipeline_here"]) fun _ _ _ _ _ _ us hl => match us, hl with | [_], _ => rfl) sc__law_all_flags (ofF (m__law_all_flags)) T__law_all_flags (fun cdv A outer s H E hr => ?_) def_len (def_hT (T := T__law_all_flags) if_D (is_sq (is_st 1 (im_fr (im_lst im_nil))) (is_sq (is_fo (im_seqI (im_v 0)) (is_st 1 (im_op addD (im_v 1) (im_cl (m__law_flags 20) (im_cons (im_ix (im_v 2) (im_c (.int 2))) im_nil))))) (is_rt (im_bi tupD (im_cons (im_fr (im_sos (im_v 1))) im_nil))))) rfl)
  have nd := sc__law_all_flags.nd
  exact (dss_cons (ds_set (i := 1) nd rfl (by first | exact Or.inl rfl | exact Or.inr rfl) (de_new (dn_lst da_nil)))
    (dss_cons (ds_for PassesOwn.never rfl (di_seq (de_var (pv 0))) (dg_name (pg_name (i := 2) nd rfl (by first | exact Or.inl rfl | exact Or.inr rfl)))
    (dss_one (ds_set (i := 1) nd rfl (by first | exact Or.inl rfl | exact Or.inr rfl) (de_op do_add (de_var (pv 1)) (de_call F__law_flags (hr.mono (by first | decide | omega)) rfl (da_cons (de_ix (hu1 hr) (de_var (pv 2)) de_int) da_nil))))))
    (dss_one (ds_ret (de_ct dc_tuple rfl Fx.n_tuple bi_tuple (da_cons (de_new (dn_sortset rfl Fx.n_sorted rfl Fx.n_set rfl (de_var (pv 1)))) da_nil))))))
theorem f__law_names {P : Program} {w : World} {K : PySem.W.Frag} {mg : Str → Option Value} {base : Heap} {cl : Nat → Addr} (Fx : Fx K mg cl)  :
    FD P w K mg base (0 + 1) "_law_names" (ofF (m__law_names)) := by
  obtain ⟨f, fd, F, hm⟩ := Fx.f__law_names
  refine fd_D finD finD_ok F hm (F.binds (ps := ["_law_pipeline_here"]) fun _ _ _ _ _ _ us hl => match us, hl with | [_], _ => rfl) sc__law_names (ofF (m__law_names)) T__law_names (fun cdv A outer s H E hr => ?_) def_len (def_hT (T := T__law_names) if_D (is_rt (im_bi tupD (im_cons (im_fr (im_lc (im_seqI (im_v 0)) im_yes (im_ix (im_v 1) (im_c (.int 0))))) im_nil))) rfl)
  have nd := sc__law_names.nd
  exact (dss_one (ds_ret (de_ct dc_tuple rfl Fx.n_tuple bi_tuple (da_cons (de_new (dn_lc (own := [("_law_job_here", 1)]) rfl nd (di_seq (de_var (pv 0))) (blkOk_by (by rfl)) (fun _ _ _ _ _ => (dg_name (pg_name (i := 1) nd rfl (by first | exact Or.inl rfl | exact Or.inr rfl)))) (fun _ _ _ _ _ => dts_nil) (fun _ _ _ _ _ => (de_ix (hu1 hr) (de_var (pv 1)) de_int)) (by decide))) da_nil))))
theorem f__law_parts {P : Program} {w : World} {K : PySem.W.Frag} {mg : Str → Option Value} {base : Heap} {cl : Nat → Addr} (Fx : Fx K mg cl)  :
    FD P w K mg base (0 + 1) "_law_parts" (ofF (m__law_parts)) := by
  obtain ⟨f, fd, F, hm⟩ := Fx.f__law_parts
  refine fd_D finD finD_ok F hm (F.binds (ps := ["_law_names_here"]) fun _ _ _ _ _ _ us hl => match us, hl with | [_], _ => rfl) sc__law_parts (ofF (m__law_parts)) T__law_parts (fun cdv A outer s H E hr => ?_) def_len (def_hT (T := T__law_parts) if_D (is_sq (is_st 1 (im_fr (im_lst (im_cons (im_tup im_nil) im_nil)))) (is_sq (is_fo (im_seqI (im_fr (im_bn sortN (im_cons (im_v 0) im_nil)))) (is_st 1 (im_op addD (im_v 1) (im_fr (im_lc (im_seqI (im_v 1)) im_yes (im_op addD (im_v 3) (im_tup (im_cons (im_v 2) im_nil)))))))) (is_rt (im_v 1)))) rfl)
  have nd := sc__law_parts.nd
  exact (dss_cons (ds_set (i := 1) nd rfl (by first | exact Or.inl rfl | exact Or.inr rfl) (de_new (dn_lst (da_cons (de_tup da_nil) da_nil))))
    (dss_cons (ds_for PassesOwn.never rfl (di_seq (de_new (dn_cb (dc_sorted (hu65 hr)) rfl Fx.n_sorted bi_sorted (da_cons (de_var (pv 0)) da_nil)))) (dg_name (pg_name (i := 2) nd rfl (by first | exact Or.inl rfl | exact Or.inr rfl)))
    (dss_one (ds_set (i := 1) nd rfl (by first | exact Or.inl rfl | exact Or.inr rfl) (de_op do_add (de_var (pv 1)) (de_new (dn_lc (own := [("_law_part", 3)]) rfl nd (di_seq (de_var (pv 1))) (blkOk_by (by rfl)) (fun _ _ _ _ _ => (dg_name (pg_name (i := 3) nd rfl (by first | exact Or.inl rfl | exact Or.inr rfl)))) (fun _ _ _ _ _ => dts_nil) (fun _ _ _ _ _ => (de_op do_add (de_var (pv 3)) (de_tup (da_cons (de_var (pv 2)) da_nil)))) (by decide)))))))
    (dss_one (ds_ret (de_var (pv 1))))))
theorem f__law_cases {P : Program} {w : World} {K : PySem.W.Frag} {mg : Str → Option Value} {base : Heap} {cl : Nat → Addr} (Fx : Fx K mg cl) (F__law_all_flags : FD P w K mg base 22 "_law_all_flags" (ofF (m__law_all_flags))) (F__law_names : FD P w K mg base 1 "_law_names" (ofF (m__law_names))) (F__law_parts : FD P w K mg base 1 "_law_parts" (ofF (m__law_parts))) :
    FD P w K mg base (22 + 1) "_law_cases" (ofF (m__law_cases)) := by
  obtain ⟨f, fd, F, hm⟩ := Fx.f__law_cases
  refine fd_D finD finD_ok F hm (F.binds (ps := ["_law_pipeline_here"]) fun _ _ _ _ _ _ us hl => match us, hl with | [_], _ => rfl) sc__law_cases (ofF (m__law_cases)) T__law_cases (fun cdv A outer s H E hr => ?_) def_len (def_hT (T := T__law_cases) if_D (is_sq (is_st 1 (im_fr (im_lst im_nil))) (is_sq (is_fo (im_seqI (im_cl m__law_parts (im_cons (im_cl m__law_all_flags (im_cons (im_v 0) im_nil)) im_nil))) (is_st 1 (im_op addD (im_v 1) (im_fr (im_lc (im_seqI (im_cl m__law_parts (im_cons (im_cl m__law_names (im_cons (im_v 0) im_nil)) im_nil))) im_yes (im_tup (im_cons (im_v 2) (im_cons (im_v 3) im_nil)))))))) (is_rt (im_v 1)))) rfl)
  have nd := sc__law_cases.nd
  exact (dss_cons (ds_set (i := 1) nd rfl (by first | exact Or.inl rfl | exact Or.inr rfl) (de_new (dn_lst da_nil)))
    (dss_cons (ds_for PassesOwn.never rfl (di_seq (de_call F__law_parts (hr.mono (by first | decide | omega)) rfl (da_cons (de_call F__law_all_flags (hr.mono (by first | decide | omega)) rfl (da_cons (de_var (pv 0)) da_nil)) da_nil))) (dg_name (pg_name (i := 2) nd rfl (by first | exact Or.inl rfl | exact Or.inr rfl)))
    (dss_one (ds_set (i := 1) nd rfl (by first | exact Or.inl rfl | exact Or.inr rfl) (de_op do_add (de_var (pv 1)) (de_new (dn_lc (own := [("_law_bads", 3)]) rfl nd (di_seq (de_call F__law_parts (hr.mono (by first | decide | omega)) rfl (da_cons (de_call F__law_names (hr.mono (by first | decide | omega)) rfl (da_cons (de_var (pv 0)) da_nil)) da_nil))) (blkOk_by (by rfl)) (fun _ _ _ _ _ => (dg_name (pg_name (i := 3) nd rfl (by first | exact Or.inl rfl | exact Or.inr rfl)))) (fun _ _ _ _ _ => dts_nil) (fun _ _ _ _ _ => (de_tup (da_cons (de_var (pv 2)) (da_cons (de_var (pv 3)) da_nil)))) (by decide)))))))
    (dss_one (ds_ret (de_var (pv 1))))))
theorem f__law_holds {P : Program} {w : World} {K : PySem.W.Frag} {mg : Str → Option Value} {base : Heap} {cl : Nat → Addr} {n : Nat} (Fx : Fx K mg cl) (F__law_holds : FD P w K mg base (1 + n) "_law_holds" (ofF (m__law_holds n))) :
    FD P w K mg base (1 + n + 1) "_law_holds" (ofF (m__law_holds (n + 1))) := by
  obtain ⟨f, fd, F, hm⟩ := Fx.f__law_holds
  refine fd_D finD finD_ok F hm (F.binds (ps := ["_law_condition_here", "_law_seen", "_law_flags_here", "_law_stopped"]) fun _ _ _ _ _ _ us hl => match us, hl with | [_, _, _, _], _ => rfl) sc__law_holds (ofF (m__law_holds (n + 1))) (T__law_holds n) (fun cdv A outer s H E hr => ?_) def_len (def_hT (T := (T__law_holds n)) if_D (is_sq (is_pa2 4 5 (im_cons (im_ix (im_v 0) (im_c (.int 0))) (im_cons (im_sl (im_v 0) (im_some (im_c (.int 1))) im_no) im_nil))) (is_sq (is_if (im_cmB eqD (im_v 4) (im_c (.str "good"))) (is_rt (im_and (im_not (im_v 3)) (im_cm eqD (im_fr (im_lc (im_seqI (im_v 1)) (im_cmB neD (im_v 8) (im_c (.str "good"))) (im_c (.int 1)))) (im_fr (im_lst im_nil))))) is_skip) (is_sq (is_if (im_cmB eqD (im_v 4) (im_c (.str "bad"))) (is_rt (im_and (im_not (im_v 3)) (im_cm neD (im_fr (im_lc (im_seqI (im_v 1)) (im_cmB eqD (im_v 8) (im_c (.str "bad"))) (im_c (.int 1)))) (im_fr (im_lst im_nil))))) is_skip) (is_sq (is_if (im_cmB eqD (im_v 4) (im_c (.str "is"))) (is_rt (im_cm inD (im_v 5) (im_v 1))) is_skip) (is_sq (is_if (im_cmB eqD (im_v 4) (im_c (.str "flag"))) (is_rt (im_cm inD (im_ix (im_v 5) (im_c (.int 0))) (im_v 2))) is_skip) (is_sq (is_if (im_cmB eqD (im_v 4) (im_c (.str "not"))) (is_rt (im_not (im_cl (m__law_holds n) (im_cons (im_ix (im_v 5) (im_c (.int 0))) (im_cons (im_v 1) (im_cons (im_v 2) (im_cons (im_v 3) im_nil))))))) is_skip) (is_sq (is_if (im_cmB inD (im_v 4) (im_tup (im_cons (im_c (.str "and")) (im_cons (im_c (.str "or")) im_nil)))) (is_sq (is_st 6 (im_fr (im_lc (im_seqI (im_v 5)) im_yes (im_cl (m__law_holds n) (im_cons (im_v 9) (im_cons (im_v 1) (im_cons (im_v 2) (im_cons (im_v 3) im_nil)))))))) (is_rt (im_ifE (im_cmB eqD (im_v 4) (im_c (.str "and"))) (im_cm notinD (im_c (.bool false)) (im_v 6)) (im_cm inD (im_c (.bool true)) (im_v 6))))) is_skip) (is_rt (im_or (im_cm eqD (im_v 4) (im_c (.str "always"))) (im_v 3)))))))))) rfl)
  have nd := sc__law_holds.nd
  exact (dss_cons (ds_par2 (i := 4) (j := 5) rfl nd rfl rfl (by decide) rfl rfl (da_cons (de_ix (hu1 hr) (de_var (pv 0)) de_int) (da_cons (de_sl (de_var (pv 0)) (dp_some de_int) dp_none) da_nil)) rfl)
    (dss_cons (ds_if (db_cmp (do_eq (hu64 hr)) (de_var (pv 4)) de_str (nomark _)) (dss_one (ds_ret (de_and (de_not (de_var (pv 3))) (de_one (de_cmp (do_eq (hu64 hr)) (de_new (dn_lc (own := [("_law_name", 7), ("_law_status", 8)]) rfl nd (di_seq (de_var (pv 1))) (blkOk_by (by rfl)) (fun _ _ _ _ _ => (dg_tup rfl (dgs_cons (pg_name (i := 7) nd rfl (by first | exact Or.inl rfl | exact Or.inr rfl)) (dgs_cons (pg_name (i := 8) nd rfl (by first | exact Or.inl rfl | exact Or.inr rfl)) dgs_nil)))) (fun _ _ _ _ _ => (dts_one (db_cmp (do_ne (hu64 hr)) (de_var (pv 8)) de_str (nomark _)))) (fun _ _ _ _ _ => de_int) (by decide))) (de_new (dn_lst da_nil)) (nomark _)))))) dss_nil)
    (dss_cons (ds_if (db_cmp (do_eq (hu64 hr)) (de_var (pv 4)) de_str (nomark _)) (dss_one (ds_ret (de_and (de_not (de_var (pv 3))) (de_one (de_cmp (do_ne (hu64 hr)) (de_new (dn_lc (own := [("_law_name", 7), ("_law_status", 8)]) rfl nd (di_seq (de_var (pv 1))) (blkOk_by (by rfl)) (fun _ _ _ _ _ => (dg_tup rfl (dgs_cons (pg_name (i := 7) nd rfl (by first | exact Or.inl rfl | exact Or.inr rfl)) (dgs_cons (pg_name (i := 8) nd rfl (by first | exact Or.inl rfl | exact Or.inr rfl)) dgs_nil)))) (fun _ _ _ _ _ => (dts_one (db_cmp (do_eq (hu64 hr)) (de_var (pv 8)) de_str (nomark _)))) (fun _ _ _ _ _ => de_int) (by decide))) (de_new (dn_lst da_nil)) (nomark _)))))) dss_nil)
    (dss_cons (ds_if (db_cmp (do_eq (hu64 hr)) (de_var (pv 4)) de_str (nomark _)) (dss_one (ds_ret (de_cmp (do_in (hu65 hr)) (de_var (pv 5)) (de_var (pv 1)) rfl))) dss_nil)
    (dss_cons (ds_if (db_cmp (do_eq (hu64 hr)) (de_var (pv 4)) de_str (nomark _)) (dss_one (ds_ret (de_cmp (do_in (hu65 hr)) (de_ix (hu1 hr) (de_var (pv 5)) de_int) (de_var (pv 2)) rfl))) dss_nil)
    (dss_cons (ds_if (db_cmp (do_eq (hu64 hr)) (de_var (pv 4)) de_str (nomark _)) (dss_one (ds_ret (de_not (de_call F__law_holds (hr.mono (by first | decide | omega)) rfl (da_cons (de_ix (hu1 hr) (de_var (pv 5)) de_int) (da_cons (de_var (pv 1)) (da_cons (de_var (pv 2)) (da_cons (de_var (pv 3)) da_nil)))))))) dss_nil)
    (dss_cons (ds_if (db_cmp (do_in (hu65 hr)) (de_var (pv 4)) (de_tup (da_cons de_str (da_cons de_str da_nil))) rfl) (dss_cons (ds_setLc (own := [("_law_part", 9)]) (i := 6) frT conv_fr rfl nd rfl rfl (sw_true rfl rfl rfl (by decide +kernel)) (di_seq (de_var (pv 5))) (blkOk_by (by rfl)) (fun _ _ _ _ _ => (dg_name (pg_name (i := 9) nd rfl (by first | exact Or.inl rfl | exact Or.inr rfl)))) (fun _ _ _ _ _ => dts_nil) (fun _ _ _ _ _ => (de_call F__law_holds (hr.mono (by first | decide | omega)) rfl (da_cons (de_var (pv 9)) (da_cons (de_var (pv 1)) (da_cons (de_var (pv 2)) (da_cons (de_var (pv 3)) da_nil)))))) (by decide))
    (dss_one (ds_ret (de_if (db_cmp (do_eq (hu64 hr)) (de_var (pv 4)) de_str (nomark _)) (de_cmp (do_notin (hu65 hr)) de_bl (de_var (pv 6)) rfl) (de_cmp (do_in (hu65 hr)) de_bl (de_var (pv 6)) rfl))))) dss_nil)
    (dss_one (ds_ret (de_or (de_cmp (do_eq (hu64 hr)) (de_var (pv 4)) de_str (nomark _)) (de_one (de_var (pv 3)))))))))))))
theorem z__law_holds {P : Program} {w : World} {K : PySem.W.Frag} {mg : Str → Option Value} {base : Heap} {cl : Nat → Addr} (Fx : Fx K mg cl) : FD P w K mg base 1 "_law_holds" (ofF (m__law_holds 0)) := by
  obtain ⟨f, fd, F, hm⟩ := Fx.f__law_holds
  exact fd_D (k := 0) finD finD_ok F hm (F.binds (ps := ["_law_condition_here", "_law_seen", "_law_flags_here", "_law_stopped"]) fun _ _ _ _ _ _ us hl => match us, hl with | [_, _, _, _], _ => rfl) sc__law_holds (ofF (m__law_holds 0)) _ (fun cdv A outer s H E hr => dss_any _) (fun _ _ _ h => h.elim) (fun _ _ _ h => h.elim)
theorem f__law_known {P : Program} {w : World} {K : PySem.W.Frag} {mg : Str → Option Value} {base : Heap} {cl : Nat → Addr} (Fx : Fx K mg cl) (F__law_holds : FD P w K mg base 21 "_law_holds" (ofF (m__law_holds 20))) :
    FD P w K mg base (21 + 1) "_law_known" (ofF (m__law_known)) := by
  obtain ⟨f, fd, F, hm⟩ := Fx.f__law_known
  refine fd_D finD finD_ok F hm (F.binds (ps := ["_law_pipeline_here", "_law_flags_here", "_law_bads"]) fun _ _ _ _ _ _ us hl => match us, hl with | [_, _, _], _ => rfl) sc__law_known (ofF (m__law_known)) T__law_known (fun cdv A outer s H E hr => ?_) def_len (def_hT (T := T__law_known) if_D (is_sq (is_st 3 (im_ow im_dct)) (is_sq (is_fo (im_seqI (im_v 0)) (is_sq (is_st 9 (im_fr (im_lc (im_seqI (im_v 5)) im_yes (im_tup (im_cons (im_v 10) (im_cons (im_ix (im_v 3) (im_v 10)) im_nil)))))) (is_if (im_notB (im_b (im_cl (m__law_holds 20) (im_cons (im_v 6) (im_cons (im_v 9) (im_cons (im_v 1) (im_cons (im_c (.bool false)) im_nil))))))) (is_sx (im_c (.str "passed")) (im_v 3) (im_v 4)) (is_sx (im_ifE (im_andB (im_cmB inD (im_v 4) (im_v 2)) (im_notB (im_b (im_v 8)))) (im_c (.str "bad")) (im_c (.str "good"))) (im_v 3) (im_v 4))))) (is_rt (im_v 3)))) rfl)
  have nd := sc__law_known.nd
  exact (dss_cons (ds_set (i := 3) nd rfl (by first | exact Or.inl rfl | exact Or.inr rfl) (de_own dn_dct))
    (dss_cons (ds_for PassesOwn.never rfl (di_seq (de_var (pv 0))) (dg_tup rfl (dgs_cons (pg_name (i := 4) nd rfl (by first | exact Or.inl rfl | exact Or.inr rfl)) (dgs_cons (pg_name (i := 5) nd rfl (by first | exact Or.inl rfl | exact Or.inr rfl)) (dgs_cons (pg_name (i := 6) nd rfl (by first | exact Or.inl rfl | exact Or.inr rfl)) (dgs_cons (pg_name (i := 7) nd rfl (by first | exact Or.inl rfl | exact Or.inr rfl)) (dgs_cons (pg_name (i := 8) nd rfl (by first | exact Or.inl rfl | exact Or.inr rfl)) dgs_nil))))))
    (dss_cons (ds_setLc (own := [("_law_need", 10)]) (i := 9) frT conv_fr rfl nd rfl rfl (sw_true rfl rfl rfl (by decide +kernel)) (di_seq (de_var (pv 5))) (blkOk_by (by rfl)) (fun _ _ _ _ _ => (dg_name (pg_name (i := 10) nd rfl (by first | exact Or.inl rfl | exact Or.inr rfl)))) (fun _ _ _ _ _ => dts_nil) (fun _ _ _ _ _ => (de_tup (da_cons (de_var (pv 10)) (da_cons (de_ix (hu1 hr) (de_var (pv 3)) (de_var (pv 10))) da_nil)))) (by decide))
    (dss_one (ds_if (db_not (db_val (de_call F__law_holds (hr.mono (by first | decide | omega)) rfl (da_cons (de_var (pv 6)) (da_cons (de_var (pv 9)) (da_cons (de_var (pv 1)) (da_cons de_bl da_nil))))))) (dss_one (ds_setix (hu1 hr) de_str (de_var (pv 3)) (de_var (pv 4)))) (dss_one (ds_setix (hu1 hr) (de_if (db_w (dw_and (db_cmp (do_in (hu65 hr)) (de_var (pv 4)) (de_var (pv 2)) rfl) (dw_and1 (db_not (db_val (de_var (pv 8))))))) de_str de_str) (de_var (pv 3)) (de_var (pv 4))))))))
    (dss_one (ds_ret (de_var (pv 3))))))
theorem f__law_same {P : Program} {w : World} {K : PySem.W.Frag} {mg : Str → Option Value} {base : Heap} {cl : Nat → Addr} (Fx : Fx K mg cl) (F__law_all_flags : FD P w K mg base 22 "_law_all_flags" (ofF (m__law_all_flags))) (F__law_cases : FD P w K mg base 23 "_law_cases" (ofF (m__law_cases))) (F__law_known : FD P w K mg base 22 "_law_known" (ofF (m__law_known))) :
    FD P w K mg base (23 + 1) "_law_same" (ofF (m__law_same)) := by
  obtain ⟨f, fd, F, hm⟩ := Fx.f__law_same
  refine fd_D finD finD_ok F hm (F.binds (ps := ["_law_pipeline_here", "_law_other"]) fun _ _ _ _ _ _ us hl => match us, hl with | [_, _], _ => rfl) sc__law_same (ofF (m__law_same)) T__law_same (fun cdv A outer s H E hr => ?_) def_len (def_hT (T := T__law_same) if_D (is_sq (is_st 2 (im_cl m__law_all_flags (im_cons (im_v 1) im_nil))) (is_sq (is_fo (im_seqI (im_cl m__law_cases (im_cons (im_v 0) im_nil))) (is_sq (is_st 5 (im_bi tupD (im_cons (im_fr (im_lc (im_seqI (im_v 3)) (im_cmB inD (im_v 6) (im_v 2)) (im_v 6))) im_nil))) (is_if (im_cmB neU (im_cl m__law_known (im_cons (im_v 0) (im_cons (im_v 3) (im_cons (im_v 4) im_nil)))) (im_cl m__law_known (im_cons (im_v 1) (im_cons (im_v 5) (im_cons (im_v 4) im_nil))))) (is_rt (im_c (.bool false))) is_skip))) (is_rt (im_c (.bool true))))) rfl)
  have nd := sc__law_same.nd
  exact (dss_cons (ds_set (i := 2) nd rfl (by first | exact Or.inl rfl | exact Or.inr rfl) (de_call F__law_all_flags (hr.mono (by first | decide | omega)) rfl (da_cons (de_var (pv 1)) da_nil)))
    (dss_cons (ds_for PassesOwn.never rfl (di_seq (de_call F__law_cases (hr.mono (by first | decide | omega)) rfl (da_cons (de_var (pv 0)) da_nil))) (dg_tup rfl (dgs_cons (pg_name (i := 3) nd rfl (by first | exact Or.inl rfl | exact Or.inr rfl)) (dgs_cons (pg_name (i := 4) nd rfl (by first | exact Or.inl rfl | exact Or.inr rfl)) dgs_nil)))
    (dss_cons (ds_set (i := 5) nd rfl (by first | exact Or.inl rfl | exact Or.inr rfl) (de_ct dc_tuple rfl Fx.n_tuple bi_tuple (da_cons (de_new (dn_lc (own := [("_law_flag", 6)]) rfl nd (di_seq (de_var (pv 3))) (blkOk_by (by rfl)) (fun _ _ _ _ _ => (dg_name (pg_name (i := 6) nd rfl (by first | exact Or.inl rfl | exact Or.inr rfl)))) (fun _ _ _ _ _ => (dts_one (db_cmp (do_in (hu65 hr)) (de_var (pv 6)) (de_var (pv 2)) rfl))) (fun _ _ _ _ _ => (de_var (pv 6))) (by decide))) da_nil)))
    (dss_one (ds_if (db_cmp (do_neU (hu65 hr)) (de_call F__law_known (hr.mono (by first | decide | omega)) rfl (da_cons (de_var (pv 0)) (da_cons (de_var (pv 3)) (da_cons (de_var (pv 4)) da_nil)))) (de_call F__law_known (hr.mono (by first | decide | omega)) rfl (da_cons (de_var (pv 1)) (da_cons (de_var (pv 5)) (da_cons (de_var (pv 4)) da_nil)))) (nomark _)) (dss_one (ds_ret de_bl)) dss_nil))))
    (dss_one (ds_ret de_bl))))
theorem f__law_with {P : Program} {w : World} {K : PySem.W.Frag} {mg : Str → Option Value} {base : Heap} {cl : Nat → Addr} (Fx : Fx K mg cl)  :
    FD P w K mg base (0 + 1) "_law_with" (ofF (m__law_with)) := by
  obtain ⟨f, fd, F, hm⟩ := Fx.f__law_with
  refine fd_D finD finD_ok F hm (F.binds (ps := ["_law_pipeline_here", "_law_at", "_law_needs", "_law_condition_here"]) fun _ _ _ _ _ _ us hl => match us, hl with | [_, _, _, _], _ => rfl) sc__law_with (ofF (m__law_with)) T__law_with (fun cdv A outer s H E hr => ?_) def_len (def_hT (T := T__law_with) if_D (is_sq (is_st 4 (im_ix (im_v 0) (im_v 1))) (is_sq (is_st 5 (im_tup (im_cons (im_ix (im_v 4) (im_c (.int 0))) (im_cons (im_v 2) (im_cons (im_v 3) (im_cons (im_ix (im_v 4) (im_c (.int 3))) (im_cons (im_ix (im_v 4) (im_c (.int 4))) im_nil))))))) (is_rt (im_op addD (im_op addD (im_sl (im_v 0) im_no (im_some (im_v 1))) (im_tup (im_cons (im_v 5) im_nil))) (im_sl (im_v 0) (im_some (im_op addD (im_v 1) (im_c (.int 1)))) im_no))))) rfl)
  have nd := sc__law_with.nd
  exact (dss_cons (ds_set (i := 4) nd rfl (by first | exact Or.inl rfl | exact Or.inr rfl) (de_ix (hu1 hr) (de_var (pv 0)) (de_var (pv 1))))
    (dss_cons (ds_set (i := 5) nd rfl (by first | exact Or.inl rfl | exact Or.inr rfl) (de_tup (da_cons (de_ix (hu1 hr) (de_var (pv 4)) de_int) (da_cons (de_var (pv 2)) (da_cons (de_var (pv 3)) (da_cons (de_ix (hu1 hr) (de_var (pv 4)) de_int) (da_cons (de_ix (hu1 hr) (de_var (pv 4)) de_int) da_nil)))))))
    (dss_one (ds_ret (de_op do_add (de_op do_add (de_sl (de_var (pv 0)) dp_none (dp_some (de_var (pv 1)))) (de_tup (da_cons (de_var (pv 5)) da_nil))) (de_sl (de_var (pv 0)) (dp_some (de_op do_add (de_var (pv 1)) de_int)) dp_none))))))
theorem f__law_is_needless {P : Program} {w : World} {K : PySem.W.Frag} {mg : Str → Option Value} {base : Heap} {cl : Nat → Addr} (Fx : Fx K mg cl) (F__law_asked : FD P w K mg base 21 "_law_asked" (ofF (m__law_asked 20))) (F__law_same : FD P w K mg base 24 "_law_same" (ofF (m__law_same))) (F__law_with : FD P w K mg base 1 "_law_with" (ofF (m__law_with))) :
    FD P w K mg base (24 + 1) "_law_is_needless" (ofF (m__law_is_needless)) := by
  obtain ⟨f, fd, F, hm⟩ := Fx.f__law_is_needless
  refine fd_D finD finD_ok F hm (F.binds (ps := ["_law_pipeline_here", "_law_at", "_law_need"]) fun _ _ _ _ _ _ us hl => match us, hl with | [_, _, _], _ => rfl) sc__law_is_needless (ofF (m__law_is_needless)) T__law_is_needless (fun cdv A outer s H E hr => ?_) def_len (def_hT (T := T__law_is_needless) if_D (is_sq (is_st 3 (im_ix (im_v 0) (im_v 1))) (is_sq (is_st 4 (im_bi tupD (im_cons (im_fr (im_lc (im_seqI (im_ix (im_v 3) (im_c (.int 1)))) (im_cmB neD (im_v 5) (im_v 2)) (im_v 5))) im_nil))) (is_sq (is_if (im_cmB inD (im_v 2) (im_cl (m__law_asked 20) (im_cons (im_ix (im_v 3) (im_c (.int 2))) im_nil))) (is_rt (im_c (.bool false))) is_skip) (is_rt (im_cl m__law_same (im_cons (im_v 0) (im_cons (im_cl m__law_with (im_cons (im_v 0) (im_cons (im_v 1) (im_cons (im_v 4) (im_cons (im_ix (im_v 3) (im_c (.int 2))) im_nil))))) im_nil))))))) rfl)
  have nd := sc__law_is_needless.nd
  exact (dss_cons (ds_set (i := 3) nd rfl (by first | exact Or.inl rfl | exact Or.inr rfl) (de_ix (hu1 hr) (de_var (pv 0)) (de_var (pv 1))))
    (dss_cons (ds_set (i := 4) nd rfl (by first | exact Or.inl rfl | exact Or.inr rfl) (de_ct dc_tuple rfl Fx.n_tuple bi_tuple (da_cons (de_new (dn_lc (own := [("_law_other", 5)]) rfl nd (di_seq (de_ix (hu1 hr) (de_var (pv 3)) de_int)) (blkOk_by (by rfl)) (fun _ _ _ _ _ => (dg_name (pg_name (i := 5) nd rfl (by first | exact Or.inl rfl | exact Or.inr rfl)))) (fun _ _ _ _ _ => (dts_one (db_cmp (do_ne (hu64 hr)) (de_var (pv 5)) (de_var (pv 2)) (nomark _)))) (fun _ _ _ _ _ => (de_var (pv 5))) (by decide))) da_nil)))
    (dss_cons (ds_if (db_cmp (do_in (hu65 hr)) (de_var (pv 2)) (de_call F__law_asked (hr.mono (by first | decide | omega)) rfl (da_cons (de_ix (hu1 hr) (de_var (pv 3)) de_int) da_nil)) rfl) (dss_one (ds_ret de_bl)) dss_nil)
    (dss_one (ds_ret (de_call F__law_same (hr.mono (by first | decide | omega)) rfl (da_cons (de_var (pv 0)) (da_cons (de_call F__law_with (hr.mono (by first | decide | omega)) rfl (da_cons (de_var (pv 0)) (da_cons (de_var (pv 1)) (da_cons (de_var (pv 4)) (da_cons (de_ix (hu1 hr) (de_var (pv 3)) de_int) da_nil))))) da_nil))))))))
theorem f__law_draw {P : Program} {w : World} {K : PySem.W.Frag} {mg : Str → Option Value} {base : Heap} {cl : Nat → Addr} (Fx : Fx K mg cl) 
    (hlen : ∀ svs μ Q, (S__law_draw) svs μ Q → svs.length = 2) (hT : ∀ svs μ Q, (S__law_draw) svs μ Q → T__law_draw ⟨fun _ μ' => finD Q μ.length (.d .none) μ', fun sv μ' => finD Q μ.length sv μ', fun _ _ => False, fun _ _ => False⟩ (startE ["_law_source_here", "_law_size", "_law_drawn"] svs) μ) :
    FD P w K mg base (0 + 1) "_law_draw" (S__law_draw) := by
  obtain ⟨f, fd, F, hm⟩ := Fx.f__law_draw
  refine fd_D finD finD_ok F hm (F.binds (ps := ["_law_source_here", "_law_size"]) fun _ _ _ _ _ _ us hl => match us, hl with | [_, _], _ => rfl) sc__law_draw (S__law_draw) T__law_draw (fun cdv A outer s H E hr => ?_) hlen hT
  have nd := sc__law_draw.nd
  exact (dss_cons (ds_if (db_cmp do_gt (de_ix (hu1 hr) (de_var (pv 0)) de_int) de_int (nomark _)) (dss_cons (ds_set (i := 2) nd rfl (by first | exact Or.inl rfl | exact Or.inr rfl) (de_op do_mod (de_ix (hu1 hr) (de_var (pv 0)) de_int) (de_var (pv 1))))
    (dss_cons (ds_setix (hu1 hr) (de_op do_fdiv (de_ix (hu1 hr) (de_var (pv 0)) de_int) (de_var (pv 1))) (de_var (pv 0)) de_int)
    (dss_one (ds_ret (de_var (pv 2)))))) dss_nil)
    (dss_cons (ds_setix (hu1 hr) (de_op do_mod (de_op do_mul (de_ix (hu1 hr) (de_var (pv 0)) de_int) de_int) de_int) (de_var (pv 0)) de_int)
    (dss_one (ds_ret (de_op do_mod (de_op do_fdiv (de_op do_mod (de_op do_mul (de_ix (hu1 hr) (de_var (pv 0)) de_int) (de_ix (hu1 hr) (de_var (pv 0)) de_int)) de_int) de_int) (de_var (pv 1)))))))
theorem f__law_choice {P : Program} {w : World} {K : PySem.W.Frag} {mg : Str → Option Value} {base : Heap} {cl : Nat → Addr} (Fx : Fx K mg cl) (F__law_draw : FD P w K mg base 1 "_law_draw" (S__law_draw))
    (hlen : ∀ svs μ Q, (S__law_choice) svs μ Q → svs.length = 2) (hT : ∀ svs μ Q, (S__law_choice) svs μ Q → T__law_choice ⟨fun _ μ' => finD Q μ.length (.d .none) μ', fun sv μ' => finD Q μ.length sv μ', fun _ _ => False, fun _ _ => False⟩ (startE ["_law_source_here", "_law_items"] svs) μ) :
    FD P w K mg base (1 + 1) "_law_choice" (S__law_choice) := by
  obtain ⟨f, fd, F, hm⟩ := Fx.f__law_choice
  refine fd_D finD finD_ok F hm (F.binds (ps := ["_law_source_here", "_law_items"]) fun _ _ _ _ _ _ us hl => match us, hl with | [_, _], _ => rfl) sc__law_choice (S__law_choice) T__law_choice (fun cdv A outer s H E hr => ?_) hlen hT
  have nd := sc__law_choice.nd
  exact (dss_one (ds_ret (de_ix (hu1 hr) (de_var (pv 1)) (de_call F__law_draw (hr.mono (by first | decide | omega)) rfl (da_cons (de_var (pv 0)) (da_cons (de_cb dc_len rfl Fx.n_len bi_len (da_cons (de_var (pv 1)) da_nil)) da_nil))))))
theorem f__law_condition {P : Program} {w : World} {K : PySem.W.Frag} {mg : Str → Option Value} {base : Heap} {cl : Nat → Addr} {n : Nat} (Fx : Fx K mg cl) (F__law_choice : FD P w K mg base 2 "_law_choice" (S__law_choice)) (F__law_condition : FD P w K mg base (3 + n) "_law_condition" (S__law_condition n)) (F__law_draw : FD P w K mg base 1 "_law_draw" (S__law_draw))
    (hlen : ∀ svs μ Q, (S__law_condition (n + 1)) svs μ Q → svs.length = 3) (hT : ∀ svs μ Q, (S__law_condition (n + 1)) svs μ Q → (T__law_condition n) ⟨fun _ μ' => finD Q μ.length (.d .none) μ', fun sv μ' => finD Q μ.length sv μ', fun _ _ => False, fun _ _ => False⟩ (startE ["_law_source_here", "_law_needs", "_law_deep", "_law_way", "_law_status", "_law_parts_here", "_law_turn"] svs) μ) :
    FD P w K mg base (3 + n + 1) "_law_condition" (S__law_condition (n + 1)) := by
  obtain ⟨f, fd, F, hm⟩ := Fx.f__law_condition
  refine fd_D finD finD_ok F hm (F.binds (ps := ["_law_source_here", "_law_needs", "_law_deep"]) fun _ _ _ _ _ _ us hl => match us, hl with | [_, _, _], _ => rfl) sc__law_condition (S__law_condition (n + 1)) (T__law_condition n) (fun cdv A outer s H E hr => ?_) hlen hT
  have nd := sc__law_condition.nd
  exact (dss_cons (ds_set (i := 3) nd rfl (by first | exact Or.inl rfl | exact Or.inr rfl) (de_call F__law_draw (hr.mono (by first | decide | omega)) rfl (da_cons (de_var (pv 0)) (da_cons (de_if (db_cmp do_gt (de_var (pv 2)) de_int (nomark _)) de_int de_int) da_nil))))
    (dss_cons (ds_if (db_w (dw_or (db_cmp do_lt (de_var (pv 3)) de_int (nomark _)) (dw_or1 (db_w (dw_and (db_cmp (do_eq (hu64 hr)) (de_var (pv 3)) de_int (nomark _)) (dw_and1 (db_cmp (do_eq (hu64 hr)) (de_var (pv 1)) (de_tup da_nil) (nomark _)))))))) (dss_one (ds_ret (de_call F__law_choice (hr.mono (by first | decide | omega)) rfl (da_cons (de_var (pv 0)) (da_cons (de_new (dn_lst (da_cons (de_tup (da_cons de_str da_nil)) (da_cons (de_tup (da_cons de_str da_nil)) (da_cons (de_tup (da_cons de_str da_nil)) (da_cons (de_tup (da_cons de_str da_nil)) (da_cons (de_tup (da_cons de_str da_nil)) da_nil))))))) da_nil))))) dss_nil)
    (dss_cons (ds_if (db_cmp (do_eq (hu64 hr)) (de_var (pv 3)) de_int (nomark _)) (dss_one (ds_ret (de_tup (da_cons de_str (da_cons (de_call F__law_choice (hr.mono (by first | decide | omega)) rfl (da_cons (de_var (pv 0)) (da_cons (de_new (dn_lst (da_cons de_str (da_cons de_str da_nil)))) da_nil))) da_nil))))) dss_nil)
    (dss_cons (ds_if (db_cmp (do_in (hu65 hr)) (de_var (pv 3)) (de_tup (da_cons de_int (da_cons de_int da_nil))) rfl) (dss_cons (ds_if (db_cmp (do_eq (hu64 hr)) (de_var (pv 1)) (de_tup da_nil) (nomark _)) (dss_one (ds_ret (de_tup (da_cons de_str da_nil)))) dss_nil)
    (dss_cons (ds_set (i := 4) nd rfl (by first | exact Or.inl rfl | exact Or.inr rfl) (de_call F__law_choice (hr.mono (by first | decide | omega)) rfl (da_cons (de_var (pv 0)) (da_cons (de_new (dn_lst (da_cons de_str (da_cons de_str (da_cons de_str (da_cons de_str (da_cons de_str da_nil))))))) da_nil))))
    (dss_one (ds_ret (de_tup (da_cons de_str (da_cons (de_call F__law_choice (hr.mono (by first | decide | omega)) rfl (da_cons (de_var (pv 0)) (da_cons (de_new (dn_ct dc_list rfl Fx.n_list bi_list (da_cons (de_var (pv 1)) da_nil))) da_nil))) (da_cons (de_var (pv 4)) da_nil)))))))) dss_nil)
    (dss_cons (ds_if (db_cmp (do_eq (hu64 hr)) (de_var (pv 3)) de_int (nomark _)) (dss_one (ds_ret (de_tup (da_cons de_str (da_cons (de_call F__law_condition (hr.mono (by first | decide | omega)) rfl (da_cons (de_var (pv 0)) (da_cons (de_var (pv 1)) (da_cons (de_op do_sub (de_var (pv 2)) de_int) da_nil)))) da_nil))))) dss_nil)
    (dss_cons (ds_set (i := 5) nd rfl (by first | exact Or.inl rfl | exact Or.inr rfl) (de_tup da_nil))
    (dss_cons (ds_for PassesOwn.never rfl (di_rng1 rfl Fx.n_range (da_cons (de_call F__law_choice (hr.mono (by first | decide | omega)) rfl (da_cons (de_var (pv 0)) (da_cons (de_new (dn_lst (da_cons de_int (da_cons de_int (da_cons de_int (da_cons de_int (da_cons de_int da_nil))))))) da_nil))) da_nil)) (dg_name (pg_name (i := 6) nd rfl (by first | exact Or.inl rfl | exact Or.inr rfl)))
    (dss_one (ds_set (i := 5) nd rfl (by first | exact Or.inl rfl | exact Or.inr rfl) (de_op do_add (de_var (pv 5)) (de_tup (da_cons (de_call F__law_condition (hr.mono (by first | decide | omega)) rfl (da_cons (de_var (pv 0)) (da_cons (de_var (pv 1)) (da_cons (de_op do_sub (de_var (pv 2)) de_int) da_nil)))) da_nil))))))
    (dss_one (ds_ret (de_op do_add (de_tup (da_cons (de_call F__law_choice (hr.mono (by first | decide | omega)) rfl (da_cons (de_var (pv 0)) (da_cons (de_new (dn_lst (da_cons de_str (da_cons de_str da_nil)))) da_nil))) da_nil)) (de_var (pv 5))))))))))))
theorem z__law_condition {P : Program} {w : World} {K : PySem.W.Frag} {mg : Str → Option Value} {base : Heap} {cl : Nat → Addr} (Fx : Fx K mg cl) : FD P w K mg base 3 "_law_condition" (S__law_condition 0) := by
  obtain ⟨f, fd, F, hm⟩ := Fx.f__law_condition
  exact fd_D (k := 2) finD finD_ok F hm (F.binds (ps := ["_law_source_here", "_law_needs", "_law_deep"]) fun _ _ _ _ _ _ us hl => match us, hl with | [_, _, _], _ => rfl) sc__law_condition (S__law_condition 0) _ (fun cdv A outer s H E hr => dss_any _) (fun _ _ _ h => h.elim) (fun _ _ _ h => h.elim)
theorem f__law_job {P : Program} {w : World} {K : PySem.W.Frag} {mg : Str → Option Value} {base : Heap} {cl : Nat → Addr} (Fx : Fx K mg cl) (F__law_choice : FD P w K mg base 2 "_law_choice" (S__law_choice)) (F__law_condition : FD P w K mg base 8 "_law_condition" (S__law_condition 5)) (F__law_draw : FD P w K mg base 1 "_law_draw" (S__law_draw))
    (hlen : ∀ svs μ Q, (S__law_job) svs μ Q → svs.length = 3) (hT : ∀ svs μ Q, (S__law_job) svs μ Q → T__law_job ⟨fun _ μ' => finD Q μ.length (.d .none) μ', fun sv μ' => finD Q μ.length sv μ', fun _ _ => False, fun _ _ => False⟩ (startE ["_law_source_here", "_law_name", "_law_known_here", "_law_needs", "_law_deep", "_law_reads", "_law_other", "_law_one"] svs) μ) :
    FD P w K mg base (8 + 1) "_law_job" (S__law_job) := by
  obtain ⟨f, fd, F, hm⟩ := Fx.f__law_job
  refine fd_D finD finD_ok F hm (F.binds (ps := ["_law_source_here", "_law_name", "_law_known_here"]) fun _ _ _ _ _ _ us hl => match us, hl with | [_, _, _], _ => rfl) sc__law_job (S__law_job) T__law_job (fun cdv A outer s H E hr => ?_) hlen hT
  have nd := sc__law_job.nd
  exact (dss_cons (ds_set (i := 3) nd rfl (by first | exact Or.inl rfl | exact Or.inr rfl) (de_ct dc_tuple rfl Fx.n_tuple bi_tuple (da_cons (de_new (dn_cb (dc_sorted (hu65 hr)) rfl Fx.n_sorted bi_sorted (da_cons (de_sl (de_new (dn_lc (own := [("_law_other", 6)]) rfl nd (di_seq (de_var (pv 2))) (blkOk_by (by rfl)) (fun _ _ _ _ _ => (dg_name (pg_name (i := 6) nd rfl (by first | exact Or.inl rfl | exact Or.inr rfl)))) (fun _ _ _ _ _ => (dts_one (db_cmp (do_eq (hu64 hr)) (de_call F__law_draw (hr.mono (by first | decide | omega)) rfl (da_cons (de_var (pv 0)) (da_cons de_int da_nil))) de_int (nomark _)))) (fun _ _ _ _ _ => (de_var (pv 6))) (by decide))) dp_none (dp_some de_int)) da_nil))) da_nil)))
    (dss_cons (ds_set (i := 4) nd rfl (by first | exact Or.inl rfl | exact Or.inr rfl) (de_call F__law_choice (hr.mono (by first | decide | omega)) rfl (da_cons (de_var (pv 0)) (da_cons (de_new (dn_lst (da_cons de_int (da_cons de_int (da_cons de_int (da_cons de_int (da_cons de_int da_nil))))))) da_nil))))
    (dss_cons (ds_set (i := 5) nd rfl (by first | exact Or.inl rfl | exact Or.inr rfl) (de_ct dc_tuple rfl Fx.n_tuple bi_tuple (da_cons (de_new (dn_lc (own := [("_law_one", 7)]) rfl nd (di_seq (de_tup (da_cons de_str (da_cons de_str (da_cons de_str da_nil))))) (blkOk_by (by rfl)) (fun _ _ _ _ _ => (dg_name (pg_name (i := 7) nd rfl (by first | exact Or.inl rfl | exact Or.inr rfl)))) (fun _ _ _ _ _ => (dts_one (db_cmp (do_eq (hu64 hr)) (de_call F__law_draw (hr.mono (by first | decide | omega)) rfl (da_cons (de_var (pv 0)) (da_cons de_int da_nil))) de_int (nomark _)))) (fun _ _ _ _ _ => (de_var (pv 7))) (by decide))) da_nil)))
    (dss_one (ds_ret (de_tup (da_cons (de_var (pv 1)) (da_cons (de_var (pv 3)) (da_cons (de_call F__law_condition (hr.mono (by first | decide | omega)) rfl (da_cons (de_var (pv 0)) (da_cons (de_var (pv 3)) (da_cons (de_var (pv 4)) da_nil)))) (da_cons (de_var (pv 5)) (da_cons (de_cmp (do_eq (hu64 hr)) (de_call F__law_draw (hr.mono (by first | decide | omega)) rfl (da_cons (de_var (pv 0)) (da_cons de_int da_nil))) de_int (nomark _)) da_nil)))))))))))
theorem f__law_pipeline {P : Program} {w : World} {K : PySem.W.Frag} {mg : Str → Option Value} {base : Heap} {cl : Nat → Addr} (Fx : Fx K mg cl) (F__law_draw : FD P w K mg base 1 "_law_draw" (S__law_draw)) (F__law_job : FD P w K mg base 9 "_law_job" (S__law_job))
    (hlen : ∀ svs μ Q, (S__law_pipeline) svs μ Q → svs.length = 2) (hT : ∀ svs μ Q, (S__law_pipeline) svs μ Q → T__law_pipeline ⟨fun _ μ' => finD Q μ.length (.d .none) μ', fun sv μ' => finD Q μ.length sv μ', fun _ _ => False, fun _ _ => False⟩ (startE ["_law_source_here", "_law_most", "_law_left", "_law_known_here", "_law_found", "_law_turn", "_law_name"] svs) μ) :
    FD P w K mg base (9 + 1) "_law_pipeline" (S__law_pipeline) := by
  obtain ⟨f, fd, F, hm⟩ := Fx.f__law_pipeline
  refine fd_D finD finD_ok F hm (F.binds (ps := ["_law_source_here", "_law_most"]) fun _ _ _ _ _ _ us hl => match us, hl with | [_, _], _ => rfl) sc__law_pipeline (S__law_pipeline) T__law_pipeline (fun cdv A outer s H E hr => ?_) hlen hT
  have nd := sc__law_pipeline.nd
  exact (dss_cons (ds_par3 (i := 2) (j := 3) (l := 4) rfl nd rfl rfl rfl (by decide) (by decide) (by decide) rfl rfl rfl (da_cons (de_own (dn_lst (da_cons de_str (da_cons de_str (da_cons de_str (da_cons de_str (da_cons de_str (da_cons de_str (da_cons de_str (da_cons de_str da_nil)))))))))) (da_cons (de_own (dn_lst da_nil)) (da_cons (de_tup da_nil) da_nil))) rfl)
    (dss_cons (ds_for PassesOwn.never rfl (di_rng1 rfl Fx.n_range (da_cons (de_op do_add de_int (de_call F__law_draw (hr.mono (by first | decide | omega)) rfl (da_cons (de_var (pv 0)) (da_cons (de_var (pv 1)) da_nil)))) da_nil)) (dg_name (pg_name (i := 5) nd rfl (by first | exact Or.inl rfl | exact Or.inr rfl)))
    (dss_cons (ds_set (i := 6) nd rfl (by first | exact Or.inl rfl | exact Or.inr rfl) (de_pop (de_var (pv 2)) (de_call F__law_draw (hr.mono (by first | decide | omega)) rfl (da_cons (de_var (pv 0)) (da_cons (de_cb dc_len rfl Fx.n_len bi_len (da_cons (de_var (pv 2)) da_nil)) da_nil)))))
    (dss_cons (ds_set (i := 4) nd rfl (by first | exact Or.inl rfl | exact Or.inr rfl) (de_op do_add (de_var (pv 4)) (de_tup (da_cons (de_call F__law_job (hr.mono (by first | decide | omega)) rfl (da_cons (de_var (pv 0)) (da_cons (de_var (pv 6)) (da_cons (de_var (pv 3)) da_nil)))) da_nil))))
    (dss_one (ds_expr (de_append (de_var (pv 3)) (de_var (pv 6))))))))
    (dss_one (ds_ret (de_var (pv 4))))))
theorem f__law_plain {P : Program} {w : World} {K : PySem.W.Frag} {mg : Str → Option Value} {base : Heap} {cl : Nat → Addr} (Fx : Fx K mg cl) (F__law_same : FD P w K mg base 24 "_law_same" (ofF (m__law_same))) (F__law_with : FD P w K mg base 1 "_law_with" (ofF (m__law_with))) :
    FD P w K mg base (24 + 1) "_law_plain" (ofF (m__law_plain)) := by
  obtain ⟨f, fd, F, hm⟩ := Fx.f__law_plain
  refine fd_D finD finD_ok F hm (F.binds (ps := ["_law_pipeline_here", "_law_at"]) fun _ _ _ _ _ _ us hl => match us, hl with | [_, _], _ => rfl) sc__law_plain (ofF (m__law_plain)) T__law_plain (fun cdv A outer s H E hr => ?_) def_len (def_hT (T := T__law_plain) if_D (is_sq (is_fo (im_seqI (im_fr (im_lst (im_cons (im_tup (im_cons (im_c (.str "always")) im_nil)) (im_cons (im_tup (im_cons (im_c (.str "or")) im_nil)) (im_cons (im_tup (im_cons (im_c (.str "good")) im_nil)) (im_cons (im_tup (im_cons (im_c (.str "bad")) im_nil)) im_nil))))))) (is_if (im_b (im_cl m__law_same (im_cons (im_v 0) (im_cons (im_cl m__law_with (im_cons (im_v 0) (im_cons (im_v 1) (im_cons (im_ix (im_ix (im_v 0) (im_v 1)) (im_c (.int 1))) (im_cons (im_v 2) im_nil))))) im_nil)))) (is_rt (im_v 2)) is_skip)) (is_rt (im_ix (im_ix (im_v 0) (im_v 1)) (im_c (.int 2))))) rfl)
  have nd := sc__law_plain.nd
  exact (dss_cons (ds_for PassesOwn.never rfl (di_seq (de_new (dn_lst (da_cons (de_tup (da_cons de_str da_nil)) (da_cons (de_tup (da_cons de_str da_nil)) (da_cons (de_tup (da_cons de_str da_nil)) (da_cons (de_tup (da_cons de_str da_nil)) da_nil))))))) (dg_name (pg_name (i := 2) nd rfl (by first | exact Or.inl rfl | exact Or.inr rfl)))
    (dss_one (ds_if (db_val (de_call F__law_same (hr.mono (by first | decide | omega)) rfl (da_cons (de_var (pv 0)) (da_cons (de_call F__law_with (hr.mono (by first | decide | omega)) rfl (da_cons (de_var (pv 0)) (da_cons (de_var (pv 1)) (da_cons (de_ix (hu1 hr) (de_ix (hu1 hr) (de_var (pv 0)) (de_var (pv 1))) de_int) (da_cons (de_var (pv 2)) da_nil))))) da_nil)))) (dss_one (ds_ret (de_var (pv 2)))) dss_nil)))
    (dss_one (ds_ret (de_ix (hu1 hr) (de_ix (hu1 hr) (de_var (pv 0)) (de_var (pv 1))) de_int))))
theorem f__law_source {P : Program} {w : World} {K : PySem.W.Frag} {mg : Str → Option Value} {base : Heap} {cl : Nat → Addr} (Fx : Fx K mg cl)  :
    FD P w K mg base (0 + 1) "_law_source" (ofF (m__law_source)) := by
  obtain ⟨f, fd, F, hm⟩ := Fx.f__law_source
  refine fd_D finN finN_ok F hm (F.binds (ps := ["_law_script", "_law_index"]) fun _ _ _ _ _ _ us hl => match us, hl with | [_, _], _ => rfl) sc__law_source (ofF (m__law_source)) T__law_source (fun cdv A outer s H E hr => ?_) def_len (def_hT (T := T__law_source) if_N (is_sq (is_st 2 (im_c (.int 0))) (is_sq (is_if (im_cmB ltD (im_v 1) (im_bi lenD (im_cons (im_v 0) im_nil))) (is_st 2 (im_bi absD (im_cons (im_ix (im_v 0) (im_v 1)) im_nil))) is_skip) (is_sq (is_if (im_cmB ltD (im_v 2) (im_op powD (im_c (.int 10)) (im_c (.int 18)))) (is_rt (im_ow (im_lst (im_cons (im_c (.int 0)) (im_cons (im_op addD (im_c (.int 1)) (im_op modD (im_op addD (im_op mulD (im_v 2) (im_c (.int 7919))) (im_op mulD (im_c (.int 104729)) (im_v 1))) (im_c (.int 2147483646)))) im_nil))))) is_skip) (is_rt (im_ow (im_lst (im_cons (im_v 2) (im_cons (im_op addD (im_c (.int 1)) (im_op modD (im_op addD (im_v 2) (im_v 1)) (im_c (.int 2147483646)))) im_nil)))))))) rfl)
  have nd := sc__law_source.nd
  exact (dss_cons (ds_set (i := 2) nd rfl (by first | exact Or.inl rfl | exact Or.inr rfl) de_int)
    (dss_cons (ds_if (db_cmp do_lt (de_var (pv 1)) (de_cb dc_len rfl Fx.n_len bi_len (da_cons (de_var (pv 0)) da_nil)) (nomark _)) (dss_one (ds_set (i := 2) nd rfl (by first | exact Or.inl rfl | exact Or.inr rfl) (de_cb dc_abs rfl Fx.n_abs bi_abs (da_cons (de_ix (hu1 hr) (de_var (pv 0)) (de_var (pv 1))) da_nil)))) dss_nil)
    (dss_cons (ds_if (db_cmp do_lt (de_var (pv 2)) (de_op do_pow de_int de_int) (nomark _)) (dss_one (ds_ret (de_own (dn_lst (da_cons de_int (da_cons (de_op do_add de_int (de_op do_mod (de_op do_add (de_op do_mul (de_var (pv 2)) de_int) (de_op do_mul de_int (de_var (pv 1)))) de_int)) da_nil)))))) dss_nil)
    (dss_one (ds_ret (de_own (dn_lst (da_cons (de_var (pv 2)) (da_cons (de_op do_add de_int (de_op do_mod (de_op do_add (de_var (pv 2)) (de_var (pv 1))) de_int)) da_nil)))))))))
theorem f_all_parts {P : Program} {w : World} {K : PySem.W.Frag} {mg : Str → Option Value} {base : Heap} {cl : Nat → Addr} (Fx : Fx K mg cl)  :
    FD P w K mg base (0 + 1) "all_parts" (ofF (m_all_parts)) := by
  obtain ⟨f, fd, F, hm⟩ := Fx.f_all_parts
  refine fd_D finD finD_ok F hm (F.binds (ps := ["names"]) fun _ _ _ _ _ _ us hl => match us, hl with | [_], _ => rfl) sc_all_parts (ofF (m_all_parts)) T_all_parts (fun cdv A outer s H E hr => ?_) def_len (def_hT (T := T_all_parts) if_D (is_sq (is_st 1 (im_fr (im_lst (im_cons (im_tup im_nil) im_nil)))) (is_sq (is_fo (im_seqI (im_v 0)) (is_st 1 (im_op addD (im_v 1) (im_fr (im_lc (im_seqI (im_v 1)) im_yes (im_op addD (im_v 3) (im_tup (im_cons (im_v 2) im_nil)))))))) (is_rt (im_fr (im_bn sortN (im_cons (im_v 1) im_nil)))))) rfl)
  have nd := sc_all_parts.nd
  exact (dss_cons (ds_set (i := 1) nd rfl (by first | exact Or.inl rfl | exact Or.inr rfl) (de_new (dn_lst (da_cons (de_tup da_nil) da_nil))))
    (dss_cons (ds_for PassesOwn.never rfl (di_seq (de_var (pv 0))) (dg_name (pg_name (i := 2) nd rfl (by first | exact Or.inl rfl | exact Or.inr rfl)))
    (dss_one (ds_set (i := 1) nd rfl (by first | exact Or.inl rfl | exact Or.inr rfl) (de_op do_add (de_var (pv 1)) (de_new (dn_lc (own := [("part", 3)]) rfl nd (di_seq (de_var (pv 1))) (blkOk_by (by rfl)) (fun _ _ _ _ _ => (dg_name (pg_name (i := 3) nd rfl (by first | exact Or.inl rfl | exact Or.inr rfl)))) (fun _ _ _ _ _ => dts_nil) (fun _ _ _ _ _ => (de_op do_add (de_var (pv 3)) (de_tup (da_cons (de_var (pv 2)) da_nil)))) (by decide)))))))
    (dss_one (ds_ret (de_new (dn_cb (dc_sorted (hu65 hr)) rfl Fx.n_sorted bi_sorted (da_cons (de_var (pv 1)) da_nil)))))))
theorem f_names_of {P : Program} {w : World} {K : PySem.W.Frag} {mg : Str → Option Value} {base : Heap} {cl : Nat → Addr} (Fx : Fx K mg cl)  :
    FD P w K mg base (0 + 1) "names_of" (ofF (m_names_of)) := by
  obtain ⟨f, fd, F, hm⟩ := Fx.f_names_of
  refine fd_D finD finD_ok F hm (F.binds (ps := ["pipeline"]) fun _ _ _ _ _ _ us hl => match us, hl with | [_], _ => rfl) sc_names_of (ofF (m_names_of)) T_names_of (fun cdv A outer s H E hr => ?_) def_len (def_hT (T := T_names_of) if_D (is_rt (im_bi tupD (im_cons (im_fr (im_lc (im_seqI (im_v 0)) im_yes (im_ix (im_v 1) (im_c (.int 0))))) im_nil))) rfl)
  have nd := sc_names_of.nd
  exact (dss_one (ds_ret (de_ct dc_tuple rfl Fx.n_tuple bi_tuple (da_cons (de_new (dn_lc (own := [("job", 1)]) rfl nd (di_seq (de_var (pv 0))) (blkOk_by (by rfl)) (fun _ _ _ _ _ => (dg_name (pg_name (i := 1) nd rfl (by first | exact Or.inl rfl | exact Or.inr rfl)))) (fun _ _ _ _ _ => dts_nil) (fun _ _ _ _ _ => (de_ix (hu1 hr) (de_var (pv 1)) de_int)) (by decide))) da_nil))))
theorem f_all_cases {P : Program} {w : World} {K : PySem.W.Frag} {mg : Str → Option Value} {base : Heap} {cl : Nat → Addr} (Fx : Fx K mg cl) (F_all_parts : FD P w K mg base 1 "all_parts" (ofF (m_all_parts))) (F_names_of : FD P w K mg base 1 "names_of" (ofF (m_names_of))) :
    FD P w K mg base (1 + 1) "all_cases" (ofF (m_all_cases)) := by
  obtain ⟨f, fd, F, hm⟩ := Fx.f_all_cases
  refine fd_D finD finD_ok F hm (F.binds (ps := ["pipeline", "flags"]) fun _ _ _ _ _ _ us hl => match us, hl with | [_, _], _ => rfl) sc_all_cases (ofF (m_all_cases)) T_all_cases (fun cdv A outer s H E hr => ?_) def_len (def_hT (T := T_all_cases) if_D (is_sq (is_st 2 (im_cl m_all_parts (im_cons (im_fr (im_bn sortN (im_cons (im_cl m_names_of (im_cons (im_v 0) im_nil)) im_nil))) im_nil))) (is_sq (is_st 3 (im_fr (im_lst im_nil))) (is_sq (is_fo (im_seqI (im_cl m_all_parts (im_cons (im_v 1) im_nil))) (is_st 3 (im_op addD (im_v 3) (im_fr (im_lc (im_seqI (im_v 2)) im_yes (im_tup (im_cons (im_v 4) (im_cons (im_v 5) im_nil)))))))) (is_rt (im_v 3))))) rfl)
  have nd := sc_all_cases.nd
  exact (dss_cons (ds_set (i := 2) nd rfl (by first | exact Or.inl rfl | exact Or.inr rfl) (de_call F_all_parts (hr.mono (by first | decide | omega)) rfl (da_cons (de_new (dn_cb (dc_sorted (hu65 hr)) rfl Fx.n_sorted bi_sorted (da_cons (de_call F_names_of (hr.mono (by first | decide | omega)) rfl (da_cons (de_var (pv 0)) da_nil)) da_nil))) da_nil)))
    (dss_cons (ds_set (i := 3) nd rfl (by first | exact Or.inl rfl | exact Or.inr rfl) (de_new (dn_lst da_nil)))
    (dss_cons (ds_for PassesOwn.never rfl (di_seq (de_call F_all_parts (hr.mono (by first | decide | omega)) rfl (da_cons (de_var (pv 1)) da_nil))) (dg_name (pg_name (i := 4) nd rfl (by first | exact Or.inl rfl | exact Or.inr rfl)))
    (dss_one (ds_set (i := 3) nd rfl (by first | exact Or.inl rfl | exact Or.inr rfl) (de_op do_add (de_var (pv 3)) (de_new (dn_lc (own := [("bad", 5)]) rfl nd (di_seq (de_var (pv 2))) (blkOk_by (by rfl)) (fun _ _ _ _ _ => (dg_name (pg_name (i := 5) nd rfl (by first | exact Or.inl rfl | exact Or.inr rfl)))) (fun _ _ _ _ _ => dts_nil) (fun _ _ _ _ _ => (de_tup (da_cons (de_var (pv 4)) (da_cons (de_var (pv 5)) da_nil)))) (by decide)))))))
    (dss_one (ds_ret (de_var (pv 3)))))))
theorem f_words_in {P : Program} {w : World} {K : PySem.W.Frag} {mg : Str → Option Value} {base : Heap} {cl : Nat → Addr} {n : Nat} (Fx : Fx K mg cl) (F_words_in : FD P w K mg base (1 + n) "words_in" (ofF (m_words_in n))) :
    FD P w K mg base (1 + n + 1) "words_in" (ofF (m_words_in (n + 1))) := by
  obtain ⟨f, fd, F, hm⟩ := Fx.f_words_in
  refine fd_D finD finD_ok F hm (F.binds (ps := ["condition", "word"]) fun _ _ _ _ _ _ us hl => match us, hl with | [_, _], _ => rfl) sc_words_in (ofF (m_words_in (n + 1))) (T_words_in n) (fun cdv A outer s H E hr => ?_) def_len (def_hT (T := (T_words_in n)) if_D (is_sq (is_if (im_cmB eqD (im_ix (im_v 0) (im_c (.int 0))) (im_v 1)) (is_rt (im_tup (im_cons (im_ix (im_v 0) (im_c (.int 1))) im_nil))) is_skip) (is_sq (is_st 2 (im_fr (im_lst im_nil))) (is_sq (is_if (im_cmB inD (im_ix (im_v 0) (im_c (.int 0))) (im_tup (im_cons (im_c (.str "not")) (im_cons (im_c (.str "and")) (im_cons (im_c (.str "or")) im_nil))))) (is_fo (im_seqI (im_sl (im_v 0) (im_some (im_c (.int 1))) im_no)) (is_st 2 (im_op addD (im_v 2) (im_fr (im_bn listN (im_cons (im_cl (m_words_in n) (im_cons (im_v 3) (im_cons (im_v 1) im_nil))) im_nil)))))) is_skip) (is_rt (im_bi tupD (im_cons (im_fr (im_sos (im_v 2))) im_nil)))))) rfl)
  have nd := sc_words_in.nd
  exact (dss_cons (ds_if (db_cmp (do_eq (hu64 hr)) (de_ix (hu1 hr) (de_var (pv 0)) de_int) (de_var (pv 1)) (nomark _)) (dss_one (ds_ret (de_tup (da_cons (de_ix (hu1 hr) (de_var (pv 0)) de_int) da_nil)))) dss_nil)
    (dss_cons (ds_set (i := 2) nd rfl (by first | exact Or.inl rfl | exact Or.inr rfl) (de_new (dn_lst da_nil)))
    (dss_cons (ds_if (db_cmp (do_in (hu65 hr)) (de_ix (hu1 hr) (de_var (pv 0)) de_int) (de_tup (da_cons de_str (da_cons de_str (da_cons de_str da_nil)))) rfl) (dss_one (ds_for PassesOwn.never rfl (di_seq (de_sl (de_var (pv 0)) (dp_some de_int) dp_none)) (dg_name (pg_name (i := 3) nd rfl (by first | exact Or.inl rfl | exact Or.inr rfl)))
    (dss_one (ds_set (i := 2) nd rfl (by first | exact Or.inl rfl | exact Or.inr rfl) (de_op do_add (de_var (pv 2)) (de_new (dn_ct dc_list rfl Fx.n_list bi_list (da_cons (de_call F_words_in (hr.mono (by first | decide | omega)) rfl (da_cons (de_var (pv 3)) (da_cons (de_var (pv 1)) da_nil))) da_nil)))))))) dss_nil)
    (dss_one (ds_ret (de_ct dc_tuple rfl Fx.n_tuple bi_tuple (da_cons (de_new (dn_sortset rfl Fx.n_sorted rfl Fx.n_set rfl (de_var (pv 2)))) da_nil)))))))
theorem z_words_in {P : Program} {w : World} {K : PySem.W.Frag} {mg : Str → Option Value} {base : Heap} {cl : Nat → Addr} (Fx : Fx K mg cl) : FD P w K mg base 1 "words_in" (ofF (m_words_in 0)) := by
  obtain ⟨f, fd, F, hm⟩ := Fx.f_words_in
  exact fd_D (k := 0) finD finD_ok F hm (F.binds (ps := ["condition", "word"]) fun _ _ _ _ _ _ us hl => match us, hl with | [_, _], _ => rfl) sc_words_in (ofF (m_words_in 0)) _ (fun cdv A outer s H E hr => dss_any _) (fun _ _ _ h => h.elim) (fun _ _ _ h => h.elim)
theorem f_flags_of {P : Program} {w : World} {K : PySem.W.Frag} {mg : Str → Option Value} {base : Heap} {cl : Nat → Addr} (Fx : Fx K mg cl) (F_words_in : FD P w K mg base 21 "words_in" (ofF (m_words_in 20))) :
    FD P w K mg base (21 + 1) "flags_of" (ofF (m_flags_of)) := by
  obtain ⟨f, fd, F, hm⟩ := Fx.f_flags_of
  refine fd_D finD finD_ok F hm (F.binds (ps := ["pipeline"]) fun _ _ _ _ _ _ us hl => match us, hl with | [_], _ => rfl) sc_flags_of (ofF (m_flags_of)) T_flags_of (fun cdv A outer s H E hr => ?_) def_len (def_hT (T := T_flags_of) if_D (is_sq (is_st 1 (im_fr (im_lst im_nil))) (is_sq (is_fo (im_seqI (im_v 0)) (is_st 1 (im_op addD (im_v 1) (im_fr (im_bn listN (im_cons (im_cl (m_words_in 20) (im_cons (im_ix (im_v 2) (im_c (.int 2))) (im_cons (im_c (.str "flag")) im_nil))) im_nil)))))) (is_rt (im_bi tupD (im_cons (im_fr (im_sos (im_v 1))) im_nil))))) rfl)
  have nd := sc_flags_of.nd
  exact (dss_cons (ds_set (i := 1) nd rfl (by first | exact Or.inl rfl | exact Or.inr rfl) (de_new (dn_lst da_nil)))
    (dss_cons (ds_for PassesOwn.never rfl (di_seq (de_var (pv 0))) (dg_name (pg_name (i := 2) nd rfl (by first | exact Or.inl rfl | exact Or.inr rfl)))
    (dss_one (ds_set (i := 1) nd rfl (by first | exact Or.inl rfl | exact Or.inr rfl) (de_op do_add (de_var (pv 1)) (de_new (dn_ct dc_list rfl Fx.n_list bi_list (da_cons (de_call F_words_in (hr.mono (by first | decide | omega)) rfl (da_cons (de_ix (hu1 hr) (de_var (pv 2)) de_int) (da_cons de_str da_nil))) da_nil)))))))
    (dss_one (ds_ret (de_ct dc_tuple rfl Fx.n_tuple bi_tuple (da_cons (de_new (dn_sortset rfl Fx.n_sorted rfl Fx.n_set rfl (de_var (pv 1)))) da_nil))))))
theorem f_does_hold {P : Program} {w : World} {K : PySem.W.Frag} {mg : Str → Option Value} {base : Heap} {cl : Nat → Addr} {n : Nat} (Fx : Fx K mg cl) (F_does_hold : FD P w K mg base (1 + n) "does_hold" (ofF (m_does_hold n))) :
    FD P w K mg base (1 + n + 1) "does_hold" (ofF (m_does_hold (n + 1))) := by
  obtain ⟨f, fd, F, hm⟩ := Fx.f_does_hold
  refine fd_D finD finD_ok F hm (F.binds (ps := ["condition", "seen", "flags", "stopped"]) fun _ _ _ _ _ _ us hl => match us, hl with | [_, _, _, _], _ => rfl) sc_does_hold (ofF (m_does_hold (n + 1))) (T_does_hold n) (fun cdv A outer s H E hr => ?_) def_len (def_hT (T := (T_does_hold n)) if_D (is_sq (is_st 4 (im_ix (im_v 0) (im_c (.int 0)))) (is_sq (is_if (im_cmB eqD (im_v 4) (im_c (.str "good"))) (is_rt (im_and (im_not (im_v 3)) (im_bi allD (im_cons (im_fr (im_lc (im_seqI (im_v 1)) im_yes (im_cm eqD (im_v 7) (im_c c_GOOD)))) im_nil)))) is_skip) (is_sq (is_if (im_cmB eqD (im_v 4) (im_c (.str "bad"))) (is_rt (im_and (im_not (im_v 3)) (im_bi anyD (im_cons (im_fr (im_lc (im_seqI (im_v 1)) im_yes (im_cm eqD (im_v 7) (im_c c_BAD)))) im_nil)))) is_skip) (is_sq (is_if (im_cmB inD (im_v 4) (im_tup (im_cons (im_c (.str "always")) (im_cons (im_c (.str "stopped")) im_nil)))) (is_rt (im_or (im_v 3) (im_cm eqD (im_v 4) (im_c (.str "always"))))) is_skip) (is_sq (is_if (im_cmB eqD (im_v 4) (im_c (.str "is"))) (is_rt (im_cm inD (im_sl (im_v 0) (im_some (im_c (.int 1))) im_no) (im_v 1))) is_skip) (is_sq (is_if (im_cmB eqD (im_v 4) (im_c (.str "flag"))) (is_rt (im_cm inD (im_ix (im_v 0) (im_c (.int 1))) (im_v 2))) is_skip) (is_sq (is_if (im_cmB eqD (im_v 4) (im_c (.str "not"))) (is_rt (im_not (im_cl (m_does_hold n) (im_cons (im_ix (im_v 0) (im_c (.int 1))) (im_cons (im_v 1) (im_cons (im_v 2) (im_cons (im_v 3) im_nil))))))) is_skip) (is_sq (is_st 5 (im_fr (im_lc (im_seqI (im_sl (im_v 0) (im_some (im_c (.int 1))) im_no)) im_yes (im_cl (m_does_hold n) (im_cons (im_v 8) (im_cons (im_v 1) (im_cons (im_v 2) (im_cons (im_v 3) im_nil)))))))) (is_rt (im_ifE (im_cmB eqD (im_v 4) (im_c (.str "and"))) (im_bi allD (im_cons (im_v 5) im_nil)) (im_bi anyD (im_cons (im_v 5) im_nil)))))))))))) rfl)
  have nd := sc_does_hold.nd
  exact (dss_cons (ds_set (i := 4) nd rfl (by first | exact Or.inl rfl | exact Or.inr rfl) (de_ix (hu1 hr) (de_var (pv 0)) de_int))
    (dss_cons (ds_if (db_cmp (do_eq (hu64 hr)) (de_var (pv 4)) de_str (nomark _)) (dss_one (ds_ret (de_and (de_not (de_var (pv 3))) (de_one (de_cb (dc_all rfl) rfl Fx.n_all bi_all (da_cons (de_new (dn_lc (own := [("name", 6), ("status", 7)]) rfl nd (di_seq (de_var (pv 1))) (blkOk_by (by rfl)) (fun _ _ _ _ _ => (dg_tup rfl (dgs_cons (pg_name (i := 6) nd rfl (by first | exact Or.inl rfl | exact Or.inr rfl)) (dgs_cons (pg_name (i := 7) nd rfl (by first | exact Or.inl rfl | exact Or.inr rfl)) dgs_nil)))) (fun _ _ _ _ _ => dts_nil) (fun _ _ _ _ _ => (de_cmp (do_eq (hu64 hr)) (de_var (pv 7)) (de_globE rfl Fx.c_GOOD) (nomark _))) (by decide))) da_nil)))))) dss_nil)
    (dss_cons (ds_if (db_cmp (do_eq (hu64 hr)) (de_var (pv 4)) de_str (nomark _)) (dss_one (ds_ret (de_and (de_not (de_var (pv 3))) (de_one (de_cb (dc_any rfl) rfl Fx.n_any bi_any (da_cons (de_new (dn_lc (own := [("name", 6), ("status", 7)]) rfl nd (di_seq (de_var (pv 1))) (blkOk_by (by rfl)) (fun _ _ _ _ _ => (dg_tup rfl (dgs_cons (pg_name (i := 6) nd rfl (by first | exact Or.inl rfl | exact Or.inr rfl)) (dgs_cons (pg_name (i := 7) nd rfl (by first | exact Or.inl rfl | exact Or.inr rfl)) dgs_nil)))) (fun _ _ _ _ _ => dts_nil) (fun _ _ _ _ _ => (de_cmp (do_eq (hu64 hr)) (de_var (pv 7)) (de_globE rfl Fx.c_BAD) (nomark _))) (by decide))) da_nil)))))) dss_nil)
    (dss_cons (ds_if (db_cmp (do_in (hu65 hr)) (de_var (pv 4)) (de_tup (da_cons de_str (da_cons de_str da_nil))) rfl) (dss_one (ds_ret (de_or (de_var (pv 3)) (de_one (de_cmp (do_eq (hu64 hr)) (de_var (pv 4)) de_str (nomark _)))))) dss_nil)
    (dss_cons (ds_if (db_cmp (do_eq (hu64 hr)) (de_var (pv 4)) de_str (nomark _)) (dss_one (ds_ret (de_cmp (do_in (hu65 hr)) (de_sl (de_var (pv 0)) (dp_some de_int) dp_none) (de_var (pv 1)) rfl))) dss_nil)
    (dss_cons (ds_if (db_cmp (do_eq (hu64 hr)) (de_var (pv 4)) de_str (nomark _)) (dss_one (ds_ret (de_cmp (do_in (hu65 hr)) (de_ix (hu1 hr) (de_var (pv 0)) de_int) (de_var (pv 2)) rfl))) dss_nil)
    (dss_cons (ds_if (db_cmp (do_eq (hu64 hr)) (de_var (pv 4)) de_str (nomark _)) (dss_one (ds_ret (de_not (de_call F_does_hold (hr.mono (by first | decide | omega)) rfl (da_cons (de_ix (hu1 hr) (de_var (pv 0)) de_int) (da_cons (de_var (pv 1)) (da_cons (de_var (pv 2)) (da_cons (de_var (pv 3)) da_nil)))))))) dss_nil)
    (dss_cons (ds_setLc (own := [("part", 8)]) (i := 5) frT conv_fr rfl nd rfl rfl (sw_true rfl rfl rfl (by decide +kernel)) (di_seq (de_sl (de_var (pv 0)) (dp_some de_int) dp_none)) (blkOk_by (by rfl)) (fun _ _ _ _ _ => (dg_name (pg_name (i := 8) nd rfl (by first | exact Or.inl rfl | exact Or.inr rfl)))) (fun _ _ _ _ _ => dts_nil) (fun _ _ _ _ _ => (de_call F_does_hold (hr.mono (by first | decide | omega)) rfl (da_cons (de_var (pv 8)) (da_cons (de_var (pv 1)) (da_cons (de_var (pv 2)) (da_cons (de_var (pv 3)) da_nil)))))) (by decide))
    (dss_one (ds_ret (de_if (db_cmp (do_eq (hu64 hr)) (de_var (pv 4)) de_str (nomark _)) (de_cb (dc_all rfl) rfl Fx.n_all bi_all (da_cons (de_var (pv 5)) da_nil)) (de_cb (dc_any rfl) rfl Fx.n_any bi_any (da_cons (de_var (pv 5)) da_nil)))))))))))))
theorem z_does_hold {P : Program} {w : World} {K : PySem.W.Frag} {mg : Str → Option Value} {base : Heap} {cl : Nat → Addr} (Fx : Fx K mg cl) : FD P w K mg base 1 "does_hold" (ofF (m_does_hold 0)) := by
  obtain ⟨f, fd, F, hm⟩ := Fx.f_does_hold
  exact fd_D (k := 0) finD finD_ok F hm (F.binds (ps := ["condition", "seen", "flags", "stopped"]) fun _ _ _ _ _ _ us hl => match us, hl with | [_, _, _, _], _ => rfl) sc_does_hold (ofF (m_does_hold 0)) _ (fun cdv A outer s H E hr => dss_any _) (fun _ _ _ h => h.elim) (fun _ _ _ h => h.elim)
theorem f_ended_as {P : Program} {w : World} {K : PySem.W.Frag} {mg : Str → Option Value} {base : Heap} {cl : Nat → Addr} (Fx : Fx K mg cl)  :
    FD P w K mg base (0 + 1) "ended_as" (ofF (m_ended_as)) := by
  obtain ⟨f, fd, F, hm⟩ := Fx.f_ended_as
  refine fd_D finD finD_ok F hm (F.binds (ps := ["job", "bads"]) fun _ _ _ _ _ _ us hl => match us, hl with | [_, _], _ => rfl) sc_ended_as (ofF (m_ended_as)) T_ended_as (fun cdv A outer s H E hr => ?_) def_len (def_hT (T := T_ended_as) if_D (is_rt (im_ifE (im_andB (im_cmB inD (im_ix (im_v 0) (im_c (.int 0))) (im_v 1)) (im_notB (im_b (im_ix (im_v 0) (im_c (.int 4)))))) (im_c c_BAD) (im_c c_GOOD))) rfl)
  have nd := sc_ended_as.nd
  exact (dss_one (ds_ret (de_if (db_w (dw_and (db_cmp (do_in (hu65 hr)) (de_ix (hu1 hr) (de_var (pv 0)) de_int) (de_var (pv 1)) rfl) (dw_and1 (db_not (db_val (de_ix (hu1 hr) (de_var (pv 0)) de_int)))))) (de_globE rfl Fx.c_BAD) (de_globE rfl Fx.c_GOOD))))
theorem f_seen_by {P : Program} {w : World} {K : PySem.W.Frag} {mg : Str → Option Value} {base : Heap} {cl : Nat → Addr} (Fx : Fx K mg cl)  :
    FD P w K mg base (0 + 1) "seen_by" (ofF (m_seen_by)) := by
  obtain ⟨f, fd, F, hm⟩ := Fx.f_seen_by
  refine fd_D finD finD_ok F hm (F.binds (ps := ["job", "known"]) fun _ _ _ _ _ _ us hl => match us, hl with | [_, _], _ => rfl) sc_seen_by (ofF (m_seen_by)) T_seen_by (fun cdv A outer s H E hr => ?_) def_len (def_hT (T := T_seen_by) if_D (is_rt (im_bi tupD (im_cons (im_fr (im_lc (im_seqI (im_ix (im_v 0) (im_c (.int 1)))) im_yes (im_tup (im_cons (im_v 2) (im_cons (im_ix (im_v 1) (im_v 2)) im_nil))))) im_nil))) rfl)
  have nd := sc_seen_by.nd
  exact (dss_one (ds_ret (de_ct dc_tuple rfl Fx.n_tuple bi_tuple (da_cons (de_new (dn_lc (own := [("name", 2)]) rfl nd (di_seq (de_ix (hu1 hr) (de_var (pv 0)) de_int)) (blkOk_by (by rfl)) (fun _ _ _ _ _ => (dg_name (pg_name (i := 2) nd rfl (by first | exact Or.inl rfl | exact Or.inr rfl)))) (fun _ _ _ _ _ => dts_nil) (fun _ _ _ _ _ => (de_tup (da_cons (de_var (pv 2)) (da_cons (de_ix (hu1 hr) (de_var (pv 1)) (de_var (pv 2))) da_nil)))) (by decide))) da_nil))))
theorem f_known_in {P : Program} {w : World} {K : PySem.W.Frag} {mg : Str → Option Value} {base : Heap} {cl : Nat → Addr} (Fx : Fx K mg cl) (F_does_hold : FD P w K mg base 21 "does_hold" (ofF (m_does_hold 20))) (F_ended_as : FD P w K mg base 1 "ended_as" (ofF (m_ended_as))) (F_seen_by : FD P w K mg base 1 "seen_by" (ofF (m_seen_by))) :
    FD P w K mg base (21 + 1) "known_in" (ofF (m_known_in)) := by
  obtain ⟨f, fd, F, hm⟩ := Fx.f_known_in
  refine fd_D finD finD_ok F hm (F.binds (ps := ["pipeline", "flags", "bads"]) fun _ _ _ _ _ _ us hl => match us, hl with | [_, _, _], _ => rfl) sc_known_in (ofF (m_known_in)) T_known_in (fun cdv A outer s H E hr => ?_) def_len (def_hT (T := T_known_in) if_D (is_sq (is_st 3 (im_ow im_dct)) (is_sq (is_fo (im_seqI (im_v 0)) (is_if (im_b (im_cl (m_does_hold 20) (im_cons (im_ix (im_v 4) (im_c (.int 2))) (im_cons (im_cl m_seen_by (im_cons (im_v 4) (im_cons (im_v 3) im_nil))) (im_cons (im_v 1) (im_cons (im_c (.bool false)) im_nil)))))) (is_sx (im_cl m_ended_as (im_cons (im_v 4) (im_cons (im_v 2) im_nil))) (im_v 3) (im_ix (im_v 4) (im_c (.int 0)))) (is_sx (im_c c_PASSED) (im_v 3) (im_ix (im_v 4) (im_c (.int 0)))))) (is_rt (im_v 3)))) rfl)
  have nd := sc_known_in.nd
  exact (dss_cons (ds_set (i := 3) nd rfl (by first | exact Or.inl rfl | exact Or.inr rfl) (de_own dn_dct))
    (dss_cons (ds_for PassesOwn.never rfl (di_seq (de_var (pv 0))) (dg_name (pg_name (i := 4) nd rfl (by first | exact Or.inl rfl | exact Or.inr rfl)))
    (dss_one (ds_if (db_val (de_call F_does_hold (hr.mono (by first | decide | omega)) rfl (da_cons (de_ix (hu1 hr) (de_var (pv 4)) de_int) (da_cons (de_call F_seen_by (hr.mono (by first | decide | omega)) rfl (da_cons (de_var (pv 4)) (da_cons (de_var (pv 3)) da_nil))) (da_cons (de_var (pv 1)) (da_cons de_bl da_nil)))))) (dss_one (ds_setix (hu1 hr) (de_call F_ended_as (hr.mono (by first | decide | omega)) rfl (da_cons (de_var (pv 4)) (da_cons (de_var (pv 2)) da_nil))) (de_var (pv 3)) (de_ix (hu1 hr) (de_var (pv 4)) de_int))) (dss_one (ds_setix (hu1 hr) (de_globE rfl Fx.c_PASSED) (de_var (pv 3)) (de_ix (hu1 hr) (de_var (pv 4)) de_int))))))
    (dss_one (ds_ret (de_var (pv 3))))))
theorem f_first_unlike {P : Program} {w : World} {K : PySem.W.Frag} {mg : Str → Option Value} {base : Heap} {cl : Nat → Addr} (Fx : Fx K mg cl) (F_all_cases : FD P w K mg base 2 "all_cases" (ofF (m_all_cases))) (F_flags_of : FD P w K mg base 22 "flags_of" (ofF (m_flags_of))) (F_known_in : FD P w K mg base 22 "known_in" (ofF (m_known_in))) (F_names_of : FD P w K mg base 1 "names_of" (ofF (m_names_of))) :
    FD P w K mg base (22 + 1) "first_unlike" (ofF (m_first_unlike)) := by
  obtain ⟨f, fd, F, hm⟩ := Fx.f_first_unlike
  refine fd_D finD finD_ok F hm (F.binds (ps := ["pipeline", "other"]) fun _ _ _ _ _ _ us hl => match us, hl with | [_, _], _ => rfl) sc_first_unlike (ofF (m_first_unlike)) T_first_unlike (fun cdv A outer s H E hr => ?_) def_len (def_hT (T := T_first_unlike) if_D (is_sq (is_pa [2, 3] (im_cons (im_cl m_flags_of (im_cons (im_v 0) im_nil)) (im_cons (im_cl m_flags_of (im_cons (im_v 1) im_nil)) im_nil))) (is_sq (is_fo (im_seqI (im_cl m_all_cases (im_cons (im_v 0) (im_cons (im_bi tupD (im_cons (im_fr (im_sos (im_op addD (im_v 2) (im_v 3)))) im_nil)) im_nil)))) (is_sq (is_st 6 (im_cl m_known_in (im_cons (im_v 0) (im_cons (im_bi tupD (im_cons (im_fr (im_lc (im_seqI (im_v 4)) (im_cmB inD (im_v 8) (im_v 2)) (im_v 8))) im_nil)) (im_cons (im_v 5) im_nil))))) (is_sq (is_st 7 (im_cl m_known_in (im_cons (im_v 1) (im_cons (im_bi tupD (im_cons (im_fr (im_lc (im_seqI (im_v 4)) (im_cmB inD (im_v 8) (im_v 3)) (im_v 8))) im_nil)) (im_cons (im_v 5) im_nil))))) (is_if (im_cmB neD (im_fr (im_lc (im_seqI (im_cl m_names_of (im_cons (im_v 0) im_nil))) (im_cmB neD (im_ix (im_v 6) (im_v 8)) (im_ix (im_v 7) (im_v 8))) (im_v 8))) (im_fr (im_lst im_nil))) (is_rt (im_tup (im_cons (im_v 4) (im_cons (im_v 5) im_nil)))) is_skip)))) (is_rt (im_c (.none))))) rfl)
  have nd := sc_first_unlike.nd
  exact (dss_cons (ds_tups rfl (da_cons (de_call F_flags_of (hr.mono (by first | decide | omega)) rfl (da_cons (de_var (pv 0)) da_nil)) (da_cons (de_call F_flags_of (hr.mono (by first | decide | omega)) rfl (da_cons (de_var (pv 1)) da_nil)) da_nil)) (dgs_cons (pg_name (i := 2) nd rfl (by first | exact Or.inl rfl | exact Or.inr rfl)) (dgs_cons (pg_name (i := 3) nd rfl (by first | exact Or.inl rfl | exact Or.inr rfl)) dgs_nil)))
    (dss_cons (ds_for PassesOwn.never rfl (di_seq (de_call F_all_cases (hr.mono (by first | decide | omega)) rfl (da_cons (de_var (pv 0)) (da_cons (de_ct dc_tuple rfl Fx.n_tuple bi_tuple (da_cons (de_new (dn_sortset rfl Fx.n_sorted rfl Fx.n_set rfl (de_op do_add (de_var (pv 2)) (de_var (pv 3))))) da_nil)) da_nil)))) (dg_tup rfl (dgs_cons (pg_name (i := 4) nd rfl (by first | exact Or.inl rfl | exact Or.inr rfl)) (dgs_cons (pg_name (i := 5) nd rfl (by first | exact Or.inl rfl | exact Or.inr rfl)) dgs_nil)))
    (dss_cons (ds_set (i := 6) nd rfl (by first | exact Or.inl rfl | exact Or.inr rfl) (de_call F_known_in (hr.mono (by first | decide | omega)) rfl (da_cons (de_var (pv 0)) (da_cons (de_ct dc_tuple rfl Fx.n_tuple bi_tuple (da_cons (de_new (dn_lc (own := [("name", 8)]) rfl nd (di_seq (de_var (pv 4))) (blkOk_by (by rfl)) (fun _ _ _ _ _ => (dg_name (pg_name (i := 8) nd rfl (by first | exact Or.inl rfl | exact Or.inr rfl)))) (fun _ _ _ _ _ => (dts_one (db_cmp (do_in (hu65 hr)) (de_var (pv 8)) (de_var (pv 2)) rfl))) (fun _ _ _ _ _ => (de_var (pv 8))) (by decide))) da_nil)) (da_cons (de_var (pv 5)) da_nil)))))
    (dss_cons (ds_set (i := 7) nd rfl (by first | exact Or.inl rfl | exact Or.inr rfl) (de_call F_known_in (hr.mono (by first | decide | omega)) rfl (da_cons (de_var (pv 1)) (da_cons (de_ct dc_tuple rfl Fx.n_tuple bi_tuple (da_cons (de_new (dn_lc (own := [("name", 8)]) rfl nd (di_seq (de_var (pv 4))) (blkOk_by (by rfl)) (fun _ _ _ _ _ => (dg_name (pg_name (i := 8) nd rfl (by first | exact Or.inl rfl | exact Or.inr rfl)))) (fun _ _ _ _ _ => (dts_one (db_cmp (do_in (hu65 hr)) (de_var (pv 8)) (de_var (pv 3)) rfl))) (fun _ _ _ _ _ => (de_var (pv 8))) (by decide))) da_nil)) (da_cons (de_var (pv 5)) da_nil)))))
    (dss_one (ds_if (db_cmp (do_ne (hu64 hr)) (de_new (dn_lc (own := [("name", 8)]) rfl nd (di_seq (de_call F_names_of (hr.mono (by first | decide | omega)) rfl (da_cons (de_var (pv 0)) da_nil))) (blkOk_by (by rfl)) (fun _ _ _ _ _ => (dg_name (pg_name (i := 8) nd rfl (by first | exact Or.inl rfl | exact Or.inr rfl)))) (fun _ _ _ _ _ => (dts_one (db_cmp (do_ne (hu64 hr)) (de_ix (hu1 hr) (de_var (pv 6)) (de_var (pv 8))) (de_ix (hu1 hr) (de_var (pv 7)) (de_var (pv 8))) (nomark _)))) (fun _ _ _ _ _ => (de_var (pv 8))) (by decide))) (de_new (dn_lst da_nil)) (nomark _)) (dss_one (ds_ret (de_tup (da_cons (de_var (pv 4)) (da_cons (de_var (pv 5)) da_nil))))) dss_nil)))))
    (dss_one (ds_ret de_non))))
theorem f_is_text_of {P : Program} {w : World} {K : PySem.W.Frag} {mg : Str → Option Value} {base : Heap} {cl : Nat → Addr} (Fx : Fx K mg cl)  :
    FD P w K mg base (0 + 1) "is_text_of" (ofF (m_is_text_of)) := by
  obtain ⟨f, fd, F, hm⟩ := Fx.f_is_text_of
  refine fd_D finD finD_ok F hm (F.binds (ps := ["value", "signs", "most"]) fun _ _ _ _ _ _ us hl => match us, hl with | [_, _, _], _ => rfl) sc_is_text_of (ofF (m_is_text_of)) T_is_text_of (fun cdv A outer s H E hr => ?_) def_len (def_hT (T := T_is_text_of) if_D (is_sq (is_if (im_orB (im_notB (im_b (im_isi "str" (im_v 0)))) (im_notB (im_chB leD leD (im_c (.int 1)) (im_bi lenD (im_cons (im_v 0) im_nil)) (im_v 2)))) (is_rt (im_c (.bool false))) is_skip) (is_rt (im_bi allD (im_cons (im_fr (im_lc (im_seqI (im_v 0)) im_yes (im_cm inD (im_v 3) (im_v 1)))) im_nil)))) rfl)
  have nd := sc_is_text_of.nd
  exact (dss_cons (ds_if (db_w (dw_or (db_not (db_val (de_isi rfl Fx.n_isinstance rfl Fx.n_str bi_str (de_var (pv 0))))) (dw_or1 (db_not (db_chain do_le do_le de_int (de_cb dc_len rfl Fx.n_len bi_len (da_cons (de_var (pv 0)) da_nil)) (de_var (pv 2))))))) (dss_one (ds_ret de_bl)) dss_nil)
    (dss_one (ds_ret (de_cb (dc_all rfl) rfl Fx.n_all bi_all (da_cons (de_new (dn_lc (own := [("sign", 3)]) rfl nd (di_seq (de_var (pv 0))) (blkOk_by (by rfl)) (fun _ _ _ _ _ => (dg_name (pg_name (i := 3) nd rfl (by first | exact Or.inl rfl | exact Or.inr rfl)))) (fun _ _ _ _ _ => dts_nil) (fun _ _ _ _ _ => (de_cmp (do_in (hu65 hr)) (de_var (pv 3)) (de_var (pv 1)) rfl)) (by decide))) da_nil)))))
theorem f_is_name {P : Program} {w : World} {K : PySem.W.Frag} {mg : Str → Option Value} {base : Heap} {cl : Nat → Addr} (Fx : Fx K mg cl) (F_is_text_of : FD P w K mg base 1 "is_text_of" (ofF (m_is_text_of))) :
    FD P w K mg base (1 + 1) "is_name" (ofF (m_is_name)) := by
  obtain ⟨f, fd, F, hm⟩ := Fx.f_is_name
  refine fd_D finD finD_ok F hm (F.binds (ps := ["value"]) fun _ _ _ _ _ _ us hl => match us, hl with | [_], _ => rfl) sc_is_name (ofF (m_is_name)) T_is_name (fun cdv A outer s H E hr => ?_) def_len (def_hT (T := T_is_name) if_D (is_rt (im_and (im_cl m_is_text_of (im_cons (im_v 0) (im_cons (im_c c_LETTERS) (im_cons (im_c c_MOST_NAME) im_nil)))) (im_cm notinD (im_v 0) (im_c c_WORDS)))) rfl)
  have nd := sc_is_name.nd
  exact (dss_one (ds_ret (de_and (de_call F_is_text_of (hr.mono (by first | decide | omega)) rfl (da_cons (de_var (pv 0)) (da_cons (de_globE rfl Fx.c_LETTERS) (da_cons (de_globE rfl Fx.c_MOST_NAME) da_nil)))) (de_one (de_cmp (do_notin (hu65 hr)) (de_var (pv 0)) (de_globE rfl Fx.c_WORDS) rfl)))))
theorem f_are_names {P : Program} {w : World} {K : PySem.W.Frag} {mg : Str → Option Value} {base : Heap} {cl : Nat → Addr} (Fx : Fx K mg cl) (F_is_name : FD P w K mg base 2 "is_name" (ofF (m_is_name))) :
    FD P w K mg base (2 + 1) "are_names" (ofF (m_are_names)) := by
  obtain ⟨f, fd, F, hm⟩ := Fx.f_are_names
  refine fd_D finD finD_ok F hm (F.binds (ps := ["value", "most"]) fun _ _ _ _ _ _ us hl => match us, hl with | [_, _], _ => rfl) sc_are_names (ofF (m_are_names)) T_are_names (fun cdv A outer s H E hr => ?_) def_len (def_hT (T := T_are_names) if_D (is_sq (is_if (im_orB (im_notB (im_b (im_isi "tuple" (im_v 0)))) (im_orB (im_cmB gtD (im_bi lenD (im_cons (im_v 0) im_nil)) (im_v 1)) (im_notB (im_b (im_bi allD (im_cons (im_fr (im_lc (im_seqI (im_v 0)) im_yes (im_cl m_is_name (im_cons (im_v 2) im_nil)))) im_nil)))))) (is_rt (im_c (.bool false))) is_skip) (is_rt (im_bi allD (im_cons (im_fr (im_lc (im_zip (im_cons (im_v 0) (im_cons (im_sl (im_v 0) (im_some (im_c (.int 1))) im_no) im_nil))) im_yes (im_cm ltD (im_v 3) (im_v 4)))) im_nil)))) rfl)
  have nd := sc_are_names.nd
  exact (dss_cons (ds_if (db_w (dw_or (db_not (db_val (de_isi rfl Fx.n_isinstance rfl Fx.n_tuple bi_tuple (de_var (pv 0))))) (dw_or (db_cmp do_gt (de_cb dc_len rfl Fx.n_len bi_len (da_cons (de_var (pv 0)) da_nil)) (de_var (pv 1)) (nomark _)) (dw_or1 (db_not (db_val (de_cb (dc_all rfl) rfl Fx.n_all bi_all (da_cons (de_new (dn_lc (own := [("name", 2)]) rfl nd (di_seq (de_var (pv 0))) (blkOk_by (by rfl)) (fun _ _ _ _ _ => (dg_name (pg_name (i := 2) nd rfl (by first | exact Or.inl rfl | exact Or.inr rfl)))) (fun _ _ _ _ _ => dts_nil) (fun _ _ _ _ _ => (de_call F_is_name (hr.mono (by first | decide | omega)) rfl (da_cons (de_var (pv 2)) da_nil))) (by decide))) da_nil)))))))) (dss_one (ds_ret de_bl)) dss_nil)
    (dss_one (ds_ret (de_cb (dc_all rfl) rfl Fx.n_all bi_all (da_cons (de_new (dn_lc (own := [("one", 3), ("other", 4)]) rfl nd (di_zip rfl Fx.n_zip (da_cons (de_var (pv 0)) (da_cons (de_sl (de_var (pv 0)) (dp_some de_int) dp_none) da_nil))) (blkOk_by (by rfl)) (fun _ _ _ _ _ => (dg_tup rfl (dgs_cons (pg_name (i := 3) nd rfl (by first | exact Or.inl rfl | exact Or.inr rfl)) (dgs_cons (pg_name (i := 4) nd rfl (by first | exact Or.inl rfl | exact Or.inr rfl)) dgs_nil)))) (fun _ _ _ _ _ => dts_nil) (fun _ _ _ _ _ => (de_cmp do_lt (de_var (pv 3)) (de_var (pv 4)) (nomark _))) (by decide))) da_nil)))))
theorem f_is_status {P : Program} {w : World} {K : PySem.W.Frag} {mg : Str → Option Value} {base : Heap} {cl : Nat → Addr} (Fx : Fx K mg cl)  :
    FD P w K mg base (0 + 1) "is_status" (ofF (m_is_status)) := by
  obtain ⟨f, fd, F, hm⟩ := Fx.f_is_status
  refine fd_D finD finD_ok F hm (F.binds (ps := ["value"]) fun _ _ _ _ _ _ us hl => match us, hl with | [_], _ => rfl) sc_is_status (ofF (m_is_status)) T_is_status (fun cdv A outer s H E hr => ?_) def_len (def_hT (T := T_is_status) if_D (is_rt (im_and (im_isi "str" (im_v 0)) (im_cm inD (im_v 0) (im_c c_STATUSES)))) rfl)
  have nd := sc_is_status.nd
  exact (dss_one (ds_ret (de_and (de_isi rfl Fx.n_isinstance rfl Fx.n_str bi_str (de_var (pv 0))) (de_one (de_cmp (do_in (hu65 hr)) (de_var (pv 0)) (de_globE rfl Fx.c_STATUSES) rfl)))))
theorem f_is_within {P : Program} {w : World} {K : PySem.W.Frag} {mg : Str → Option Value} {base : Heap} {cl : Nat → Addr} {n : Nat} (Fx : Fx K mg cl) (F_is_name : FD P w K mg base 2 "is_name" (ofF (m_is_name))) (F_is_status : FD P w K mg base 1 "is_status" (ofF (m_is_status))) (F_is_within : FD P w K mg base (3 + n) "is_within" (ofF (m_is_within n))) :
    FD P w K mg base (3 + n + 1) "is_within" (ofF (m_is_within (n + 1))) := by
  obtain ⟨f, fd, F, hm⟩ := Fx.f_is_within
  refine fd_D finD finD_ok F hm (F.binds (ps := ["value", "deep"]) fun _ _ _ _ _ _ us hl => match us, hl with | [_, _], _ => rfl) sc_is_within (ofF (m_is_within (n + 1))) (T_is_within n) (fun cdv A outer s H E hr => ?_) def_len (def_hT (T := (T_is_within n)) if_D (is_sq (is_if (im_orB (im_notB (im_b (im_isi "tuple" (im_v 0)))) (im_orB (im_cmB eqD (im_v 0) (im_tup im_nil)) (im_orB (im_notB (im_b (im_isi "str" (im_ix (im_v 0) (im_c (.int 0)))))) (im_cmB eqD (im_v 1) (im_c (.int 0)))))) (is_rt (im_c (.bool false))) is_skip) (is_sq (is_pa2 2 3 (im_cons (im_ix (im_v 0) (im_c (.int 0))) (im_cons (im_sl (im_v 0) (im_some (im_c (.int 1))) im_no) im_nil))) (is_sq (is_if (im_cmB inD (im_v 2) (im_c c_PLAIN)) (is_rt (im_cm eqD (im_v 3) (im_tup im_nil))) is_skip) (is_sq (is_if (im_cmB eqD (im_v 2) (im_c (.str "is"))) (is_rt (im_and (im_cm eqD (im_bi lenD (im_cons (im_v 3) im_nil)) (im_c (.int 2))) (im_and (im_cl m_is_name (im_cons (im_ix (im_v 3) (im_c (.int 0))) im_nil)) (im_cl m_is_status (im_cons (im_ix (im_v 3) (im_c (.int 1))) im_nil))))) is_skip) (is_sq (is_if (im_cmB eqD (im_v 2) (im_c (.str "flag"))) (is_rt (im_and (im_cm eqD (im_bi lenD (im_cons (im_v 3) im_nil)) (im_c (.int 1))) (im_cl m_is_name (im_cons (im_ix (im_v 3) (im_c (.int 0))) im_nil)))) is_skip) (is_sq (is_if (im_cmB eqD (im_v 2) (im_c (.str "not"))) (is_rt (im_and (im_cm eqD (im_bi lenD (im_cons (im_v 3) im_nil)) (im_c (.int 1))) (im_cl (m_is_within n) (im_cons (im_ix (im_v 3) (im_c (.int 0))) (im_cons (im_op subD (im_v 1) (im_c (.int 1))) im_nil))))) is_skip) (is_sq (is_if (im_cmB inD (im_v 2) (im_tup (im_cons (im_c (.str "and")) (im_cons (im_c (.str "or")) im_nil)))) (is_rt (im_and (im_cm leD (im_bi lenD (im_cons (im_v 3) im_nil)) (im_c c_MOST_PARTS)) (im_bi allD (im_cons (im_fr (im_lc (im_seqI (im_v 3)) im_yes (im_cl (m_is_within n) (im_cons (im_v 4) (im_cons (im_op subD (im_v 1) (im_c (.int 1))) im_nil))))) im_nil)))) is_skip) (is_rt (im_c (.bool false)))))))))) rfl)
  have nd := sc_is_within.nd
  exact (dss_cons (ds_if (db_w (dw_or (db_not (db_val (de_isi rfl Fx.n_isinstance rfl Fx.n_tuple bi_tuple (de_var (pv 0))))) (dw_or (db_cmp (do_eq (hu64 hr)) (de_var (pv 0)) (de_tup da_nil) (nomark _)) (dw_or (db_not (db_val (de_isi rfl Fx.n_isinstance rfl Fx.n_str bi_str (de_ix (hu1 hr) (de_var (pv 0)) de_int)))) (dw_or1 (db_cmp (do_eq (hu64 hr)) (de_var (pv 1)) de_int (nomark _))))))) (dss_one (ds_ret de_bl)) dss_nil)
    (dss_cons (ds_par2 (i := 2) (j := 3) rfl nd rfl rfl (by decide) rfl rfl (da_cons (de_ix (hu1 hr) (de_var (pv 0)) de_int) (da_cons (de_sl (de_var (pv 0)) (dp_some de_int) dp_none) da_nil)) rfl)
    (dss_cons (ds_if (db_cmp (do_in (hu65 hr)) (de_var (pv 2)) (de_globE rfl Fx.c_PLAIN) rfl) (dss_one (ds_ret (de_cmp (do_eq (hu64 hr)) (de_var (pv 3)) (de_tup da_nil) (nomark _)))) dss_nil)
    (dss_cons (ds_if (db_cmp (do_eq (hu64 hr)) (de_var (pv 2)) de_str (nomark _)) (dss_one (ds_ret (de_and (de_cmp (do_eq (hu64 hr)) (de_cb dc_len rfl Fx.n_len bi_len (da_cons (de_var (pv 3)) da_nil)) de_int (nomark _)) (de_and (de_call F_is_name (hr.mono (by first | decide | omega)) rfl (da_cons (de_ix (hu1 hr) (de_var (pv 3)) de_int) da_nil)) (de_one (de_call F_is_status (hr.mono (by first | decide | omega)) rfl (da_cons (de_ix (hu1 hr) (de_var (pv 3)) de_int) da_nil))))))) dss_nil)
    (dss_cons (ds_if (db_cmp (do_eq (hu64 hr)) (de_var (pv 2)) de_str (nomark _)) (dss_one (ds_ret (de_and (de_cmp (do_eq (hu64 hr)) (de_cb dc_len rfl Fx.n_len bi_len (da_cons (de_var (pv 3)) da_nil)) de_int (nomark _)) (de_one (de_call F_is_name (hr.mono (by first | decide | omega)) rfl (da_cons (de_ix (hu1 hr) (de_var (pv 3)) de_int) da_nil)))))) dss_nil)
    (dss_cons (ds_if (db_cmp (do_eq (hu64 hr)) (de_var (pv 2)) de_str (nomark _)) (dss_one (ds_ret (de_and (de_cmp (do_eq (hu64 hr)) (de_cb dc_len rfl Fx.n_len bi_len (da_cons (de_var (pv 3)) da_nil)) de_int (nomark _)) (de_one (de_call F_is_within (hr.mono (by first | decide | omega)) rfl (da_cons (de_ix (hu1 hr) (de_var (pv 3)) de_int) (da_cons (de_op do_sub (de_var (pv 1)) de_int) da_nil))))))) dss_nil)
    (dss_cons (ds_if (db_cmp (do_in (hu65 hr)) (de_var (pv 2)) (de_tup (da_cons de_str (da_cons de_str da_nil))) rfl) (dss_one (ds_ret (de_and (de_cmp do_le (de_cb dc_len rfl Fx.n_len bi_len (da_cons (de_var (pv 3)) da_nil)) (de_globE rfl Fx.c_MOST_PARTS) (nomark _)) (de_one (de_cb (dc_all rfl) rfl Fx.n_all bi_all (da_cons (de_new (dn_lc (own := [("part", 4)]) rfl nd (di_seq (de_var (pv 3))) (blkOk_by (by rfl)) (fun _ _ _ _ _ => (dg_name (pg_name (i := 4) nd rfl (by first | exact Or.inl rfl | exact Or.inr rfl)))) (fun _ _ _ _ _ => dts_nil) (fun _ _ _ _ _ => (de_call F_is_within (hr.mono (by first | decide | omega)) rfl (da_cons (de_var (pv 4)) (da_cons (de_op do_sub (de_var (pv 1)) de_int) da_nil)))) (by decide))) da_nil)))))) dss_nil)
    (dss_one (ds_ret de_bl)))))))))
theorem z_is_within {P : Program} {w : World} {K : PySem.W.Frag} {mg : Str → Option Value} {base : Heap} {cl : Nat → Addr} (Fx : Fx K mg cl) : FD P w K mg base 3 "is_within" (ofF (m_is_within 0)) := by
  obtain ⟨f, fd, F, hm⟩ := Fx.f_is_within
  exact fd_D (k := 2) finD finD_ok F hm (F.binds (ps := ["value", "deep"]) fun _ _ _ _ _ _ us hl => match us, hl with | [_, _], _ => rfl) sc_is_within (ofF (m_is_within 0)) _ (fun cdv A outer s H E hr => dss_any _) (fun _ _ _ h => h.elim) (fun _ _ _ h => h.elim)
theorem f_is_condition {P : Program} {w : World} {K : PySem.W.Frag} {mg : Str → Option Value} {base : Heap} {cl : Nat → Addr} (Fx : Fx K mg cl) (F_is_within : FD P w K mg base 9 "is_within" (ofF (m_is_within 6))) :
    FD P w K mg base (9 + 1) "is_condition" (ofF (m_is_condition)) := by
  obtain ⟨f, fd, F, hm⟩ := Fx.f_is_condition
  refine fd_D finD finD_ok F hm (F.binds (ps := ["value"]) fun _ _ _ _ _ _ us hl => match us, hl with | [_], _ => rfl) sc_is_condition (ofF (m_is_condition)) T_is_condition (fun cdv A outer s H E hr => ?_) def_len (def_hT (T := T_is_condition) if_D (is_rt (im_cl (m_is_within 6) (im_cons (im_v 0) (im_cons (im_c c_MOST_DEEP) im_nil)))) rfl)
  have nd := sc_is_condition.nd
  exact (dss_one (ds_ret (de_call F_is_within (hr.mono (by first | decide | omega)) rfl (da_cons (de_var (pv 0)) (da_cons (de_globE rfl Fx.c_MOST_DEEP) da_nil)))))
theorem f_is_job {P : Program} {w : World} {K : PySem.W.Frag} {mg : Str → Option Value} {base : Heap} {cl : Nat → Addr} (Fx : Fx K mg cl) (F_are_names : FD P w K mg base 3 "are_names" (ofF (m_are_names))) (F_is_condition : FD P w K mg base 10 "is_condition" (ofF (m_is_condition))) (F_is_name : FD P w K mg base 2 "is_name" (ofF (m_is_name))) (F_words_in : FD P w K mg base 21 "words_in" (ofF (m_words_in 20))) :
    FD P w K mg base (21 + 1) "is_job" (ofF (m_is_job)) := by
  obtain ⟨f, fd, F, hm⟩ := Fx.f_is_job
  refine fd_D finD finD_ok F hm (F.binds (ps := ["value"]) fun _ _ _ _ _ _ us hl => match us, hl with | [_], _ => rfl) sc_is_job (ofF (m_is_job)) T_is_job (fun cdv A outer s H E hr => ?_) def_len (def_hT (T := T_is_job) if_D (is_sq (is_if (im_orB (im_notB (im_b (im_isi "tuple" (im_v 0)))) (im_orB (im_cmB neD (im_bi lenD (im_cons (im_v 0) im_nil)) (im_c (.int 5))) (im_orB (im_notB (im_b (im_cl m_is_name (im_cons (im_ix (im_v 0) (im_c (.int 0))) im_nil)))) (im_notB (im_b (im_cl m_are_names (im_cons (im_ix (im_v 0) (im_c (.int 1))) (im_cons (im_c c_MOST_NEEDS) im_nil)))))))) (is_rt (im_c (.bool false))) is_skip) (is_sq (is_if (im_orB (im_notB (im_b (im_cl m_is_condition (im_cons (im_ix (im_v 0) (im_c (.int 2))) im_nil)))) (im_cmB neD (im_fr (im_lc (im_seqI (im_cl (m_words_in 20) (im_cons (im_ix (im_v 0) (im_c (.int 2))) (im_cons (im_c (.str "is")) im_nil)))) (im_cmB notinD (im_v 1) (im_ix (im_v 0) (im_c (.int 1)))) (im_v 1))) (im_fr (im_lst im_nil)))) (is_rt (im_c (.bool false))) is_skip) (is_rt (im_and (im_cl m_are_names (im_cons (im_ix (im_v 0) (im_c (.int 3))) (im_cons (im_c c_MOST_READS) im_nil))) (im_isi "bool" (im_ix (im_v 0) (im_c (.int 4)))))))) rfl)
  have nd := sc_is_job.nd
  exact (dss_cons (ds_if (db_w (dw_or (db_not (db_val (de_isi rfl Fx.n_isinstance rfl Fx.n_tuple bi_tuple (de_var (pv 0))))) (dw_or (db_cmp (do_ne (hu64 hr)) (de_cb dc_len rfl Fx.n_len bi_len (da_cons (de_var (pv 0)) da_nil)) de_int (nomark _)) (dw_or (db_not (db_val (de_call F_is_name (hr.mono (by first | decide | omega)) rfl (da_cons (de_ix (hu1 hr) (de_var (pv 0)) de_int) da_nil)))) (dw_or1 (db_not (db_val (de_call F_are_names (hr.mono (by first | decide | omega)) rfl (da_cons (de_ix (hu1 hr) (de_var (pv 0)) de_int) (da_cons (de_globE rfl Fx.c_MOST_NEEDS) da_nil)))))))))) (dss_one (ds_ret de_bl)) dss_nil)
    (dss_cons (ds_if (db_w (dw_or (db_not (db_val (de_call F_is_condition (hr.mono (by first | decide | omega)) rfl (da_cons (de_ix (hu1 hr) (de_var (pv 0)) de_int) da_nil)))) (dw_or1 (db_cmp (do_ne (hu64 hr)) (de_new (dn_lc (own := [("name", 1)]) rfl nd (di_seq (de_call F_words_in (hr.mono (by first | decide | omega)) rfl (da_cons (de_ix (hu1 hr) (de_var (pv 0)) de_int) (da_cons de_str da_nil)))) (blkOk_by (by rfl)) (fun _ _ _ _ _ => (dg_name (pg_name (i := 1) nd rfl (by first | exact Or.inl rfl | exact Or.inr rfl)))) (fun _ _ _ _ _ => (dts_one (db_cmp (do_notin (hu65 hr)) (de_var (pv 1)) (de_ix (hu1 hr) (de_var (pv 0)) de_int) rfl))) (fun _ _ _ _ _ => (de_var (pv 1))) (by decide))) (de_new (dn_lst da_nil)) (nomark _))))) (dss_one (ds_ret de_bl)) dss_nil)
    (dss_one (ds_ret (de_and (de_call F_are_names (hr.mono (by first | decide | omega)) rfl (da_cons (de_ix (hu1 hr) (de_var (pv 0)) de_int) (da_cons (de_globE rfl Fx.c_MOST_READS) da_nil))) (de_one (de_isi rfl Fx.n_isinstance rfl Fx.n_bool bi_bool (de_ix (hu1 hr) (de_var (pv 0)) de_int))))))))
theorem f_is_pipeline {P : Program} {w : World} {K : PySem.W.Frag} {mg : Str → Option Value} {base : Heap} {cl : Nat → Addr} (Fx : Fx K mg cl) (F_flags_of : FD P w K mg base 22 "flags_of" (ofF (m_flags_of))) (F_is_job : FD P w K mg base 22 "is_job" (ofF (m_is_job))) :
    FD P w K mg base (22 + 1) "is_pipeline" (ofF (m_is_pipeline)) := by
  obtain ⟨f, fd, F, hm⟩ := Fx.f_is_pipeline
  refine fd_D finD finD_ok F hm (F.binds (ps := ["value"]) fun _ _ _ _ _ _ us hl => match us, hl with | [_], _ => rfl) sc_is_pipeline (ofF (m_is_pipeline)) T_is_pipeline (fun cdv A outer s H E hr => ?_) def_len (def_hT (T := T_is_pipeline) if_D (is_sq (is_if (im_orB (im_notB (im_b (im_isi "tuple" (im_v 0)))) (im_notB (im_chB leD leD (im_c (.int 1)) (im_bi lenD (im_cons (im_v 0) im_nil)) (im_c c_MOST_JOBS)))) (is_rt (im_c (.bool false))) is_skip) (is_sq (is_st 1 (im_ow (im_lst im_nil))) (is_sq (is_fo (im_seqI (im_v 0)) (is_sq (is_if (im_orB (im_notB (im_b (im_cl m_is_job (im_cons (im_v 2) im_nil)))) (im_orB (im_cmB inD (im_ix (im_v 2) (im_c (.int 0))) (im_v 1)) (im_cmB neD (im_fr (im_lc (im_seqI (im_ix (im_v 2) (im_c (.int 1)))) (im_cmB notinD (im_v 3) (im_v 1)) (im_v 3))) (im_fr (im_lst im_nil))))) (is_rt (im_c (.bool false))) is_skip) (is_ex (im_app (im_v 1) (im_ix (im_v 2) (im_c (.int 0))))))) (is_rt (im_cm leD (im_bi lenD (im_cons (im_cl m_flags_of (im_cons (im_v 0) im_nil)) im_nil)) (im_c c_MOST_FLAGS)))))) rfl)
  have nd := sc_is_pipeline.nd
  exact (dss_cons (ds_if (db_w (dw_or (db_not (db_val (de_isi rfl Fx.n_isinstance rfl Fx.n_tuple bi_tuple (de_var (pv 0))))) (dw_or1 (db_not (db_chain do_le do_le de_int (de_cb dc_len rfl Fx.n_len bi_len (da_cons (de_var (pv 0)) da_nil)) (de_globE rfl Fx.c_MOST_JOBS)))))) (dss_one (ds_ret de_bl)) dss_nil)
    (dss_cons (ds_set (i := 1) nd rfl (by first | exact Or.inl rfl | exact Or.inr rfl) (de_own (dn_lst da_nil)))
    (dss_cons (ds_for PassesOwn.never rfl (di_seq (de_var (pv 0))) (dg_name (pg_name (i := 2) nd rfl (by first | exact Or.inl rfl | exact Or.inr rfl)))
    (dss_cons (ds_if (db_w (dw_or (db_not (db_val (de_call F_is_job (hr.mono (by first | decide | omega)) rfl (da_cons (de_var (pv 2)) da_nil)))) (dw_or (db_cmp (do_in (hu65 hr)) (de_ix (hu1 hr) (de_var (pv 2)) de_int) (de_var (pv 1)) rfl) (dw_or1 (db_cmp (do_ne (hu64 hr)) (de_new (dn_lc (own := [("name", 3)]) rfl nd (di_seq (de_ix (hu1 hr) (de_var (pv 2)) de_int)) (blkOk_by (by rfl)) (fun _ _ _ _ _ => (dg_name (pg_name (i := 3) nd rfl (by first | exact Or.inl rfl | exact Or.inr rfl)))) (fun _ _ _ _ _ => (dts_one (db_cmp (do_notin (hu65 hr)) (de_var (pv 3)) (de_var (pv 1)) rfl))) (fun _ _ _ _ _ => (de_var (pv 3))) (by decide))) (de_new (dn_lst da_nil)) (nomark _)))))) (dss_one (ds_ret de_bl)) dss_nil)
    (dss_one (ds_expr (de_append (de_var (pv 1)) (de_ix (hu1 hr) (de_var (pv 2)) de_int))))))
    (dss_one (ds_ret (de_cmp do_le (de_cb dc_len rfl Fx.n_len bi_len (da_cons (de_call F_flags_of (hr.mono (by first | decide | omega)) rfl (da_cons (de_var (pv 0)) da_nil)) da_nil)) (de_globE rfl Fx.c_MOST_FLAGS) (nomark _)))))))
theorem f_need_pipeline {P : Program} {w : World} {K : PySem.W.Frag} {mg : Str → Option Value} {base : Heap} {cl : Nat → Addr} (Fx : Fx K mg cl) (F_is_pipeline : FD P w K mg base 23 "is_pipeline" (ofF (m_is_pipeline))) :
    FD P w K mg base (23 + 1) "need_pipeline" (ofF (m_need_pipeline)) := by
  obtain ⟨f, fd, F, hm⟩ := Fx.f_need_pipeline
  refine fd_D finD finD_ok F hm (F.binds (ps := ["pipeline"]) fun _ _ _ _ _ _ us hl => match us, hl with | [_], _ => rfl) sc_need_pipeline (ofF (m_need_pipeline)) T_need_pipeline (fun cdv A outer s H E hr => ?_) def_len (def_hT (T := T_need_pipeline) if_D (is_if (im_notB (im_b (im_cl m_is_pipeline (im_cons (im_v 0) im_nil)))) is_nev is_skip) rfl)
  have nd := sc_need_pipeline.nd
  exact (dss_one (ds_if (db_not (db_val (de_call F_is_pipeline (hr.mono (by first | decide | omega)) rfl (da_cons (de_var (pv 0)) da_nil)))) (dss_one ds_never) dss_nil))
theorem f_with_job {P : Program} {w : World} {K : PySem.W.Frag} {mg : Str → Option Value} {base : Heap} {cl : Nat → Addr} (Fx : Fx K mg cl)  :
    FD P w K mg base (0 + 1) "with_job" (ofF (m_with_job)) := by
  obtain ⟨f, fd, F, hm⟩ := Fx.f_with_job
  refine fd_D finD finD_ok F hm (F.binds (ps := ["pipeline", "place", "job"]) fun _ _ _ _ _ _ us hl => match us, hl with | [_, _, _], _ => rfl) sc_with_job (ofF (m_with_job)) T_with_job (fun cdv A outer s H E hr => ?_) def_len (def_hT (T := T_with_job) if_D (is_rt (im_op addD (im_op addD (im_sl (im_v 0) im_no (im_some (im_v 1))) (im_tup (im_cons (im_v 2) im_nil))) (im_sl (im_v 0) (im_some (im_op addD (im_v 1) (im_c (.int 1)))) im_no))) rfl)
  have nd := sc_with_job.nd
  exact (dss_one (ds_ret (de_op do_add (de_op do_add (de_sl (de_var (pv 0)) dp_none (dp_some (de_var (pv 1)))) (de_tup (da_cons (de_var (pv 2)) da_nil))) (de_sl (de_var (pv 0)) (dp_some (de_op do_add (de_var (pv 1)) de_int)) dp_none))))
theorem f_least_pipeline {P : Program} {w : World} {K : PySem.W.Frag} {mg : Str → Option Value} {base : Heap} {cl : Nat → Addr} (Fx : Fx K mg cl) (F_first_unlike : FD P w K mg base 23 "first_unlike" (ofF (m_first_unlike))) (F_need_pipeline : FD P w K mg base 24 "need_pipeline" (ofF (m_need_pipeline))) (F_with_job : FD P w K mg base 1 "with_job" (ofF (m_with_job))) :
    FD P w K mg base (24 + 1) "least_pipeline" (ofF (m_least_pipeline)) := by
  obtain ⟨f, fd, F, hm⟩ := Fx.f_least_pipeline
  refine fd_D finD finD_ok F hm (F.binds (ps := ["pipeline"]) fun _ _ _ _ _ _ us hl => match us, hl with | [_], _ => rfl) sc_least_pipeline (ofF (m_least_pipeline)) T_least_pipeline (fun cdv A outer s H E hr => ?_) def_len (def_hT (T := T_least_pipeline) if_D (is_sq (is_ex (im_cl m_need_pipeline (im_cons (im_v 0) im_nil))) (is_sq (is_st 1 (im_v 0)) (is_sq (is_fo (im_enum (im_cons (im_v 0) im_nil)) (is_sq (is_st 4 (im_c (.none))) (is_sq (is_fo (im_seqI (im_tup (im_cons (im_tup (im_cons (im_c (.str "always")) im_nil)) (im_cons (im_tup (im_cons (im_c (.str "or")) im_nil)) (im_cons (im_tup (im_cons (im_c (.str "good")) im_nil)) (im_cons (im_tup (im_cons (im_c (.str "bad")) im_nil)) im_nil)))))) (is_sq (is_st 6 (im_cl m_with_job (im_cons (im_v 0) (im_cons (im_v 2) (im_cons (im_op addD (im_op addD (im_sl (im_v 3) im_no (im_some (im_c (.int 2)))) (im_tup (im_cons (im_v 5) im_nil))) (im_sl (im_v 3) (im_some (im_c (.int 3))) im_no)) im_nil))))) (is_if (im_andB (im_b (im_isn (im_v 4))) (im_b (im_isn (im_cl m_first_unlike (im_cons (im_v 0) (im_cons (im_v 6) im_nil)))))) (is_st 4 (im_v 5)) is_skip))) (is_if (im_b (im_non (im_v 4))) (is_st 1 (im_cl m_with_job (im_cons (im_v 1) (im_cons (im_v 2) (im_cons (im_op addD (im_op addD (im_sl (im_v 3) im_no (im_some (im_c (.int 2)))) (im_tup (im_cons (im_v 4) im_nil))) (im_sl (im_v 3) (im_some (im_c (.int 3))) im_no)) im_nil))))) is_skip)))) (is_rt (im_v 1))))) rfl)
  have nd := sc_least_pipeline.nd
  exact (dss_cons (ds_expr (de_call F_need_pipeline (hr.mono (by first | decide | omega)) rfl (da_cons (de_var (pv 0)) da_nil)))
    (dss_cons (ds_set (i := 1) nd rfl (by first | exact Or.inl rfl | exact Or.inr rfl) (de_var (pv 0)))
    (dss_cons (ds_for PassesOwn.never rfl (di_enum rfl Fx.n_enumerate (da_cons (de_var (pv 0)) da_nil)) (dg_tup rfl (dgs_cons (pg_name (i := 2) nd rfl (by first | exact Or.inl rfl | exact Or.inr rfl)) (dgs_cons (pg_name (i := 3) nd rfl (by first | exact Or.inl rfl | exact Or.inr rfl)) dgs_nil)))
    (dss_cons (ds_set (i := 4) nd rfl (by first | exact Or.inl rfl | exact Or.inr rfl) de_non)
    (dss_cons (ds_for PassesOwn.never rfl (di_seq (de_tup (da_cons (de_tup (da_cons de_str da_nil)) (da_cons (de_tup (da_cons de_str da_nil)) (da_cons (de_tup (da_cons de_str da_nil)) (da_cons (de_tup (da_cons de_str da_nil)) da_nil)))))) (dg_name (pg_name (i := 5) nd rfl (by first | exact Or.inl rfl | exact Or.inr rfl)))
    (dss_cons (ds_set (i := 6) nd rfl (by first | exact Or.inl rfl | exact Or.inr rfl) (de_call F_with_job (hr.mono (by first | decide | omega)) rfl (da_cons (de_var (pv 0)) (da_cons (de_var (pv 2)) (da_cons (de_op do_add (de_op do_add (de_sl (de_var (pv 3)) dp_none (dp_some de_int)) (de_tup (da_cons (de_var (pv 5)) da_nil))) (de_sl (de_var (pv 3)) (dp_some de_int) dp_none)) da_nil)))))
    (dss_one (ds_if (db_w (dw_and (db_isN (de_var (pv 4))) (dw_and1 (db_isN (de_call F_first_unlike (hr.mono (by first | decide | omega)) rfl (da_cons (de_var (pv 0)) (da_cons (de_var (pv 6)) da_nil))))))) (dss_one (ds_set (i := 4) nd rfl (by first | exact Or.inl rfl | exact Or.inr rfl) (de_var (pv 5)))) dss_nil))))
    (dss_one (ds_if (db_notN (de_var (pv 4))) (dss_one (ds_set (i := 1) nd rfl (by first | exact Or.inl rfl | exact Or.inr rfl) (de_call F_with_job (hr.mono (by first | decide | omega)) rfl (da_cons (de_var (pv 1)) (da_cons (de_var (pv 2)) (da_cons (de_op do_add (de_op do_add (de_sl (de_var (pv 3)) dp_none (dp_some de_int)) (de_tup (da_cons (de_var (pv 4)) da_nil))) (de_sl (de_var (pv 3)) (dp_some de_int) dp_none)) da_nil)))))) dss_nil)))))
    (dss_one (ds_ret (de_var (pv 1)))))))
theorem f_names_of__x {P : Program} {w : World} {K : PySem.W.Frag} {mg : Str → Option Value} {base : Heap} {cl : Nat → Addr} (Fx : Fx K mg cl)  :
    FD P w K mg base (0 + 1) "names_of" (ofF (m_names_of__x)) := by
  obtain ⟨f, fd, F, hm⟩ := Fx.f_names_of
  refine fd_D finD finD_ok F hm (F.binds (ps := ["pipeline"]) fun _ _ _ _ _ _ us hl => match us, hl with | [_], _ => rfl) sc_names_of (ofF (m_names_of__x)) T_names_of__x (fun cdv A outer s H E hr => ?_) def_len (def_hT (T := T_names_of__x) if_D (is_rt (im_bx tupX (im_cons (im_fr (im_lc (im_seqI (im_v 0)) im_yes (im_ix (im_v 1) (im_c (.int 0))))) im_nil))) rfl)
  have nd := sc_names_of.nd
  exact (dss_one (ds_ret (de_ctX dc_tupX rfl Fx.n_tuple bi_tuple (da_cons (de_new (dn_lc (own := [("job", 1)]) rfl nd (di_seq (de_var (pv 0))) (blkOk_by (by rfl)) (fun _ _ _ _ _ => (dg_name (pg_name (i := 1) nd rfl (by first | exact Or.inl rfl | exact Or.inr rfl)))) (fun _ _ _ _ _ => dts_nil) (fun _ _ _ _ _ => (de_ix (hu1 hr) (de_var (pv 1)) de_int)) (by decide))) da_nil))))
theorem f_need_name {P : Program} {w : World} {K : PySem.W.Frag} {mg : Str → Option Value} {base : Heap} {cl : Nat → Addr} (Fx : Fx K mg cl) (F_is_name : FD P w K mg base 2 "is_name" (ofF (m_is_name))) (F_names_of : FD P w K mg base 1 "names_of" (ofF (m_names_of))) :
    FD P w K mg base (2 + 1) "need_name" (ofF (m_need_name)) := by
  obtain ⟨f, fd, F, hm⟩ := Fx.f_need_name
  refine fd_D finD finD_ok F hm (F.binds (ps := ["pipeline", "name"]) fun _ _ _ _ _ _ us hl => match us, hl with | [_, _], _ => rfl) sc_need_name (ofF (m_need_name)) T_need_name (fun cdv A outer s H E hr => ?_) def_len (def_hT (T := T_need_name) if_D (is_if (im_orB (im_notB (im_b (im_cl m_is_name (im_cons (im_v 1) im_nil)))) (im_cmB notinD (im_v 1) (im_cl m_names_of (im_cons (im_v 0) im_nil)))) is_nev is_skip) rfl)
  have nd := sc_need_name.nd
  exact (dss_one (ds_if (db_w (dw_or (db_not (db_val (de_call F_is_name (hr.mono (by first | decide | omega)) rfl (da_cons (de_var (pv 1)) da_nil)))) (dw_or1 (db_cmp (do_notin (hu65 hr)) (de_var (pv 1)) (de_call F_names_of (hr.mono (by first | decide | omega)) rfl (da_cons (de_var (pv 0)) da_nil)) rfl)))) (dss_one ds_never) dss_nil))
theorem f_needless_needs {P : Program} {w : World} {K : PySem.W.Frag} {mg : Str → Option Value} {base : Heap} {cl : Nat → Addr} (Fx : Fx K mg cl) (F_first_unlike : FD P w K mg base 23 "first_unlike" (ofF (m_first_unlike))) (F_names_of__x : FD P w K mg base 1 "names_of" (ofF (m_names_of__x))) (F_need_name : FD P w K mg base 3 "need_name" (ofF (m_need_name))) (F_need_pipeline : FD P w K mg base 24 "need_pipeline" (ofF (m_need_pipeline))) (F_with_job : FD P w K mg base 1 "with_job" (ofF (m_with_job))) (F_words_in : FD P w K mg base 21 "words_in" (ofF (m_words_in 20))) :
    FD P w K mg base (24 + 1) "needless_needs" (ofF (m_needless_needs)) := by
  obtain ⟨f, fd, F, hm⟩ := Fx.f_needless_needs
  refine fd_D finN finN_ok F hm (F.binds (ps := ["pipeline", "name"]) fun _ _ _ _ _ _ us hl => match us, hl with | [_, _], _ => rfl) sc_needless_needs (ofF (m_needless_needs)) T_needless_needs (fun cdv A outer s H E hr => ?_) def_len (def_hT (T := T_needless_needs) if_N (is_sq (is_ex (im_cl m_need_pipeline (im_cons (im_v 0) im_nil))) (is_sq (is_ex (im_cl m_need_name (im_cons (im_v 0) (im_cons (im_v 1) im_nil)))) (is_sq (is_st 2 (im_idx (im_cl m_names_of__x (im_cons (im_v 0) im_nil)) (im_v 1))) (is_sq (is_pa2 3 4 (im_cons (im_ix (im_v 0) (im_v 2)) (im_cons (im_ow (im_lst im_nil)) im_nil))) (is_sq (is_fo (im_seqI (im_ix (im_v 3) (im_c (.int 1)))) (is_if (im_cmB notinD (im_v 5) (im_cl (m_words_in 20) (im_cons (im_ix (im_v 3) (im_c (.int 2))) (im_cons (im_c (.str "is")) im_nil)))) (is_sq (is_st 6 (im_bi tupD (im_cons (im_fr (im_lc (im_seqI (im_ix (im_v 3) (im_c (.int 1)))) (im_cmB neD (im_v 7) (im_v 5)) (im_v 7))) im_nil))) (is_if (im_b (im_isn (im_cl m_first_unlike (im_cons (im_v 0) (im_cons (im_cl m_with_job (im_cons (im_v 0) (im_cons (im_v 2) (im_cons (im_op addD (im_tup (im_cons (im_v 1) (im_cons (im_v 6) im_nil))) (im_sl (im_v 3) (im_some (im_c (.int 2))) im_no)) im_nil)))) im_nil))))) (is_ex (im_app (im_v 4) (im_v 5))) is_skip)) is_skip)) (is_rt (im_v 4))))))) rfl)
  have nd := sc_needless_needs.nd
  exact (dss_cons (ds_expr (de_call F_need_pipeline (hr.mono (by first | decide | omega)) rfl (da_cons (de_var (pv 0)) da_nil)))
    (dss_cons (ds_expr (de_call F_need_name (hr.mono (by first | decide | omega)) rfl (da_cons (de_var (pv 0)) (da_cons (de_var (pv 1)) da_nil))))
    (dss_cons (ds_set (i := 2) nd rfl (by first | exact Or.inl rfl | exact Or.inr rfl) (de_index (de_call F_names_of__x (hr.mono (by first | decide | omega)) rfl (da_cons (de_var (pv 0)) da_nil)) (de_var (pv 1))))
    (dss_cons (ds_par2 (i := 3) (j := 4) rfl nd rfl rfl (by decide) rfl rfl (da_cons (de_ix (hu1 hr) (de_var (pv 0)) (de_var (pv 2))) (da_cons (de_own (dn_lst da_nil)) da_nil)) rfl)
    (dss_cons (ds_for PassesOwn.never rfl (di_seq (de_ix (hu1 hr) (de_var (pv 3)) de_int)) (dg_name (pg_name (i := 5) nd rfl (by first | exact Or.inl rfl | exact Or.inr rfl)))
    (dss_one (ds_if (db_cmp (do_notin (hu65 hr)) (de_var (pv 5)) (de_call F_words_in (hr.mono (by first | decide | omega)) rfl (da_cons (de_ix (hu1 hr) (de_var (pv 3)) de_int) (da_cons de_str da_nil))) rfl) (dss_cons (ds_set (i := 6) nd rfl (by first | exact Or.inl rfl | exact Or.inr rfl) (de_ct dc_tuple rfl Fx.n_tuple bi_tuple (da_cons (de_new (dn_lc (own := [("other", 7)]) rfl nd (di_seq (de_ix (hu1 hr) (de_var (pv 3)) de_int)) (blkOk_by (by rfl)) (fun _ _ _ _ _ => (dg_name (pg_name (i := 7) nd rfl (by first | exact Or.inl rfl | exact Or.inr rfl)))) (fun _ _ _ _ _ => (dts_one (db_cmp (do_ne (hu64 hr)) (de_var (pv 7)) (de_var (pv 5)) (nomark _)))) (fun _ _ _ _ _ => (de_var (pv 7))) (by decide))) da_nil)))
    (dss_one (ds_if (db_isN (de_call F_first_unlike (hr.mono (by first | decide | omega)) rfl (da_cons (de_var (pv 0)) (da_cons (de_call F_with_job (hr.mono (by first | decide | omega)) rfl (da_cons (de_var (pv 0)) (da_cons (de_var (pv 2)) (da_cons (de_op do_add (de_tup (da_cons (de_var (pv 1)) (da_cons (de_var (pv 6)) da_nil))) (de_sl (de_var (pv 3)) (dp_some de_int) dp_none)) da_nil)))) da_nil)))) (dss_one (ds_expr (de_append (de_var (pv 4)) (de_var (pv 5))))) dss_nil))) dss_nil)))
    (dss_one (ds_ret (de_var (pv 4)))))))))
theorem f_law {P : Program} {w : World} {K : PySem.W.Frag} {mg : Str → Option Value} {base : Heap} {cl : Nat → Addr} {f : Addr} {fd : FuncData} (Fx : Fx K mg cl) (F : Fun K "law" "law" s_law f fd) (F__law_is_needless : FD P w K mg base 25 "_law_is_needless" (ofF (m__law_is_needless))) (F__law_pipeline : FD P w K mg base 10 "_law_pipeline" (S__law_pipeline)) (F__law_plain : FD P w K mg base 25 "_law_plain" (ofF (m__law_plain))) (F__law_same : FD P w K mg base 24 "_law_same" (ofF (m__law_same))) (F__law_source : FD P w K mg base 1 "_law_source" (ofF (m__law_source))) (F__law_with : FD P w K mg base 1 "_law_with" (ofF (m__law_with))) (F_least_pipeline : FD P w K mg base 25 "least_pipeline" (ofF (m_least_pipeline))) (F_needless_needs : FD P w K mg base 25 "needless_needs" (ofF (m_needless_needs)))
    (hlen : ∀ svs μ Q, (S_law) svs μ Q → svs.length = 1) (hT : ∀ svs μ Q, (S_law) svs μ Q → T_law ⟨fun _ μ' => finD Q μ.length (.d .none) μ', fun sv μ' => finD Q μ.length sv μ', fun _ _ => False, fun _ _ => False⟩ (startE ["_law_script", "_law_k", "_law_source_here", "_law_pipeline_here", "_law_due", "_law_at", "_law_job_here", "_law_needless", "_law_found", "_law_jobs", "_law_need"] svs) μ) :
    FnOk P w K mg base CX0 (25 + 1) f fd ["_law_script"] (LS K (S_law)) := by
  refine fn_D finD finD_ok F sc_law (S_law) T_law hlen (fun cdv A outer s H E hr => ?_) hT
  have nd := sc_law.nd
  exact (dss_cons (ds_for PassesOwn.never rfl (di_rng1 rfl Fx.n_range (da_cons (de_op do_add de_int (de_cb (dc_min rfl) rfl Fx.n_min bi_min (da_cons (de_cb dc_len rfl Fx.n_len bi_len (da_cons (de_var (pv 0)) da_nil)) (da_cons de_int da_nil)))) da_nil)) (dg_name (pg_name (i := 1) nd rfl (by first | exact Or.inl rfl | exact Or.inr rfl)))
    (dss_cons (ds_set (i := 2) nd rfl (by first | exact Or.inl rfl | exact Or.inr rfl) (de_call F__law_source (hr.mono (by first | decide | omega)) rfl (da_cons (de_var (pv 0)) (da_cons (de_var (pv 1)) da_nil))))
    (dss_cons (ds_set (i := 3) nd rfl (by first | exact Or.inl rfl | exact Or.inr rfl) (de_call F__law_pipeline (hr.mono (by first | decide | omega)) rfl (da_cons (de_var (pv 2)) (da_cons de_int da_nil))))
    (dss_cons (ds_set (i := 4) nd rfl (by first | exact Or.inl rfl | exact Or.inr rfl) (de_var (pv 3)))
    (dss_cons (ds_for PassesOwn.never rfl (di_enum rfl Fx.n_enumerate (da_cons (de_var (pv 3)) da_nil)) (dg_tup rfl (dgs_cons (pg_name (i := 5) nd rfl (by first | exact Or.inl rfl | exact Or.inr rfl)) (dgs_cons (pg_name (i := 6) nd rfl (by first | exact Or.inl rfl | exact Or.inr rfl)) dgs_nil)))
    (dss_cons (ds_set (i := 4) nd rfl (by first | exact Or.inl rfl | exact Or.inr rfl) (de_call F__law_with (hr.mono (by first | decide | omega)) rfl (da_cons (de_var (pv 4)) (da_cons (de_var (pv 5)) (da_cons (de_ix (hu1 hr) (de_var (pv 6)) de_int) (da_cons (de_call F__law_plain (hr.mono (by first | decide | omega)) rfl (da_cons (de_var (pv 3)) (da_cons (de_var (pv 5)) da_nil))) da_nil))))))
    (dss_cons (ds_setLc (own := [("_law_need", 10)]) (i := 7) frT conv_fr rfl nd rfl rfl (sw_true rfl rfl rfl (by decide +kernel)) (di_seq (de_ix (hu1 hr) (de_var (pv 6)) de_int)) (blkOk_by (by rfl)) (fun _ _ _ _ _ => (dg_name (pg_name (i := 10) nd rfl (by first | exact Or.inl rfl | exact Or.inr rfl)))) (fun _ _ _ _ _ => (dts_one (db_val (de_call F__law_is_needless (hr.mono (by first | decide | omega)) rfl (da_cons (de_var (pv 3)) (da_cons (de_var (pv 5)) (da_cons (de_var (pv 10)) da_nil))))))) (fun _ _ _ _ _ => (de_var (pv 10))) (by decide))
    (dss_cons (ds_set (i := 8) nd rfl (by first | exact Or.inl rfl | exact Or.inr rfl) (de_call F_needless_needs (hr.mono (by first | decide | omega)) rfl (da_cons (de_var (pv 3)) (da_cons (de_ix (hu1 hr) (de_var (pv 6)) de_int) da_nil))))
    (dss_cons (ds_if (db_cmp (do_ne (hu64 hr)) (de_var (pv 8)) (de_var (pv 7)) (nomark _)) (dss_one (ds_ret de_bl)) dss_nil)
    (dss_cons (ds_expr (de_append (de_var (pv 8)) de_str))
    (dss_one (ds_if (db_cmp (do_ne (hu64 hr)) (de_new (dn_pop (de_call F_needless_needs (hr.mono (by first | decide | omega)) rfl (da_cons (de_var (pv 3)) (da_cons (de_ix (hu1 hr) (de_var (pv 6)) de_int) da_nil))))) (de_var (pv 7)) (nomark _)) (dss_one (ds_ret de_bl)) dss_nil))))))))
    (dss_cons (ds_if (db_w (dw_or (db_cmp (do_ne (hu64 hr)) (de_call F_least_pipeline (hr.mono (by first | decide | omega)) rfl (da_cons (de_var (pv 3)) da_nil)) (de_var (pv 4)) (nomark _)) (dw_or1 (db_cmp (do_ne (hu64 hr)) (de_call F_least_pipeline (hr.mono (by first | decide | omega)) rfl (da_cons (de_var (pv 4)) da_nil)) (de_var (pv 4)) (nomark _))))) (dss_one (ds_ret de_bl)) dss_nil)
    (dss_one (ds_if (db_not (db_val (de_call F__law_same (hr.mono (by first | decide | omega)) rfl (da_cons (de_var (pv 3)) (da_cons (de_var (pv 4)) da_nil))))) (dss_one (ds_ret de_bl)) dss_nil))))))))
    (dss_cons (ds_set (i := 9) nd rfl (by first | exact Or.inl rfl | exact Or.inr rfl) (de_tup (da_cons (de_tup (da_cons de_str (da_cons (de_tup da_nil) (da_cons (de_tup (da_cons de_str da_nil)) (da_cons (de_tup da_nil) (da_cons de_bl da_nil)))))) (da_cons (de_tup (da_cons de_str (da_cons (de_tup (da_cons de_str da_nil)) (da_cons (de_tup (da_cons de_str (da_cons (de_tup (da_cons de_str da_nil)) (da_cons (de_tup (da_cons de_str da_nil)) da_nil)))) (da_cons (de_tup da_nil) (da_cons de_bl da_nil)))))) da_nil))))
    (dss_cons (ds_set (i := 9) nd rfl (by first | exact Or.inl rfl | exact Or.inr rfl) (de_op do_add (de_var (pv 9)) (de_tup (da_cons (de_tup (da_cons de_str (da_cons (de_tup (da_cons de_str (da_cons de_str da_nil))) (da_cons (de_tup (da_cons de_str (da_cons (de_tup (da_cons de_str (da_cons de_str (da_cons de_str da_nil)))) da_nil))) (da_cons (de_tup da_nil) (da_cons de_bl da_nil)))))) da_nil))))
    (dss_cons (ds_set (i := 4) nd rfl (by first | exact Or.inl rfl | exact Or.inr rfl) (de_new (dn_lst (da_cons (de_tup (da_cons de_str da_nil)) (da_cons (de_tup (da_cons de_str da_nil)) (da_cons (de_tup (da_cons de_str da_nil)) da_nil))))))
    (dss_one (ds_ret (de_and (de_cmp (do_eq (hu64 hr)) (de_new (dn_lc (own := [("_law_job_here", 6)]) rfl nd (di_seq (de_call F_least_pipeline (hr.mono (by first | decide | omega)) rfl (da_cons (de_var (pv 9)) da_nil))) (blkOk_by (by rfl)) (fun _ _ _ _ _ => (dg_name (pg_name (i := 6) nd rfl (by first | exact Or.inl rfl | exact Or.inr rfl)))) (fun _ _ _ _ _ => dts_nil) (fun _ _ _ _ _ => (de_ix (hu1 hr) (de_var (pv 6)) de_int)) (by decide))) (de_var (pv 4)) (nomark _)) (de_one (de_cmp (do_eq (hu64 hr)) (de_new (dn_pop (de_call F_needless_needs (hr.mono (by first | decide | omega)) rfl (da_cons (de_var (pv 9)) (da_cons de_str da_nil))))) (de_new (dn_lst (da_cons de_str da_nil))) (nomark _))))))))))
end PJ
namespace PJ
open PySem PySem.Spec J L2
local instance : J.Tb := ⟨[]⟩
/-- a comprehension over encoded items -/
theorem lc_gen {α : Type} {t : Tg} {u : FB} {a : FE} {ρ0 : En} {μ : Mu} (enc : α → PyData) (q : α → Bool) (f : α → PyData) : ∀ (l : List α), (∀ x ∈ l, ∃ ρ, t.put (.d (enc x)) ρ0 = some ρ ∧ u ρ μ = some (q x, μ) ∧ (q x = true → a ρ μ = some (.d (f x), μ))) →
    lcGoF t u a none ρ0 (l.map enc) μ = some ((l.filter q).map f, μ)
  | [], _ => by simp [lcGoF]
  | x :: r, h => by
    obtain ⟨ρ, e1, e2, e3⟩ := h x List.mem_cons_self
    have ih := lc_gen (t := t) (u := u) (a := a) (ρ0 := ρ0) (μ := μ) enc q f r fun y hy => h y (List.mem_cons_of_mem _ hy)
    rw [List.map_cons, lcGoF, if_pos (gchk_none μ), e1, Option.bind_some, e2, bnd_some, List.filter_cons]
    cases e : q x with
    | false => simpa using ih
    | true =>
      rw [e3 e]
      simp [ih]
theorem lc_strs {i : Nat} {u : FB} {a : FE} {ρ0 : En} {μ : Mu} (q : Str → Bool) (f : Str → PyData) (ss : List Str) (h : ∀ x ∈ ss, u (ρ0.set i (some (.d (.str x)))) μ = some (q x, μ) ∧ (q x = true → a (ρ0.set i (some (.d (.str x)))) μ = some (.d (f x), μ))) :
    lcGoF (.n i) u a none ρ0 (ss.map .str) μ = some ((ss.filter q).map f, μ) := lc_gen .str q f ss fun x hx => ⟨_, rfl, (h x hx).1, (h x hx).2⟩
theorem filt_true {α : Type} (l : List α) : l.filter (fun _ => true) = l := List.filter_eq_self.mpr fun _ _ => rfl
theorem lc_strs_map {i : Nat} {a : FE} {ρ0 : En} {μ : Mu} (f : Str → PyData) (ss : List Str) (h : ∀ x ∈ ss, a (ρ0.set i (some (.d (.str x)))) μ = some (.d (f x), μ)) :
    lcGoF (.n i) yesF a none ρ0 (ss.map .str) μ = some (ss.map f, μ) := by
  have := lc_strs (i := i) (u := yesF) (a := a) (ρ0 := ρ0) (μ := μ) (fun _ => true) f ss fun x hx => ⟨rfl, fun _ => h x hx⟩
  rwa [filt_true] at this
theorem ok_names {ss : List Str} (hn : ∀ x ∈ ss, Nm x) (hl : ss.length ≤ 1000) : okD (.tuple (ss.map .str)) = true :=
  gd_okD (n := 1) (gd_tup' (by rw [List.length_map]; exact hl) fun x hx => by
    obtain ⟨y, hy, rfl⟩ := List.mem_map.mp hx
    exact nm_gd (hn y hy) _ _) (by omega)
theorem gd_names {ss : List Str} (hn : ∀ x ∈ ss, Nm x) (hl : ss.length ≤ 1000) : gd 1 (.tuple (ss.map .str)) = true :=
  gd_tup' (by rw [List.length_map]; exact hl) fun x hx => by
    obtain ⟨y, hy, rfl⟩ := List.mem_map.mp hx
    exact nm_gd (hn y hy) _ _
theorem stat_ok {ss : List Str} (hn : ∀ x ∈ ss, .str x ∈ statusL) (hl : ss.length ≤ 1000) : okD (.tuple (ss.map .str)) = true :=
  gd_okD (n := 1) (gd_tup' (by rw [List.length_map]; exact hl) fun x hx => by
    obtain ⟨y, hy, rfl⟩ := List.mem_map.mp hx
    exact stat_gd (hn y hy) _ _) (by omega)
theorem eq_strs {a b : List Str} (ha : okD (.tuple (a.map .str)) = true) (hb : okD (.tuple (b.map .str)) = true) : eqD (.tuple (a.map .str)) (.tuple (b.map .str)) = some (a == b) := by
  unfold eqD eqOk
  rw [ha, hb, eqv_strsT]; rfl
theorem ne_strs {a b : List Str} (ha : okD (.tuple (a.map .str)) = true) (hb : okD (.tuple (b.map .str)) = true) : neD (.tuple (a.map .str)) (.tuple (b.map .str)) = some (!(a == b)) := by
  unfold neD eqOk
  rw [ha, hb, eqv_strsT]; rfl
/-- flags and bad jobs of a case -/
structure CaseOk (p : List Jb) (fl bd : List Str) : Prop where
  fs : StrictS fl
  fin : ∀ f ∈ fl, f ∈ flagsP p
  bs : StrictS bd
  bin : ∀ b ∈ bd, b ∈ namesP p
section
variable {p : List Jb} {fl bd : List Str}
theorem nodup_sub : ∀ {a b : List Str}, a.Nodup → (∀ x ∈ a, x ∈ b) → a.length ≤ b.length
  | [], _, _, _ => by simp
  | x :: r, b, h, hs => by
    obtain ⟨h1, h2⟩ := List.nodup_cons.mp h
    have hx : x ∈ b := hs x List.mem_cons_self
    have := nodup_sub (a := r) (b := b.erase x) h2 fun y hy => by
      rw [List.mem_erase_of_ne]
      · exact hs y (List.mem_cons_of_mem _ hy)
      · intro e; subst e; exact h1 hy
    rw [List.length_erase_of_mem hx] at this
    have := List.length_pos_of_mem hx
    rw [List.length_cons]; omega
theorem strict_nodup {l : List Str} (h : StrictS l) : l.Nodup := by
  refine h.imp fun {a b} q e => ?_
  subst e
  rw [ltS_irr] at q; cases q
theorem CaseOk.flen (h : CaseOk p fl bd) (hp : Pipe p) : fl.length ≤ 3 := Nat.le_trans (nodup_sub (strict_nodup h.fs) fun x hx => mem_sortSet.mpr (h.fin x hx)) hp.few
theorem CaseOk.blen (h : CaseOk p fl bd) (hp : Pipe p) : bd.length ≤ 8 := Nat.le_trans (nodup_sub (strict_nodup h.bs) h.bin) (by rw [namesP, List.length_map]; exact hp.most)
theorem CaseOk.fnm (h : CaseOk p fl bd) (hp : Pipe p) : ∀ x ∈ fl, Nm x := fun x hx => hp.ok.fnm x (h.fin x hx)
theorem CaseOk.bnm (h : CaseOk p fl bd) (hp : Pipe p) : ∀ x ∈ bd, Nm x := fun x hx => hp.ok.nm x (h.bin x hx)
theorem filter_none {α : Type} (q : α → Bool) (l : List α) (h : ∀ x ∈ l, q x = false) : l.filter q = [] := by
  rw [List.filter_eq_nil_iff]
  intro x hx; rw [h x hx]; exact Bool.false_ne_true
theorem need_flags_ok (h : CaseOk p fl bd) (hp : Pipe p) (μ : Mu) : m_need_flags [.d (pD p), .d (.tuple (fl.map .str))] μ = some (.d .none, μ) := by
  have e1 : m_are_names [.d (.tuple (fl.map .str)), .d (.int 3)] μ = _ := are_names_ok (k := 1) 3 (.tuple (fl.map .str)) μ (gd_names (h.fnm hp) (by have := h.flen hp; omega))
  rw [areN_of (h.fnm hp) h.fs (h.flen hp)] at e1
  have e2 := hp.flags μ
  have go : lcGoF (.n 2) (cmBF notinD (vF 2) (clF m_flags_of (consF (vF 0) nilF))) (vF 2) none [some (.d (pD p)), some (.d (.tuple (fl.map .str))), none] (fl.map .str) μ = some ((fl.filter fun x => !decide (x ∈ sortSet (flagsP p))).map .str, μ) := lc_strs _ _ _ fun x hx => by
    have := notin_Td x (sortSet (flagsP p))
    simp [e2, this, -notinD]
  rw [filter_none _ _ fun x hx => by simp [mem_sortSet.mpr (h.fin x hx)]] at go
  have z : szOk fl.length = true := szOk_le (by have := h.flen hp; omega)
  simp [m_need_flags, c_MOST_FLAGS, e1, go, z, -notinD, neD_nilL okD_nilL]
theorem need_bads_ok (h : CaseOk p fl bd) (hp : Pipe p) (μ : Mu) : m_need_bads [.d (pD p), .d (.tuple (bd.map .str))] μ = some (.d .none, μ) := by
  have e1 : m_are_names [.d (.tuple (bd.map .str)), .d (.int 8)] μ = _ := are_names_ok (k := 1) 8 (.tuple (bd.map .str)) μ (gd_names (h.bnm hp) (by have := h.blen hp; omega))
  rw [areN_of (h.bnm hp) h.bs (h.blen hp)] at e1
  have e2 := names_of_ok p (by have := hp.most; omega) μ
  have go : lcGoF (.n 2) (cmBF notinD (vF 2) (clF m_names_of (consF (vF 0) nilF))) (vF 2) none [some (.d (pD p)), some (.d (.tuple (bd.map .str))), none] (bd.map .str) μ = some ((bd.filter fun x => !decide (x ∈ namesP p)).map .str, μ) := lc_strs _ _ _ fun x hx => by
    have := notin_Td x (namesP p)
    simp [e2, this, -notinD]
  rw [filter_none _ _ fun x hx => by simp [h.bin x hx]] at go
  have z : szOk bd.length = true := szOk_le (by have := h.blen hp; omega)
  simp [m_need_bads, c_MOST_JOBS, e1, go, z, -notinD, neD_nilL okD_nilL]
theorem need_case_ok (h : CaseOk p fl bd) (hp : Pipe p) (μ : Mu) : m_need_case [.d (pD p), .d (.tuple (fl.map .str)), .d (.tuple (bd.map .str))] μ = some (.d .none, μ) := by
  simp [m_need_case, hp.need μ, need_flags_ok h hp μ, need_bads_ok h hp μ]
theorem runP_fst (fl bd : List Str) : ∀ (p : List Jb) (k : List (Str × Str)), (runP fl bd k p).map Prod.fst = k.map Prod.fst ++ namesP p
  | [], k => by simp [runP, namesP]
  | j :: r, k => by
    rw [runP, runP_fst fl bd r]
    simp [namesP]
theorem knownP_fst (p : List Jb) (fl bd : List Str) : (knownP p fl bd).map Prod.fst = namesP p := by simp [knownP, runP_fst]
theorem runP_st (fl bd : List Str) : ∀ (p : List Jb) (k : List (Str × Str)), KnOk k → KnOk (runP fl bd k p)
  | [], k, h => h
  | j :: r, k, h => runP_st fl bd r _ (h.snoc (stOf_in fl bd k j))
theorem knownP_st (p : List Jb) (fl bd : List Str) : KnOk (knownP p fl bd) := runP_st fl bd p [] ⟨by simp⟩
/-- the status of a job -/
def stP (p : List Jb) (fl bd : List Str) (n : Str) : Str := lkS (knownP p fl bd) n
def stsP (p : List Jb) (fl bd : List Str) : List Str := (namesP p).map (stP p fl bd)
def ranP (p : List Jb) (fl bd : List Str) : List Str := (namesP p).filter fun n => !(stP p fl bd n == passed)
theorem stP_in {n : Str} (h : n ∈ namesP p) (fl bd : List Str) : PyData.str (stP p fl bd n) ∈ statusL :=
  lkS_in (P := fun s => .str s ∈ statusL) (by rw [knownP_fst]; exact h) (knownP_st p fl bd).st
theorem assoc_known {n : Str} (h : n ∈ namesP p) (fl bd : List Str) : assocK (dcS (knownP p fl bd)) (.inr n) = some (.str (stP p fl bd n)) := assoc_dcS (by rw [knownP_fst]; exact h)
theorem inT_dec (bd : List Str) : ∀ w : Str, inD (.str w) (.tuple (bd.map .str)) = some (decide (w ∈ bd)) := fun w => in_T w bd
theorem inL_dec (bd : List Str) : ∀ w : Str, inD (.str w) (.list (bd.map .str)) = some (decide (w ∈ bd)) := fun w => in_Ld w bd
theorem stsP_ok (p : List Jb) (fl bd : List Str) (hl : p.length ≤ 1000) : okD (.tuple ((stsP p fl bd).map .str)) = true := stat_ok (fun x hx => by
    obtain ⟨n, hn, rfl⟩ := List.mem_map.mp hx
    exact stP_in hn fl bd) (by rw [stsP, List.length_map, namesP, List.length_map]; exact hl)
theorem statuses_of_ok (hp : PipeOk [] p) (hl : p.length < 1000) (fl bd : List Str) (μ : Mu) : m_statuses_of [.d (pD p), .d (.tuple (fl.map .str)), .d (.tuple (bd.map .str))] μ = some (.d (.tuple ((stsP p fl bd).map .str)), μ) := by
  have e1 := known_in_ok hp hl (fl := fl) (inT_dec bd) μ
  have e2 := names_of_ok p (by omega) μ
  have go : lcGoF (.n 4) yesF (ixF (vF 3) (vF 4)) none [some (.d (pD p)), some (.d (.tuple (fl.map .str))), some (.d (.tuple (bd.map .str))), some (.d (dD (knownP p fl bd))), none] ((namesP p).map .str) μ = some ((namesP p).map fun n => .str (stP p fl bd n), μ) := lc_strs_map _ _ fun x hx => by
    have := assoc_known hx fl bd
    have e : dcAt μ (.d (dD (knownP p fl bd))) = some (dcS (knownP p fl bd)) := dcAt_dD _ _
    simp [e, this, -dcAt]
  have z : szOk (namesP p).length = true := szOk_le (by rw [namesP, List.length_map]; omega)
  have e3 : (stsP p fl bd).map PyData.str = (namesP p).map fun n => .str (stP p fl bd n) := by rw [stsP, List.map_map]; rfl
  have z2 : szOk p.length = true := szOk_le (by omega)
  simp [m_statuses_of, e1, e2, go, z, e3, z2]
theorem ran_in_ok (hp : PipeOk [] p) (hl : p.length < 1000) (fl bd : List Str) (μ : Mu) : m_ran_in [.d (pD p), .d (.tuple (fl.map .str)), .d (.tuple (bd.map .str))] μ = some (.d (.tuple ((ranP p fl bd).map .str)), μ) := by
  have e1 := known_in_ok hp hl (fl := fl) (inT_dec bd) μ
  have e2 := names_of_ok p (by omega) μ
  have go : lcGoF (.n 4) (cmBF neD (ixF (vF 3) (vF 4)) (cF c_PASSED)) (vF 4) none [some (.d (pD p)), some (.d (.tuple (fl.map .str))), some (.d (.tuple (bd.map .str))), some (.d (dD (knownP p fl bd))), none] ((namesP p).map .str) μ = some ((ranP p fl bd).map .str, μ) := lc_strs _ _ _ fun x hx => by
    have := assoc_known hx fl bd
    have e : dcAt μ (.d (dD (knownP p fl bd))) = some (dcS (knownP p fl bd)) := dcAt_dD _ _
    simp [e, this, -dcAt, c_PASSED, passed]
  have z : szOk (namesP p).length = true := szOk_le (by rw [namesP, List.length_map]; omega)
  simp [m_ran_in, e1, e2, go, z]
theorem statuses_ok (h : CaseOk p fl bd) (hp : Pipe p) (μ : Mu) : m_statuses [.d (pD p), .d (.tuple (fl.map .str)), .d (.tuple (bd.map .str))] μ = some (.d (.tuple ((stsP p fl bd).map .str)), μ) := by
  simp [m_statuses, need_case_ok h hp μ, statuses_of_ok hp.ok (by have := hp.most; omega) fl bd μ]
theorem ran_ok (h : CaseOk p fl bd) (hp : Pipe p) (μ : Mu) : m_ran [.d (pD p), .d (.tuple (fl.map .str)), .d (.tuple (bd.map .str))] μ = some (.d (.tuple ((ranP p fl bd).map .str)), μ) := by
  simp [m_ran, need_case_ok h hp μ, ran_in_ok hp.ok (by have := hp.most; omega) fl bd μ]
theorem verdict_ok (h : CaseOk p fl bd) (hp : Pipe p) (μ : Mu) : m_verdict [.d (pD p), .d (.tuple (fl.map .str)), .d (.tuple (bd.map .str))] μ = some (.d (.str (if bad ∈ stsP p fl bd then bad else good)), μ) := by
  have e := in_T bad (stsP p fl bd)
  have e2 : c_BAD = .str bad := rfl
  have e3 : c_GOOD = .str good := rfl
  simp [m_verdict, statuses_ok h hp μ, e2, e3, e, -inD]
  by_cases c : bad ∈ stsP p fl bd <;> simp [c]
end
end PJ
namespace PJ
open PySem PySem.Spec J L2
local instance : J.Tb := ⟨[]⟩
theorem runP_pre (fl bd : List Str) : ∀ (p : List Jb) (k : List (Str × Str)), ∃ t, runP fl bd k p = k ++ t
  | [], k => ⟨[], by simp [runP]⟩
  | j :: r, k => by
    obtain ⟨t, e⟩ := runP_pre fl bd r (k ++ [(j.nm, stOf fl bd k j)])
    exact ⟨(j.nm, stOf fl bd k j) :: t, by rw [runP, e, List.append_assoc]; rfl⟩
theorem lkS_run {fl bd : List Str} {p : List Jb} {k : List (Str × Str)} {n : Str} (h : n ∈ k.map Prod.fst) : lkS (runP fl bd k p) n = lkS k n := by
  obtain ⟨t, e⟩ := runP_pre fl bd p k
  rw [e, lkS_app h]
theorem lkS_head {fl bd : List Str} {r : List Jb} {j : Jb} {k : List (Str × Str)} (h : j.nm ∉ k.map Prod.fst) : lkS (runP fl bd k (j :: r)) j.nm = stOf fl bd k j := by
  rw [runP, lkS_run (by simp), lkS_snoc h]
theorem endS_ne (bd : List Str) (j : Jb) : endS bd j ≠ passed := by
  unfold endS
  split <;> decide +kernel
theorem stOf_congr {fl bd bd' : List Str} {k : List (Str × Str)} {j : Jb} (h : stOf fl bd k j ≠ passed → (j.nm ∈ bd ↔ j.nm ∈ bd')) : stOf fl bd' k j = stOf fl bd k j := by
  unfold stOf at h ⊢
  by_cases c : holdsG (seenOf k j.needs) fl false 4 j.cond = true
  · rw [if_pos c] at h ⊢
    have := h (endS_ne bd j)
    rw [if_pos c]
    unfold endS
    by_cases d : j.nm ∈ bd
    · simp [d, this.mp d]
    · have d' : ¬ j.nm ∈ bd' := fun x => d (this.mpr x)
      simp [d, d']
  · rw [if_neg c, if_neg c]
theorem runP_congr {fl bd bd' : List Str} : ∀ (p : List Jb) (k : List (Str × Str)), PipeOk (k.map Prod.fst) p → (∀ n ∈ namesP p, lkS (runP fl bd k p) n ≠ passed → (n ∈ bd ↔ n ∈ bd')) → runP fl bd' k p = runP fl bd k p
  | [], k, _, _ => rfl
  | j :: r, k, ⟨h1, h2⟩, h => by
    have e : stOf fl bd' k j = stOf fl bd k j := stOf_congr fun q => h j.nm (by simp [namesP]) (by rw [lkS_head h1.new]; exact q)
    rw [runP, runP, e]
    exact runP_congr r _ (by simpa using h2) fun n hn hq => h n (by simp [namesP] at hn ⊢; exact .inr hn) (by rw [runP]; exact hq)
theorem knownP_congr {p : List Jb} {fl bd bd' : List Str} (hp : PipeOk [] p) (h : ∀ n ∈ namesP p, stP p fl bd n ≠ passed → (n ∈ bd ↔ n ∈ bd')) : knownP p fl bd' = knownP p fl bd :=
  runP_congr p [] hp h
theorem stsP_congr {p : List Jb} {fl bd bd' : List Str} (hp : PipeOk [] p) (h : ∀ n ∈ namesP p, stP p fl bd n ≠ passed → (n ∈ bd ↔ n ∈ bd')) : stsP p fl bd' = stsP p fl bd := by
  unfold stsP stP
  rw [knownP_congr hp h]
end PJ
namespace PJ
open PySem PySem.Spec J L2
local instance : J.Tb := ⟨[]⟩
/-- a comprehension over encoded items, its list perhaps a place of the store -/
theorem lc_genG {α : Type} {t : Tg} {u : FB} {a : FE} {ρ0 : En} {μ : Mu} {g : GdF} (hg : gchk g μ = true) (enc : α → PyData) (q : α → Bool) (f : α → PyData) : ∀ (l : List α), (∀ x ∈ l, ∃ ρ, t.put (.d (enc x)) ρ0 = some ρ ∧ u ρ μ = some (q x, μ) ∧ (q x = true → a ρ μ = some (.d (f x), μ))) →
    lcGoF t u a g ρ0 (l.map enc) μ = some ((l.filter q).map f, μ)
  | [], _ => by simp [lcGoF, hg]
  | x :: r, h => by
    obtain ⟨ρ, e1, e2, e3⟩ := h x List.mem_cons_self
    have ih := lc_genG (t := t) (u := u) (a := a) (ρ0 := ρ0) (μ := μ) hg enc q f r fun y hy => h y (List.mem_cons_of_mem _ hy)
    rw [List.map_cons, lcGoF, if_pos hg, e1, Option.bind_some, e2, bnd_some, List.filter_cons]
    cases e : q x with
    | false => simpa using ih
    | true =>
      rw [e3 e]
      simp [ih]
theorem pow_le {a k : Nat} (h : a ≤ k) : 2 ^ a ≤ 2 ^ k := Nat.pow_le_pow_right (by omega) h
def partsGo : List (List Str) → List Str → List (List Str)
  | acc, [] => acc
  | acc, n :: r => partsGo (acc ++ acc.map fun a => a ++ [n]) r
def partsU (ns : List Str) : List (List Str) := partsGo [[]] ns
def allParts (ns : List Str) : List (List Str) := sortL (partsU ns)
theorem partsGo_len : ∀ (ns : List Str) (acc : List (List Str)), (partsGo acc ns).length = acc.length * 2 ^ ns.length
  | [], acc => by simp [partsGo]
  | n :: r, acc => by
    rw [partsGo, partsGo_len r, List.length_append, List.length_map, List.length_cons, Nat.pow_succ]
    rw [← Nat.two_mul, Nat.mul_comm 2, Nat.mul_assoc, Nat.mul_comm 2]
theorem partsU_len (ns : List Str) : (partsU ns).length = 2 ^ ns.length := by rw [partsU, partsGo_len]; simp
theorem allParts_len (ns : List Str) : (allParts ns).length = 2 ^ ns.length := by rw [allParts, perm_sortL.length_eq, partsU_len]
theorem partsGo_mem {x : List Str} : ∀ {ns : List Str} {acc : List (List Str)}, x ∈ partsGo acc ns ↔ ∃ a ∈ acc, ∃ s, List.Sublist s ns ∧ x = a ++ s
  | [], acc => by
    simp only [partsGo, List.sublist_nil]
    exact ⟨fun h => ⟨x, h, [], rfl, by simp⟩, fun ⟨a, ha, s, hs, e⟩ => by subst hs; rw [e, List.append_nil]; exact ha⟩
  | n :: r, acc => by
    rw [partsGo, partsGo_mem]
    constructor
    · rintro ⟨a, ha, s, hs, e⟩
      rcases List.mem_append.mp ha with ha | ha
      · exact ⟨a, ha, s, hs.cons n, e⟩
      · obtain ⟨b, hb, rfl⟩ := List.mem_map.mp ha
        exact ⟨b, hb, n :: s, hs.cons_cons n, by rw [e, List.append_assoc]; rfl⟩
    · rintro ⟨a, ha, s, hs, e⟩
      cases hs with
      | cons _ hs => exact ⟨a, List.mem_append_left _ ha, s, hs, e⟩
      | cons_cons _ hs => exact ⟨a ++ [n], List.mem_append_right _ (List.mem_map.mpr ⟨a, ha, rfl⟩), _, hs, by rw [e, List.append_assoc]; rfl⟩
theorem partsU_mem {x ns : List Str} : x ∈ partsU ns ↔ List.Sublist x ns := by
  rw [partsU, partsGo_mem]
  constructor
  · rintro ⟨a, ha, s, hs, e⟩
    rw [List.mem_singleton.mp ha] at e
    rw [e]; exact hs
  · intro h; exact ⟨[], by simp, x, h, rfl⟩
theorem allParts_mem {x ns : List Str} : x ∈ allParts ns ↔ List.Sublist x ns := by rw [allParts, perm_sortL.mem_iff, partsU_mem]
noncomputable abbrev bodyA : FS := (stF 1 (opF addD (vF 1) (frF (lcF (.n 3) (seqF (vF 1)) yesF (opF addD (vF 3) (tupF (consF (vF 2) nilF))) [3]))))
theorem parts_loop {x0 : Option SV} {μ : Mu} : ∀ (ns : List Str) (acc : List (List Str)) (z2 z3 : Option SV) (k : Nat), (∀ a ∈ acc, a.length ≤ k) → k + ns.length ≤ 1000 → acc.length * 2 ^ ns.length ≤ 1000000 →
    ∃ y2 y3, foGo (.n 2) bodyA none (ns.map .str) [x0, some (.d (.list (acc.map tupS))), z2, z3] μ = some (.nx [x0, some (.d (.list ((partsGo acc ns).map tupS))), y2, y3] μ)
  | [], acc, z2, z3, k, _, _, _ => ⟨z2, z3, by simp [foGo, partsGo]⟩
  | n :: r, acc, z2, z3, k, hk, hl, hs => by
    rw [List.length_cons] at hl hs
    have h2 : acc.length * 2 ^ (r.length + 1) = (acc.length + acc.length) * 2 ^ r.length := by
      rw [Nat.pow_succ, ← Nat.two_mul, Nat.mul_comm 2 acc.length, Nat.mul_assoc, Nat.mul_comm 2]
    have hp : 1 ≤ 2 ^ r.length := Nat.one_le_two_pow
    have h3 : (acc.length + acc.length) * 1 ≤ (acc.length + acc.length) * 2 ^ r.length := Nat.mul_le_mul_left _ hp
    have go : lcGoF (.n 3) yesF (opF addD (vF 3) (tupF (consF (vF 2) nilF))) none [x0, some (.d (.list (acc.map tupS))), some (.d (.str n)), none] (acc.map tupS) μ = some ((acc.filter fun _ => true).map fun a => tupS (a ++ [n]), μ) := lc_gen tupS _ _ acc fun a ha => by
      refine ⟨_, rfl, rfl, fun _ => ?_⟩
      have z : szOk (a.length + 1) = true := szOk_le (by have := hk a ha; omega)
      simp [tupS, z]
    rw [filt_true] at go
    have z1 : szOk acc.length = true := szOk_le (by omega)
    have z2' : szOk (acc.length + acc.length) = true := szOk_le (by omega)
    have hb : bodyA [x0, some (.d (.list (acc.map tupS))), some (.d (.str n)), z3] μ = some (.nx [x0, some (.d (.list ((acc ++ acc.map fun a => a ++ [n]).map tupS))), some (.d (.str n)), z3] μ) := by
      simp [bodyA, go, z1, z2', Function.comp_def]
    obtain ⟨y2, y3, ih⟩ := parts_loop (x0 := x0) (μ := μ) r (acc ++ acc.map fun a => a ++ [n]) (some (.d (.str n))) z3 (k + 1) (fun a ha => by
      rcases List.mem_append.mp ha with ha | ha
      · have := hk a ha; omega
      · obtain ⟨b, hb, rfl⟩ := List.mem_map.mp ha
        have := hk b hb
        rw [List.length_append, List.length_singleton]; omega) (by omega) (by rw [List.length_append, List.length_map, ← h2]; exact hs)
    refine ⟨y2, y3, ?_⟩
    have un : foGo (.n 2) bodyA none ((n :: r).map .str) [x0, some (.d (.list (acc.map tupS))), z2, z3] μ = fnext (bodyA [x0, some (.d (.list (acc.map tupS))), some (.d (.str n)), z3] μ) (foGo (.n 2) bodyA none (r.map .str)) := by
      rw [List.map_cons, foGo]; rfl
    rw [un, hb, fnext_nx, partsGo]
    exact ih
theorem all_parts_T {ns : List Str} (hl : ns.length ≤ 12) (μ : Mu) : m_all_parts [.d (.tuple (ns.map .str))] μ = some (.d (.list ((allParts ns).map tupS)), μ) := by
  have hs : 2 ^ ns.length ≤ 2 ^ 12 := Nat.pow_le_pow_right (by omega) hl
  obtain ⟨y2, y3, e⟩ := parts_loop (x0 := some (.d (.tuple (ns.map .str)))) (μ := μ) ns [[]] none none 0 (by simp) (by omega) (by simp; omega)
  simp only [bodyA, List.map_cons, List.map_nil, tupS] at e
  have e : _ := e
  have z : szOk (partsGo [[]] ns).length = true := szOk_le (by rw [partsGo_len]; simp; omega)
  have s1 := sortD_tups (partsGo [[]] ns)
  unfold tupS at s1
  simp [m_all_parts] at e ⊢
  simp [e, sortN, s1, allParts, partsU, tupS]
theorem all_parts_L {ns : List Str} (hl : ns.length ≤ 12) (μ : Mu) : m_all_parts [.d (.list (ns.map .str))] μ = some (.d (.list ((allParts ns).map tupS)), μ) := by
  have hs : 2 ^ ns.length ≤ 2 ^ 12 := Nat.pow_le_pow_right (by omega) hl
  obtain ⟨y2, y3, e⟩ := parts_loop (x0 := some (.d (.list (ns.map .str)))) (μ := μ) ns [[]] none none 0 (by simp) (by omega) (by simp; omega)
  simp only [bodyA, List.map_cons, List.map_nil, tupS] at e
  have s1 := sortD_tups (partsGo [[]] ns)
  unfold tupS at s1
  simp [m_all_parts] at e ⊢
  simp [e, sortN, s1, allParts, partsU, tupS]
theorem law_parts_T {ns : List Str} (hl : ns.length ≤ 12) (μ : Mu) : m__law_parts [.d (.tuple (ns.map .str))] μ = some (.d (.list ((partsU (sortStr ns)).map tupS)), μ) := by
  have hl' : (sortStr ns).length ≤ 12 := by rw [perm_sortStr.length_eq]; exact hl
  have hs : 2 ^ (sortStr ns).length ≤ 2 ^ 12 := Nat.pow_le_pow_right (by omega) hl'
  obtain ⟨y2, y3, e⟩ := parts_loop (x0 := some (.d (.tuple (ns.map .str)))) (μ := μ) (sortStr ns) [[]] none none 0 (by simp) (by omega) (by simp; omega)
  simp only [bodyA, List.map_cons, List.map_nil, tupS] at e
  simp [m__law_parts, sortN] at e ⊢
  simp [e, partsU, tupS]
theorem law_parts_L {ns : List Str} (hl : ns.length ≤ 12) (μ : Mu) : m__law_parts [.d (.list (ns.map .str))] μ = some (.d (.list ((partsU (sortStr ns)).map tupS)), μ) := by
  have hl' : (sortStr ns).length ≤ 12 := by rw [perm_sortStr.length_eq]; exact hl
  have hs : 2 ^ (sortStr ns).length ≤ 2 ^ 12 := Nat.pow_le_pow_right (by omega) hl'
  obtain ⟨y2, y3, e⟩ := parts_loop (x0 := some (.d (.list (ns.map .str)))) (μ := μ) (sortStr ns) [[]] none none 0 (by simp) (by omega) (by simp; omega)
  simp only [bodyA, List.map_cons, List.map_nil, tupS] at e
  simp [m__law_parts, sortN] at e ⊢
  simp [e, partsU, tupS]
abbrev Cs := List Str × List Str
def csD (c : Cs) : PyData := .tuple [tupS c.1, tupS c.2]
def crossC (fs bs : List (List Str)) : List Cs := fs.flatMap fun f => bs.map fun b => (f, b)
def casesP (p : List Jb) (fl : List Str) : List Cs := crossC (allParts fl) (allParts (sortStr (namesP p)))
def lawCases (p : List Jb) : List Cs := crossC (partsU (sortStr (sortSet (flagsP p)))) (partsU (sortStr (namesP p)))
theorem crossC_mem {fs bs : List (List Str)} {c : Cs} : c ∈ crossC fs bs ↔ c.1 ∈ fs ∧ c.2 ∈ bs := by
  unfold crossC
  rw [List.mem_flatMap]
  constructor
  · rintro ⟨f, hf, h⟩
    obtain ⟨b, hb, rfl⟩ := List.mem_map.mp h
    exact ⟨hf, hb⟩
  · rintro ⟨h1, h2⟩
    exact ⟨c.1, h1, List.mem_map.mpr ⟨c.2, h2, rfl⟩⟩
theorem crossC_len : ∀ (fs bs : List (List Str)), (crossC fs bs).length = fs.length * bs.length
  | [], bs => by simp [crossC]
  | f :: r, bs => by
    have := crossC_len r bs
    unfold crossC at this ⊢
    rw [List.flatMap_cons, List.length_append, this, List.length_map, List.length_cons, Nat.succ_mul, Nat.add_comm]
theorem sortStr_strict {l : List Str} (h : StrictS l) : sortStr l = l :=
  weak_uniq (weak_sortStr l) (h.imp fun {a b} q => ltS_asym q) perm_sortStr
theorem cases_mem {p : List Jb} {c : Cs} : c ∈ casesP p (sortSet (flagsP p)) ↔ c ∈ lawCases p := by
  unfold casesP lawCases
  rw [crossC_mem, crossC_mem, allParts_mem, allParts_mem, partsU_mem, partsU_mem, sortStr_strict (strict_sortSet _)]
theorem cases_ok {p : List Jb} (hp : Pipe p) {c : Cs} (h : c ∈ lawCases p) : CaseOk p c.1 c.2 := by
  unfold lawCases at h
  rw [crossC_mem, partsU_mem, partsU_mem, sortStr_strict (strict_sortSet _)] at h
  have hs : StrictS (sortStr (namesP p)) := strict_of (weak_sortStr _) (perm_sortStr.nodup_iff.mpr hp.nd)
  exact ⟨(strict_sortSet _).sublist h.1, fun f hf => mem_sortSet.mp (h.1.mem hf), hs.sublist h.2, fun b hb => perm_sortStr.mem_iff.mp (h.2.mem hb)⟩
noncomputable abbrev bodyAC : FS := (stF 3 (opF addD (vF 3) (frF (lcF (.n 5) (seqF (vF 2)) yesF (tupF (consF (vF 4) (consF (vF 5) nilF))) [5]))))
theorem cases_loop {x0 x1 : Option SV} {μ : Mu} {bs : List (List Str)} (hb : bs.length ≤ 4096) : ∀ (fs : List (List Str)) (acc : List Cs) (z4 z5 : Option SV), acc.length + fs.length * bs.length ≤ 1000000 →
    ∃ y4 y5, foGo (.n 4) bodyAC none (fs.map tupS) [x0, x1, some (.d (.list (bs.map tupS))), some (.d (.list (acc.map csD))), z4, z5] μ = some (.nx [x0, x1, some (.d (.list (bs.map tupS))), some (.d (.list ((acc ++ crossC fs bs).map csD))), y4, y5] μ)
  | [], acc, z4, z5, _ => ⟨z4, z5, by simp [foGo, crossC]⟩
  | f :: r, acc, z4, z5, h => by
    rw [List.length_cons, Nat.succ_mul] at h
    have go : lcGoF (.n 5) yesF (tupF (consF (vF 4) (consF (vF 5) nilF))) none [x0, x1, some (.d (.list (bs.map tupS))), some (.d (.list (acc.map csD))), some (.d (tupS f)), none] (bs.map tupS) μ = some ((bs.filter fun _ => true).map fun b => csD (f, b), μ) := lc_gen tupS _ _ bs fun b hb => by
      refine ⟨_, rfl, rfl, fun _ => ?_⟩
      simp [csD]
    rw [filt_true] at go
    have z1 : szOk bs.length = true := szOk_le (by omega)
    have z2 : szOk (acc.length + bs.length) = true := szOk_le (by omega)
    have hb1 : bodyAC [x0, x1, some (.d (.list (bs.map tupS))), some (.d (.list (acc.map csD))), some (.d (tupS f)), z5] μ = some (.nx [x0, x1, some (.d (.list (bs.map tupS))), some (.d (.list ((acc ++ bs.map fun b => (f, b)).map csD))), some (.d (tupS f)), z5] μ) := by
      simp [bodyAC, go, z1, z2, Function.comp_def]
    obtain ⟨y4, y5, ih⟩ := cases_loop (x0 := x0) (x1 := x1) (μ := μ) hb r (acc ++ bs.map fun b => (f, b)) (some (.d (tupS f))) z5 (by rw [List.length_append, List.length_map]; omega)
    refine ⟨y4, y5, ?_⟩
    have un : foGo (.n 4) bodyAC none ((f :: r).map tupS) [x0, x1, some (.d (.list (bs.map tupS))), some (.d (.list (acc.map csD))), z4, z5] μ = fnext (bodyAC [x0, x1, some (.d (.list (bs.map tupS))), some (.d (.list (acc.map csD))), some (.d (tupS f)), z5] μ) (foGo (.n 4) bodyAC none (r.map tupS)) := by
      rw [List.map_cons, foGo]; rfl
    rw [un, hb1, fnext_nx, ih]
    unfold crossC
    rw [List.flatMap_cons, List.append_assoc]
theorem all_cases_ok {p : List Jb} (hl : p.length ≤ 10) {fl : List Str} (hf : fl.length ≤ 5) (μ : Mu) : m_all_cases [.d (pD p), .d (.tuple (fl.map .str))] μ = some (.d (.list ((casesP p fl).map csD)), μ) := by
  have e1 := names_of_ok p (by omega) μ
  have n1 : (sortStr (namesP p)).length ≤ 10 := by rw [perm_sortStr.length_eq, namesP, List.length_map]; exact hl
  have e2 := all_parts_L (ns := sortStr (namesP p)) (by omega) μ
  have e3 := all_parts_T (ns := fl) (by omega) μ
  have b1 : (allParts (sortStr (namesP p))).length ≤ 1024 := by rw [allParts_len]; exact Nat.pow_le_pow_right (by omega) n1
  have b2 : (allParts fl).length ≤ 32 := by rw [allParts_len]; exact Nat.pow_le_pow_right (by omega) hf
  have b3 : (allParts fl).length * (allParts (sortStr (namesP p))).length ≤ 32 * 1024 := Nat.mul_le_mul b2 b1
  obtain ⟨y4, y5, e⟩ := cases_loop (x0 := some (.d (pD p))) (x1 := some (.d (.tuple (fl.map .str)))) (μ := μ) (bs := allParts (sortStr (namesP p))) (by omega) (allParts fl) [] none none (by simp; omega)
  simp only [bodyAC, List.map_nil, List.nil_append] at e
  simp [m_all_cases] at e ⊢
  simp [e1, sortN, e2, e3, e, casesP]
noncomputable abbrev bodyLC : FS := (stF 1 (opF addD (vF 1) (frF (lcF (.n 3) (seqF (clF m__law_parts (consF (clF m__law_names (consF (vF 0) nilF)) nilF))) yesF (tupF (consF (vF 2) (consF (vF 3) nilF))) [3]))))
theorem lawcases_loop {p : List Jb} (hl : p.length ≤ 10) {μ : Mu} : ∀ (fs : List (List Str)) (acc : List Cs) (z2 z3 : Option SV), acc.length + fs.length * 1024 ≤ 1000000 →
    ∃ y2 y3, foGo (.n 2) bodyLC none (fs.map tupS) [some (.d (pD p)), some (.d (.list (acc.map csD))), z2, z3] μ = some (.nx [some (.d (pD p)), some (.d (.list ((acc ++ crossC fs (partsU (sortStr (namesP p)))).map csD))), y2, y3] μ)
  | [], acc, z2, z3, _ => ⟨z2, z3, by simp [foGo, crossC]⟩
  | f :: r, acc, z2, z3, h => by
    rw [List.length_cons, Nat.succ_mul] at h
    have n1 : (namesP p).length ≤ 10 := by rw [namesP, List.length_map]; exact hl
    have b1 : (partsU (sortStr (namesP p))).length ≤ 1024 := by rw [partsU_len]; exact pow_le (k := 10) (by rw [perm_sortStr.length_eq]; exact n1)
    have e1 := law_names_ok p (by omega) μ
    have e2 := law_parts_T (ns := namesP p) (by omega) μ
    have go : lcGoF (.n 3) yesF (tupF (consF (vF 2) (consF (vF 3) nilF))) none [some (.d (pD p)), some (.d (.list (acc.map csD))), some (.d (tupS f)), none] ((partsU (sortStr (namesP p))).map tupS) μ = some (((partsU (sortStr (namesP p))).filter fun _ => true).map fun b => csD (f, b), μ) := lc_gen tupS _ _ _ fun b hb => by
      refine ⟨_, rfl, rfl, fun _ => ?_⟩
      simp [csD]
    rw [filt_true] at go
    have z1 : szOk (partsU (sortStr (namesP p))).length = true := szOk_le (by omega)
    have z2' : szOk (acc.length + (partsU (sortStr (namesP p))).length) = true := szOk_le (by omega)
    have hb1 : bodyLC [some (.d (pD p)), some (.d (.list (acc.map csD))), some (.d (tupS f)), z3] μ = some (.nx [some (.d (pD p)), some (.d (.list ((acc ++ (partsU (sortStr (namesP p))).map fun b => (f, b)).map csD))), some (.d (tupS f)), z3] μ) := by
      simp [bodyLC, e1, e2, go, z1, z2', Function.comp_def]
    obtain ⟨y2, y3, ih⟩ := lawcases_loop hl (μ := μ) r (acc ++ (partsU (sortStr (namesP p))).map fun b => (f, b)) (some (.d (tupS f))) z3 (by rw [List.length_append, List.length_map]; omega)
    refine ⟨y2, y3, ?_⟩
    have un : foGo (.n 2) bodyLC none ((f :: r).map tupS) [some (.d (pD p)), some (.d (.list (acc.map csD))), z2, z3] μ = fnext (bodyLC [some (.d (pD p)), some (.d (.list (acc.map csD))), some (.d (tupS f)), z3] μ) (foGo (.n 2) bodyLC none (r.map tupS)) := by
      rw [List.map_cons, foGo]; rfl
    rw [un, hb1, fnext_nx, ih]
    unfold crossC
    rw [List.flatMap_cons, List.append_assoc]
theorem law_cases_ok {p : List Jb} (hp : Pipe p) (μ : Mu) : m__law_cases [.d (pD p)] μ = some (.d (.list ((lawCases p).map csD)), μ) := by
  have e1 := hp.lawflags μ
  have f1 := hp.few
  have e2 := law_parts_T (ns := sortSet (flagsP p)) (by omega) μ
  have b2 : (partsU (sortStr (sortSet (flagsP p)))).length ≤ 8 := by rw [partsU_len]; exact pow_le (k := 3) (by rw [perm_sortStr.length_eq]; exact f1)
  obtain ⟨y2, y3, e⟩ := lawcases_loop (p := p) (by have := hp.most; omega) (μ := μ) (partsU (sortStr (sortSet (flagsP p)))) [] none none (by simp; omega)
  simp only [bodyLC, List.map_nil, List.nil_append] at e
  simp [m__law_cases] at e ⊢
  simp [e1, e2, e, lawCases]
end PJ
namespace PJ
open PySem PySem.Spec J L2
local instance : J.Tb := ⟨[]⟩
section
variable {p : List Jb}
theorem names_x_ok (p : List Jb) (hl : p.length ≤ 1000) (μ : Mu) : m_names_of__x [.d (pD p)] μ = some (.x (.tx (namesP p)), μ) := by
  have go : lcGoF (.n 1) yesF (ixF (vF 1) (cF (.int 0))) none [some (.d (pD p)), none] (p.map Jb.d) μ = some ((p.filter fun _ => true).map fun j => .str j.nm, μ) := lc_gen Jb.d _ _ p fun j _ => ⟨_, rfl, rfl, fun _ => by simp [Jb.d]⟩
  rw [filt_true, show (p.map fun j => PyData.str j.nm) = (namesP p).map .str by rw [namesP, List.map_map]; rfl] at go
  have z1 : szOk p.length = true := szOk_le (by omega)
  simp [m_names_of__x, pD] at go ⊢
  simp [go, z1, fD]
theorem need_name_ok (hp : Pipe p) {n : Str} (h : n ∈ namesP p) (μ : Mu) : m_need_name [.d (pD p), .d (.str n)] μ = some (.d .none, μ) := by
  have h1 : Nm n := hp.ok.nm n h
  have e1 := is_name_ok (n := 0) (.str n) μ (nm_gd h1 _ _)
  rw [show isName (.str n) = true from h1] at e1
  have e2 := names_of_ok p (by have := hp.most; omega) μ
  have e3 := notin_Td n (namesP p)
  simp [m_need_name, e1, e2, e3, h, -notinD]
theorem sts_at {n : Str} {j : Nat} (h : idxS (namesP p) n = some j) (fl bd : List Str) : ((stsP p fl bd).map PyData.str)[j]? = some (.str (stP p fl bd n)) := by
  obtain ⟨h1, _⟩ := idxS_at h
  rw [stsP, List.map_map, List.getElem?_map, h1]; rfl
/-- all statuses of a job -/
def possP (p : List Jb) (n : Str) : List Str := sortSet ((casesP p (sortSet (flagsP p))).map fun c => stP p c.1 c.2 n)
theorem casesP_len (hp : Pipe p) : (casesP p (sortSet (flagsP p))).length ≤ 2048 := by
  have b1 : (allParts (sortStr (namesP p))).length ≤ 256 := by rw [allParts_len]; exact pow_le (k := 8) (by rw [perm_sortStr.length_eq, namesP, List.length_map]; exact hp.most)
  have b2 : (allParts (sortSet (flagsP p))).length ≤ 8 := by rw [allParts_len]; exact pow_le (k := 3) hp.few
  unfold casesP
  rw [crossC_len]
  exact Nat.mul_le_mul b2 b1
theorem poss_go (hp : Pipe p) {n : Str} {j : Nat} (h : idxS (namesP p) n = some j) (cs : List Cs) (x0 x1 x3 : Option SV) (hx : x0 = some (.d (pD p))) (μ : Mu) :
    lcGoF (.t [4, 5]) yesF (ixF (clF m_statuses_of (consF (vF 0) (consF (vF 4) (consF (vF 5) nilF)))) (vF 2)) none [x0, x1, some (.d (.int (j : Nat))), x3, none, none] (cs.map csD) μ = some ((cs.map fun c => stP p c.1 c.2 n).map .str, μ) := by
  subst hx
  have := lc_gen (t := .t [4, 5]) (u := yesF) (a := ixF (clF m_statuses_of (consF (vF 0) (consF (vF 4) (consF (vF 5) nilF)))) (vF 2)) (ρ0 := [some (.d (pD p)), x1, some (.d (.int (j : Nat))), x3, none, none]) (μ := μ) csD (fun _ => true) (fun c => .str (stP p c.1 c.2 n)) cs fun c hc => by
    refine ⟨_, rfl, rfl, fun _ => ?_⟩
    have e1 := statuses_of_ok hp.ok (by have := hp.most; omega) c.1 c.2 μ
    have e2 := sts_at h c.1 c.2
    have e3 : atI ((stsP p c.1 c.2).map PyData.str) (j : Int) = some (.str (stP p c.1 c.2 n)) := by rw [J.atI_nat]; exact e2
    simp [tupS, e1, e3]
  rw [filt_true] at this
  rw [this, List.map_map]; rfl
theorem possible_ok (hp : Pipe p) {n : Str} (h : n ∈ namesP p) (μ : Mu) : m_possible_statuses [.d (pD p), .d (.str n)] μ = some (.r μ.length, μ ++ [.lst ((possP p n).map .str)]) := by
  obtain ⟨j, hj⟩ := idxS_mem h
  have e1 := hp.need μ
  have e2 := need_name_ok hp h μ
  have e3 := names_x_ok p (by have := hp.most; omega) μ
  have e4 := hp.flags μ
  have e5 := all_cases_ok (p := p) (by have := hp.most; omega) (fl := sortSet (flagsP p)) (by have := hp.few; omega) μ
  have hl := casesP_len hp
  have e6 := poss_go hp hj (casesP p (sortSet (flagsP p))) (some (.d (pD p))) (some (.d (.str n))) (some (.d (.list ((casesP p (sortSet (flagsP p))).map csD)))) rfl μ
  have z1 : szOk (casesP p (sortSet (flagsP p))).length = true := szOk_le (by omega)
  have z2 : (casesP p (sortSet (flagsP p))).length ≤ 4000 := by omega
  have e7 : J.strs? ((casesP p (sortSet (flagsP p))).map (PyData.str ∘ fun c => stP p c.1 c.2 n)) = some ((casesP p (sortSet (flagsP p))).map fun c => stP p c.1 c.2 n) := by
    rw [← List.map_map]; exact strs_of_map _
  simp [m_possible_statuses, e1, e2, e3, hj, e4, e5, z1] at e6 ⊢
  simp [e6, e7, z2, fN, possP]
def neverP (p : List Jb) (cs : List Cs) (ns : List Str) : List Str := ns.filter fun n => cs.all fun c => !decide (n ∈ ranP p c.1 c.2)
def alwaysP (p : List Jb) (cs : List Cs) (ns : List Str) : List Str := ns.filter fun n => cs.all fun c => decide (n ∈ ranP p c.1 c.2)
theorem always_nil (p : List Jb) (ns : List Str) : alwaysP p [] ns = ns := filt_true ns
theorem never_nil (p : List Jb) (ns : List Str) : neverP p [] ns = ns := filt_true ns
theorem always_cons (p : List Jb) (c : Cs) (r : List Cs) (ns : List Str) : alwaysP p r (ns.filter fun n => decide (n ∈ ranP p c.1 c.2)) = alwaysP p (c :: r) ns := by
  unfold alwaysP
  rw [List.filter_filter]
  exact List.filter_congr fun n _ => by rw [List.all_cons, Bool.and_comm]
theorem never_cons (p : List Jb) (c : Cs) (r : List Cs) (ns : List Str) : neverP p r (ns.filter fun n => !decide (n ∈ ranP p c.1 c.2)) = neverP p (c :: r) ns := by
  unfold neverP
  rw [List.filter_filter]
  exact List.filter_congr fun n _ => by rw [List.all_cons, Bool.and_comm]
noncomputable abbrev bodyAl : FS := (sqF (stF 4 (clF m_ran_in (consF (vF 0) (consF (vF 2) (consF (vF 3) nilF))))) (stF 1 (frF (lcF (.n 5) (seqF (vF 1)) (cmBF inD (vF 5) (vF 4)) (vF 5) [5]))))
theorem always_loop (hp : Pipe p) {μ : Mu} : ∀ (cs : List Cs) (left : List Str) (z2 z3 z4 z5 : Option SV), left.length ≤ 1000 →
    ∃ y2 y3 y4 y5, foGo (.t [2, 3]) bodyAl none (cs.map csD) [some (.d (pD p)), some (.d (.list (left.map .str))), z2, z3, z4, z5] μ = some (.nx [some (.d (pD p)), some (.d (.list ((alwaysP p cs left).map .str))), y2, y3, y4, y5] μ)
  | [], left, z2, z3, z4, z5, _ => ⟨z2, z3, z4, z5, by simp [foGo, always_nil]⟩
  | c :: r, left, z2, z3, z4, z5, hl => by
    have e1 := ran_in_ok hp.ok (by have := hp.most; omega) c.1 c.2 μ
    have go : lcGoF (.n 5) (cmBF inD (vF 5) (vF 4)) (vF 5) none [some (.d (pD p)), some (.d (.list (left.map .str))), some (.d (tupS c.1)), some (.d (tupS c.2)), some (.d (.tuple ((ranP p c.1 c.2).map .str))), none] (left.map .str) μ = some ((left.filter fun n => decide (n ∈ ranP p c.1 c.2)).map .str, μ) := lc_strs _ _ _ fun x hx => by
      have := in_T x (ranP p c.1 c.2)
      simp [this, -inD]
    have z1 : szOk left.length = true := szOk_le (by omega)
    have hb : bodyAl [some (.d (pD p)), some (.d (.list (left.map .str))), some (.d (tupS c.1)), some (.d (tupS c.2)), z4, z5] μ =
        some (.nx [some (.d (pD p)), some (.d (.list ((left.filter fun n => decide (n ∈ ranP p c.1 c.2)).map .str))), some (.d (tupS c.1)), some (.d (tupS c.2)), some (.d (.tuple ((ranP p c.1 c.2).map .str))), z5] μ) := by
      simp only [tupS] at go e1 ⊢
      simp [bodyAl, e1, go, z1]
    obtain ⟨y2, y3, y4, y5, ih⟩ := always_loop hp (μ := μ) r (left.filter fun n => decide (n ∈ ranP p c.1 c.2)) (some (.d (tupS c.1))) (some (.d (tupS c.2))) (some (.d (.tuple ((ranP p c.1 c.2).map .str)))) z5 (Nat.le_trans (List.length_filter_le _ _) hl)
    refine ⟨y2, y3, y4, y5, ?_⟩
    have un : foGo (.t [2, 3]) bodyAl none ((c :: r).map csD) [some (.d (pD p)), some (.d (.list (left.map .str))), z2, z3, z4, z5] μ =
        fnext (bodyAl [some (.d (pD p)), some (.d (.list (left.map .str))), some (.d (tupS c.1)), some (.d (tupS c.2)), z4, z5] μ) (foGo (.t [2, 3]) bodyAl none (r.map csD)) := by
      rw [List.map_cons, foGo]; rfl
    rw [un, hb, fnext_nx, ih, always_cons]
theorem always_ok (hp : Pipe p) (μ : Mu) : m_always_run [.d (pD p)] μ = some (.d (.list ((alwaysP p (casesP p (sortSet (flagsP p))) (sortStr (namesP p))).map .str)), μ) := by
  have e1 := hp.need μ
  have e2 := names_of_ok p (by have := hp.most; omega) μ
  have e4 := hp.flags μ
  have e5 := all_cases_ok (p := p) (by have := hp.most; omega) (fl := sortSet (flagsP p)) (by have := hp.few; omega) μ
  obtain ⟨y2, y3, y4, y5, e⟩ := always_loop hp (μ := μ) (casesP p (sortSet (flagsP p))) (sortStr (namesP p)) none none none none (by rw [perm_sortStr.length_eq, namesP, List.length_map]; have := hp.most; omega)
  simp only [bodyAl] at e
  simp [m_always_run, e1, e2, sortN, e4, e5] at e ⊢
  simp [e]
theorem filter_all_congr {cs cs' : List Cs} (h : ∀ c, c ∈ cs ↔ c ∈ cs') (f : Cs → Bool) : cs.all f = cs'.all f := by
  rw [Bool.eq_iff_iff, List.all_eq_true, List.all_eq_true]
  exact ⟨fun q c hc => q c ((h c).mpr hc), fun q c hc => q c ((h c).mp hc)⟩
end
end PJ
namespace PJ
open PySem PySem.Spec J L2
local instance : J.Tb := ⟨[]⟩
theorem eqv_strsL : ∀ {a b : List Str}, PyData.eqv (.list (a.map .str)) (.list (b.map .str)) = (a == b) := by
  intro a b
  have := @eqv_strsT a b
  rw [PyData.eqv] at this
  rw [PyData.eqv]; exact this
theorem ok_strsL {ss : List Str} (hn : ∀ x ∈ ss, ∀ L n, gdL L n (.str x) = true) (hl : ss.length ≤ 1000) : okD (.list (ss.map .str)) = true :=
  gd_okD (n := 1) (gd_lst' (by rw [List.length_map]; exact hl) fun x hx => by
    obtain ⟨y, hy, rfl⟩ := List.mem_map.mp hx
    exact hn y hy _ _) (by omega)
theorem eq_strsL {a b : List Str} (ha : okD (.list (a.map .str)) = true) (hb : okD (.list (b.map .str)) = true) : eqD (.list (a.map .str)) (.list (b.map .str)) = some (a == b) := by
  unfold eqD eqOk
  rw [ha, hb, eqv_strsL]; rfl
theorem ne_strsL {a b : List Str} (ha : okD (.list (a.map .str)) = true) (hb : okD (.list (b.map .str)) = true) : neD (.list (a.map .str)) (.list (b.map .str)) = some (!(a == b)) := by
  unfold neD eqOk
  rw [ha, hb, eqv_strsL]; rfl
theorem ne_sameL {a : List Str} (h : okD (.list (a.map .str)) = true) : neD (.list (a.map .str)) (.list (a.map .str)) = some false := by
  rw [ne_strsL h h]; simp
theorem ne_same {a : List Str} (h : okD (.tuple (a.map .str)) = true) : neD (.tuple (a.map .str)) (.tuple (a.map .str)) = some false := by
  rw [ne_strs h h]; simp
theorem okD_ones (n : Nat) (hn : n ≤ 1000) {α : Type} (l : List α) (hl : l.length ≤ n) : okD (.list (l.map fun _ => PyData.int 1)) = true :=
  gd_okD (n := 1) (gd_lst' (by rw [List.length_map]; omega) fun x hx => by
    obtain ⟨y, _, rfl⟩ := List.mem_map.mp hx
    rfl) (by omega)
theorem lcGo_genG {α : Type} {t : Tg} {U : DTB} {T : DT} {gd : Mu → Prop} {ρ0 : En} {Q : List PyData → Mu → Prop} {μ : Mu} (hg : gd μ) (enc : α → PyData) (q : α → Bool) (f : α → PyData) : ∀ (l : List α) (acc : List PyData), acc.length + l.length ≤ 16777216 →
    (∀ x ∈ l, ∃ ρ, t.put (.d (enc x)) ρ0 = some ρ ∧ GvB U ρ μ (q x) ∧ (q x = true → Gv T ρ μ (f x))) → Q (acc ++ (l.filter q).map f) μ → lcGo t U T gd ρ0 Q (l.map enc) acc μ
  | [], acc, hl, h, k => ⟨hg, by simpa using k⟩
  | x :: r, acc, hl, h, k => by
    rw [List.length_cons] at hl
    obtain ⟨ρ, e1, e2, e3⟩ := h x List.mem_cons_self
    have h' := fun y hy => h y (List.mem_cons_of_mem x hy)
    refine ⟨hg, ?_⟩
    rw [e1, oP_some]
    refine e2 _ ?_
    cases e : q x with
    | true =>
      refine e3 e _ ⟨by rw [sizeLine_eq]; omega, lcGo_genG hg enc q f r _ (by rw [List.length_append, List.length_singleton]; omega) h' (by simpa [List.filter_cons, e] using k)⟩
    | false => exact lcGo_genG hg enc q f r acc (by omega) h' (by simpa [List.filter_cons, e] using k)
theorem lcGo_gen {α : Type} {t : Tg} {U : DTB} {T : DT} {ρ0 : En} {Q : List PyData → Mu → Prop} {μ : Mu} (enc : α → PyData) (q : α → Bool) (f : α → PyData) (l : List α) (hl : l.length ≤ 16777216)
    (h : ∀ x ∈ l, ∃ ρ, t.put (.d (enc x)) ρ0 = some ρ ∧ GvB U ρ μ (q x) ∧ (q x = true → Gv T ρ μ (f x))) (k : Q ((l.filter q).map f) μ) : lcGo t U T (fun _ => True) ρ0 Q (l.map enc) [] μ :=
  lcGo_genG trivial enc q f l [] (by simpa using hl) h (by simpa using k)
theorem lcGo_strs {i : Nat} {U : DTB} {T : DT} {ρ0 : En} {Q : List PyData → Mu → Prop} {μ : Mu} (q : Str → Bool) (f : Str → PyData) (ss : List Str) (hl : ss.length ≤ 1000) (hU : ∀ x ∈ ss, GvB U (ρ0.set i (some (.d (.str x)))) μ (q x))
    (hT : ∀ x ∈ ss, Gv T (ρ0.set i (some (.d (.str x)))) μ (f x)) (k : Q ((ss.filter q).map f) μ) : lcGo (.n i) U T (fun _ => True) ρ0 Q (ss.map .str) [] μ :=
  lcGo_gen .str q f ss (by omega) (fun x hx => ⟨_, rfl, hU x hx, fun _ => hT x hx⟩) k
section
variable {p : List Jb}
def st3 : List Str := [bad, good, passed]
theorem stOf_3 (fl bd : List Str) (k : List (Str × Str)) (j : Jb) : stOf fl bd k j ∈ st3 := by
  unfold stOf endS st3
  split
  · split <;> simp
  · simp
theorem runP_3 (fl bd : List Str) : ∀ (p : List Jb) (k : List (Str × Str)), (∀ q ∈ k, q.2 ∈ st3) → ∀ q ∈ runP fl bd k p, q.2 ∈ st3
  | [], k, h => h
  | j :: r, k, h => runP_3 fl bd r _ fun q hq => by
    rcases List.mem_append.mp hq with hq | hq
    · exact h q hq
    · rw [List.mem_singleton.mp hq]; exact stOf_3 fl bd k j
theorem stP_3 {n : Str} (h : n ∈ namesP p) (fl bd : List Str) : stP p fl bd n ∈ st3 :=
  lkS_in (P := fun s => s ∈ st3) (by rw [knownP_fst]; exact h) (runP_3 fl bd p [] (by simp))
theorem st3_strict : StrictS st3 := (adj_strict _).mp (by decide +kernel)
theorem st3_gd {x : Str} (h : x ∈ st3) (L n : Nat) : gdL L n (.str x) = true := by
  simp [st3] at h
  rcases h with h | h | h <;> subst h <;> exact gd_anyL _ _ _
theorem mem_ranP {n : Str} {fl bd : List Str} : n ∈ ranP p fl bd ↔ n ∈ namesP p ∧ stP p fl bd n ≠ passed := by
  unfold ranP
  rw [List.mem_filter]
  simp
theorem poss_eq {n : Str} (h : n ∈ namesP p) : st3.filter (fun s => decide (s ∈ (lawCases p).map fun c => stP p c.1 c.2 n)) = possP p n := by
  refine strict_uniq (st3_strict.sublist List.filter_sublist) (strict_sortSet _) fun x => ?_
  unfold possP
  rw [List.mem_filter, mem_sortSet, decide_eq_true_iff, List.mem_map, List.mem_map]
  constructor
  · rintro ⟨_, c, hc, e⟩
    exact ⟨c, cases_mem.mpr hc, e⟩
  · rintro ⟨c, hc, e⟩
    exact ⟨e ▸ stP_3 h _ _, c, cases_mem.mp hc, e⟩
theorem strict_sortStr' {l : List Str} (h : l.Nodup) : StrictS (sortStr l) := strict_of (weak_sortStr l) (perm_sortStr.nodup_iff.mpr h)
theorem never_eq (hp : Pipe p) : sortStr ((namesP p).filter fun n => ((lawCases p).filter fun c => !(stP p c.1 c.2 n == passed)).isEmpty) = neverP p (casesP p (sortSet (flagsP p))) (sortStr (namesP p)) := by
  refine strict_uniq (strict_sortStr' (hp.nd.sublist List.filter_sublist)) ((strict_sortStr' hp.nd).sublist List.filter_sublist) fun x => ?_
  unfold neverP
  rw [perm_sortStr.mem_iff, List.mem_filter, List.mem_filter, perm_sortStr.mem_iff, filter_nil]
  refine and_congr_right fun hx => ?_
  rw [List.all_eq_true, List.all_eq_true]
  constructor
  · intro h c hc
    have := h c (cases_mem.mp hc)
    rw [Bool.not_eq_true', decide_eq_false_iff_not, mem_ranP]
    simp at this
    exact fun q => q.2 this
  · intro h c hc
    have := h c (cases_mem.mpr hc)
    rw [Bool.not_eq_true', decide_eq_false_iff_not, mem_ranP] at this
    simp
    exact Classical.byContradiction fun q => this ⟨hx, q⟩
theorem always_eq (hp : Pipe p) : sortStr ((namesP p).filter fun n => ((lawCases p).filter fun c => stP p c.1 c.2 n == passed).isEmpty) = alwaysP p (casesP p (sortSet (flagsP p))) (sortStr (namesP p)) := by
  refine strict_uniq (strict_sortStr' (hp.nd.sublist List.filter_sublist)) ((strict_sortStr' hp.nd).sublist List.filter_sublist) fun x => ?_
  unfold alwaysP
  rw [perm_sortStr.mem_iff, List.mem_filter, List.mem_filter, perm_sortStr.mem_iff, filter_nil]
  refine and_congr_right fun hx => ?_
  rw [List.all_eq_true, List.all_eq_true]
  constructor
  · intro h c hc
    have := h c (cases_mem.mp hc)
    rw [decide_eq_true_iff, mem_ranP]
    simp at this
    exact ⟨hx, this⟩
  · intro h c hc
    have := h c (cases_mem.mpr hc)
    rw [decide_eq_true_iff, mem_ranP] at this
    simpa using this.2
end
end PJ
namespace PJ
open PySem PySem.Spec J L2
local instance : J.Tb := ⟨[]⟩
/-- a loop that may return -/
theorem foGo_res {α : Type} {t : Tg} {s : FS} {μ : Mu} (enc : α → PyData) (r : α → Option SV) (I : En → Prop) : ∀ (l : List α), (∀ x ∈ l, ∀ ρ, I ρ → ∃ ρ1, t.put (.d (enc x)) ρ = some ρ1 ∧ (∀ v, r x = some v → s ρ1 μ = some (.rt v μ)) ∧ (r x = none → ∃ ρ2, s ρ1 μ = some (.nx ρ2 μ) ∧ I ρ2)) → ∀ ρ, I ρ →
    (∀ v, l.findSome? r = some v → foGo t s none (l.map enc) ρ μ = some (.rt v μ)) ∧ (l.findSome? r = none → ∃ ρ', foGo t s none (l.map enc) ρ μ = some (.nx ρ' μ) ∧ I ρ')
  | [], _, ρ, h => ⟨fun v e => (by cases e), fun _ => ⟨ρ, by simp [foGo], h⟩⟩
  | x :: l, hs, ρ, h => by
    obtain ⟨ρ1, e1, e2, e3⟩ := hs x List.mem_cons_self ρ h
    have un : foGo t s none ((x :: l).map enc) ρ μ = fnext (s ρ1 μ) (foGo t s none (l.map enc)) := by
      rw [List.map_cons, foGo]
      dsimp only
      rw [if_pos (gchk_none μ), e1, Option.bind_some]
    rw [un, List.findSome?_cons]
    cases e : r x with
    | some v => exact ⟨fun w hw => by cases hw; rw [e2 v e, fnext_rt], fun hw => by cases hw⟩
    | none =>
      obtain ⟨ρ2, e4, h2⟩ := e3 e
      rw [e4, fnext_nx]
      exact foGo_res enc r I l (fun y hy => hs y (List.mem_cons_of_mem _ hy)) ρ2 h2
theorem find_least {parts : List (List Str)} {q0 : List Str → Bool} : ∀ (m a : Nat), (∀ s ∈ parts, q0 s = true → a ≤ s.length) → (∃ s ∈ parts, q0 s = true ∧ s.length < a + m) →
    ∃ s, (List.range' a m).findSome? (fun k => parts.find? fun s => decide (s.length = k) && q0 s) = some s ∧ s ∈ parts ∧ q0 s = true ∧ ∀ s' ∈ parts, q0 s' = true → s.length ≤ s'.length
  | 0, a, h1, ⟨s, hs, hq, hl⟩ => by have := h1 s hs hq; omega
  | m + 1, a, h1, ⟨s, hs, hq, hl⟩ => by
    rw [List.range'_succ, List.findSome?_cons]
    cases e : parts.find? fun s => decide (s.length = a) && q0 s with
    | some s0 =>
      have h2 := List.find?_some e
      rw [Bool.and_eq_true, decide_eq_true_iff] at h2
      exact ⟨s0, rfl, List.mem_of_find?_eq_some e, h2.2, fun s' hs' hq' => by rw [h2.1]; exact h1 s' hs' hq'⟩
    | none =>
      have h2 := List.find?_eq_none.mp e
      have h3 : ∀ s' ∈ parts, q0 s' = true → a + 1 ≤ s'.length := fun s' hs' hq' => by
        have := h1 s' hs' hq'
        have h4 := h2 s' hs'
        rw [hq', Bool.and_true, decide_eq_true_iff] at h4
        omega
      exact find_least m (a + 1) h3 ⟨s, hs, hq, by omega⟩
section
variable {p : List Jb} {fl bd : List Str} {n : Str}
theorem known_set (hp : PipeOk [] p) {b b' : List Str} (h : ∀ x ∈ namesP p, (x ∈ b ↔ x ∈ b')) : knownP p fl b' = knownP p fl b := knownP_congr hp fun n hn _ => h n hn
theorem stP_set (hp : PipeOk [] p) {b b' : List Str} (h : ∀ x ∈ namesP p, (x ∈ b ↔ x ∈ b')) : stP p fl b' n = stP p fl b n := by
  unfold stP; rw [known_set hp h]
/-- the jobs S explain the status of n -/
def ExS (p : List Jb) (fl bd : List Str) (n : Str) (S : List Str) : Prop := ∀ b : List Str, (∀ x ∈ namesP p, x ∈ S → (x ∈ b ↔ x ∈ bd)) → stP p fl b n = stP p fl bd n
theorem ex_gen (hp : PipeOk [] p) {S free fixed : List Str} (hf : ∀ x, x ∈ free ↔ x ∈ namesP p ∧ x ∉ S) (hx : ∀ x, x ∈ fixed ↔ x ∈ S ∧ x ∈ bd) :
    (∀ part, List.Sublist part free → stP p fl (fixed ++ part) n = stP p fl bd n) ↔ ExS p fl bd n S := by
  constructor
  · intro h b hb
    rw [← h (free.filter fun x => decide (x ∈ b)) List.filter_sublist]
    refine (stP_set hp fun x hn => ?_)
    rw [List.mem_append, hx, List.mem_filter, hf, decide_eq_true_iff]
    by_cases c : x ∈ S
    · have := hb x hn c
      simp [c, this]
    · simp [c, hn]
  · intro h part hpart
    refine h _ fun x hn hS => ?_
    rw [List.mem_append, hx]
    have : x ∉ part := fun q => ((hf x).mp (hpart.mem q)).2 hS
    simp [this, hS]
def exB (p : List Jb) (fl bd : List Str) (n : Str) (S : List Str) : Bool :=
  (allParts ((sortStr (namesP p)).filter fun x => !decide (x ∈ S))).all fun part => stP p fl (sortStr (S.filter (fun x => decide (x ∈ bd)) ++ part)) n == stP p fl bd n
def exL (p : List Jb) (fl bd : List Str) (n : Str) (S : List Str) : Bool :=
  (partsU (sortStr ((namesP p).filter fun x => !decide (x ∈ S)))).all fun part => stP p fl (bd.filter (fun x => decide (x ∈ S)) ++ part) n == stP p fl bd n
theorem exB_iff (hp : PipeOk [] p) {S : List Str} : exB p fl bd n S = true ↔ ExS p fl bd n S := by
  rw [← ex_gen hp (free := (sortStr (namesP p)).filter fun x => !decide (x ∈ S)) (fixed := S.filter fun x => decide (x ∈ bd)) (fun x => by rw [List.mem_filter, perm_sortStr.mem_iff]; simp) (fun x => by rw [List.mem_filter]; simp)]
  unfold exB
  rw [List.all_eq_true]
  constructor
  · intro h part hpart
    have := h part (allParts_mem.mpr hpart)
    rw [← (beq_iff_eq.mp this)]
    exact stP_set hp fun x _ => perm_sortStr.mem_iff
  · intro h part hpart
    rw [beq_iff_eq, ← h part (allParts_mem.mp hpart)]
    exact stP_set hp fun x _ => perm_sortStr.mem_iff.symm
theorem exL_iff (hp : PipeOk [] p) {S : List Str} : exL p fl bd n S = true ↔ ExS p fl bd n S := by
  rw [← ex_gen hp (free := sortStr ((namesP p).filter fun x => !decide (x ∈ S))) (fixed := bd.filter fun x => decide (x ∈ S)) (fun x => by rw [perm_sortStr.mem_iff, List.mem_filter]; simp) (fun x => by rw [List.mem_filter, and_comm]; simp)]
  unfold exL
  rw [List.all_eq_true]
  exact ⟨fun h part hpart => beq_iff_eq.mp (h part (partsU_mem.mpr hpart)), fun h part hpart => beq_iff_eq.mpr (h part (partsU_mem.mp hpart))⟩
theorem PipeOk.app : ∀ {a b : List Jb} {ks : List Str}, PipeOk ks (a ++ b) → PipeOk ks a
  | [], _, _, _ => trivial
  | _ :: a, _, _, ⟨h1, h2⟩ => ⟨h1, PipeOk.app h2⟩
theorem runP_app (fl bd : List Str) : ∀ (a b : List Jb) (k : List (Str × Str)), runP fl bd k (a ++ b) = runP fl bd (runP fl bd k a) b
  | [], b, k => rfl
  | j :: a, b, k => by rw [List.cons_append, runP, runP, runP_app fl bd a b]
theorem stP_pre (hp : PipeOk [] p) {k : Nat} (hn : n ∈ namesP (p.take k)) {b b' : List Str} (h : ∀ x ∈ namesP (p.take k), (x ∈ b ↔ x ∈ b')) : stP p fl b' n = stP p fl b n := by
  have e : ∀ b, stP p fl b n = stP (p.take k) fl b n := fun b => by
    unfold stP knownP
    have : runP fl b [] p = runP fl b (runP fl b [] (p.take k)) (p.drop k) := by rw [← runP_app, List.take_append_drop]
    rw [this, lkS_run (by rw [runP_fst]; simpa using hn)]
  have hp' : PipeOk [] (p.take k) := by
    rw [← List.take_append_drop k p] at hp
    exact hp.app
  rw [e, e, stP_set hp' h]
theorem ex_pre (hp : PipeOk [] p) {k : Nat} (hn : n ∈ namesP (p.take k)) {S : List Str} (h : ExS p fl bd n S) : ExS p fl bd n (S.filter fun x => decide (x ∈ namesP (p.take k))) := fun b hb => by
  have h1 := h ((namesP p).filter fun x => if x ∈ namesP (p.take k) then decide (x ∈ b) else decide (x ∈ bd)) fun x hx hS => by
    rw [List.mem_filter]
    by_cases c : x ∈ namesP (p.take k)
    · have := hb x hx (by rw [List.mem_filter]; exact ⟨hS, by simpa using c⟩)
      simp [hx, c, this]
    · simp [hx, c]
  rw [← h1]
  refine stP_pre hp hn fun x hx => ?_
  rw [List.mem_filter]
  have hm : x ∈ namesP p := by
    unfold namesP at hx ⊢
    rw [List.map_take] at hx
    exact List.mem_of_mem_take hx
  simp [hx, hm]
theorem ex_all (hp : PipeOk [] p) {k : Nat} (hn : n ∈ namesP (p.take k)) : ExS p fl bd n (namesP (p.take k)) := fun b hb => stP_pre hp hn fun x hx => by
  have hm : x ∈ namesP p := by
    unfold namesP at hx ⊢
    rw [List.map_take] at hx
    exact List.mem_of_mem_take hx
  exact (hb x hm hx).symm
def turnL (bd : List Str) (o : Str) : List Str := sortStr (bd.filter (fun x => !(x == o)) ++ if o ∈ bd then [] else [o])
theorem turnL_mem {o x : Str} : x ∈ turnL bd o ↔ (x ∈ bd ↔ x ≠ o) := by
  unfold turnL
  rw [perm_sortStr.mem_iff, List.mem_append, List.mem_filter]
  by_cases e : x = o
  · subst e
    by_cases c : x ∈ bd <;> simp [c]
  · by_cases c : o ∈ bd <;> by_cases d : x ∈ bd <;> simp [c, d, e]
def turnP (p : List Jb) (fl bd : List Str) (n : Str) : List Str := (sortStr (namesP p)).filter fun o => !(stP p fl (turnL bd o) n == stP p fl bd n)
/-- a turning job stands in every explanation -/
theorem turn_in (hp : PipeOk [] p) {S : List Str} (h : ExS p fl bd n S) {o : Str} (ho : o ∈ turnP p fl bd n) : o ∈ S := by
  unfold turnP at ho
  rw [List.mem_filter] at ho
  refine Classical.byContradiction fun c => ?_
  have := h (turnL bd o) fun x _ hS => by
    rw [turnL_mem]
    have : x ≠ o := fun e => c (e ▸ hS)
    simp [this]
  rw [this] at ho
  simp at ho
end
end PJ
namespace PJ
open PySem PySem.Spec J L2
local instance : J.Tb := ⟨[]⟩
def flU (p q : List Jb) : List Str := sortSet (sortSet (flagsP p) ++ sortSet (flagsP q))
def fOf (p : List Jb) (fl : List Str) : List Str := fl.filter fun f => decide (f ∈ sortSet (flagsP p))
def unlB (p q : List Jb) (c : Cs) : Bool := (namesP p).any fun n => !(stP p (fOf p c.1) c.2 n == stP q (fOf q c.1) c.2 n)
def tellP (p q : List Jb) : Option Cs := (casesP p (flU p q)).find? (unlB p q)
structure Pair (p q : List Jb) : Prop where
  hp : Pipe p
  hq : Pipe q
  nm : ∀ n, n ∈ namesP p ↔ n ∈ namesP q
  few : (flU p q).length ≤ 3
def canB (p q : List Jb) : Bool := (sortStr (namesP p) == sortStr (namesP q)) && decide ((flU p q).length ≤ 3)
def tellD : Option Cs → PyData
  | some c => csD c
  | none => .none
theorem names_sorted_eq {p q : List Jb} (hp : Pipe p) (hq : Pipe q) : sortStr (namesP p) = sortStr (namesP q) ↔ ∀ n, n ∈ namesP p ↔ n ∈ namesP q := by
  constructor
  · intro e n
    rw [← perm_sortStr.mem_iff, e, perm_sortStr.mem_iff]
  · intro h
    exact strict_uniq (strict_sortStr' hp.nd) (strict_sortStr' hq.nd) fun n => by rw [perm_sortStr.mem_iff, perm_sortStr.mem_iff]; exact h n
theorem Pair.can {p q : List Jb} (h : Pair p q) : canB p q = true := by
  unfold canB
  rw [(names_sorted_eq h.hp h.hq).mpr h.nm]
  simp [h.few]
section
variable {p q : List Jb}
theorem row_dd {fl bd : List Str} {n : Str} (h : n ∈ namesP p) (μ : Mu) : ixD μ (.d (dD (knownP p fl bd))) (.d (.str n)) = some (.str (stP p fl bd n)) := by
  have e : dcAt μ (.d (dD (knownP p fl bd))) = some (dcS (knownP p fl bd)) := dcAt_dD _ _
  have := assoc_known h fl bd
  simp [e, this, -dcAt]
theorem flU_strs (μ : Mu) (x : Option SV) : True := trivial
noncomputable abbrev bodyFu : FS := (sqF (stF 6 (clF m_known_in (consF (vF 0) (consF (biF tupD (consF (frF (lcF (.n 8) (seqF (vF 4)) (cmBF inD (vF 8) (vF 2)) (vF 8) [8])) nilF)) (consF (vF 5) nilF))))) (sqF (stF 7 (clF m_known_in (consF (vF 1) (consF (biF tupD (consF (frF (lcF (.n 8) (seqF (vF 4)) (cmBF inD (vF 8) (vF 3)) (vF 8) [8])) nilF)) (consF (vF 5) nilF))))) (ifF (cmBF neD (frF (lcF (.n 8) (seqF (clF m_names_of (consF (vF 0) nilF))) (cmBF neD (ixF (vF 6) (vF 8)) (ixF (vF 7) (vF 8))) (vF 8) [8])) (frF (lstF nilF))) (rtF (tupF (consF (vF 4) (consF (vF 5) nilF)))) skipF)))
theorem bodyFu_ok (H : Pair p q) (c : Cs) (hc : c.1.length ≤ 1000) (z6 z7 z8 : Option SV) (μ : Mu) :
    bodyFu [some (.d (pD p)), some (.d (pD q)), some (.d (.tuple ((sortSet (flagsP p)).map .str))), some (.d (.tuple ((sortSet (flagsP q)).map .str))), some (.d (tupS c.1)), some (.d (tupS c.2)), z6, z7, z8] μ =
      if unlB p q c = true then some (.rt (.d (csD c)) μ) else some (.nx [some (.d (pD p)), some (.d (pD q)), some (.d (.tuple ((sortSet (flagsP p)).map .str))), some (.d (.tuple ((sortSet (flagsP q)).map .str))), some (.d (tupS c.1)), some (.d (tupS c.2)), some (.d (dD (knownP p (fOf p c.1) c.2))), some (.d (dD (knownP q (fOf q c.1) c.2))), z8] μ) := by
  have m8 := H.hp.most
  have m8' := H.hq.most
  have i1 := fun x => in_T x (sortSet (flagsP p))
  have i2 := fun x => in_T x (sortSet (flagsP q))
  have e1 := known_in_ok H.hp.ok (by omega) (fl := fOf p c.1) (inT_dec c.2) μ
  have e2 := known_in_ok H.hq.ok (by omega) (fl := fOf q c.1) (inT_dec c.2) μ
  have e4 := names_of_ok p (by omega) μ
  have g1 : lcGoF (.n 8) (cmBF inD (vF 8) (vF 2)) (vF 8) none [some (.d (pD p)), some (.d (pD q)), some (.d (.tuple ((sortSet (flagsP p)).map .str))), some (.d (.tuple ((sortSet (flagsP q)).map .str))), some (.d (tupS c.1)), some (.d (tupS c.2)), z6, z7, none] (c.1.map .str) μ = some ((fOf p c.1).map .str, μ) := lc_strs _ _ _ fun x hx => by
    simp [i1, -inD]
  have g2 : ∀ K, lcGoF (.n 8) (cmBF inD (vF 8) (vF 3)) (vF 8) none [some (.d (pD p)), some (.d (pD q)), some (.d (.tuple ((sortSet (flagsP p)).map .str))), some (.d (.tuple ((sortSet (flagsP q)).map .str))), some (.d (tupS c.1)), some (.d (tupS c.2)), K, z7, none] (c.1.map .str) μ = some ((fOf q c.1).map .str, μ) := fun K => lc_strs _ _ _ fun x hx => by
    simp [i2, -inD]
  have g3 : lcGoF (.n 8) (cmBF neD (ixF (vF 6) (vF 8)) (ixF (vF 7) (vF 8))) (vF 8) none [some (.d (pD p)), some (.d (pD q)), some (.d (.tuple ((sortSet (flagsP p)).map .str))), some (.d (.tuple ((sortSet (flagsP q)).map .str))), some (.d (tupS c.1)), some (.d (tupS c.2)), some (.d (dD (knownP p (fOf p c.1) c.2))), some (.d (dD (knownP q (fOf q c.1) c.2))), none] ((namesP p).map .str) μ = some (((namesP p).filter fun n => !(stP p (fOf p c.1) c.2 n == stP q (fOf q c.1) c.2 n)).map .str, μ) := lc_strs _ _ _ fun x hx => by
    have r1 := row_dd (fl := fOf p c.1) (bd := c.2) hx μ
    have r2 := row_dd (fl := fOf q c.1) (bd := c.2) ((H.nm x).mp hx) μ
    simp [r1, r2, -ixD]
  have z1 : szOk c.1.length = true := szOk_le (by omega)
  have z2 : szOk p.length = true := szOk_le (by omega)
  have z3 : szOk (namesP p).length = true := szOk_le (by rw [namesP, List.length_map]; omega)
  have ok : okD (.list (((namesP p).filter fun n => !(stP p (fOf p c.1) c.2 n == stP q (fOf q c.1) c.2 n)).map .str)) = true := ok_strsL (fun x hx L n => nm_gd (H.hp.ok.nm x (List.mem_filter.mp hx).1) L n) (Nat.le_trans (List.length_filter_le _ _) (by rw [namesP, List.length_map]; omega))
  have ne := neD_nilL ok
  have emp : (!(((namesP p).filter fun n => !(stP p (fOf p c.1) c.2 n == stP q (fOf q c.1) c.2 n)).map PyData.str).isEmpty) = unlB p q c := by
    rw [List.isEmpty_map, filter_nil]
    unfold unlB
    induction namesP p with
    | nil => rfl
    | cons x r ih => simp [← ih, Bool.not_and]
  rw [emp] at ne
  simp only [tupS] at g1 g2 g3 e1 e2 ⊢
  cases u : unlB p q c <;> simp [bodyFu, g1, g2, g3, e1, e2, e4, z1, z2, z3, ne, u, csD, tupS]
theorem first_unlike_ok (H : Pair p q) (μ : Mu) : m_first_unlike [.d (pD p), .d (pD q)] μ = some (.d (tellD (tellP p q)), μ) := by
  have m8 := H.hp.most
  have e1 := H.hp.flags μ
  have e2 := H.hq.flags μ
  have e3 := all_cases_ok (p := p) (by omega) (fl := flU p q) (by have := H.few; omega) μ
  have sz : szOk ((sortSet (flagsP p)).length + (sortSet (flagsP q)).length) = true := szOk_le (by have := H.hp.few; have := H.hq.few; omega)
  have sz2 : (sortSet (flagsP p)).length + (sortSet (flagsP q)).length ≤ 4000 := by have := H.hp.few; have := H.hq.few; omega
  obtain ⟨l1, l2⟩ := foGo_res (t := .t [4, 5]) (s := bodyFu) (μ := μ) csD (fun c => if unlB p q c = true then some (SV.d (csD c)) else none)
    (fun ρ => ∃ z4 z5 z6 z7 z8, ρ = [some (.d (pD p)), some (.d (pD q)), some (.d (.tuple ((sortSet (flagsP p)).map .str))), some (.d (.tuple ((sortSet (flagsP q)).map .str))), z4, z5, z6, z7, z8])
    (casesP p (flU p q)) (fun c hc ρ ⟨z4, z5, z6, z7, z8, e⟩ => by
      subst e
      have hc1 : c.1.length ≤ 1000 := by
        unfold casesP at hc
        rw [crossC_mem, allParts_mem] at hc
        have := hc.1.length_le
        have := H.few
        omega
      have b := bodyFu_ok H c hc1 z6 z7 z8 μ
      refine ⟨_, rfl, fun v hv => ?_, fun hv => ?_⟩
      · by_cases u : unlB p q c = true
        · rw [if_pos u] at hv b
          cases hv
          exact b
        · rw [if_neg u] at hv; cases hv
      · by_cases u : unlB p q c = true
        · rw [if_pos u] at hv; cases hv
        · rw [if_neg u] at b
          exact ⟨_, b, _, _, _, _, _, rfl⟩) [some (.d (pD p)), some (.d (pD q)), some (.d (.tuple ((sortSet (flagsP p)).map .str))), some (.d (.tuple ((sortSet (flagsP q)).map .str))), none, none, none, none, none] ⟨none, none, none, none, none, rfl⟩
  have fs : (casesP p (flU p q)).findSome? (fun c => if unlB p q c = true then some (SV.d (csD c)) else none) = (tellP p q).map fun c => SV.d (csD c) := by
    unfold tellP
    induction casesP p (flU p q) with
    | nil => rfl
    | cons x r ih =>
      rw [List.findSome?_cons, List.find?_cons]
      cases unlB p q x
      · exact ih
      · rfl
  rw [fs] at l1 l2
  have app : (sortSet (flagsP p)).map PyData.str ++ (sortSet (flagsP q)).map PyData.str = (sortSet (flagsP p) ++ sortSet (flagsP q)).map .str := by rw [List.map_append]
  have e3 : m_all_cases [.d (pD p), .d (.tuple ((sortSet (sortSet (flagsP p) ++ sortSet (flagsP q))).map .str))] μ = _ := e3
  cases t : tellP p q with
  | some c =>
    rw [t] at l1
    have l := l1 _ rfl
    simp only [bodyFu] at l
    simp [m_first_unlike, e1, e2, sz, sz2, app, e3, l, tellD, -List.map_append]
  | none =>
    rw [t] at l2
    obtain ⟨ρ', l, z4, z5, z6, z7, z8, e⟩ := l2 rfl
    subst e
    simp only [bodyFu] at l
    simp [m_first_unlike, e1, e2, sz, sz2, app, e3, l, tellD, -List.map_append]
theorem can_compare_ok (hp : Pipe p) (hq : Pipe q) (μ : Mu) : m_can_compare [.d (pD p), .d (pD q)] μ = some (.d (.bool (canB p q)), μ) := by
  have m8 := hp.most
  have m8' := hq.most
  have e1 := hp.flags μ
  have e2 := hq.flags μ
  have e3 := names_of_ok p (by omega) μ
  have e4 := names_of_ok q (by omega) μ
  have sz : szOk ((sortSet (flagsP p)).length + (sortSet (flagsP q)).length) = true := szOk_le (by have := hp.few; have := hq.few; omega)
  have sz2 : (sortSet (flagsP p)).length + (sortSet (flagsP q)).length ≤ 4000 := by have := hp.few; have := hq.few; omega
  have app : (sortSet (flagsP p)).map PyData.str ++ (sortSet (flagsP q)).map PyData.str = (sortSet (flagsP p) ++ sortSet (flagsP q)).map .str := by rw [List.map_append]
  have ok : ∀ {r : List Jb}, Pipe r → okD (.list ((sortStr (namesP r)).map .str)) = true := fun {r} hr => ok_strsL (fun x hx L n => nm_gd (hr.ok.nm x (perm_sortStr.mem_iff.mp hx)) L n) (by rw [perm_sortStr.length_eq, namesP, List.length_map]; have := hr.most; omega)
  have ne := ne_strsL (ok hp) (ok hq)
  have c3 : c_MOST_FLAGS = .int 3 := rfl
  unfold canB flU
  by_cases c : sortStr (namesP p) = sortStr (namesP q)
  · rw [c] at ne ⊢
    simp [m_can_compare, e1, e2, e3, e4, sortN, ne, c, sz, sz2, app, c3, -List.map_append]
    omega
  · simp [m_can_compare, e1, e2, e3, e4, sortN, ne, c, sz, sz2, app, c3, -List.map_append]
theorem telling_ok (H : Pair p q) (μ : Mu) : m_telling_case [.d (pD p), .d (pD q)] μ = some (.d (tellD (tellP p q)), μ) := by
  simp [m_telling_case, H.hp.need μ, H.hq.need μ, can_compare_ok H.hp H.hq μ, H.can, first_unlike_ok H μ]
theorem same_ok (H : Pair p q) (μ : Mu) : m_same_pipelines [.d (pD p), .d (pD q)] μ = some (.d (.bool (tellP p q).isNone), μ) := by
  cases t : tellP p q <;> simp [m_same_pipelines, telling_ok H μ, t, tellD, csD]
theorem x_need_ok (hp : Pipe p) (μ : Mu) : x_need_pipeline [.d (pD p)] μ = none := by simp [x_need_pipeline, hp.ok_is μ]
theorem x_telling_no (hp : Pipe p) (hq : Pipe q) (hc : canB p q = false) (μ : Mu) : x_telling_case [.d (pD p), .d (pD q)] μ = some (Str.ofString "InvalidPair", μ) := by
  simp [x_telling_case, x_need_ok hp μ, x_need_ok hq μ, hp.need μ, hq.need μ, can_compare_ok hp hq μ, hc]
theorem x_same_no (hp : Pipe p) (hq : Pipe q) (hc : canB p q = false) (μ : Mu) : x_same_pipelines [.d (pD p), .d (pD q)] μ = some (Str.ofString "InvalidPair", μ) := by
  simp [x_same_pipelines, x_telling_no hp hq hc μ]
end
end PJ
namespace PJ
open PySem PySem.Spec J L2
local instance : J.Tb := ⟨[]⟩
theorem IsG.flag_congr {N F : Str → Prop} {m : Nat} {ps : List (Str × Str)} {fl fl' : List Str} {st : Bool} {d : Nat} {c : PyData} (h : IsG N F m d c) (hw : ∀ w ∈ wordsOf (Str.ofString "flag") d c, (w ∈ fl ↔ w ∈ fl')) :
    holdsG ps fl st d c = holdsG ps fl' st d c := by
  induction h with
  | leaf h =>
    simp [leafL] at h
    rcases h with h | h | h | h <;> subst h <;> simp [holdsG]
  | flag h =>
    rename_i d f
    have := hw f (by simp [wordsOf])
    simp [holdsG, this]
  | is h1 h2 => simp [holdsG]
  | not h ih =>
    have := ih fun w q => hw w (by simpa [wordsOf] using q)
    simp [holdsG, this]
  | many h1 h2 h3 ih =>
    rename_i d v cs
    simp at h1
    have e : ∀ c ∈ cs, holdsG ps fl st d c = holdsG ps fl' st d c := fun c hc => ih c hc fun w q => hw w (by
      rcases h1 with h1 | h1 <;> subst h1 <;> simp [wordsOf] <;> exact ⟨c, hc, q⟩)
    have a : cs.all (holdsG ps fl st d) = cs.all (holdsG ps fl' st d) := by
      clear hw ih h3 h2
      induction cs with
      | nil => rfl
      | cons x r ih => rw [List.all_cons, List.all_cons, e x List.mem_cons_self, ih fun c hc => e c (List.mem_cons_of_mem _ hc)]
    have b : cs.any (holdsG ps fl st d) = cs.any (holdsG ps fl' st d) := by
      clear hw ih h3 h2 a
      induction cs with
      | nil => rfl
      | cons x r ih => rw [List.any_cons, List.any_cons, e x List.mem_cons_self, ih fun c hc => e c (List.mem_cons_of_mem _ hc)]
    rcases h1 with h1 | h1 <;> subst h1 <;> simp [holdsG, a, b]
theorem IsG.narrow {N N' F : Str → Prop} {m : Nat} {d : Nat} {c : PyData} (h : IsG N F m d c) (hw : ∀ w ∈ wordsOf (Str.ofString "is") d c, N' w) : IsG N' F m d c := by
  induction h with
  | leaf h => exact .leaf h
  | flag h => exact .flag h
  | is h1 h2 => exact .is (hw _ (by simp [wordsOf])) h2
  | not h ih => exact .not (ih fun w q => hw w (by simpa [wordsOf] using q))
  | many h1 h2 h3 ih =>
    refine .many h1 h2 fun c hc => ih c hc fun w q => hw w ?_
    simp at h1
    rcases h1 with h1 | h1 <;> subst h1 <;> simp [wordsOf] <;> exact ⟨c, hc, q⟩
theorem runP_cong {fl fl' bd bd' : List Str} : ∀ (p : List Jb) (ks : List Str) (k : List (Str × Str)), PipeOk ks p → (∀ f ∈ flagsP p, f ∈ fl ↔ f ∈ fl') → (∀ n ∈ namesP p, n ∈ bd ↔ n ∈ bd') → runP fl bd k p = runP fl' bd' k p
  | [], _, _, _, _, _ => rfl
  | j :: r, ks, k, ⟨h1, h2⟩, hf, hb => by
    have e1 : holdsG (seenOf k j.needs) fl false 4 j.cond = holdsG (seenOf k j.needs) fl' false 4 j.cond := h1.cond.flag_congr fun w hw => hf w (by
      unfold flagsP; rw [List.flatMap_cons]; exact List.mem_append_left _ hw)
    have e2 : endS bd j = endS bd' j := by
      have := hb j.nm (by simp [namesP])
      unfold endS
      simp [this]
    have e : stOf fl bd k j = stOf fl' bd' k j := by unfold stOf; rw [e1, e2]
    rw [runP, runP, e]
    exact runP_cong r _ _ h2 (fun f hf' => hf f (by unfold flagsP; rw [List.flatMap_cons]; exact List.mem_append_right _ hf')) fun n hn => hb n (by rw [namesP, List.map_cons]; exact List.mem_cons_of_mem _ hn)
/-- alike in all cases -/
def Alike (p q : List Jb) : Prop := ∀ fl bd, knownP p fl bd = knownP q fl bd
section
variable {p q : List Jb}
theorem known_eq {k l : List (Str × Str)} (h : k.map Prod.fst = l.map Prod.fst) (hn : (k.map Prod.fst).Nodup) (e : ∀ n ∈ k.map Prod.fst, lkS k n = lkS l n) : k = l := by
  induction k generalizing l with
  | nil =>
    cases l with
    | nil => rfl
    | cons a b => cases h
  | cons x k ih =>
    cases l with
    | nil => cases h
    | cons y l =>
      obtain ⟨a, b⟩ := x
      obtain ⟨c, d⟩ := y
      rw [List.map_cons, List.map_cons, List.cons.injEq] at h
      obtain ⟨h1, h2⟩ := h
      have h1 : a = c := h1
      subst h1
      rw [List.map_cons, List.nodup_cons] at hn
      have e0 := e a (by simp)
      rw [lkS_cons, lkS_cons, if_pos rfl, if_pos rfl] at e0
      subst e0
      rw [ih h2 hn.2 fun n hm => by
        have := e n (by rw [List.map_cons]; exact List.mem_cons_of_mem _ hm)
        have ne : ¬ a = n := fun q => hn.1 (q ▸ hm)
        rw [lkS_cons, lkS_cons, if_neg ne, if_neg ne] at this
        exact this]
theorem unl_false (H : Pair p q) (hn : namesP p = namesP q) (c : Cs) : unlB p q c = false ↔ knownP p (fOf p c.1) c.2 = knownP q (fOf q c.1) c.2 := by
  have f1 := knownP_fst p (fOf p c.1) c.2
  have f2 := knownP_fst q (fOf q c.1) c.2
  unfold unlB
  rw [List.any_eq_false]
  constructor
  · intro h
    refine known_eq (by rw [f1, f2, hn]) (by rw [f1]; exact H.hp.nd) fun n hm => ?_
    rw [f1] at hm
    have := h n hm
    unfold stP at this
    simpa using this
  · intro h n _
    unfold stP
    rw [h]; simp
theorem known_own (hp : Pipe p) (fl bd : List Str) : knownP p (fOf p fl) bd = knownP p fl bd := runP_cong p [] [] hp.ok (fun f hf => by
  unfold fOf
  rw [List.mem_filter, decide_eq_true_eq, mem_sortSet]
  exact ⟨fun h => h.1, fun h => ⟨h, hf⟩⟩) fun _ _ => Iff.rfl
theorem tell_none (H : Pair p q) (hn : namesP p = namesP q) : tellP p q = none ↔ Alike p q := by
  unfold tellP
  rw [List.find?_eq_none]
  constructor
  · intro h fl bd
    have hc : ((flU p q).filter fun f => decide (f ∈ fl), (sortStr (namesP p)).filter fun n => decide (n ∈ bd)) ∈ casesP p (flU p q) := by
      unfold casesP
      exact crossC_mem.mpr ⟨allParts_mem.mpr List.filter_sublist, allParts_mem.mpr List.filter_sublist⟩
    have u := h _ hc
    rw [Bool.not_eq_true, unl_false H hn, known_own H.hp, known_own H.hq] at u
    have e1 : knownP p fl bd = knownP p ((flU p q).filter fun f => decide (f ∈ fl)) ((sortStr (namesP p)).filter fun n => decide (n ∈ bd)) := runP_cong p [] [] H.hp.ok (fun f hf => by
      rw [List.mem_filter, decide_eq_true_eq]
      exact ⟨fun h => ⟨mem_sortSet.mpr (List.mem_append_left _ (mem_sortSet.mpr hf)), h⟩, fun h => h.2⟩) fun n hm => by
      rw [List.mem_filter, decide_eq_true_eq, perm_sortStr.mem_iff]
      exact ⟨fun h => ⟨hm, h⟩, fun h => h.2⟩
    have e2 : knownP q fl bd = knownP q ((flU p q).filter fun f => decide (f ∈ fl)) ((sortStr (namesP p)).filter fun n => decide (n ∈ bd)) := runP_cong q [] [] H.hq.ok (fun f hf => by
      rw [List.mem_filter, decide_eq_true_eq]
      exact ⟨fun h => ⟨mem_sortSet.mpr (List.mem_append_right _ (mem_sortSet.mpr hf)), h⟩, fun h => h.2⟩) fun n hm => by
      rw [List.mem_filter, decide_eq_true_eq, perm_sortStr.mem_iff, hn]
      exact ⟨fun h => ⟨hm, h⟩, fun h => h.2⟩
    rw [e1, e2]; exact u
  · intro h c _
    have : unlB p q c = false := by rw [unl_false H hn, known_own H.hp, known_own H.hq]; exact h _ _
    simp [this]
theorem pipe_mid : ∀ {a : List Jb} {ks : List Str} {j : Jb} {r : List Jb}, PipeOk ks (a ++ j :: r) → ∃ ks', JbOk ks' j ∧ ∀ j', j'.nm = j.nm → JbOk ks' j' → PipeOk ks (a ++ j' :: r)
  | [], ks, j, r, ⟨h1, h2⟩ => ⟨ks, h1, fun j' hn h => ⟨h, by rw [hn]; exact h2⟩⟩
  | x :: a, ks, j, r, ⟨h1, h2⟩ => by
    obtain ⟨ks', h3, h4⟩ := pipe_mid (a := a) (j := j) (r := r) h2
    exact ⟨ks', h3, fun j' hn h => ⟨h1, h4 j' hn h⟩⟩
theorem names_mid {a r : List Jb} {j j' : Jb} (h : j'.nm = j.nm) : namesP (a ++ j' :: r) = namesP (a ++ j :: r) := by
  unfold namesP; rw [List.map_append, List.map_cons, h, List.map_append, List.map_cons]
theorem pair_sub (hp : Pipe p) (hq : PipeOk [] q) (hn : namesP p = namesP q) (hf : ∀ f ∈ flagsP q, f ∈ flagsP p) : Pair p q := by
  have hl : p.length = q.length := by have := congrArg List.length hn; simpa [namesP] using this
  have few : (sortSet (flagsP q)).length ≤ 3 := Nat.le_trans (nodup_sub (strict_nodup (strict_sortSet _)) fun x hx => mem_sortSet.mpr (hf x (mem_sortSet.mp hx))) hp.few
  refine ⟨hp, ⟨hq, by have := hp.one; omega, by have := hp.most; omega, few⟩, fun n => by rw [hn], ?_⟩
  unfold flU
  refine Nat.le_trans (nodup_sub (strict_nodup (strict_sortSet _)) fun x hx => ?_) hp.few
  rw [mem_sortSet, List.mem_append, mem_sortSet, mem_sortSet] at hx
  exact mem_sortSet.mpr (hx.elim id (hf x))
theorem flU_sub (hf : ∀ f ∈ flagsP q, f ∈ flagsP p) : flU p q = sortSet (flagsP p) := sortSet_congr fun x => by
  rw [List.mem_append, mem_sortSet, mem_sortSet]
  exact ⟨fun h => h.elim id (hf x), .inl⟩
end
end PJ
namespace PJ
open PySem PySem.Spec J L2
local instance : J.Tb := ⟨[]⟩
def plains : List PyData := [.tuple [.str (Str.ofString "always")], .tuple [.str (Str.ofString "or")], .tuple [.str (Str.ofString "good")], .tuple [.str (Str.ofString "bad")]]
def RightC (a : List Jb) (j : Jb) (c : PyData) : Prop := ∀ fl bd, holdsG (seenOf (runP fl bd [] a) j.needs) fl false 4 c = holdsG (seenOf (runP fl bd [] a) j.needs) fl false 4 j.cond
noncomputable def rightB (a : List Jb) (j : Jb) (c : PyData) : Bool := @decide (RightC a j c) (Classical.propDecidable _)
theorem rightB_iff {a : List Jb} {j : Jb} {c : PyData} : rightB a j c = true ↔ RightC a j c := by unfold rightB; exact @decide_eq_true_iff _ (Classical.propDecidable _)
def withC (j : Jb) (c : PyData) : Jb := { j with cond := c }
noncomputable def leastJ (a : List Jb) (j : Jb) : Jb := match plains.find? (rightB a j) with
  | some c => withC j c
  | none => j
noncomputable def leastGo : List Jb → List Jb → List Jb
  | _, [] => []
  | a, j :: r => leastJ a j :: leastGo (a ++ [j]) r
noncomputable def leastP (p : List Jb) : List Jb := leastGo [] p
section
variable {a b r : List Jb} {j : Jb}
theorem leastJ_same (a : List Jb) (j : Jb) : (leastJ a j).nm = j.nm ∧ (leastJ a j).needs = j.needs ∧ (leastJ a j).reads = j.reads ∧ (leastJ a j).soft = j.soft ∧ RightC a j (leastJ a j).cond := by
  unfold leastJ
  split
  · rename_i c h
    exact ⟨rfl, rfl, rfl, rfl, rightB_iff.mp (List.find?_some h)⟩
  · exact ⟨rfl, rfl, rfl, rfl, fun _ _ => rfl⟩
theorem stOf_least (a : List Jb) (j : Jb) (fl bd : List Str) : stOf fl bd (runP fl bd [] a) (leastJ a j) = stOf fl bd (runP fl bd [] a) j := by
  obtain ⟨h1, h2, h3, h4, h5⟩ := leastJ_same a j
  unfold stOf endS
  rw [h1, h2, h4, h5 fl bd]
theorem run_one (fl bd : List Str) (k : List (Str × Str)) (j : Jb) : runP fl bd k [j] = k ++ [(j.nm, stOf fl bd k j)] := rfl
theorem run_snoc (h : ∀ fl bd, runP fl bd [] b = runP fl bd [] a) (fl bd : List Str) : runP fl bd [] (b ++ [leastJ a j]) = runP fl bd [] (a ++ [j]) := by
  rw [runP_app, runP_app, h fl bd, run_one, run_one, stOf_least, (leastJ_same a j).1]
theorem least_run : ∀ (r a b : List Jb), (∀ fl bd, runP fl bd [] b = runP fl bd [] a) → ∀ fl bd, runP fl bd [] (b ++ leastGo a r) = runP fl bd [] (a ++ r)
  | [], a, b, h => fun fl bd => by simpa [leastGo] using h fl bd
  | j :: r, a, b, h => fun fl bd => by
    have := least_run r (a ++ [j]) (b ++ [leastJ a j]) (run_snoc h) fl bd
    rw [leastGo]
    simpa using this
theorem right_same (h : ∀ fl bd, runP fl bd [] b = runP fl bd [] a) (c : PyData) : rightB b (leastJ a j) c = rightB a j c := by
  obtain ⟨h1, h2, h3, h4, h5⟩ := leastJ_same a j
  refine Bool.eq_iff_iff.mpr ?_
  rw [rightB_iff, rightB_iff]
  unfold RightC at h5 ⊢
  rw [h2]
  constructor
  · intro q fl bd
    rw [← h5 fl bd, ← h fl bd]; exact q fl bd
  · intro q fl bd
    rw [h fl bd, q fl bd, h5 fl bd]
theorem leastJ_idem (h : ∀ fl bd, runP fl bd [] b = runP fl bd [] a) : leastJ b (leastJ a j) = leastJ a j := by
  have e : rightB b (leastJ a j) = rightB a j := funext fun c => right_same h c
  rw [leastJ, e]
  unfold leastJ
  cases plains.find? (rightB a j) <;> rfl
theorem least_idem : ∀ (r a b : List Jb), (∀ fl bd, runP fl bd [] b = runP fl bd [] a) → leastGo b (leastGo a r) = leastGo a r
  | [], a, b, h => rfl
  | j :: r, a, b, h => by
    rw [leastGo, leastGo, leastJ_idem h, least_idem r (a ++ [j]) (b ++ [leastJ a j]) (run_snoc h)]
theorem leastP_idem (p : List Jb) : leastP (leastP p) = leastP p := least_idem p [] [] fun _ _ => rfl
theorem least_alike (p : List Jb) : Alike p (leastP p) := fun fl bd => by
  have := least_run p [] [] (fun _ _ => rfl) fl bd
  simpa [leastP, knownP] using this.symm
theorem plain_g {N F : Str → Prop} {c : PyData} (h : c ∈ plains) : IsG N F 4 4 c := by
  simp [plains] at h
  rcases h with h | h | h | h <;> subst h
  · exact .leaf (by simp [leafL])
  · exact .many (by simp) (by simp) (by simp)
  · exact .leaf (by simp [leafL])
  · exact .leaf (by simp [leafL])
theorem plain_flags {c : PyData} (h : c ∈ plains) : wordsOf (Str.ofString "flag") 4 c = [] := by
  simp [plains] at h
  rcases h with h | h | h | h <;> subst h <;> simp [wordsOf]
theorem JbOk.withC {ks : List Str} {c : PyData} (h : JbOk ks j) (hc : c ∈ plains) : JbOk ks (withC j c) :=
  ⟨h.nm, h.new, h.nnm, h.nst, h.nlen, h.nin, plain_g hc, h.rnm, h.rst, h.rlen⟩
theorem leastJ_or (a : List Jb) (j : Jb) : leastJ a j = j ∨ ∃ c ∈ plains, leastJ a j = withC j c := by
  unfold leastJ
  split
  · rename_i c h
    exact .inr ⟨c, List.mem_of_find?_eq_some h, rfl⟩
  · exact .inl rfl
theorem least_ok : ∀ {r a : List Jb} {ks : List Str}, PipeOk ks r → PipeOk ks (leastGo a r)
  | [], a, ks, _ => trivial
  | j :: r, a, ks, ⟨h1, h2⟩ => by
    refine ⟨?_, by rw [(leastJ_same a j).1]; exact least_ok h2⟩
    rcases leastJ_or a j with e | ⟨c, hc, e⟩
    · rw [e]; exact h1
    · rw [e]; exact h1.withC hc
theorem least_flags : ∀ {r a : List Jb}, ∀ f ∈ flagsP (leastGo a r), f ∈ flagsP r
  | [], a, f, h => h
  | j :: r, a, f, h => by
    rw [leastGo] at h
    unfold flagsP at h ⊢
    rw [List.flatMap_cons] at h ⊢
    rcases List.mem_append.mp h with h | h
    · rcases leastJ_or a j with e | ⟨c, hc, e⟩
      · rw [e] at h; exact List.mem_append_left _ h
      · rw [e] at h
        have : wordsOf (Str.ofString "flag") 4 (withC j c).cond = [] := plain_flags hc
        rw [this] at h; cases h
    · exact List.mem_append_right _ (least_flags f h)
theorem least_names : ∀ {r a : List Jb}, namesP (leastGo a r) = namesP r
  | [], a => rfl
  | j :: r, a => by
    rw [leastGo]
    unfold namesP
    rw [List.map_cons, List.map_cons, (leastJ_same a j).1]
    congr 1
    exact least_names
theorem least_pair {p : List Jb} (hp : Pipe p) : Pair p (leastP p) := pair_sub hp (least_ok hp.ok) least_names.symm least_flags
theorem flags_mid {j' : Jb} (h : ∀ f ∈ wordsOf (Str.ofString "flag") 4 j'.cond, f ∈ wordsOf (Str.ofString "flag") 4 j.cond) : ∀ f ∈ flagsP (a ++ j' :: r), f ∈ flagsP (a ++ j :: r) := fun f hf => by
  unfold flagsP at hf ⊢
  rw [List.flatMap_append, List.flatMap_cons] at hf ⊢
  rcases List.mem_append.mp hf with hf | hf
  · exact List.mem_append_left _ hf
  · rcases List.mem_append.mp hf with hf | hf
    · exact List.mem_append_right _ (List.mem_append_left _ (h f hf))
    · exact List.mem_append_right _ (List.mem_append_right _ hf)
theorem plain_pair {c : PyData} (hp : Pipe (a ++ j :: r)) (hc : c ∈ plains) : Pair (a ++ j :: r) (a ++ withC j c :: r) := by
  obtain ⟨ks, h1, h2⟩ := pipe_mid hp.ok
  exact pair_sub hp (h2 (withC j c) rfl (h1.withC hc)) (names_mid rfl) (flags_mid fun f hf => by
    have : wordsOf (Str.ofString "flag") 4 (withC j c).cond = [] := plain_flags hc
    rw [this] at hf; cases hf)
theorem stOf_iff {fl bd : List Str} {k : List (Str × Str)} {c : PyData} : stOf fl bd k (withC j c) = stOf fl bd k j ↔ holdsG (seenOf k j.needs) fl false 4 c = holdsG (seenOf k j.needs) fl false 4 j.cond := by
  have ne := endS_ne bd j
  have e : endS bd (withC j c) = endS bd j := rfl
  unfold stOf
  rw [e]
  show (if holdsG (seenOf k j.needs) fl false 4 c = true then endS bd j else passed) = _ ↔ _
  cases holdsG (seenOf k j.needs) fl false 4 c <;> cases holdsG (seenOf k j.needs) fl false 4 j.cond
  · simp
  · simp; exact fun h => ne h.symm
  · simp; exact ne
  · simp
theorem tell_plain {c : PyData} (hp : Pipe (a ++ j :: r)) (hc : c ∈ plains) : (tellP (a ++ j :: r) (a ++ withC j c :: r)).isNone = rightB a j c := by
  refine Bool.eq_iff_iff.mpr ?_
  rw [Option.isNone_iff_eq_none, tell_none (plain_pair hp hc) (names_mid (j := j) (j' := withC j c) rfl).symm, rightB_iff]
  unfold Alike RightC
  constructor
  · intro h fl bd
    rw [← stOf_iff (bd := bd)]
    have e := h fl bd
    have hn : j.nm ∉ (runP fl bd [] a).map Prod.fst := by
      have f : (runP fl bd [] a).map Prod.fst = namesP a := knownP_fst a fl bd
      rw [f]
      have := hp.nd
      unfold namesP at this ⊢
      rw [List.map_append, List.map_cons] at this
      intro hm
      exact (List.nodup_append.mp this).2.2 _ hm _ (List.mem_cons_self) rfl
    unfold knownP at e
    rw [runP_app, runP_app] at e
    have e2 := congrArg (fun k => lkS k j.nm) e
    rw [lkS_head hn] at e2
    have e3 : lkS (runP fl bd (runP fl bd [] a) (withC j c :: r)) (withC j c).nm = stOf fl bd (runP fl bd [] a) (withC j c) := lkS_head hn
    rw [show (withC j c).nm = j.nm from rfl] at e3
    rw [← e3, ← e2]
  · intro h fl bd
    unfold knownP
    rw [runP_app, runP_app, runP, runP, stOf_iff.mpr (h fl bd)]
    rfl
end
end PJ
namespace PJ
open PySem PySem.Spec J L2
local instance : J.Tb := ⟨[]⟩
theorem same_dcS {kb : List (Str × Str)} : ∀ {k : List (Str × Str)}, (∀ n ∈ k.map Prod.fst, n ∈ kb.map Prod.fst) → sameIn (dcS kb) (dcS k) = k.all fun p => p.2 == lkS kb p.1
  | [], _ => rfl
  | (n, s) :: r, h => by
    have a := assoc_dcS (h n (by simp))
    have ih := same_dcS (kb := kb) (k := r) fun m hm => h m (by simp at hm ⊢; exact .inr hm)
    show (match assocK (dcS kb) (.inr n) with
      | some d => PyData.eqv (.str s) d && sameIn (dcS kb) (dcS r)
      | none => false) = _
    rw [a]
    dsimp only
    rw [ih, eqv_str, List.all_cons]
theorem all_lkS : ∀ {k : List (Str × Str)} {f : Str → Str}, (k.map Prod.fst).Nodup → (k.all fun p => p.2 == f p.1) = (k.map Prod.fst).all fun n => lkS k n == f n
  | [], f, _ => rfl
  | (n, s) :: r, f, h => by
    rw [List.map_cons, List.nodup_cons] at h
    rw [List.all_cons, List.map_cons, List.all_cons, all_lkS h.2]
    dsimp only
    rw [lkS_cons, if_pos rfl]
    congr 1
    have : ∀ m ∈ r.map Prod.fst, lkS ((n, s) :: r) m = lkS r m := fun m hm => by
      rw [lkS_cons, if_neg fun (e : n = m) => h.1 (by show n ∈ r.map Prod.fst; rw [e]; exact hm)]
    exact Bool.eq_iff_iff.mpr (by rw [List.all_eq_true, List.all_eq_true]; exact ⟨fun q x hx => by rw [this x hx]; exact q x hx, fun q x hx => by rw [← this x hx]; exact q x hx⟩)
theorem ok_dcS {k : List (Str × Str)} (h : KnOk k) : okKv (dcS k) = true := by
  unfold okKv dcS
  rw [List.all_map, List.all_eq_true]
  intro p hp
  exact gd_okD (n := 0) (stat_gd (h.st p hp) _ _) (by omega)
section
variable {p q : List Jb}
theorem len_names {a b : List Str} (ha : a.Nodup) (hb : b.Nodup) (h : ∀ n, n ∈ a ↔ n ∈ b) : a.length = b.length := Nat.le_antisymm (nodup_sub ha fun x hx => (h x).mp hx) (nodup_sub hb fun x hx => (h x).mpr hx)
theorem ne_known (H : Pair p q) (c : Cs) : neU (dD (knownP p (fOf p c.1) c.2)) (dD (knownP q (fOf q c.1) c.2)) = some (unlB p q c) := by
  have f1 := knownP_fst p (fOf p c.1) c.2
  have f2 := knownP_fst q (fOf q c.1) c.2
  have n1 : ((knownP p (fOf p c.1) c.2).map Prod.fst).Nodup := by rw [f1]; exact H.hp.nd
  have l1 : (dcS (knownP p (fOf p c.1) c.2)).length = (dcS (knownP q (fOf q c.1) c.2)).length := by
    have a := congrArg List.length f1
    have b := congrArg List.length f2
    rw [List.length_map] at a b
    unfold dcS
    rw [List.length_map, List.length_map, a, b]
    exact len_names H.hp.nd H.hq.nd H.nm
  unfold dD neU
  simp only [SO.data, unK_map, Option.bind_some, ok_dcS (knownP_st _ _ _), Bool.and_self, if_true]
  congr 1
  unfold dictEq
  rw [l1, beq_self_eq_true, Bool.true_and, same_dcS (fun n hn => by rw [f2]; rw [f1] at hn; exact (H.nm n).mp hn), all_lkS n1, f1]
  unfold unlB stP
  induction namesP p with
  | nil => rfl
  | cons x r ih => rw [List.all_cons, List.any_cons, Bool.not_and, ih]
end
end PJ
namespace PJ
open PySem PySem.Spec J L2
local instance : J.Tb := ⟨[]⟩
section
variable {a b r : List Jb} {j x : Jb}
theorem take_mid {α : Type} (b : List α) (x : α) (r : List α) : (b ++ x :: r).take b.length = b := by simp
theorem drop_mid {α : Type} (b : List α) (x : α) (r : List α) : (b ++ x :: r).drop (b.length + 1) = r := by
  rw [show b.length + 1 = (b ++ [x]).length by simp, show b ++ x :: r = (b ++ [x]) ++ r by simp]
  exact List.drop_left
theorem cut_pre (b : List PyData) (x : PyData) (r : List PyData) {n : Int} (hn : n = b.length) : cutD (b ++ x :: r) none (some n) = b := by
  rw [hn, cut_to, take_mid]
theorem cut_post (b : List PyData) (x : PyData) (r : List PyData) {n : Int} (hn : n = b.length + 1) : cutD (b ++ x :: r) (some n) none = r := by
  rw [hn, show ((b.length : Int) + 1) = ((b.length + 1 : Nat) : Int) by omega, cut_from, drop_mid]
theorem with_job_ok {y : Jb} (hl : b.length + r.length ≤ 1000) (μ : Mu) : m_with_job [.d (pD (b ++ x :: r)), .d (.int (b.length : Nat)), .d y.d] μ = some (.d (pD (b ++ y :: r)), μ) := by
  have z1 : szOk (b.length + 1) = true := szOk_le (by omega)
  have z2 : szOk (b.length + 1 + r.length) = true := szOk_le (by omega)
  have c1 := cut_pre (b.map Jb.d) x.d (r.map Jb.d) (n := (b.length : Int)) (by simp)
  have c2 := cut_post (b.map Jb.d) x.d (r.map Jb.d) (n := (b.length : Int) + 1) (by simp)
  unfold pD
  rw [List.map_append, List.map_cons, List.map_append, List.map_cons]
  generalize x.d = xd at *
  generalize y.d = yd at *
  simp [m_with_job, c1, c2, z1, z2]
theorem law_with_ok {ns : List Str} {c : PyData} (hl : b.length + r.length ≤ 1000) (μ : Mu) : m__law_with [.d (pD (b ++ x :: r)), .d (.int (b.length : Nat)), .d (.tuple (ns.map .str)), .d c] μ = some (.d (pD (b ++ ⟨x.nm, ns, c, x.reads, x.soft⟩ :: r)), μ) := by
  have z1 : szOk (b.length + 1) = true := szOk_le (by omega)
  have z2 : szOk (b.length + 1 + r.length) = true := szOk_le (by omega)
  have c1 := cut_pre (b.map Jb.d) x.d (r.map Jb.d) (n := (b.length : Int)) (by simp)
  have c2 := cut_post (b.map Jb.d) x.d (r.map Jb.d) (n := (b.length : Int) + 1) (by simp)
  have i0 : atI (b.map Jb.d ++ x.d :: r.map Jb.d) (b.length : Nat) = some x.d := by
    rw [J.atI_nat, List.getElem?_append_right (by simp)]; simp
  unfold pD
  rw [List.map_append, List.map_cons, List.map_append, List.map_cons]
  have e : x.d = .tuple [.str x.nm, .tuple (x.needs.map .str), x.cond, .tuple (x.reads.map .str), .bool x.soft] := rfl
  have e2 : Jb.d ⟨x.nm, ns, c, x.reads, x.soft⟩ = .tuple [.str x.nm, .tuple (ns.map .str), c, .tuple (x.reads.map .str), .bool x.soft] := rfl
  rw [e2]
  generalize x.d = xd at *
  generalize hL : b.map Jb.d ++ xd :: r.map Jb.d = L at *
  have lb : (b.map Jb.d).length = b.length := List.length_map _
  simp [m__law_with, i0, e, c1, c2, z1, z2]
theorem findSome_if {α β : Type} (f : α → Bool) (g : α → β) : ∀ l : List α, l.findSome? (fun c => if f c = true then some (g c) else none) = (l.find? f).map g
  | [] => rfl
  | x :: r => by
    rw [List.findSome?_cons, List.find?_cons]
    cases h : f x
    · simp only [Bool.false_eq_true, if_false]; exact findSome_if f g r
    · simp
theorem law_same_ok {p q : List Jb} (H : Pair p q) (hf : ∀ f ∈ flagsP q, f ∈ flagsP p) (μ : Mu) : m__law_same [.d (pD p), .d (pD q)] μ = some (.d (.bool (tellP p q).isNone), μ) := by
  have m8 := H.hp.most
  have m8' := H.hq.most
  have e1 := H.hq.lawflags μ
  have e3 := law_cases_ok H.hp μ
  obtain ⟨l1, l2⟩ := foGo_res (t := .t [3, 4]) (s := (sqF (stF 5 (biF tupD (consF (frF (lcF (.n 6) (seqF (vF 3)) (cmBF inD (vF 6) (vF 2)) (vF 6) [6])) nilF))) (ifF (cmBF neU (clF m__law_known (consF (vF 0) (consF (vF 3) (consF (vF 4) nilF)))) (clF m__law_known (consF (vF 1) (consF (vF 5) (consF (vF 4) nilF))))) (rtF (cF (.bool false))) skipF))) (μ := μ) csD (fun c => if unlB p q c = true then some (SV.d (.bool false)) else none)
    (fun ρ => ∃ z3 z4 z5 z6, ρ = [some (.d (pD p)), some (.d (pD q)), some (.d (.tuple ((sortSet (flagsP q)).map .str))), z3, z4, z5, z6])
    (lawCases p) (fun c hc ρ ⟨z3, z4, z5, z6, e⟩ => by
      subst e
      have hc1 := (crossC_mem.mp hc).1
      have hc2 := (crossC_mem.mp hc).2
      have sub := partsU_mem.mp hc1
      have ps : sortStr (sortSet (flagsP p)) = sortSet (flagsP p) := sortStr_strict (strict_sortSet _)
      rw [ps] at sub
      have l3 : c.1.length ≤ 3 := Nat.le_trans sub.length_le H.hp.few
      have own : fOf p c.1 = c.1 := by
        unfold fOf
        rw [List.filter_eq_self]
        exact fun f h => by simpa using sub.mem h
      have i2 := fun x => in_T x (sortSet (flagsP q))
      have k1 := law_known_ok H.hp.ok (by omega) (fl := c.1) (inT_dec c.2) μ
      have k2 := law_known_ok H.hq.ok (by omega) (fl := fOf q c.1) (inT_dec c.2) μ
      have g2 : lcGoF (.n 6) (cmBF inD (vF 6) (vF 2)) (vF 6) none [some (.d (pD p)), some (.d (pD q)), some (.d (.tuple ((sortSet (flagsP q)).map .str))), some (.d (tupS c.1)), some (.d (tupS c.2)), z5, none] (c.1.map .str) μ = some ((fOf q c.1).map .str, μ) := lc_strs _ _ _ fun x hx => by
        simp [i2, -inD]
      have z1 : szOk c.1.length = true := szOk_le (by omega)
      have ne := ne_known H c
      rw [own] at ne
      refine ⟨_, rfl, fun v hv => ?_, fun hv => ?_⟩
      · by_cases u : unlB p q c = true
        · rw [if_pos u] at hv
          cases hv
          simp only [tupS] at g2 k1 k2 ⊢
          simp [g2, z1, k1, k2, ne, u, csD, tupS]
        · rw [if_neg u] at hv; cases hv
      · by_cases u : unlB p q c = true
        · rw [if_pos u] at hv; cases hv
        · refine ⟨[some (.d (pD p)), some (.d (pD q)), some (.d (.tuple ((sortSet (flagsP q)).map .str))), some (.d (tupS c.1)), some (.d (tupS c.2)), some (.d (.tuple ((fOf q c.1).map .str))), z6], ?_, _, _, _, _, rfl⟩
          simp only [tupS] at g2 k1 k2 ⊢
          simp [g2, z1, k1, k2, ne, u, csD, tupS]) [some (.d (pD p)), some (.d (pD q)), some (.d (.tuple ((sortSet (flagsP q)).map .str))), none, none, none, none] ⟨none, none, none, none, rfl⟩
  have mem : ∀ c, c ∈ lawCases p ↔ c ∈ casesP p (flU p q) := fun c => by
    have ps : sortStr (sortSet (flagsP p)) = sortSet (flagsP p) := sortStr_strict (strict_sortSet _)
    unfold lawCases casesP
    rw [crossC_mem, crossC_mem, flU_sub hf, ps, partsU_mem, partsU_mem, allParts_mem, allParts_mem]
  cases t : tellP p q with
  | some c =>
    have hc : c ∈ lawCases p := (mem c).mpr (List.mem_of_find?_eq_some t)
    have hu : unlB p q c = true := List.find?_some t
    have fs : (lawCases p).findSome? (fun c => if unlB p q c = true then some (SV.d (.bool false)) else none) = some (.d (.bool false)) := by
      rw [findSome_if]
      have : ((lawCases p).find? (unlB p q)).isSome = true := List.find?_isSome.mpr ⟨c, hc, hu⟩
      cases e : (lawCases p).find? (unlB p q) with
      | none => rw [e] at this; cases this
      | some x => rfl
    have l := l1 _ fs
    simp [m__law_same, e1, e3, l]
  | none =>
    have hu : ∀ c ∈ lawCases p, unlB p q c = false := fun c hc => by
      have := List.find?_eq_none.mp t c ((mem c).mp hc)
      simpa using this
    have fs : (lawCases p).findSome? (fun c => if unlB p q c = true then some (SV.d (.bool false)) else none) = none := by
      rw [List.findSome?_eq_none_iff]
      intro c hc
      simp [hu c hc]
    obtain ⟨ρ', l, z3, z4, z5, z6, e⟩ := l2 fs
    subst e
    simp [m__law_same, e1, e3, l]
theorem find_tell {α : Type} (f : α → Bool) (g : α → Bool) : ∀ l : List α, (∀ x ∈ l, f x = g x) → l.find? f = l.find? g
  | [], _ => rfl
  | x :: r, h => by
    rw [List.find?_cons, List.find?_cons, h x List.mem_cons_self, find_tell f g r fun y hy => h y (List.mem_cons_of_mem _ hy)]
theorem law_plain_ok (hp : Pipe (a ++ j :: r)) (μ : Mu) : m__law_plain [.d (pD (a ++ j :: r)), .d (.int (a.length : Nat))] μ = some (.d (leastJ a j).cond, μ) := by
  have hl : a.length + r.length ≤ 1000 := by have := hp.most; simp at this; omega
  have i0 : atI ((a ++ j :: r).map Jb.d) (a.length : Nat) = some j.d := by
    rw [J.atI_nat, List.map_append, List.map_cons, List.getElem?_append_right (by simp)]; simp
  have e : j.d = .tuple [.str j.nm, .tuple (j.needs.map .str), j.cond, .tuple (j.reads.map .str), .bool j.soft] := rfl
  have same : ∀ c ∈ plains, m__law_same [.d (pD (a ++ j :: r)), .d (pD (a ++ withC j c :: r))] μ = some (.d (.bool (rightB a j c)), μ) := fun c hc => by
    have H := plain_pair hp hc
    rw [law_same_ok H (flags_mid fun f hf => by
      have : wordsOf (Str.ofString "flag") 4 (withC j c).cond = [] := plain_flags hc
      rw [this] at hf; cases hf) μ, tell_plain hp hc]
  obtain ⟨l1, l2⟩ := foGo_res (t := .n 2) (s := (ifF (bF (clF m__law_same (consF (vF 0) (consF (clF m__law_with (consF (vF 0) (consF (vF 1) (consF (ixF (ixF (vF 0) (vF 1)) (cF (.int 1))) (consF (vF 2) nilF))))) nilF)))) (rtF (vF 2)) skipF)) (μ := μ) id (fun c => if rightB a j c = true then some (SV.d c) else none)
    (fun ρ => ∃ z2, ρ = [some (.d (pD (a ++ j :: r))), some (.d (.int (a.length : Nat))), z2])
    plains (fun c hc ρ ⟨z2, e'⟩ => by
      subst e'
      have w := law_with_ok (b := a) (x := j) (r := r) (ns := j.needs) (c := c) hl μ
      have s1 := same c hc
      have pe : pD (a ++ j :: r) = .tuple ((a ++ j :: r).map Jb.d) := rfl
      have w2 : withC j c = ⟨j.nm, j.needs, c, j.reads, j.soft⟩ := rfl
      rw [← w2] at w
      refine ⟨_, rfl, fun v hv => ?_, fun hv => ?_⟩
      · by_cases u : rightB a j c = true
        · rw [if_pos u] at hv
          cases hv
          rw [u] at s1
          rw [pe] at w s1 ⊢
          generalize (a ++ j :: r).map Jb.d = L at *
          simp [i0, e, w, s1]
        · rw [if_neg u] at hv; cases hv
      · by_cases u : rightB a j c = true
        · rw [if_pos u] at hv; cases hv
        · refine ⟨[some (.d (pD (a ++ j :: r))), some (.d (.int (a.length : Nat))), some (.d c)], ?_, _, rfl⟩
          rw [Bool.not_eq_true] at u
          rw [u] at s1
          rw [pe] at w s1 ⊢
          generalize (a ++ j :: r).map Jb.d = L at *
          simp [i0, e, w, s1]) [some (.d (pD (a ++ j :: r))), some (.d (.int (a.length : Nat))), none] ⟨none, rfl⟩
  have fs : plains.findSome? (fun c => if rightB a j c = true then some (SV.d c) else none) = (plains.find? (rightB a j)).map SV.d := findSome_if _ _ _
  rw [fs] at l1 l2
  rw [List.map_id] at l1 l2
  have pe : pD (a ++ j :: r) = .tuple ((a ++ j :: r).map Jb.d) := rfl
  unfold leastJ
  cases t : plains.find? (rightB a j) with
  | some c =>
    rw [t] at l1
    have l := l1 _ rfl
    unfold plains at l
    simp [m__law_plain, l]
    rfl
  | none =>
    rw [t] at l2
    obtain ⟨ρ', l, z2, e'⟩ := l2 rfl
    subst e'
    unfold plains at l
    rw [pe] at l ⊢
    generalize (a ++ j :: r).map Jb.d = L at *
    simp [m__law_plain, l, i0, e]
end
end PJ
namespace PJ
open PySem PySem.Spec J L2
local instance : J.Tb := ⟨[]⟩
section
variable {a r : List Jb} {j : Jb}
def optD : Option PyData → PyData
  | some c => c
  | none => .none
noncomputable abbrev bodyLi : FS := (sqF (stF 6 (clF m_with_job (consF (vF 0) (consF (vF 2) (consF (opF addD (opF addD (slF (vF 3) noF (someF (cF (.int 2)))) (tupF (consF (vF 5) nilF))) (slF (vF 3) (someF (cF (.int 3))) noF)) nilF))))) (ifF (andBF (bF (isnF (vF 4))) (bF (isnF (clF m_first_unlike (consF (vF 0) (consF (vF 6) nilF)))))) (stF 4 (vF 5)) skipF))
theorem job_cuts (j : Jb) : cutD [.str j.nm, .tuple (j.needs.map .str), j.cond, .tuple (j.reads.map .str), .bool j.soft] none (some 2) = [.str j.nm, .tuple (j.needs.map .str)] ∧
    cutD [.str j.nm, .tuple (j.needs.map .str), j.cond, .tuple (j.reads.map .str), .bool j.soft] (some 3) none = [.tuple (j.reads.map .str), .bool j.soft] := ⟨cut_to _ 2, cut_from _ 3⟩
theorem plain_tup {c : PyData} (h : c ∈ plains) : ∃ ds, c = .tuple ds := by
  simp [plains] at h
  rcases h with h | h | h | h <;> exact ⟨_, h⟩
theorem bodyLi_ok (hp : Pipe (a ++ j :: r)) {c : PyData} (hc : c ∈ plains) {F : PyData} (v : Option PyData) (hv : ∀ c, v = some c → c ∈ plains) (z6 : Option SV) (μ : Mu) :
    bodyLi [some (.d (pD (a ++ j :: r))), some (.d F), some (.d (.int (a.length : Nat))), some (.d j.d), some (.d (optD v)), some (.d c), z6] μ =
      some (.nx [some (.d (pD (a ++ j :: r))), some (.d F), some (.d (.int (a.length : Nat))), some (.d j.d), some (.d (optD (v.or (if rightB a j c = true then some c else none)))), some (.d c), some (.d (pD (a ++ withC j c :: r)))] μ) := by
  have hl : a.length + r.length ≤ 1000 := by have := hp.most; simp at this; omega
  have w := with_job_ok (b := a) (x := j) (r := r) (y := withC j c) hl μ
  have f := first_unlike_ok (plain_pair hp hc) μ
  have t := tell_plain hp hc
  obtain ⟨c1, c2⟩ := job_cuts j
  have e : j.d = .tuple [.str j.nm, .tuple (j.needs.map .str), j.cond, .tuple (j.reads.map .str), .bool j.soft] := rfl
  have e2 : (withC j c).d = .tuple [.str j.nm, .tuple (j.needs.map .str), c, .tuple (j.reads.map .str), .bool j.soft] := rfl
  rw [e2] at w
  rw [e]
  generalize pD (a ++ j :: r) = P at *
  generalize pD (a ++ withC j c :: r) = P2 at *
  cases v with
  | some v0 =>
    obtain ⟨ds, rfl⟩ := plain_tup (hv v0 rfl)
    simp [bodyLi, c1, c2, w, optD]
  | none =>
    cases tt : tellP (a ++ j :: r) (a ++ withC j c :: r) with
    | none =>
      rw [tt] at f t
      have t : rightB a j c = true := by simpa using t.symm
      simp [bodyLi, c1, c2, w, optD, f, tellD, t]
    | some x =>
      rw [tt] at f t
      have t : rightB a j c = false := by simpa using t.symm
      simp [bodyLi, c1, c2, w, optD, f, tellD, t, csD]
theorem inner_li (hp : Pipe (a ++ j :: r)) {F : PyData} (μ : Mu) : ∀ (cs : List PyData) (v : Option PyData) (z5 z6 : Option SV), (∀ c ∈ cs, c ∈ plains) → (∀ c, v = some c → c ∈ plains) →
    ∃ y5 y6, foGo (.n 5) bodyLi none cs [some (.d (pD (a ++ j :: r))), some (.d F), some (.d (.int (a.length : Nat))), some (.d j.d), some (.d (optD v)), z5, z6] μ =
      some (.nx [some (.d (pD (a ++ j :: r))), some (.d F), some (.d (.int (a.length : Nat))), some (.d j.d), some (.d (optD (v.or (cs.find? (rightB a j))))), y5, y6] μ)
  | [], v, z5, z6, _, _ => ⟨z5, z6, by simp [foGo]⟩
  | c :: cs, v, z5, z6, hc, hv => by
    have hb := bodyLi_ok hp (hc c List.mem_cons_self) (F := F) v hv z6 μ
    obtain ⟨y5, y6, ih⟩ := inner_li hp (F := F) μ cs (v.or (if rightB a j c = true then some c else none)) (some (.d c)) (some (.d (pD (a ++ withC j c :: r)))) (fun x hx => hc x (List.mem_cons_of_mem _ hx)) fun x hx => by
      cases v with
      | some v0 => exact hv x hx
      | none =>
        simp at hx
        rw [← hx.2]; exact hc c List.mem_cons_self
    refine ⟨y5, y6, ?_⟩
    have un : foGo (.n 5) bodyLi none (c :: cs) [some (.d (pD (a ++ j :: r))), some (.d F), some (.d (.int (a.length : Nat))), some (.d j.d), some (.d (optD v)), z5, z6] μ =
        fnext (bodyLi [some (.d (pD (a ++ j :: r))), some (.d F), some (.d (.int (a.length : Nat))), some (.d j.d), some (.d (optD v)), some (.d c), z6] μ) (foGo (.n 5) bodyLi none cs) := by
      rw [foGo]; rfl
    have e : (v.or (if rightB a j c = true then some c else none)).or (cs.find? (rightB a j)) = v.or ((c :: cs).find? (rightB a j)) := by
      rw [List.find?_cons]
      cases v with
      | some v0 => rfl
      | none => cases rightB a j c <;> rfl
    rw [un, hb, fnext_nx, ih, e]
noncomputable abbrev bodyLo : FS := (sqF (stF 4 (cF (.none))) (sqF (foF (.n 5) (seqF (tupF (consF (tupF (consF (cF (.str "always")) nilF)) (consF (tupF (consF (cF (.str "or")) nilF)) (consF (tupF (consF (cF (.str "good")) nilF)) (consF (tupF (consF (cF (.str "bad")) nilF)) nilF)))))) bodyLi) (ifF (bF (nonF (vF 4))) (stF 1 (clF m_with_job (consF (vF 1) (consF (vF 2) (consF (opF addD (opF addD (slF (vF 3) noF (someF (cF (.int 2)))) (tupF (consF (vF 4) nilF))) (slF (vF 3) (someF (cF (.int 3))) noF)) nilF))))) skipF)))
theorem least_len : ∀ (r a : List Jb), (leastGo a r).length = r.length
  | [], _ => rfl
  | j :: r, a => by rw [leastGo, List.length_cons, List.length_cons, least_len r]
theorem bodyLo_ok (hp : Pipe (a ++ j :: r)) {b : List Jb} (hb : b.length = a.length) (z4 z5 z6 : Option SV) (μ : Mu) :
    ∃ y4 y5 y6, bodyLo [some (.d (pD (a ++ j :: r))), some (.d (pD (b ++ j :: r))), some (.d (.int (a.length : Nat))), some (.d j.d), z4, z5, z6] μ =
      some (.nx [some (.d (pD (a ++ j :: r))), some (.d (pD (b ++ leastJ a j :: r))), some (.d (.int (a.length : Nat))), some (.d j.d), y4, y5, y6] μ) := by
  have hl : b.length + r.length ≤ 1000 := by have := hp.most; simp at this; omega
  obtain ⟨y5, y6, l⟩ := inner_li hp (F := pD (b ++ j :: r)) μ plains none z5 z6 (fun c h => h) (by simp)
  obtain ⟨c1, c2⟩ := job_cuts j
  have e : j.d = .tuple [.str j.nm, .tuple (j.needs.map .str), j.cond, .tuple (j.reads.map .str), .bool j.soft] := rfl
  unfold plains at l
  simp only [bodyLi, optD, Option.none_or] at l
  unfold leastJ
  cases t : plains.find? (rightB a j) with
  | none =>
    unfold plains at t
    rw [t] at l
    exact ⟨_, _, _, by simp [bodyLo, l, optD]; exact ⟨rfl, rfl, rfl⟩⟩
  | some c =>
    have hc := List.mem_of_find?_eq_some t
    have w := with_job_ok (b := b) (x := j) (r := r) (y := withC j c) hl μ
    obtain ⟨ds, rfl⟩ := plain_tup hc
    have e2 : (withC j (.tuple ds)).d = .tuple [.str j.nm, .tuple (j.needs.map .str), .tuple ds, .tuple (j.reads.map .str), .bool j.soft] := rfl
    rw [e2, hb] at w
    unfold plains at t
    rw [t] at l
    rw [e] at l ⊢
    exact ⟨_, _, _, by simp [bodyLo, l, optD, c1, c2, w]; exact ⟨rfl, rfl, rfl⟩⟩
theorem least_loop {P : List Jb} (hp : Pipe P) (μ : Mu) : ∀ (r a b : List Jb) (z2 z3 z4 z5 z6 : Option SV), P = a ++ r → b.length = a.length →
    ∃ y2 y3 y4 y5 y6, foGo (.t [2, 3]) bodyLo none (((r.map Jb.d).zipIdx a.length).map fun p => .tuple [.int (p.2 : Nat), p.1]) [some (.d (pD P)), some (.d (pD (b ++ r))), z2, z3, z4, z5, z6] μ =
      some (.nx [some (.d (pD P)), some (.d (pD (b ++ leastGo a r))), y2, y3, y4, y5, y6] μ)
  | [], a, b, z2, z3, z4, z5, z6, _, _ => ⟨z2, z3, z4, z5, z6, by simp [foGo, leastGo]⟩
  | j :: r, a, b, z2, z3, z4, z5, z6, e, hb => by
    subst e
    obtain ⟨y4, y5, y6, hbo⟩ := bodyLo_ok hp hb z4 z5 z6 μ
    obtain ⟨x2, x3, x4, x5, x6, ih⟩ := least_loop hp μ r (a ++ [j]) (b ++ [leastJ a j]) (some (.d (.int (a.length : Nat)))) (some (.d j.d)) y4 y5 y6 (by simp) (by simp [hb])
    refine ⟨x2, x3, x4, x5, x6, ?_⟩
    rw [List.map_cons, List.zipIdx_cons, List.map_cons, leastGo]
    have un : ∀ rest, foGo (.t [2, 3]) bodyLo none (.tuple [.int (a.length : Nat), j.d] :: rest) [some (.d (pD (a ++ j :: r))), some (.d (pD (b ++ j :: r))), z2, z3, z4, z5, z6] μ =
        fnext (bodyLo [some (.d (pD (a ++ j :: r))), some (.d (pD (b ++ j :: r))), some (.d (.int (a.length : Nat))), some (.d j.d), z4, z5, z6] μ) (foGo (.t [2, 3]) bodyLo none rest) := fun rest => by
      rw [foGo]; rfl
    rw [un, hbo, fnext_nx]
    rw [show (a ++ [j]).length = a.length + 1 by simp] at ih
    simpa using ih
theorem least_pipeline_ok {p : List Jb} (hp : Pipe p) (μ : Mu) : m_least_pipeline [.d (pD p)] μ = some (.d (pD (leastP p)), μ) := by
  have n := hp.need μ
  obtain ⟨y2, y3, y4, y5, y6, l⟩ := least_loop hp μ p [] [] none none none none none rfl rfl
  simp only [bodyLo, bodyLi, List.nil_append, List.length_nil] at l
  have pe : pD p = .tuple (p.map Jb.d) := rfl
  have en : enD (p.map Jb.d) = ((p.map Jb.d).zipIdx).map fun q => .tuple [.int (q.2 : Nat), q.1] := rfl
  rw [← en] at l
  unfold leastP
  rw [pe] at n l ⊢
  generalize p.map Jb.d = L at *
  simp [m_least_pipeline, n, l]
end
end PJ
namespace PJ
open PySem PySem.Spec J L2
local instance : J.Tb := ⟨[]⟩
section
variable {a r : List Jb} {j : Jb} {n : Str}
def dropN (j : Jb) (n : Str) : Jb := { j with needs := j.needs.filter fun x => !decide (x = n) }
def isW (j : Jb) : List Str := wordsOf (Str.ofString "is") 4 j.cond
def needB (a : List Jb) (j : Jb) (r : List Jb) (n : Str) : Bool := !decide (n ∈ isW j) && (tellP (a ++ j :: r) (a ++ dropN j n :: r)).isNone
theorem drop_ok {ks : List Str} (h : JbOk ks j) (hn : n ∉ isW j) : JbOk ks (dropN j n) := by
  have sub : List.Sublist (dropN j n).needs j.needs := List.filter_sublist
  refine ⟨h.nm, h.new, fun x hx => h.nnm x (sub.mem hx), h.nst.sublist sub, Nat.le_trans sub.length_le h.nlen, fun x hx => h.nin x (sub.mem hx), h.cond.narrow fun w hw => ?_, h.rnm, h.rst, h.rlen⟩
  show w ∈ j.needs.filter _
  rw [List.mem_filter]
  refine ⟨h.cond.is_in w hw, ?_⟩
  have : w ≠ n := fun e => hn (e ▸ hw)
  simp [this]
theorem drop_pair (hp : Pipe (a ++ j :: r)) (hn : n ∉ isW j) : Pair (a ++ j :: r) (a ++ dropN j n :: r) := by
  obtain ⟨ks, h1, h2⟩ := pipe_mid hp.ok
  exact pair_sub hp (h2 (dropN j n) rfl (drop_ok h1 hn)) (names_mid rfl) (flags_mid fun f hf => hf)
theorem filt_ne {n : Str} (ns : List Str) (i : Nat) (ρ0 : En) (k : Nat) (μ : Mu) (hn : ∀ x : Str, (ρ0.set i (some (.d (.str x))))[k]? = some (some (.d (.str n)))) (hi : i < ρ0.length) :
    lcGoF (.n i) (cmBF neD (vF i) (vF k)) (vF i) none ρ0 (ns.map .str) μ = some ((ns.filter fun x => !decide (x = n)).map .str, μ) := lc_strs _ _ _ fun x hx => by
  have h1 : (ρ0.set i (some (.d (.str x))))[i]? = some (some (.d (.str x))) := by rw [List.getElem?_set_self hi]
  have bq : (x == n) = decide (x = n) := Bool.eq_iff_iff.mpr (by simp)
  simp [hn x, h1, bq]
theorem law_needless_ok (hp : Pipe (a ++ j :: r)) (n : Str) (μ : Mu) : m__law_is_needless [.d (pD (a ++ j :: r)), .d (.int (a.length : Nat)), .d (.str n)] μ = some (.d (.bool (needB a j r n)), μ) := by
  have hl : a.length + r.length ≤ 1000 := by have := hp.most; simp at this; omega
  obtain ⟨ks, h1, h2⟩ := pipe_mid hp.ok
  have i0 : atI ((a ++ j :: r).map Jb.d) (a.length : Nat) = some j.d := by
    rw [J.atI_nat, List.map_append, List.map_cons, List.getElem?_append_right (by simp)]; simp
  have e : j.d = .tuple [.str j.nm, .tuple (j.needs.map .str), j.cond, .tuple (j.reads.map .str), .bool j.soft] := rfl
  have w := law_with_ok (b := a) (x := j) (r := r) (ns := j.needs.filter fun x => !decide (x = n)) (c := j.cond) hl μ
  have ak : m__law_asked 20 [.d j.cond] μ = some (.d (.list ((isW j).map .str)), μ) := h1.cond.lasked (by omega) (by omega) 16 μ
  have g := fun z3 z4 => filt_ne (n := n) j.needs 5 [some (.d (pD (a ++ j :: r))), some (.d (.int (a.length : Nat))), some (.d (.str n)), z3, z4, none] 2 μ (fun x => rfl) (by simp)
  have zl : szOk j.needs.length = true := szOk_le (by have := h1.nlen; omega)
  have ind := in_Ld n (isW j)
  have pe : pD (a ++ j :: r) = .tuple ((a ++ j :: r).map Jb.d) := rfl
  unfold needB
  by_cases c : n ∈ isW j
  · rw [pe] at g ⊢
    generalize (a ++ j :: r).map Jb.d = L at *
    simp [m__law_is_needless, i0, e, g, zl, ak, ind, c, -inD]
  · have sm := law_same_ok (drop_pair hp c) (flags_mid fun f hf => hf) μ
    have w2 : dropN j n = ⟨j.nm, j.needs.filter fun x => !decide (x = n), j.cond, j.reads, j.soft⟩ := rfl
    rw [← w2] at w
    rw [pe] at g w sm ⊢
    generalize (a ++ j :: r).map Jb.d = L at *
    simp [m__law_is_needless, i0, e, g, zl, ak, ind, c, w, sm, -inD]
noncomputable abbrev bodyNd : FS := (ifF (cmBF notinD (vF 5) (clF (m_words_in 20) (consF (ixF (vF 3) (cF (.int 2))) (consF (cF (.str "is")) nilF)))) (sqF (stF 6 (biF tupD (consF (frF (lcF (.n 7) (seqF (ixF (vF 3) (cF (.int 1)))) (cmBF neD (vF 7) (vF 5)) (vF 7) [7])) nilF))) (ifF (bF (isnF (clF m_first_unlike (consF (vF 0) (consF (clF m_with_job (consF (vF 0) (consF (vF 2) (consF (opF addD (tupF (consF (vF 1) (consF (vF 6) nilF))) (slF (vF 3) (someF (cF (.int 2))) noF)) nilF)))) nilF))))) (exF (appF (vF 4) (vF 5))) skipF)) skipF)
theorem bodyNd_ok (hp : Pipe (a ++ j :: r)) (n : Str) {out : List Str} (ho : out.length ≤ 1000) (z6 z7 : Option SV) (μ : Mu) :
    ∃ y6, bodyNd [some (.d (pD (a ++ j :: r))), some (.d (.str j.nm)), some (.d (.int (a.length : Nat))), some (.d j.d), some (.r μ.length), some (.d (.str n)), z6, z7] (μ ++ [.lst (out.map .str)]) =
      some (.nx [some (.d (pD (a ++ j :: r))), some (.d (.str j.nm)), some (.d (.int (a.length : Nat))), some (.d j.d), some (.r μ.length), some (.d (.str n)), y6, z7] (μ ++ [.lst ((out ++ [n].filter fun n => needB a j r n).map .str)])) := by
  have hl : a.length + r.length ≤ 1000 := by have := hp.most; simp at this; omega
  obtain ⟨ks, h1, h2⟩ := pipe_mid hp.ok
  have e : j.d = .tuple [.str j.nm, .tuple (j.needs.map .str), j.cond, .tuple (j.reads.map .str), .bool j.soft] := rfl
  have ak : ∀ μ, m_words_in 20 [.d j.cond, .d (.str (Str.ofString "is"))] μ = some (.d (.tuple ((sortSet (isW j)).map .str)), μ) := fun μ => h1.cond.words (by omega) (.inr rfl) (by omega) 16 μ
  have ind : notinD (.str n) (.tuple ((sortSet (isW j)).map .str)) = some (!decide (n ∈ isW j)) := by
    rw [notin_Td, show decide (n ∈ sortSet (isW j)) = decide (n ∈ isW j) from Bool.eq_iff_iff.mpr (by simp [mem_sortSet])]
  have zl : szOk j.needs.length = true := szOk_le (by have := h1.nlen; omega)
  have g := fun z4 z6 => filt_ne (n := n) j.needs 7 [some (.d (pD (a ++ j :: r))), some (.d (.str j.nm)), some (.d (.int (a.length : Nat))), some (.d j.d), z4, some (.d (.str n)), z6, none] 5 (μ ++ [.lst (out.map .str)]) (fun x => rfl) (by simp)
  have w := with_job_ok (b := a) (x := j) (r := r) (y := dropN j n) hl (μ ++ [.lst (out.map .str)])
  have e2 : (dropN j n).d = .tuple [.str j.nm, .tuple ((j.needs.filter fun x => !decide (x = n)).map .str), j.cond, .tuple (j.reads.map .str), .bool j.soft] := rfl
  have zo : out.length < 16777216 := by omega
  rw [e2] at w
  by_cases c : n ∈ isW j
  · refine ⟨z6, ?_⟩
    have nb : needB a j r n = false := by unfold needB; simp [c]
    rw [e]
    generalize pD (a ++ j :: r) = P at *
    simp [bodyNd, ak, ind, c, nb, -notinD]
  · have f := first_unlike_ok (drop_pair hp c) (μ ++ [.lst (out.map .str)])
    have nb : needB a j r n = (tellP (a ++ j :: r) (a ++ dropN j n :: r)).isNone := by unfold needB; simp [c]
    rw [e] at g ⊢
    generalize pD (a ++ j :: r) = P at *
    generalize pD (a ++ dropN j n :: r) = P2 at *
    cases t : tellP (a ++ j :: r) (a ++ dropN j n :: r) with
    | none =>
      rw [t] at f nb
      have nb : needB a j r n = true := nb
      exact ⟨_, by simp [bodyNd, ak, ind, c, nb, g, zl, w, f, tellD, zo, -notinD]; rfl⟩
    | some x =>
      rw [t] at f nb
      have nb : needB a j r n = false := nb
      exact ⟨_, by simp [bodyNd, ak, ind, c, nb, g, zl, w, f, tellD, csD, zo, -notinD]; rfl⟩
theorem needless_loop (hp : Pipe (a ++ j :: r)) (z7 : Option SV) (μ : Mu) : ∀ (ns out : List Str) (z5 z6 : Option SV), out.length + ns.length ≤ 1000 →
    ∃ y5 y6, foGo (.n 5) bodyNd none (ns.map .str) [some (.d (pD (a ++ j :: r))), some (.d (.str j.nm)), some (.d (.int (a.length : Nat))), some (.d j.d), some (.r μ.length), z5, z6, z7] (μ ++ [.lst (out.map .str)]) =
      some (.nx [some (.d (pD (a ++ j :: r))), some (.d (.str j.nm)), some (.d (.int (a.length : Nat))), some (.d j.d), some (.r μ.length), y5, y6, z7] (μ ++ [.lst ((out ++ ns.filter fun n => needB a j r n).map .str)]))
  | [], out, z5, z6, _ => ⟨z5, z6, by simp [foGo]⟩
  | n :: ns, out, z5, z6, h => by
    rw [List.length_cons] at h
    obtain ⟨y6, hb⟩ := bodyNd_ok hp n (out := out) (by omega) z6 z7 μ
    obtain ⟨x5, x6, ih⟩ := needless_loop hp z7 μ ns (out ++ [n].filter fun n => needB a j r n) (some (.d (.str n))) y6 (by
      have := List.length_filter_le (fun n => needB a j r n) [n]
      rw [List.length_append]
      simp only [List.length_cons, List.length_nil] at this
      omega)
    refine ⟨x5, x6, ?_⟩
    have un : foGo (.n 5) bodyNd none ((n :: ns).map .str) [some (.d (pD (a ++ j :: r))), some (.d (.str j.nm)), some (.d (.int (a.length : Nat))), some (.d j.d), some (.r μ.length), z5, z6, z7] (μ ++ [.lst (out.map .str)]) =
        fnext (bodyNd [some (.d (pD (a ++ j :: r))), some (.d (.str j.nm)), some (.d (.int (a.length : Nat))), some (.d j.d), some (.r μ.length), some (.d (.str n)), z6, z7] (μ ++ [.lst (out.map .str)])) (foGo (.n 5) bodyNd none (ns.map .str)) := by
      rw [List.map_cons, foGo]; rfl
    rw [un, hb, fnext_nx, ih, List.append_assoc, ← List.filter_append]
    rfl
theorem idxS_mid {n : Str} : ∀ {x y : List Str}, n ∉ x → idxS (x ++ n :: y) n = some x.length
  | [], y, _ => by rw [List.nil_append, idxS, if_pos rfl]; rfl
  | z :: x, y, h => by
    rw [List.cons_append, idxS, if_neg fun e => h (by rw [e]; exact List.mem_cons_self), idxS_mid fun q => h (List.mem_cons_of_mem _ q)]
    rfl
theorem needless_ok (hp : Pipe (a ++ j :: r)) (μ : Mu) : m_needless_needs [.d (pD (a ++ j :: r)), .d (.str j.nm)] μ = some (.r μ.length, μ ++ [.lst ((j.needs.filter fun n => needB a j r n).map .str)]) := by
  have hl : (a ++ j :: r).length ≤ 1000 := by have := hp.most; omega
  obtain ⟨ks, h1, h2⟩ := pipe_mid hp.ok
  have hin : j.nm ∈ namesP (a ++ j :: r) := by unfold namesP; simp
  have n1 := hp.need μ
  have n2 := need_name_ok hp hin μ
  have n3 := names_x_ok (a ++ j :: r) hl μ
  have nd := hp.nd
  have hna : j.nm ∉ namesP a := by
    unfold namesP at nd ⊢
    rw [List.map_append, List.map_cons] at nd
    intro hm
    exact (List.nodup_append.mp nd).2.2 _ hm _ (List.mem_cons_self) rfl
  have ix : idxS (namesP (a ++ j :: r)) j.nm = some a.length := by
    have := idxS_mid (y := namesP r) hna
    unfold namesP at this ⊢
    rw [List.map_append, List.map_cons]
    simpa using this
  have i0 : atI ((a ++ j :: r).map Jb.d) (a.length : Nat) = some j.d := by
    rw [J.atI_nat, List.map_append, List.map_cons, List.getElem?_append_right (by simp)]; simp
  have e : j.d = .tuple [.str j.nm, .tuple (j.needs.map .str), j.cond, .tuple (j.reads.map .str), .bool j.soft] := rfl
  obtain ⟨y5, y6, l⟩ := needless_loop hp none μ j.needs [] none none (by have := h1.nlen; simp; omega)
  simp only [bodyNd, List.map_nil, List.nil_append] at l
  have pe : pD (a ++ j :: r) = .tuple ((a ++ j :: r).map Jb.d) := rfl
  rw [e] at l i0
  rw [pe] at n1 n2 n3 l ⊢
  generalize (a ++ j :: r).map Jb.d = L at *
  simp [m_needless_needs, n1, n2, n3, ix, i0, l, fN]
end
end PJ
namespace PJ
open PySem PySem.Spec J L2
local instance : J.Tb := ⟨[]⟩
mutual
theorem eqv_self : ∀ {n : Nat} {d : PyData}, gd n d = true → PyData.eqv d d = true
  | n, .none, _ => by rw [PyData.eqv]
  | n, .bool b, _ => by rw [PyData.eqv]; simp
  | n, .int b, _ => by rw [PyData.eqv]; simp
  | n, .str b, _ => by rw [eqv_str]; simp
  | n + 1, .list xs, h => by
    rw [PyData.eqv]
    obtain ⟨m, e, h1, h2⟩ := gd_lst h
    cases e
    exact eqv_selfA h2
  | n + 1, .tuple xs, h => by
    rw [PyData.eqv]
    obtain ⟨m, e, h1, h2⟩ := gd_tup h
    cases e
    exact eqv_selfA h2
  | 0, .list xs, h => by cases h
  | 0, .tuple xs, h => by cases h
  | 0, .dict xs, h => by cases h
  | n + 1, .dict xs, h => by cases h
theorem eqv_selfA : ∀ {n : Nat} {ds : List PyData}, (∀ d ∈ ds, gd n d = true) → PyData.eqvAll ds ds = true
  | n, [], _ => by rw [PyData.eqvAll]
  | n, d :: r, h => by
    rw [PyData.eqvAll, eqv_self (h d List.mem_cons_self), eqv_selfA fun x hx => h x (List.mem_cons_of_mem _ hx)]
    rfl
end
theorem ne_self {n : Nat} {d : PyData} (h : gd n d = true) (hn : n ≤ 30) : neD d d = some false := by
  have o : okD d = true := gd_okD h (by omega)
  unfold neD eqOk
  rw [o, eqv_self h]; simp
theorem eq_self' {n : Nat} {d : PyData} (h : gd n d = true) (hn : n ≤ 30) : eqD d d = some true := by
  have o : okD d = true := gd_okD h (by omega)
  unfold eqD eqOk
  rw [o, eqv_self h]; simp
end PJ
namespace PJ
open PySem PySem.Spec J L2
local instance : J.Tb := ⟨[]⟩
abbrev endD (Q : SV → Mu → Prop) (n : Nat) : DEnds := ⟨fun _ μ' => finD Q n (.d .none) μ', fun sv μ' => finD Q n sv μ', fun _ _ => False, fun _ _ => False⟩
@[simp] theorem take_set_len (μ : Mu) (l : Nat) (so : SO) : (μ.set l so).take μ.length = μ.set l so := List.take_of_length_le (by simp)
theorem l__law_draw : ∀ svs μ Q, S__law_draw svs μ Q → svs.length = 2 := fun svs μ Q h => by
  unfold S__law_draw at h
  split at h
  · rfl
  · exact h.elim
theorem set_get {μ : Mu} {l : Nat} {so so' : SO} (h : μ[l]? = some so) : (μ.set l so')[l]? = some so' := by
  obtain ⟨hl, _⟩ := List.getElem?_eq_some_iff.mp h
  simp [hl]
theorem r__law_draw : ∀ svs μ Q, S__law_draw svs μ Q → T__law_draw (endD Q μ.length) (startE ["_law_source_here", "_law_size", "_law_drawn"] svs) μ := fun svs μ Q h => by
  unfold S__law_draw at h
  split at h
  · rename_i l n
    obtain ⟨⟨so, hs, a, b, rfl, ha, hb, hb2⟩, h0, hn, q⟩ := h
    have hg : ∀ so', (μ.set l so')[l]? = some so' := fun so' => set_get hs
    show T__law_draw _ [some (.r l), some (.d (.int n)), none] μ
    by_cases c : 0 < a
    · have hm : 0 ≤ a / n := Int.ediv_nonneg ha (by omega)
      have q1 := q (a % n) (.lst [.int (a / n), .int b]) (Int.emod_nonneg _ (by omega)) (Int.emod_lt_of_pos _ h0) ⟨_, _, rfl, hm, hb, hb2⟩
      have hn2 : n < 1073741824 := by omega
      simp [T__law_draw, vT, cT, opT, cmT, cmB, chT, chB, negT, isnT, nonT, isbT, nobT, bT, andB, orB, notB, andT, orT, notT, ifT, nilA, consA, tupT, lstN, frT, owT, callF, popN, ixT, noP, someP, slT, callT, callN, isiT, appT, popT, sosN, losT, lcN, seqI, rng1I, zipI, yesB, skipS, brkS, neverS, exprS, retS, retN, ifS, setS, asgS, parS, par2S, seqS, forS, setixS, finD, finN, oP_some, hs, hg, c, h0, hn2, ixN, q1]
    · have hb3 : 0 ≤ b * 48271 % 2147483647 := Int.emod_nonneg _ (by omega)
      have hb4 : b * 48271 % 2147483647 < 2147483647 := Int.emod_lt_of_pos _ (by omega)
      have q1 := fun x => q (x % n) (.lst [.int a, .int (b * 48271 % 2147483647)]) (Int.emod_nonneg _ (by omega)) (Int.emod_lt_of_pos _ h0) ⟨_, _, rfl, ha, hb3, by omega⟩
      have m1 : mulOk b 48271 = true := by
        unfold mulOk; rw [Bool.or_eq_true]; exact .inr (by decide)
      have m2 : mulOk (b * 48271 % 2147483647) (b * 48271 % 2147483647) = true := by
        unfold mulOk; rw [Bool.or_eq_true, Bool.and_eq_true, decide_eq_true_iff, decide_eq_true_iff]
        exact .inl ⟨by omega, by omega⟩
      simp [T__law_draw, vT, cT, opT, cmT, cmB, chT, chB, negT, isnT, nonT, isbT, nobT, bT, andB, orB, notB, andT, orT, notT, ifT, nilA, consA, tupT, lstN, frT, owT, callF, popN, ixT, noP, someP, slT, callT, callN, isiT, appT, popT, sosN, losT, lcN, seqI, rng1I, zipI, yesB, skipS, brkS, neverS, exprS, retS, retN, ifS, setS, asgS, parS, par2S, seqS, forS, setixS, finD, finN, oP_some, hs, hg, c, h0, ixN, q1, m1, m2]
  · exact h.elim
theorem l__law_choice : ∀ svs μ Q, S__law_choice svs μ Q → svs.length = 2 := fun svs μ Q h => by
  unfold S__law_choice at h
  split at h
  · rfl
  · exact h.elim
theorem r__law_choice : ∀ svs μ Q, S__law_choice svs μ Q → T__law_choice (endD Q μ.length) (startE ["_law_source_here", "_law_items"] svs) μ := fun svs μ Q h => by
  unfold S__law_choice at h
  split at h
  · rename_i l xs
    obtain ⟨hs, h0, h1, q⟩ := h
    show T__law_choice _ [some (.r l), some (.d (.list xs))] μ
    simp only [T__law_choice, vT, cT, opT, cmT, cmB, chT, chB, negT, isnT, nonT, isbT, nobT, bT, andB, orB, notB, andT, orT, notT, ifT, nilA, consA, tupT, lstN, frT, owT, callF, popN, ixT, noP, someP, slT, callT, callN, isiT, appT, popT, sosN, losT, lcN, seqI, rng1I, zipI, yesB, skipS, brkS, neverS, exprS, retS, retN, ifS, setS, asgS, parS, par2S, seqS, forS, setixS, finD, finN, oP_some, List.getElem?_cons_zero, List.getElem?_cons_succ, lenD, sq, S__law_draw]
    refine ⟨hs, by omega, by omega, fun r so hr hr2 hso => ?_⟩
    obtain ⟨k, rfl⟩ := Int.eq_ofNat_of_zero_le hr
    have hk : k < xs.length := by omega
    simp only [ixD, sq, J.atI_nat, List.getElem?_eq_getElem hk, oP_some, take_set_len]
    exact q _ so (List.getElem_mem _) hso
  · exact h.elim
theorem lcGo_inv {t : Tg} {U : DTB} {T : DT} {gd : Mu → Prop} {ρ0 : En} {Q : List PyData → Mu → Prop} (I : List PyData → List PyData → Mu → Prop) (fin : ∀ acc μ, I [] acc μ → gd μ ∧ Q acc μ)
    (step : ∀ x r acc μ (k : List PyData → Mu → Prop), I (x :: r) acc μ → (∀ acc' μ', I r acc' μ' → k acc' μ') → gd μ ∧ oP (t.put (.d x) ρ0) fun ρ => U ρ μ fun b μ1 => match b with
      | true => T ρ μ1 fun y μ2 => match y with
        | .d d => acc.length < sizeLine ∧ k (acc ++ [d]) μ2
        | _ => False
      | false => k acc μ1) : ∀ items acc μ, I items acc μ → lcGo t U T gd ρ0 Q items acc μ
  | [], acc, μ, h => fin acc μ h
  | x :: r, acc, μ, h => step x r acc μ (fun acc' μ' => lcGo t U T gd ρ0 Q r acc' μ') h fun acc' μ' h' => lcGo_inv I fin step r acc' μ' h'
theorem forGo_inv {t : Tg} {S : DTS} {gd : Mu → Prop} {DD : DEnds} (I : List PyData → En → Mu → Prop) (fin : ∀ ρ μ, I [] ρ μ → gd μ ∧ DD.nx ρ μ)
    (step : ∀ x r ρ μ (k : En → Mu → Prop), I (x :: r) ρ μ → (∀ ρ' μ', I r ρ' μ' → k ρ' μ') → gd μ ∧ oP (t.put (.d x) ρ) fun ρ' => S { DD with nx := k, ct := k, bk := DD.nx } ρ' μ) : ∀ items ρ μ, I items ρ μ → forGo t S gd DD items ρ μ
  | [], ρ, μ, h => fin ρ μ h
  | x :: r, ρ, μ, h => step x r ρ μ (fun ρ' μ' => forGo t S gd DD r ρ' μ') h fun ρ' μ' h' => forGo_inv I fin step r ρ' μ' h'
theorem draw_step {μ : Mu} {l : Nat} {so : SO} {n : Int} {K : SV → Mu → Prop} (hl : l < μ.length) (hso : okSrc so) (h0 : 0 < n) (hn : n < 1000000) (k : ∀ (r : Int) so', 0 ≤ r → r < n → okSrc so' → K (.d (.int r)) (μ.set l so')) :
    S__law_draw [.r l, .d (.int n)] (μ.set l so) K := ⟨⟨so, by simp [hl], hso⟩, h0, hn, fun r so' a b c => by rw [List.set_set]; exact k r so' a b c⟩
theorem choice_step {μ : Mu} {l : Nat} {so : SO} {xs : List PyData} {K : SV → Mu → Prop} (hl : l < μ.length) (hso : okSrc so) (h0 : 0 < xs.length) (hn : xs.length < 1000000) (k : ∀ x so', x ∈ xs → okSrc so' → K (.d x) (μ.set l so')) :
    S__law_choice [.r l, .d (.list xs)] (μ.set l so) K := ⟨⟨so, by simp [hl], hso⟩, h0, hn, fun r so' a c => by rw [List.set_set]; exact k r so' a c⟩
theorem set_self {μ : Mu} {l : Nat} {so : SO} (h : μ[l]? = some so) : μ.set l so = μ := by
  obtain ⟨hl, e⟩ := List.getElem?_eq_some_iff.mp h
  rw [← e, List.set_getElem_self]
end PJ
namespace PJ
open PySem PySem.Spec J L2
local instance : J.Tb := ⟨[]⟩
theorem l__law_condition {n : Nat} : ∀ svs μ Q, S__law_condition (n + 1) svs μ Q → svs.length = 3 := fun svs μ Q h => by
  change Sc__law_condition n svs μ Q at h
  unfold Sc__law_condition at h
  split at h
  · rfl
  · exact h.elim
theorem cond_step {μ : Mu} {l : Nat} {so : SO} {n d : Nat} {ns : List Str} {e : Int} {K : SV → Mu → Prop} (hl : l < μ.length) (hso : okSrc so) (hN : (∀ x ∈ ns, Nm x) ∧ ns.length ≤ 4) (he : e = d) (h0 : 0 < d) (hd : d ≤ n) (q : ∀ c so', IsG (· ∈ ns) Fl 3 d c → okSrc so' → K (.d c) (μ.set l so')) :
    S__law_condition n [.r l, .d (.tuple (ns.map .str)), .d (.int e)] (μ.set l so) K := by
  obtain ⟨m, rfl⟩ : ∃ m, n = m + 1 := ⟨n - 1, by omega⟩
  exact ⟨⟨so, by simp [hl], hso⟩, ns, rfl, hN.1, hN.2, d, he, h0, hd, fun c so' a b => by rw [List.set_set]; exact q c so' a b⟩
theorem need_gd {ns : List Str} (hN : (∀ x ∈ ns, Nm x) ∧ ns.length ≤ 4) : okD (.tuple (ns.map .str)) = true :=
  gd_okD (n := 1) (gd_tup' (by rw [List.length_map]; omega) fun x hx => by
    obtain ⟨y, hy, rfl⟩ := List.mem_map.mp hx
    exact nm_gd (hN.1 y hy) _ _) (by omega)
theorem leaf5 {N F : Str → Prop} {m d : Nat} {x : PyData} (hx : x ∈ ([.tuple [.str "good"], .tuple [.str "good"], .tuple [.str "bad"], .tuple [.str "always"], .tuple [.str "stopped"]] : List PyData)) : IsG N F m (d + 1) x := .leaf (by simpa [leafL] using hx)
theorem stat5 {x : PyData} (hx : x ∈ ([.str "good", .str "bad", .str "bad", .str "passed", .str "stopped"] : List PyData)) : x ∈ statusL := by
  simpa [statusL] using hx
theorem loop_c {n d : Nat} {l : Nat} {μ : Mu} {ns : List Str} {e r : Int} {DD : DEnds} (hl : l < μ.length) (hN : (∀ x ∈ ns, Nm x) ∧ ns.length ≤ 4) (he : e = d + 1) (h0 : 0 < d) (hd : d ≤ n)
    (fin : ∀ cs so z, cs.length ≤ 3 → (∀ c ∈ cs, IsG (· ∈ ns) Fl 3 d c) → okSrc so → DD.nx [some (.r l), some (.d (.tuple (ns.map .str))), some (.d (.int e)), some (.d (.int r)), none, some (.d (.tuple cs)), z] (μ.set l so)) :
    ∀ (items : List PyData) (cs : List PyData) so z, cs.length + items.length ≤ 3 → (∀ c ∈ cs, IsG (· ∈ ns) Fl 3 d c) → okSrc so →
    forGo (.n 6) (setS 5 (opT addD (vT 5) (tupT (consA (callF (S__law_condition n) (consA (vT 0) (consA (vT 1) (consA (opT subD (vT 2) (cT (.int 1))) nilA)))) nilA)))) (fun _ => True) DD items
      [some (.r l), some (.d (.tuple (ns.map .str))), some (.d (.int e)), some (.d (.int r)), none, some (.d (.tuple cs)), z] (μ.set l so) := by
  intro items
  induction items with
  | nil => exact fun cs so z h1 h2 h3 => ⟨trivial, fin cs so z (by simpa using h1) h2 h3⟩
  | cons x r' ih =>
    intro cs so z h1 h2 h3
    rw [List.length_cons] at h1
    refine ⟨trivial, ?_⟩
    simp only [Tg.put, oP_some, vT, cT, opT, cmT, cmB, chT, chB, negT, isnT, nonT, isbT, nobT, bT, andB, orB, notB, andT, orT, notT, ifT, nilA, consA, tupT, lstN, frT, owT, callF, popN, ixT, noP, someP, slT, callT, callN, isiT, appT, popT, sosN, losT, lcN, seqI, rng1I, zipI, yesB, skipS, brkS, neverS, exprS, retS, retN, ifS, setS, asgS, parS, par2S, seqS, forS, setixS, finD, finN, oP_some, List.getElem?_cons_zero, List.getElem?_cons_succ, List.set, rd, subD]
    refine cond_step hl h3 hN (d := d) (by omega) h0 hd fun c so' hc hso' => ?_
    have z1 : 1 ≤ sizeLine := by rw [sizeLine_eq]; omega
    have z2 : szOk (cs.length + 1) = true := szOk_le (by omega)
    simp only [pure?, Option.map_some, oP_some, rd, List.length_cons, List.length_nil, Nat.zero_add, z1, true_and, addD, z2, if_true]
    refine ih (cs ++ [c]) so' (some (.d x)) (by rw [List.length_append, List.length_singleton]; omega) (fun y hy => ?_) hso'
    rcases List.mem_append.mp hy with hy | hy
    · exact h2 y hy
    · rw [List.mem_singleton.mp hy]; exact hc
theorem eqv_int (a b : Int) : PyData.eqv (.int a) (.int b) = (a == b) := by rw [PyData.eqv]
theorem r__law_condition {n : Nat} : ∀ svs μ Q, S__law_condition (n + 1) svs μ Q → (T__law_condition n) (endD Q μ.length) (startE ["_law_source_here", "_law_needs", "_law_deep", "_law_way", "_law_status", "_law_parts", "_law_turn"] svs) μ := fun svs μ Q h => by
  change Sc__law_condition n svs μ Q at h
  unfold Sc__law_condition at h
  split at h
  · rename_i l xs de
    obtain ⟨⟨so0, hs0, hso0⟩, ns, rfl, hN1, hN2, e, rfl, he0, hen, q⟩ := h
    have hN : (∀ x ∈ ns, Nm x) ∧ ns.length ≤ 4 := ⟨hN1, hN2⟩
    have hl : l < μ.length := (List.getElem?_eq_some_iff.mp hs0).1
    obtain ⟨d, rfl⟩ : ∃ d, e = d + 1 := ⟨e - 1, by omega⟩
    have okN := need_gd hN
    show (T__law_condition n) _ [some (.r l), some (.d (.tuple (ns.map .str))), some (.d (.int ((d + 1 : Nat) : Int))), none, none, none, none] μ
    have hg : gtD (.int ((d + 1 : Nat) : Int)) (.int 1) = some (decide (0 < d)) := by
      simp [gtD]; omega
    simp only [T__law_condition, vT, cT, opT, cmT, cmB, chT, chB, negT, isnT, nonT, isbT, nobT, bT, andB, orB, notB, andT, orT, notT, ifT, nilA, consA, tupT, lstN, frT, owT, callF, popN, ixT, noP, someP, slT, callT, callN, isiT, appT, popT, sosN, losT, lcN, seqI, rng1I, zipI, yesB, skipS, brkS, neverS, exprS, retS, retN, ifS, setS, asgS, parS, par2S, seqS, forS, setixS, finD, finN, oP_some, List.getElem?_cons_zero, List.getElem?_cons_succ, rd, hg]
    cases hc : decide (0 < d)
    all_goals
      refine ⟨⟨so0, hs0, hso0⟩, by omega, by omega, fun r so1 hr0 hr1 hso1 => ?_⟩
      have hr : r < 5 ∨ (r < 9 ∧ 0 < d) := by simp at hc; omega
      have hr2 : r = 0 ∨ r = 1 ∨ r = 2 ∨ r = 3 ∨ r = 4 ∨ r = 5 ∨ r = 6 ∨ r = 7 ∨ r = 8 := by omega
      rcases hr2 with rfl | rfl | rfl | rfl | rfl | rfl | rfl | rfl | rfl
      · simp [sizeLine_eq]
        refine choice_step hl hso1 (by simp) (by simp) fun x so2 hx hso2 => ?_
        simp
        exact q x so2 (leaf5 hx) hso2
      · simp [sizeLine_eq]
        refine choice_step hl hso1 (by simp) (by simp) fun x so2 hx hso2 => ?_
        simp
        exact q x so2 (leaf5 hx) hso2
      · simp [sizeLine_eq]
        refine choice_step hl hso1 (by simp) (by simp) fun x so2 hx hso2 => ?_
        simp
        simp at hx
        rcases hx with hx | hx <;> subst hx
        · exact q _ so2 (.flag (.inl rfl)) hso2
        · exact q _ so2 (.flag (.inr rfl)) hso2
      · simp [sizeLine_eq, eqD_nil okN, eqv_int]
        cases ns with
        | nil =>
          simp
          refine choice_step hl hso1 (by simp) (by simp) fun x so2 hx hso2 => ?_
          simp
          exact q x so2 (leaf5 hx) hso2
        | cons y t =>
          simp
          refine choice_step hl hso1 (by simp) (by simp) fun s so2 hs2 hso2 => ?_
          refine choice_step hl hso2 (by simp) (by simp at hN2 ⊢; omega) fun x so3 hx hso3 => ?_
          obtain ⟨w, hw, rfl⟩ := List.mem_map.mp (show x ∈ (y :: t).map PyData.str from hx)
          simp
          exact q _ so3 (.is hw (stat5 hs2)) hso3
      · simp [sizeLine_eq, eqD_nil okN, eqv_int]
        cases ns with
        | nil =>
          simp
          exact q _ so1 (.leaf (by simp [leafL])) hso1
        | cons y t =>
          simp
          refine choice_step hl hso1 (by simp) (by simp) fun s so2 hs2 hso2 => ?_
          refine choice_step hl hso2 (by simp) (by simp at hN2 ⊢; omega) fun x so3 hx hso3 => ?_
          obtain ⟨w, hw, rfl⟩ := List.mem_map.mp (show x ∈ (y :: t).map PyData.str from hx)
          simp
          exact q _ so3 (.is hw (stat5 hs2)) hso3
      · simp [sizeLine_eq, eqD_nil okN, eqv_int]
        refine cond_step hl hso1 hN (d := d) (by omega) (by omega) (by omega) fun c so2 hc hso2 => ?_
        simp
        exact q _ so2 (.not hc) hso2
      all_goals
        have hd0 : 0 < d := by omega
        simp [sizeLine_eq, eqD_nil okN, eqv_int]
        refine choice_step hl hso1 (by simp) (by simp) fun m so2 hm hso2 => ?_
        have hm2 : ∃ j : Int, m = .int j ∧ 0 ≤ j ∧ j ≤ 3 := by
          simp at hm
          rcases hm with h | h | h | h <;> exact ⟨_, h, by omega, by omega⟩
        obtain ⟨j, rfl, hj0, hj3⟩ := hm2
        refine ⟨by omega, by omega, ?_⟩
        refine loop_c hl hN (by simp) hd0 (by omega) (fun cs so z hcs hC hso => ?_) (isRng j) [] so2 none (by simp [isRng]; omega) (fun _ h => nomatch h) hso2
        simp
        refine choice_step hl hso (by simp) (by simp) fun w so3 hw hso3 => ?_
        have z9 : szOk (1 + cs.length) = true := szOk_le (by omega)
        simp [z9]
        exact q _ so3 (.many hw hcs hC) hso3
  · exact h.elim
end PJ
namespace PJ
open PySem PySem.Spec J L2
local instance : J.Tb := ⟨[]⟩
theorem Fl_nm {x : Str} (h : Fl x) : Nm x := by
  rcases h with h | h <;> subst h <;> decide +kernel
theorem l__law_job : ∀ svs μ Q, S__law_job svs μ Q → svs.length = 3 := fun svs μ Q h => by
  unfold S__law_job at h
  split at h
  · rfl
  · exact h.elim
theorem l__law_pipeline : ∀ svs μ Q, S__law_pipeline svs μ Q → svs.length = 2 := fun svs μ Q h => by
  unfold S__law_pipeline at h
  split at h
  · rfl
  · exact h.elim
theorem strict_sortStr {l : List Str} (h : l.Nodup) : StrictS (sortStr l) := strict_of (weak_sortStr l) (perm_sortStr.nodup_iff.mpr h)
/-- [x for x in texts if draw(source, sz) == 0] -/
theorem draw_filter {l i : Nat} {sz : Int} {μ : Mu} {ρ0 : En} {gd : Mu → Prop} {Q : List PyData → Mu → Prop} (hl : l < μ.length) (h0 : 0 < sz) (hs : sz < 1000000) (hi : i < ρ0.length) (hi0 : i ≠ 0) (hsrc : ρ0[0]? = some (some (.r l)))
    (hgd : ∀ so, gd (μ.set l so)) (ks : List Str) (hk : ks.length ≤ 1000) (q : ∀ (as : List Str) so, as.Sublist ks → okSrc so → Q (as.map .str) (μ.set l so)) (so : SO) (hso : okSrc so) :
    lcGo (.n i) (cmB eqD (callF S__law_draw (consA (vT 0) (consA (cT (.int sz)) nilA))) (cT (.int 0))) (vT i) gd ρ0 Q (ks.map .str) [] (μ.set l so) := by
  refine lcGo_inv (fun rest acc μ' => ∃ so as done rest', okSrc so ∧ μ' = μ.set l so ∧ ks = done ++ rest' ∧ rest = rest'.map PyData.str ∧ acc = as.map PyData.str ∧ List.Sublist as done) (fun acc μ' ⟨so, as, done, rest', h1, h2, h3, h4, h5, h6⟩ => ?_) (fun x r acc μ' K ⟨so, as, done, rest', h1, h2, h3, h4, h5, h6⟩ hK => ?_) _ _ _ ⟨so, [], [], ks, hso, rfl, rfl, rfl, rfl, List.Sublist.refl _⟩
  · subst h2 h5
    have e : rest' = [] := by
      cases rest' with
      | nil => rfl
      | cons _ _ => simp at h4
    subst e
    rw [List.append_nil] at h3
    subst h3
    exact ⟨hgd so, q as so h6 h1⟩
  · subst h2 h5
    cases rest' with
    | nil => simp at h4
    | cons y t =>
      rw [List.map_cons] at h4
      obtain ⟨rfl, rfl⟩ := List.cons.inj h4
      refine ⟨hgd so, ?_⟩
      have g0 : (ρ0.set i (some (.d (.str y))))[0]? = some (some (.r l)) := by rw [List.getElem?_set_ne hi0]; exact hsrc
      have gi : (ρ0.set i (some (.d (.str y))))[i]? = some (some (.d (.str y))) := by rw [List.getElem?_set_self hi]
      simp only [Tg.put, oP_some, vT, cT, opT, cmT, cmB, chT, chB, negT, isnT, nonT, isbT, nobT, bT, andB, orB, notB, andT, orT, notT, ifT, nilA, consA, tupT, lstN, frT, owT, callF, popN, ixT, noP, someP, slT, callT, callN, isiT, appT, popT, sosN, losT, lcN, seqI, rng1I, zipI, yesB, skipS, brkS, neverS, exprS, retS, retN, ifS, setS, asgS, parS, par2S, seqS, forS, setixS, finD, finN, oP_some, g0, gi]
      refine draw_step hl h1 h0 hs fun a so' ha0 ha1 hso' => ?_
      simp only [rd, oP_some, eqD_int]
      have hlen : as.length ≤ done.length := h6.length_le
      have hkl : done.length + (t.length + 1) ≤ 1000 := by rw [h3] at hk; simpa using hk
      cases a == 0 with
      | true =>
        refine ⟨by rw [List.length_map, sizeLine_eq]; omega, hK _ _ ⟨so', as ++ [y], done ++ [y], t, hso', rfl, by rw [h3, List.append_assoc]; rfl, rfl, by rw [List.map_append]; rfl, h6.append (List.Sublist.refl _)⟩⟩
      | false =>
        exact hK _ _ ⟨so', as, done ++ [y], t, hso', rfl, by rw [h3, List.append_assoc]; rfl, rfl, rfl, h6.trans (List.sublist_append_left _ _)⟩
theorem draw_filter0 {l i : Nat} {sz : Int} {μ : Mu} {ρ0 : En} {gd : Mu → Prop} {Q : List PyData → Mu → Prop} {so : SO} (hs0 : μ[l]? = some so) (h0 : 0 < sz) (hs : sz < 1000000) (hi : i < ρ0.length) (hi0 : i ≠ 0) (hsrc : ρ0[0]? = some (some (.r l)))
    (hgd : ∀ so, gd (μ.set l so)) (ks : List Str) (hk : ks.length ≤ 1000) (q : ∀ (as : List Str) so, as.Sublist ks → okSrc so → Q (as.map .str) (μ.set l so)) (hso : okSrc so) :
    lcGo (.n i) (cmB eqD (callF S__law_draw (consA (vT 0) (consA (cT (.int sz)) nilA))) (cT (.int 0))) (vT i) gd ρ0 Q (ks.map .str) [] μ := by
  have := draw_filter (List.getElem?_eq_some_iff.mp hs0).1 h0 hs hi hi0 hsrc hgd ks hk q so hso
  rwa [set_self hs0] at this
theorem cut_to4 (ds : List PyData) : cutD ds none (some 4) = ds.take 4 := cut_to ds 4
theorem reads_nm {x : Str} (h : x ∈ readL) : Nm x := by
  simp [readL] at h
  rcases h with h | h | h <;> subst h <;> decide +kernel
theorem reads_strict : StrictS readL := (adj_strict _).mp (by decide +kernel)
theorem job_ok (ks : List Str) (n : Str) (rs : List Str) (c : PyData) (d : Nat) (b : Bool) (hn : Nm n) (hnk : n ∉ ks) (hnm : ∀ x ∈ ks, Nm x) (hnd : ks.Nodup) {as : List Str} (hsub : as.Sublist ks) (h4 : as.length ≤ 4) (hc : IsG (· ∈ sortStr as) Fl 3 d c) (hd : d ≤ 4)
    (hrs : rs.Sublist readL) : DrawnJ ks n ⟨n, sortStr as, c, rs, b⟩ := by
  have hin : ∀ x ∈ sortStr as, x ∈ ks := fun x hx => hsub.mem (perm_sortStr.mem_iff.mp hx)
  have hl : (sortStr as).length ≤ 4 := by rw [perm_sortStr.length_eq]; exact h4
  have hr4 : rs.length ≤ 3 := hrs.length_le
  refine ⟨⟨hn, hnk, fun x hx => hnm x (hin x hx), strict_sortStr (hsub.nodup hnd), hl, hin, hc.mono (fun _ h => h) (fun _ h => Fl_nm h) (by omega) 4 hd, fun s hs => reads_nm (hrs.mem hs), reads_strict.sublist hrs, (show rs.length ≤ 4 by omega)⟩, rfl, fun f hf => ?_, fun x hx => hrs.mem hx⟩
  have hf : f ∈ wordsOf (Str.ofString "flag") 4 c := hf
  rw [wordsOf_up hc 4 hd] at hf
  exact hc.flag_in f hf
theorem r__law_job : ∀ svs μ Q, S__law_job svs μ Q → T__law_job (endD Q μ.length) (startE ["_law_source_here", "_law_name", "_law_known_here", "_law_needs", "_law_deep", "_law_reads", "_law_other", "_law_one"] svs) μ := fun svs μ Q h => by
  unfold S__law_job at h
  split at h
  · rename_i l n k
    obtain ⟨⟨so0, hs0, hso0⟩, hlk, hn, ks, hk, hnk, hnm, hnd, hlen, q⟩ := h
    have hl : l < μ.length := (List.getElem?_eq_some_iff.mp hs0).1
    show T__law_job _ [some (.r l), some (.d (.str n)), some (.r k), none, none, none, none, none] μ
    simp only [T__law_job, vT, cT, opT, cmT, cmB, chT, chB, negT, isnT, nonT, isbT, nobT, bT, andB, orB, notB, andT, orT, notT, ifT, nilA, consA, tupT, lstN, frT, owT, callF, popN, ixT, noP, someP, slT, callT, callN, isiT, appT, popT, sosN, losT, lcN, seqI, rng1I, zipI, yesB, skipS, brkS, neverS, exprS, retS, retN, ifS, setS, asgS, parS, par2S, seqS, forS, setixS, finD, finN, oP_some, List.getElem?_cons_zero, List.getElem?_cons_succ, hk, wipeE, List.set]
    refine draw_filter0 hs0 (by omega) (by omega) (by simp) (by omega) rfl (fun so => by rw [List.getElem?_set_ne hlk]; exact hk) ks (by omega) (fun as so1 has hso1 => ?_) hso0
    have hal : as.length ≤ 8 := Nat.le_trans has.length_le hlen
    have hsl : (as.take 4).length < 64 := by rw [List.length_take]; omega
    simp only [SO.data, rd, oP_some, slD, cut_to4, ← List.map_take, sortN, Option.bind_some, Option.map_some, strs_of_map, sortD_strs, tupD]
    have z5 : 5 ≤ sizeLine := by rw [sizeLine_eq]; omega
    have z3 : 3 ≤ sizeLine := by rw [sizeLine_eq]; omega
    simp only [pure?, Option.map_some, oP_some, List.length_cons, List.length_nil, Nat.zero_add, Nat.reduceAdd, z5, true_and]
    refine choice_step hl hso1 (by simp) (by simp) fun dv so2 hdv hso2 => ?_
    obtain ⟨d, rfl, hd1, hd4⟩ : ∃ d : Nat, dv = .int d ∧ 0 < d ∧ d ≤ 4 := by
      simp at hdv
      rcases hdv with e | e | e | e <;> subst e
      · exact ⟨1, rfl, by omega, by omega⟩
      · exact ⟨2, rfl, by omega, by omega⟩
      · exact ⟨3, rfl, by omega, by omega⟩
      · exact ⟨4, rfl, by omega, by omega⟩
    simp only [pure?, Option.map_some, oP_some, List.length_cons, List.length_nil, Nat.zero_add, Nat.reduceAdd, z3, true_and]
    refine draw_filter (μ := μ) hl (by omega) (by omega) (by simp) (by omega) rfl (fun _ => trivial) [Str.ofString "main", Str.ofString "rules", Str.ofString "tests"] (by simp) (fun rs so3 hrs hso3 => ?_) so2 hso2
    have hsub : (as.take 4).Sublist ks := (List.take_sublist 4 as).trans has
    have hN : (∀ x ∈ sortStr (as.take 4), Nm x) ∧ (sortStr (as.take 4)).length ≤ 4 := ⟨fun x hx => hnm x (hsub.mem (perm_sortStr.mem_iff.mp hx)), by rw [perm_sortStr.length_eq, List.length_take]; omega⟩
    refine cond_step (ns := sortStr (as.take 4)) hl hso3 hN (d := d) rfl hd1 (by omega) fun c so4 hc hso4 => ?_
    refine draw_step hl hso4 (by omega) (by omega) fun b so5 hb0 hb1 hso5 => ?_
    simp [sizeLine_eq]
    exact q _ so5 (job_ok ks n rs c d (b == 0) hn hnk hnm hnd hsub (by rw [List.length_take]; omega) hc hd4 hrs) hso5
  · exact h.elim
end PJ
namespace PJ
open PySem PySem.Spec J L2
local instance : J.Tb := ⟨[]⟩
theorem few_flags {ws : List Str} (h : ∀ w ∈ ws, Fl w) : (sortSet ws).length ≤ 3 := by
  have hs := strict_sortSet ws
  have hm : ∀ x ∈ sortSet ws, x ∈ [Str.ofString "fast", Str.ofString "full"] := fun x hx => by
    have := h x (mem_sortSet.mp hx)
    rcases this with e | e <;> simp [e]
  generalize sortSet ws = l at hs hm
  rcases l with _ | ⟨a, _ | ⟨b, _ | ⟨c, t⟩⟩⟩
  · simp
  · simp
  · simp
  · obtain ⟨p1, p2⟩ := List.pairwise_cons.mp hs
    obtain ⟨p3, _⟩ := List.pairwise_cons.mp p2
    have ab := p1 b (by simp)
    have ac := p1 c (by simp)
    have bc := p3 c (by simp)
    have ha := hm a (by simp)
    have hb := hm b (by simp)
    have hc := hm c (by simp)
    simp only [List.mem_cons, List.not_mem_nil, or_false] at ha hb hc
    exfalso
    rcases ha with e1 | e1 <;> rcases hb with e2 | e2 <;> rcases hc with e3 | e3 <;> subst e1 <;> first
      | (subst e2; rw [ltS_irr] at ab; cases ab)
      | (subst e3; rw [ltS_irr] at ac; cases ac)
      | (subst e2; subst e3; rw [ltS_irr] at bc; cases bc)
theorem eight_nm : ∀ x ∈ eight, Nm x := by
  have : eight.all (fun x => isName (.str x)) = true := by decide +kernel
  intro x hx
  exact (List.all_eq_true.mp this) x hx
theorem eight_nd : eight.Nodup := by decide +kernel
theorem erase_perm {α : Type} (l : List α) (k : Nat) (h : k < l.length) : (l[k] :: l.eraseIdx k).Perm l := by
  rw [List.eraseIdx_eq_take_drop_succ]
  have e : l = l.take k ++ l[k] :: l.drop (k + 1) := by rw [← List.drop_eq_getElem_cons h, List.take_append_drop]
  refine (List.perm_middle.symm).trans ?_
  rw [← e]
theorem set_two {μ : Mu} {l : Nat} (h : l < μ.length) (A B so : SO) : (μ ++ [A, B]).set l so = μ.set l so ++ [A, B] := List.set_append_left _ _ h
theorem take_two {μ : Mu} {l : Nat} (h : l < μ.length) (A B so : SO) : ((μ ++ [A, B]).set l so).take μ.length = μ.set l so := by
  rw [set_two h, List.take_append_of_le_length (by simp), List.take_of_length_le (by simp)]
theorem two_0 {μ : Mu} {l : Nat} (h : l < μ.length) (A B so : SO) : ((μ ++ [A, B]).set l so)[μ.length]? = some A := by
  rw [List.getElem?_set_ne (by omega)]; simp
theorem two_1 {μ : Mu} {l : Nat} (h : l < μ.length) (A B so : SO) : ((μ ++ [A, B]).set l so)[μ.length + 1]? = some B := by
  rw [List.getElem?_set_ne (by omega)]; simp
theorem two_s0 {μ : Mu} {l : Nat} (h : l < μ.length) (A B so A' : SO) : ((μ ++ [A, B]).set l so).set μ.length A' = (μ ++ [A', B]).set l so := by
  rw [set_two h, set_two h, List.set_append_right _ _ (by simp)]; simp
theorem two_s1 {μ : Mu} {l : Nat} (h : l < μ.length) (A B so B' : SO) : ((μ ++ [A, B]).set l so).set (μ.length + 1) B' = (μ ++ [A, B']).set l so := by
  rw [set_two h, set_two h, List.set_append_right _ _ (by simp)]; simp
theorem PipeOk.snoc {j : Jb} : ∀ {p : List Jb} {ks : List Str}, PipeOk ks p → JbOk (ks ++ namesP p) j → PipeOk ks (p ++ [j])
  | [], ks, _, h => ⟨by simpa [namesP] using h, trivial⟩
  | a :: r, ks, ⟨h1, h2⟩, h => ⟨h1, PipeOk.snoc h2 (by simpa [namesP] using h)⟩
def PI (l : Nat) (m : Int) (tot : Nat) (μ : Mu) (rest : List PyData) (ρ : En) (μ' : Mu) : Prop := ∃ (so : SO) (ls : List Str) (p : List Jb) (z5 z6 : Option SV), okSrc so ∧ μ' = (μ ++ [SO.lst (ls.map .str), SO.lst ((namesP p).map .str)]).set l so ∧
  ρ = [some (.r l), some (.d (.int m)), some (.r μ.length), some (.r (μ.length + 1)), some (.d (pD p)), z5, z6] ∧ (ls ++ namesP p).Perm eight ∧ PipeOk [] p ∧ p.length + rest.length = tot ∧ (∀ w ∈ flagsP p, Fl w) ∧ ∀ j ∈ p, ∀ x ∈ j.reads, x ∈ readL
theorem seq_at {a : Int} {n : Nat} (h0 : 0 ≤ a) (h : a < n) : seqIndex? a n = some a.toNat ∧ a.toNat < n := by
  have := ixN_seq (n := n) (i := a) (j := a.toNat) (by unfold ixN; rw [if_pos h0, if_pos h])
  exact ⟨this.1, this.2.1⟩
theorem r__law_pipeline : ∀ svs μ Q, S__law_pipeline svs μ Q → T__law_pipeline (endD Q μ.length) (startE ["_law_source_here", "_law_most", "_law_left", "_law_known_here", "_law_found", "_law_turn", "_law_name"] svs) μ := fun svs μ Q h => by
  unfold S__law_pipeline at h
  split at h
  · rename_i l m
    obtain ⟨⟨so0, hs0, hso0⟩, hm0, hm8, q⟩ := h
    have hl : l < μ.length := (List.getElem?_eq_some_iff.mp hs0).1
    show T__law_pipeline _ [some (.r l), some (.d (.int m)), none, none, none, none, none] μ
    have z8 : 8 ≤ sizeLine := by rw [sizeLine_eq]; omega
    have z1 : 1 ≤ sizeLine := by rw [sizeLine_eq]; omega
    simp only [T__law_pipeline, vT, cT, opT, cmT, cmB, chT, chB, negT, isnT, nonT, isbT, nobT, bT, andB, orB, notB, andT, orT, notT, ifT, nilA, consA, tupT, lstN, frT, owT, callF, popN, ixT, noP, someP, slT, callT, callN, isiT, appT, popT, sosN, losT, lcN, seqI, rng1I, zipI, yesB, skipS, brkS, neverS, exprS, retS, retN, ifS, setS, asgS, parS, par2S, seqS, forS, setixS, finD, finN, oP_some, List.getElem?_cons_zero, List.getElem?_cons_succ, pure?, Option.map_some, oP_some, List.length_cons, List.length_nil, Nat.zero_add, Nat.reduceAdd, z8, Nat.zero_le, true_and, par3S, List.set, List.append_assoc, List.cons_append, List.nil_append, List.length_append]
    have g0 : (μ ++ [SO.lst [.str "b", .str "a", .str "deploy", .str "c", .str "test", .str "build", .str "z", .str "lint"], .lst []])[l]? = some so0 := by rw [List.getElem?_append_left hl]; exact hs0
    refine ⟨⟨so0, g0, hso0⟩, hm0, by omega, fun a so1 ha0 ha1 hso1 => ?_⟩
    obtain ⟨t, rfl⟩ := Int.eq_ofNat_of_zero_le ha0
    simp only [rd, oP_some, addD]
    refine ⟨by omega, by omega, ?_⟩
    have hr : isRng (1 + (t : Int)) = isRng ((t + 1 : Nat) : Int) := by congr 1; omega
    rw [hr]
    refine forGo_inv (PI l m (t + 1) μ) (fun ρ μ' hI => ?_) (fun x r ρ μ' K hI hK => ?_) _ _ _ ⟨so1, eight, [], none, none, hso1, rfl, rfl, by simp [namesP], trivial, by simp [isRng], by simp [flagsP], by simp⟩
    · obtain ⟨so, ls, p, z5, z6, h1, h2, h3, h4, h5, h6, h8, h9⟩ := hI
      subst h2 h3
      refine ⟨trivial, ?_⟩
      simp only [List.getElem?_cons_zero, List.getElem?_cons_succ, finD, take_two hl]
      simp only [List.length_nil, Nat.add_zero] at h6
      refine q p so ⟨⟨h5, by omega, by omega, few_flags h8⟩, by omega, h8, fun x hx => h4.mem_iff.mp (List.mem_append_right _ hx), h9⟩ h1
    · obtain ⟨so, ls, p, z5, z6, h1, h2, h3, h4, h5, h6, h8, h9⟩ := hI
      subst h2 h3
      rw [List.length_cons] at h6
      have hp := h4.length_eq
      rw [List.length_append] at hp
      have e8 : eight.length = 8 := rfl
      have e9 : (namesP p).length = p.length := List.length_map _
      have hn0 : 0 < ls.length := by omega
      refine ⟨trivial, ?_⟩
      have hl2 : l < (μ ++ [SO.lst (ls.map .str), .lst ((namesP p).map .str)]).length := by simp; omega
      simp only [Tg.put, oP_some, vT, cT, opT, cmT, cmB, chT, chB, negT, isnT, nonT, isbT, nobT, bT, andB, orB, notB, andT, orT, notT, ifT, nilA, consA, tupT, lstN, frT, owT, callF, popN, ixT, noP, someP, slT, callT, callN, isiT, appT, popT, sosN, losT, lcN, seqI, rng1I, zipI, yesB, skipS, brkS, neverS, exprS, retS, retN, ifS, setS, asgS, parS, par2S, seqS, forS, setixS, finD, finN, oP_some, List.getElem?_cons_zero, List.getElem?_cons_succ, List.set, lenD, sq, lstAt, two_0 hl]
      refine draw_step hl2 h1 (by simp; omega) (by simp; omega) fun a so2 ha0 ha1 hso2 => ?_
      rw [List.length_map] at ha1
      obtain ⟨k1, k2⟩ := seq_at (n := (ls.map PyData.str).length) ha0 (by rw [List.length_map]; exact ha1)
      generalize a.toNat = k at k1 k2
      have k3 : k < ls.length := by rwa [List.length_map] at k2
      have hgk : (ls.map PyData.str)[k]? = some (.str ls[k]) := by rw [List.getElem?_map, List.getElem?_eq_getElem k3]; rfl
      have hpe : (ls.eraseIdx k ++ (namesP p ++ [ls[k]])).Perm eight := by
        refine List.Perm.trans ?_ h4
        refine (List.perm_append_comm).trans ?_
        rw [List.append_assoc]
        refine List.Perm.trans ?_ List.perm_append_comm
        exact (erase_perm ls k k3).append_left _
      have hnd : (ls.eraseIdx k ++ (namesP p ++ [ls[k]])).Nodup := hpe.nodup_iff.mpr eight_nd
      have hnd2 := (List.nodup_append.mp hnd).2.1
      have hnk : ls[k] ∉ namesP p := fun hx => (List.nodup_append.mp hnd2).2.2 _ hx _ (by simp) rfl
      have hnm : ∀ x ∈ ls ++ namesP p, Nm x := fun x hx => eight_nm x (h4.mem_iff.mp hx)
      have hnn : Nm ls[k] := hnm _ (List.mem_append_left _ (List.getElem_mem k3))
      have em : (ls.map PyData.str).eraseIdx k = (ls.eraseIdx k).map .str := by
        rw [List.eraseIdx_eq_take_drop_succ, List.eraseIdx_eq_take_drop_succ, List.map_append, List.map_take, List.map_drop]
      simp only [two_0 hl, oP_some, k1, hgk, two_s0 hl, em]
      refine ⟨⟨by omega, by omega⟩, ?_⟩
      refine ⟨⟨so2, by rw [set_two hl, List.getElem?_append_left (by rw [List.length_set]; omega), List.getElem?_set_self hl], hso2⟩, by omega, hnn, namesP p, two_1 hl _ _ _, hnk, fun x hx => hnm x (List.mem_append_right _ hx), (List.nodup_append.mp hnd2).1, by omega, fun j so3 hv hso3 => ?_⟩
      have z2 : szOk (p.length + 1) = true := szOk_le (by omega)
      have z3 : (namesP p).length < sizeLine := by rw [sizeLine_eq]; omega
      have ej : (namesP (p ++ [j])) = namesP p ++ [ls[k]] := by rw [namesP, List.map_append, ← hv.nm]; rfl
      simp only [pure?, Option.map_some, oP_some, rd, List.length_cons, List.length_nil, Nat.zero_add, z1, true_and, addD, pD, z2, if_true, List.getElem?_cons_zero, List.getElem?_cons_succ, List.set, List.set_set, two_1 hl, two_s1 hl, List.length_map, z3]
      refine hK _ _ ⟨so3, ls.eraseIdx k, p ++ [j], _, _, hso3, by rw [ej, List.map_append]; rfl, by rw [pD, List.map_append]; rfl, by rw [ej]; exact hpe, h5.snoc hv.ok, by rw [List.length_append, List.length_singleton]; omega, ?_, ?_⟩
      · intro w hw
        unfold flagsP at hw h8
        rw [List.flatMap_append] at hw
        rcases List.mem_append.mp hw with hw | hw
        · exact h8 w hw
        · exact hv.fl w (by simpa using hw)
      · intro y hy
        rcases List.mem_append.mp hy with hy | hy
        · exact h9 y hy
        · rw [List.mem_singleton.mp hy]; exact hv.rd
  · exact h.elim
theorem l__law_some : ∀ svs μ Q, S__law_some svs μ Q → svs.length = 2 := fun svs μ Q h => by
  unfold S__law_some at h
  split at h
  · rfl
  · rfl
  · exact h.elim
theorem r__law_some : ∀ svs μ Q, S__law_some svs μ Q → T__law_some (endD Q μ.length) (startE ["_law_source_here", "_law_names_here", "_law_name"] svs) μ := fun svs μ Q h => by
  unfold S__law_some at h
  split at h
  · rename_i l xs
    obtain ⟨⟨so0, hs0, hso0⟩, ns, rfl, hn, q⟩ := h
    have hl : l < μ.length := (List.getElem?_eq_some_iff.mp hs0).1
    show T__law_some _ [some (.r l), some (.d (.tuple (ns.map .str))), none] μ
    have hn2 : (sortStr ns).length ≤ 1000 := by rw [perm_sortStr.length_eq]; omega
    simp only [T__law_some, vT, cT, opT, cmT, cmB, chT, chB, negT, isnT, nonT, isbT, nobT, bT, andB, orB, notB, andT, orT, notT, ifT, nilA, consA, tupT, lstN, frT, owT, callF, popN, ixT, noP, someP, slT, callT, callN, isiT, appT, popT, sosN, losT, lcN, seqI, rng1I, zipI, yesB, skipS, brkS, neverS, exprS, retS, retN, ifS, setS, asgS, parS, par2S, seqS, forS, setixS, finD, finN, oP_some, List.getElem?_cons_zero, List.getElem?_cons_succ, wipeE, List.set, sortN, rd, Option.bind_some, Option.map_some, strs_of_map, sortD_strs, oP_some, SO.data]
    refine draw_filter0 hs0 (by omega) (by omega) (by simp) (by omega) rfl (fun so => trivial) (sortStr ns) hn2 (fun as so1 has hso1 => ?_) hso0
    simp only [tupD, sq, rd, oP_some, take_set_len]
    exact q as so1 has hso1
  · rename_i l xs
    obtain ⟨⟨so0, hs0, hso0⟩, ns, rfl, hn, q⟩ := h
    have hl : l < μ.length := (List.getElem?_eq_some_iff.mp hs0).1
    show T__law_some _ [some (.r l), some (.d (.list (ns.map .str))), none] μ
    have hn2 : (sortStr ns).length ≤ 1000 := by rw [perm_sortStr.length_eq]; omega
    simp only [T__law_some, vT, cT, opT, cmT, cmB, chT, chB, negT, isnT, nonT, isbT, nobT, bT, andB, orB, notB, andT, orT, notT, ifT, nilA, consA, tupT, lstN, frT, owT, callF, popN, ixT, noP, someP, slT, callT, callN, isiT, appT, popT, sosN, losT, lcN, seqI, rng1I, zipI, yesB, skipS, brkS, neverS, exprS, retS, retN, ifS, setS, asgS, parS, par2S, seqS, forS, setixS, finD, finN, oP_some, List.getElem?_cons_zero, List.getElem?_cons_succ, wipeE, List.set, sortN, rd, Option.bind_some, Option.map_some, strs_of_map, sortD_strs, oP_some, SO.data]
    refine draw_filter0 hs0 (by omega) (by omega) (by simp) (by omega) rfl (fun so => trivial) (sortStr ns) hn2 (fun as so1 has hso1 => ?_) hso0
    simp only [tupD, sq, rd, oP_some, take_set_len]
    exact q as so1 has hso1
  · exact h.elim
theorem fN_new (μ : Mu) (so : SO) : fN μ.length (.r μ.length) (μ ++ [so]) = some (.r μ.length, μ ++ [so]) := by
  simp [fN]
theorem source_ok (ns : List Int) (k : Nat) (hk : k < 1000) (μ : Mu) : ∃ so, okSrc so ∧ m__law_source [.scr ns, .d (.int k)] μ = some (.r μ.length, μ ++ [so]) := by
  have e2 : mulOk 104729 k = true := by unfold mulOk; rw [Bool.or_eq_true]; exact .inl (by decide)
  have e3 : powD (.int 10) (.int 18) = some (.int 1000000000000000000) := by
    simp only [powD]
    rw [if_pos (by decide)]; rfl
  by_cases hl : k < ns.length
  · have hl2 : (k : Int) < ns.length := by omega
    have hg : (ns.map PyData.int)[k]? = some (.int ns[k]) := by rw [List.getElem?_map, List.getElem?_eq_getElem hl]; rfl
    have e1 : mulOk (if ns[k] < 0 then -ns[k] else ns[k]) 7919 = true := by unfold mulOk; rw [Bool.or_eq_true]; exact .inr (by decide)
    have hc : 0 ≤ (if ns[k] < 0 then -ns[k] else ns[k]) := by split <;> omega
    simp [m__law_source, hl2, J.atI_nat, hg, hl, e1, e2, e3, fN_new]
    generalize (if ns[k] < 0 then -ns[k] else ns[k]) = c at hc
    by_cases h : c < 1000000000000000000
    · have h1 := Int.emod_nonneg (c * 7919 + 104729 * k) (show (2147483646 : Int) ≠ 0 by omega)
      have h2 := Int.emod_lt_of_pos (c * 7919 + 104729 * k) (show (0 : Int) < 2147483646 by omega)
      exact ⟨.lst [.int 0, .int (1 + (c * 7919 + 104729 * k) % 2147483646)], ⟨0, 1 + (c * 7919 + 104729 * k) % 2147483646, rfl, by omega, by omega, by omega⟩, by rw [if_pos h]⟩
    · have h1 := Int.emod_nonneg (c + k) (show (2147483646 : Int) ≠ 0 by omega)
      have h2 := Int.emod_lt_of_pos (c + k) (show (0 : Int) < 2147483646 by omega)
      exact ⟨.lst [.int c, .int (1 + (c + k) % 2147483646)], ⟨c, 1 + (c + k) % 2147483646, rfl, hc, by omega, by omega⟩, by rw [if_neg h]⟩
  · have hl2 : ¬ ((k : Int) < ns.length) := by omega
    have e1 : mulOk 0 7919 = true := by unfold mulOk; rw [Bool.or_eq_true]; exact .inr (by decide)
    have h1 := Int.emod_nonneg (104729 * (k : Int)) (show (2147483646 : Int) ≠ 0 by omega)
    have h2 := Int.emod_lt_of_pos (104729 * (k : Int)) (show (0 : Int) < 2147483646 by omega)
    refine ⟨.lst [.int 0, .int (1 + 104729 * k % 2147483646)], ⟨0, 1 + 104729 * k % 2147483646, rfl, by omega, by omega, by omega⟩, ?_⟩
    simp [m__law_source, hl2, hl, e1, e2, e3, fN_new]
end PJ
namespace PJ
open PySem PySem.Spec J L2
local instance : J.Tb := ⟨[]⟩
def jA : Jb := ⟨Str.ofString "a", [], .tuple [.str (Str.ofString "good")], [], false⟩
def jB : Jb := ⟨Str.ofString "b", [Str.ofString "a"], .tuple [.str (Str.ofString "and"), .tuple [.str (Str.ofString "bad")], .tuple [.str (Str.ofString "good")]], [], false⟩
def jC : Jb := ⟨Str.ofString "c", [Str.ofString "a", Str.ofString "b"], .tuple [.str (Str.ofString "not"), .tuple [.str (Str.ofString "is"), .str (Str.ofString "b"), .str (Str.ofString "good")]], [], false⟩
theorem nm_a : Nm (Str.ofString "a") := by decide +kernel
theorem nm_b : Nm (Str.ofString "b") := by decide +kernel
theorem nm_c : Nm (Str.ofString "c") := by decide +kernel
theorem pipeZ : Pipe [jA, jB, jC] := by
  have ab : StrictS [Str.ofString "a", Str.ofString "b"] := (adj_strict _).mp (by decide +kernel)
  refine ⟨⟨⟨nm_a, by simp, by simp [jA], by simp [StrictS, jA], by simp [jA], by simp [jA], .leaf (by simp [leafL, jA]), by simp [jA], by simp [StrictS, jA], by simp [jA]⟩,
    ⟨nm_b, by decide +kernel, by simpa [jB] using nm_a, by simp [StrictS, jB], by simp [jB], by simp [jA, jB], .many (by simp) (by simp) (fun c hc => ?_), by simp [jB], by simp [StrictS, jB], by simp [jB]⟩,
    ⟨nm_c, by decide +kernel, ?_, ab, by simp [jC], by simp [jA, jB, jC], .not (.is (by simp [jC]) (by simp [statusL])), by simp [jC], by simp [StrictS, jC], by simp [jC]⟩, trivial⟩, by simp, by simp, ?_⟩
  · simp at hc
    rcases hc with rfl | rfl <;> exact .leaf (by simp [leafL])
  · intro x hx
    simp [jC] at hx
    rcases hx with rfl | rfl
    · exact nm_a
    · exact nm_b
  · have : flagsP [jA, jB, jC] = [] := by decide +kernel
    rw [this]; simp [sortSet]
theorem rA1 : rightB [] jA (.tuple [.str (Str.ofString "always")]) = true := by
  rw [← tell_plain (r := [jB, jC]) pipeZ (by simp [plains])]; decide +kernel
theorem rB1 : rightB [jA] jB (.tuple [.str (Str.ofString "always")]) = false := by
  rw [← tell_plain (r := [jC]) pipeZ (by simp [plains])]; decide +kernel
theorem rB2 : rightB [jA] jB (.tuple [.str (Str.ofString "or")]) = true := by
  rw [← tell_plain (r := [jC]) pipeZ (by simp [plains])]; decide +kernel
theorem rC1 : rightB [jA, jB] jC (.tuple [.str (Str.ofString "always")]) = true := by
  rw [← tell_plain (r := []) pipeZ (by simp [plains])]; decide +kernel
theorem least_Z : leastP [jA, jB, jC] = [withC jA (.tuple [.str (Str.ofString "always")]), withC jB (.tuple [.str (Str.ofString "or")]), withC jC (.tuple [.str (Str.ofString "always")])] := by
  simp [leastP, leastGo, leastJ, plains, rA1, rB1, rB2, rC1]
theorem need_Z : jC.needs.filter (fun n => needB [jA, jB] jC [] n) = [Str.ofString "a"] := by
  have h1 : needB [jA, jB] jC [] (Str.ofString "a") = true := by decide +kernel
  have h2 : needB [jA, jB] jC [] (Str.ofString "b") = false := by decide +kernel
  show [Str.ofString "a", Str.ofString "b"].filter _ = _
  simp [h1, h2]
theorem leastGo_snoc' (j : Jb) : ∀ (x a : List Jb), leastGo a (x ++ [j]) = leastGo a x ++ [leastJ (a ++ x) j]
  | [], a => by simp [leastGo]
  | y :: x, a => by rw [List.cons_append, leastGo, leastGo, leastGo_snoc' j x (a ++ [y])]; simp
theorem leastGo_snoc (a : List Jb) (j : Jb) : leastGo [] (a ++ [j]) = leastGo [] a ++ [leastJ a j] := by
  have := leastGo_snoc' j a []
  simpa using this
theorem enD_from (ds : List PyData) : enD ds = (ds.zipIdx 0).map fun p => .tuple [.int (p.2 : Nat), p.1] := rfl
theorem pD_gd {p : List Jb} (hp : Pipe p) : gd 6 (pD p) = true := gdL_le (by omega) hp.gd
theorem r_law : ∀ svs μ Q, S_law svs μ Q → T_law (endD Q μ.length) (startE ["_law_script", "_law_k", "_law_source_here", "_law_pipeline_here", "_law_due", "_law_at", "_law_job_here", "_law_needless", "_law_found", "_law_jobs", "_law_need"] svs) μ := fun svs μ Q h => by
  unfold S_law at h
  split at h
  · rename_i ns
    obtain ⟨hn, rfl, q⟩ := h
    show T_law _ [some (.scr ns), none, none, none, none, none, none, none, none, none, none] []
    have hmin : ∃ m : Nat, m ≤ 63 ∧ minD [] [.d (.int (ns.map PyData.int).length), .d (.int 4)] = some (.int m) := by
      rw [List.length_map]
      by_cases c : (4 : Int) < (ns.length : Int)
      · exact ⟨4, by omega, by simp [c]⟩
      · exact ⟨ns.length, hn, by simp [c]⟩
    obtain ⟨mm, hm, em⟩ := hmin
    simp only [T_law, vT, cT, opT, cmT, cmB, chT, chB, negT, isnT, nonT, isbT, nobT, bT, andB, orB, notB, andT, orT, notT, ifT, nilA, consA, tupT, lstN, frT, owT, callF, popN, ixT, noP, someP, slT, callT, callN, isiT, appT, popT, sosN, losT, lcN, seqI, rng1I, zipI, yesB, skipS, brkS, neverS, exprS, retS, retN, ifS, setS, asgS, parS, par2S, seqS, forS, setixS, finD, finN, oP_some, List.getElem?_cons_zero, List.getElem?_cons_succ, lenD, sq, oP_some, em, rd, addD]
    refine ⟨by omega, by omega, ?_⟩
    have z5 : 5 ≤ sizeLine := by rw [sizeLine_eq]; omega
    have z4 : 4 ≤ sizeLine := by rw [sizeLine_eq]; omega
    have z3 : 3 ≤ sizeLine := by rw [sizeLine_eq]; omega
    have z2 : 2 ≤ sizeLine := by rw [sizeLine_eq]; omega
    have z1 : 1 ≤ sizeLine := by rw [sizeLine_eq]; omega
    refine forGo_inv (fun rest ρ μ => (∀ x ∈ rest, ∃ k : Nat, k < 1000 ∧ x = .int k) ∧ ∃ a1 a2 a3 a4 a5 a6 a7 a8 a9 a10, ρ = [some (.scr ns), a1, a2, a3, a4, a5, a6, a7, a8, a9, a10]) (fun ρ μ ⟨_, a1, a2, a3, a4, a5, a6, a7, a8, a9, a10, e⟩ => ?_)
      (fun x r ρ μ K ⟨hx, a1, a2, a3, a4, a5, a6, a7, a8, a9, a10, e⟩ hK => ?_) _ _ _ ⟨fun x hx => ?_, none, none, none, none, none, none, none, none, none, none, rfl⟩
    · subst e
      refine ⟨trivial, ?_⟩
      have lz := fun μ => least_pipeline_ok pipeZ μ
      have nz := fun μ => needless_ok (a := [jA, jB]) (j := jC) (r := []) pipeZ μ
      rw [least_Z] at lz
      rw [need_Z] at nz
      have pz : pD [jA, jB, jC] = .tuple [.tuple [.str (Str.ofString "a"), .tuple [], .tuple [.str (Str.ofString "good")], .tuple [], .bool false], .tuple [.str (Str.ofString "b"), .tuple [.str (Str.ofString "a")], .tuple [.str (Str.ofString "and"), .tuple [.str (Str.ofString "bad")], .tuple [.str (Str.ofString "good")]], .tuple [], .bool false],
        .tuple [.str (Str.ofString "c"), .tuple [.str (Str.ofString "a"), .str (Str.ofString "b")], .tuple [.str (Str.ofString "not"), .tuple [.str (Str.ofString "is"), .str (Str.ofString "b"), .str (Str.ofString "good")]], .tuple [], .bool false]] := rfl
      simp only [pure?, Option.map_some, oP_some, List.length_cons, List.length_nil, Nat.zero_add, Nat.reduceAdd, z5, z4, z3, z2, z1, Nat.zero_le, true_and, List.getElem?_cons_zero, List.getElem?_cons_succ, List.set, ofF, addD, List.cons_append, List.nil_append, szOk_3, if_true, rd]
      have wA : ∀ μ, ixD μ (.d (withC jA (.tuple [.str (Str.ofString "always")])).d) (.d (.int 2)) = some (.tuple [.str (Str.ofString "always")]) := fun μ => rfl
      have wB : ∀ μ, ixD μ (.d (withC jB (.tuple [.str (Str.ofString "or")])).d) (.d (.int 2)) = some (.tuple [.str (Str.ofString "or")]) := fun μ => rfl
      have wC : ∀ μ, ixD μ (.d (withC jC (.tuple [.str (Str.ofString "always")])).d) (.d (.int 2)) = some (.tuple [.str (Str.ofString "always")]) := fun μ => rfl
      have q1 : eqD (.list [.tuple [.str (Str.ofString "always")], .tuple [.str (Str.ofString "or")], .tuple [.str (Str.ofString "always")]]) (.list [.tuple [.str (Str.ofString "always")], .tuple [.str (Str.ofString "or")], .tuple [.str (Str.ofString "always")]]) = some true := eq_self' (n := 2) (by decide +kernel) (by omega)
      have q2 : eqD (.list [.str (Str.ofString "a")]) (.list [.str (Str.ofString "a")]) = some true := eq_self' (n := 2) (by decide +kernel) (by omega)
      have nz2 : ∀ μ, m_needless_needs [.d (pD [jA, jB, jC]), .d (.str (Str.ofString "c"))] μ = some (.r μ.length, μ ++ [.lst [.str (Str.ofString "a")]]) := nz
      have sl : ∀ k, k < 3 → k < sizeLine := fun k hk => by rw [sizeLine_eq]; omega
      have lp : pD [withC jA (PyData.tuple [PyData.str (Str.ofString "always")]), withC jB (PyData.tuple [PyData.str (Str.ofString "or")]), withC jC (PyData.tuple [PyData.str (Str.ofString "always")])] = .tuple [(withC jA (.tuple [.str (Str.ofString "always")])).d, (withC jB (.tuple [.str (Str.ofString "or")])).d, (withC jC (.tuple [.str (Str.ofString "always")])).d] := rfl
      rw [lp] at lz
      rw [← pz]
      simp only [lz, oP_some]
      simp only [nz2, oP_some, wipeE, List.foldl, List.set, lcGo, Tg.put, vT, cT, opT, cmT, cmB, chT, chB, negT, isnT, nonT, isbT, nobT, bT, andB, orB, notB, andT, orT, notT, ifT, nilA, consA, tupT, lstN, frT, owT, callF, popN, ixT, noP, someP, slT, callT, callN, isiT, appT, popT, sosN, losT, lcN, seqI, rng1I, zipI, yesB, skipS, brkS, neverS, exprS, retS, retN, ifS, setS, asgS, parS, par2S, seqS, forS, setixS, finD, finN, oP_some, List.getElem?_cons_zero, List.getElem?_cons_succ, wA, wB, wC, true_and, List.length_nil, List.length_cons, List.nil_append, List.cons_append, Nat.zero_add, Nat.reduceAdd, sl 0 (by omega), sl 1 (by omega), sl 2 (by omega), SO.data, rd, q1, sq, lstAt]
      refine ⟨_, _, rfl, rfl, Nat.le_refl _, ?_⟩
      simp only [q2, oP_some]
      exact q
    · subst e
      obtain ⟨k, hk, rfl⟩ := hx x List.mem_cons_self
      refine ⟨trivial, ?_⟩
      obtain ⟨so, hso, es⟩ := source_ok ns k hk μ
      simp only [Tg.put, oP_some, vT, cT, opT, cmT, cmB, chT, chB, negT, isnT, nonT, isbT, nobT, bT, andB, orB, notB, andT, orT, notT, ifT, nilA, consA, tupT, lstN, frT, owT, callF, popN, ixT, noP, someP, slT, callT, callN, isiT, appT, popT, sosN, losT, lcN, seqI, rng1I, zipI, yesB, skipS, brkS, neverS, exprS, retS, retN, ifS, setS, asgS, parS, par2S, seqS, forS, setixS, finD, finN, oP_some, List.getElem?_cons_zero, List.getElem?_cons_succ, List.set, ofF, es]
      refine ⟨⟨so, by simp, hso⟩, by omega, by omega, fun p so1 hp hso1 => ?_⟩
      have P := hp.pipe
      simp only [List.getElem?_cons_zero, List.getElem?_cons_succ, List.set, oP_some, enumI, vT, cT, opT, cmT, cmB, chT, chB, negT, isnT, nonT, isbT, nobT, bT, andB, orB, notB, andT, orT, notT, ifT, nilA, consA, tupT, lstN, frT, owT, callF, popN, ixT, noP, someP, slT, callT, callN, isiT, appT, popT, sosN, losT, lcN, seqI, rng1I, zipI, yesB, skipS, brkS, neverS, exprS, retS, retN, ifS, setS, asgS, parS, par2S, seqS, forS, setixS, finD, finN, oP_some, pD, enD_from]
      refine forGo_inv (fun rest ρ μ => ∃ (a r : List Jb) (z1 z2 z5 z6 z7 z8 z9 z10 : Option SV), p = a ++ r ∧ rest = ((r.map Jb.d).zipIdx a.length).map (fun p => .tuple [.int (p.2 : Nat), p.1]) ∧ ρ = [some (.scr ns), z1, z2, some (.d (pD p)), some (.d (pD (leastGo [] a ++ r))), z5, z6, z7, z8, z9, z10])
        (fun ρ μ2 ⟨a, r, z1, z2, z5, z6, z7, z8, z9, z10, e1, e2, e3⟩ => ?_) (fun x rest ρ μ2 K2 ⟨a, r, y1, y2, y5, y6, y7, y8, y9, y10, e1, e2, e3⟩ hK2 => ?_) _ _ _ ⟨[], p, _, _, _, _, _, _, _, _, rfl, rfl, rfl⟩
      · have hr : r = [] := by
          cases r with
          | nil => rfl
          | cons a b => simp at e2
        subst hr
        rw [List.append_nil] at e1
        subst e1 e3
        refine ⟨trivial, ?_⟩
        have L1 := least_pair P
        have l1 := fun μ => least_pipeline_ok P μ
        have l2 := fun μ => least_pipeline_ok L1.hq μ
        rw [leastP_idem] at l2
        have n1 := ne_self (pD_gd L1.hq) (by omega)
        have sm := fun μ => law_same_ok L1 least_flags μ
        rw [show (tellP p (leastP p)).isNone = true by rw [Option.isNone_iff_eq_none, tell_none L1 least_names.symm]; exact least_alike p] at sm
        rw [List.append_nil]
        show _
        have el : leastGo [] p = leastP p := rfl
        simp only [el, List.getElem?_cons_zero, List.getElem?_cons_succ, l1, l2, n1, sm, oP_some, rd, Bool.not_true]
        exact hK _ _ ⟨fun y hy => hx y (List.mem_cons_of_mem _ hy), _, _, _, _, _, _, _, _, _, _, rfl⟩
      · cases r with
        | nil => simp at e2
        | cons j r =>
          rw [List.map_cons, List.zipIdx_cons, List.map_cons, List.cons.injEq] at e2
          obtain ⟨rfl, rfl⟩ := e2
          subst e1 e3
          refine ⟨trivial, ?_⟩
          have lp := fun μ => law_plain_ok P μ
          have la : (leastGo [] a).length = a.length := least_len a []
          have hl8 := P.most
          have hl : (leastGo [] a).length + r.length ≤ 1000 := by rw [la]; simp at hl8; omega
          have lw := fun μ => law_with_ok (b := leastGo [] a) (x := j) (r := r) (ns := j.needs) (c := (leastJ a j).cond) hl μ
          have ej : (⟨j.nm, j.needs, (leastJ a j).cond, j.reads, j.soft⟩ : Jb) = leastJ a j := by
            obtain ⟨h1, h2, h3, h4, _⟩ := leastJ_same a j
            cases hlj : leastJ a j
            rw [hlj] at h1 h2 h3 h4
            simp at h1 h2 h3 h4
            simp [h1, h2, h3, h4]
          rw [ej, la] at lw
          obtain ⟨ks, j1, _⟩ := pipe_mid P.ok
          have x1 : ∀ μ, ixD μ (.d j.d) (.d (.int 1)) = some (.tuple (j.needs.map .str)) := fun μ => by simp [Jb.d]
          have x0 : ∀ μ, ixD μ (.d j.d) (.d (.int 0)) = some (.str j.nm) := fun μ => by simp [Jb.d]
          have nd := fun μ => needless_ok P μ
          have ln := fun n μ => law_needless_ok P n μ
          simp only [Tg.put, List.length_cons, List.length_nil, if_true, setD, List.set, oP_some, vT, cT, opT, cmT, cmB, chT, chB, negT, isnT, nonT, isbT, nobT, bT, andB, orB, notB, andT, orT, notT, ifT, nilA, consA, tupT, lstN, frT, owT, callF, popN, ixT, noP, someP, slT, callT, callN, isiT, appT, popT, sosN, losT, lcN, seqI, rng1I, zipI, yesB, skipS, brkS, neverS, exprS, retS, retN, ifS, setS, asgS, parS, par2S, seqS, forS, setixS, finD, finN, oP_some, ofF, List.getElem?_cons_zero, List.getElem?_cons_succ, x1, x0, lp, lw, sq, rd, wipeE, List.foldl]
          refine lcGo_strs (fun n => needB a j r n) .str j.needs (by have := j1.nlen; omega) (fun n hn k hk => ?_) (fun n hn k hk => ?_) ?_
          · simp only [vT, cT, opT, cmT, cmB, chT, chB, negT, isnT, nonT, isbT, nobT, bT, andB, orB, notB, andT, orT, notT, ifT, nilA, consA, tupT, lstN, frT, owT, callF, popN, ixT, noP, someP, slT, callT, callN, isiT, appT, popT, sosN, losT, lcN, seqI, rng1I, zipI, yesB, skipS, brkS, neverS, exprS, retS, retN, ifS, setS, asgS, parS, par2S, seqS, forS, setixS, finD, finN, oP_some, List.set, List.getElem?_cons_zero, List.getElem?_cons_succ, ofF, ln, oP_some]
            exact hk
          · simp only [vT, cT, opT, cmT, cmB, chT, chB, negT, isnT, nonT, isbT, nobT, bT, andB, orB, notB, andT, orT, notT, ifT, nilA, consA, tupT, lstN, frT, owT, callF, popN, ixT, noP, someP, slT, callT, callN, isiT, appT, popT, sosN, losT, lcN, seqI, rng1I, zipI, yesB, skipS, brkS, neverS, exprS, retS, retN, ifS, setS, asgS, parS, par2S, seqS, forS, setixS, finD, finN, oP_some, List.set, List.getElem?_cons_zero, List.getElem?_cons_succ]
            exact hk
          have hsub : List.Sublist (j.needs.filter fun n => needB a j r n) j.needs := List.filter_sublist
          have okl : okD (.list ((j.needs.filter fun n => needB a j r n).map .str)) = true := ok_strsL (fun x hx L n => nm_gd (j1.nnm x (hsub.mem hx)) L n) (Nat.le_trans hsub.length_le (by have := j1.nlen; omega))
          have lk : ((j.needs.filter fun n => needB a j r n).map PyData.str).length < sizeLine := by
            rw [List.length_map, sizeLine_eq]
            have := hsub.length_le
            have := j1.nlen
            omega
          have ne : neD (.list ((j.needs.filter fun n => needB a j r n).map .str)) (.list ((j.needs.filter fun n => needB a j r n).map .str)) = some false := by
            have := ne_strsL okl okl
            simpa using this
          have gW : ∀ X : SO, (μ2 ++ [X])[μ2.length]? = some X := fun X => by simp
          have sW : ∀ X Y : SO, (μ2 ++ [X]).set μ2.length Y = μ2 ++ [Y] := fun X Y => by simp
          simp only [nd, oP_some, gW, Option.map_some, SO.data, ne, lstAt, sW]
          refine ⟨lk, _, _, rfl, rfl, Nat.le_refl _, ?_⟩
          simp only [ne, oP_some]
          exact hK2 _ _ ⟨a ++ [j], r, _, _, _, _, _, _, _, _, by simp, by simp, by rw [leastGo_snoc, List.append_assoc]; rfl⟩
    · unfold isRng at hx
      obtain ⟨i, hi, rfl⟩ := List.mem_map.mp hx
      have := List.mem_range.mp hi
      exact ⟨i, by omega, rfl⟩
  · exact h.elim
end PJ
namespace PJ
open PySem PySem.Spec PyProof.Rows L2 J
section
variable [J.Tb]
theorem all_law {P : Program} {w : World} {K : PySem.W.Frag} {mg : Str → Option Value} {base : Heap} {cl : Nat → Addr} {f : Addr} {fd : FuncData} (Fx : Fx K mg cl) (F0 : Fun K "law" "law" s_law f fd)  : FnOk P w K mg base CX0 26 f fd ["_law_script"] (LS K (S_law)) := by
  have F__law_asked : ∀ n, FD P w K mg base (1 + n) "_law_asked" (ofF (m__law_asked n)) := fun n => by
    induction n with
    | zero => exact z__law_asked (P := P) (w := w) (base := base) Fx
    | succ n ih => exact f__law_asked (P := P) (w := w) (base := base) Fx ih
  have F__law_asked := F__law_asked 20
  have F__law_flags : ∀ n, FD P w K mg base (1 + n) "_law_flags" (ofF (m__law_flags n)) := fun n => by
    induction n with
    | zero => exact z__law_flags (P := P) (w := w) (base := base) Fx
    | succ n ih => exact f__law_flags (P := P) (w := w) (base := base) Fx ih
  have F__law_flags := F__law_flags 20
  have F__law_all_flags := f__law_all_flags (P := P) (w := w) (base := base) Fx F__law_flags
  have F__law_names := f__law_names (P := P) (w := w) (base := base) Fx 
  have F__law_parts := f__law_parts (P := P) (w := w) (base := base) Fx 
  have F__law_cases := f__law_cases (P := P) (w := w) (base := base) Fx F__law_all_flags F__law_names F__law_parts
  have F__law_holds : ∀ n, FD P w K mg base (1 + n) "_law_holds" (ofF (m__law_holds n)) := fun n => by
    induction n with
    | zero => exact z__law_holds (P := P) (w := w) (base := base) Fx
    | succ n ih => exact f__law_holds (P := P) (w := w) (base := base) Fx ih
  have F__law_holds := F__law_holds 20
  have F__law_known := f__law_known (P := P) (w := w) (base := base) Fx F__law_holds
  have F__law_same := f__law_same (P := P) (w := w) (base := base) Fx F__law_all_flags F__law_cases F__law_known
  have F__law_with := f__law_with (P := P) (w := w) (base := base) Fx 
  have F__law_is_needless := f__law_is_needless (P := P) (w := w) (base := base) Fx F__law_asked F__law_same F__law_with
  have F__law_draw := f__law_draw (P := P) (w := w) (base := base) Fx  l__law_draw r__law_draw
  have F__law_choice := f__law_choice (P := P) (w := w) (base := base) Fx F__law_draw l__law_choice r__law_choice
  have F__law_condition : ∀ n, FD P w K mg base (3 + n) "_law_condition" (S__law_condition n) := fun n => by
    induction n with
    | zero => exact z__law_condition (P := P) (w := w) (base := base) Fx
    | succ n ih => exact f__law_condition (P := P) (w := w) (base := base) Fx F__law_choice ih F__law_draw l__law_condition r__law_condition
  have F__law_condition := F__law_condition 5
  have F__law_job := f__law_job (P := P) (w := w) (base := base) Fx F__law_choice F__law_condition F__law_draw l__law_job r__law_job
  have F__law_pipeline := f__law_pipeline (P := P) (w := w) (base := base) Fx F__law_draw F__law_job l__law_pipeline r__law_pipeline
  have F__law_plain := f__law_plain (P := P) (w := w) (base := base) Fx F__law_same F__law_with
  have F__law_source := f__law_source (P := P) (w := w) (base := base) Fx 
  have F_all_parts := f_all_parts (P := P) (w := w) (base := base) Fx 
  have F_names_of := f_names_of (P := P) (w := w) (base := base) Fx 
  have F_all_cases := f_all_cases (P := P) (w := w) (base := base) Fx F_all_parts F_names_of
  have F_words_in : ∀ n, FD P w K mg base (1 + n) "words_in" (ofF (m_words_in n)) := fun n => by
    induction n with
    | zero => exact z_words_in (P := P) (w := w) (base := base) Fx
    | succ n ih => exact f_words_in (P := P) (w := w) (base := base) Fx ih
  have F_words_in := F_words_in 20
  have F_flags_of := f_flags_of (P := P) (w := w) (base := base) Fx F_words_in
  have F_does_hold : ∀ n, FD P w K mg base (1 + n) "does_hold" (ofF (m_does_hold n)) := fun n => by
    induction n with
    | zero => exact z_does_hold (P := P) (w := w) (base := base) Fx
    | succ n ih => exact f_does_hold (P := P) (w := w) (base := base) Fx ih
  have F_does_hold := F_does_hold 20
  have F_ended_as := f_ended_as (P := P) (w := w) (base := base) Fx 
  have F_seen_by := f_seen_by (P := P) (w := w) (base := base) Fx 
  have F_known_in := f_known_in (P := P) (w := w) (base := base) Fx F_does_hold F_ended_as F_seen_by
  have F_first_unlike := f_first_unlike (P := P) (w := w) (base := base) Fx F_all_cases F_flags_of F_known_in F_names_of
  have F_is_text_of := f_is_text_of (P := P) (w := w) (base := base) Fx 
  have F_is_name := f_is_name (P := P) (w := w) (base := base) Fx F_is_text_of
  have F_are_names := f_are_names (P := P) (w := w) (base := base) Fx F_is_name
  have F_is_status := f_is_status (P := P) (w := w) (base := base) Fx 
  have F_is_within : ∀ n, FD P w K mg base (3 + n) "is_within" (ofF (m_is_within n)) := fun n => by
    induction n with
    | zero => exact z_is_within (P := P) (w := w) (base := base) Fx
    | succ n ih => exact f_is_within (P := P) (w := w) (base := base) Fx F_is_name F_is_status ih
  have F_is_within := F_is_within 6
  have F_is_condition := f_is_condition (P := P) (w := w) (base := base) Fx F_is_within
  have F_is_job := f_is_job (P := P) (w := w) (base := base) Fx F_are_names F_is_condition F_is_name F_words_in
  have F_is_pipeline := f_is_pipeline (P := P) (w := w) (base := base) Fx F_flags_of F_is_job
  have F_need_pipeline := f_need_pipeline (P := P) (w := w) (base := base) Fx F_is_pipeline
  have F_with_job := f_with_job (P := P) (w := w) (base := base) Fx 
  have F_least_pipeline := f_least_pipeline (P := P) (w := w) (base := base) Fx F_first_unlike F_need_pipeline F_with_job
  have F_names_of__x := f_names_of__x (P := P) (w := w) (base := base) Fx 
  have F_need_name := f_need_name (P := P) (w := w) (base := base) Fx F_is_name F_names_of
  have F_needless_needs := f_needless_needs (P := P) (w := w) (base := base) Fx F_first_unlike F_names_of__x F_need_name F_need_pipeline F_with_job F_words_in
  have F_law := f_law (P := P) (w := w) (base := base) Fx F0 F__law_is_needless F__law_pipeline F__law_plain F__law_same F__law_source F__law_with F_least_pipeline F_needless_needs l_law r_law
  exact F_law
end
theorem law_mk [J.Tb] {l : PySem.W.OpenLaw} {w : World} {K : PySem.W.Frag} {h : Heap} {mg : Str → Option Value} {fa : Addr} (X : K.In h) (G : h.Ns mainGlobals mg) (hfa : mg "law" = some (.ref fa))
    {f0 : Addr} {od0 an0 : Option Addr} {sl0 : Array (Option Value)} {oc0 kV0 dc0 pm0 ct0 : Value} {cd0 : Value}
    {f1 : Addr} {od1 an1 : Option Addr} {sl1 : Array (Option Value)} {oc1 kV1 dc1 pm1 ct1 : Value} {cd1 : Value}
    {f2 : Addr} {od2 an2 : Option Addr} {sl2 : Array (Option Value)} {oc2 kV2 dc2 pm2 ct2 : Value} {cd2 : Value}
    {f3 : Addr} {od3 an3 : Option Addr} {sl3 : Array (Option Value)} {oc3 kV3 dc3 pm3 ct3 : Value} {cd3 : Value}
    {f4 : Addr} {od4 an4 : Option Addr} {sl4 : Array (Option Value)} {oc4 kV4 dc4 pm4 ct4 : Value} {cd4 : Value}
    {f5 : Addr} {od5 an5 : Option Addr} {sl5 : Array (Option Value)} {oc5 kV5 dc5 pm5 ct5 : Value} {cd5 : Value}
    {f6 : Addr} {od6 an6 : Option Addr} {sl6 : Array (Option Value)} {oc6 kV6 dc6 pm6 ct6 : Value} {cd6 : Value}
    {f7 : Addr} {od7 an7 : Option Addr} {sl7 : Array (Option Value)} {oc7 kV7 dc7 pm7 ct7 : Value} {cd7 : Value}
    {f8 : Addr} {od8 an8 : Option Addr} {sl8 : Array (Option Value)} {oc8 kV8 dc8 pm8 ct8 : Value} {cd8 : Value}
    {f9 : Addr} {od9 an9 : Option Addr} {sl9 : Array (Option Value)} {oc9 kV9 dc9 pm9 ct9 : Value} {cd9 : Value}
    {f10 : Addr} {od10 an10 : Option Addr} {sl10 : Array (Option Value)} {oc10 kV10 dc10 pm10 ct10 : Value} {cd10 : Value}
    {f11 : Addr} {od11 an11 : Option Addr} {sl11 : Array (Option Value)} {oc11 kV11 dc11 pm11 ct11 : Value} {cd11 : Value}
    {f12 : Addr} {od12 an12 : Option Addr} {sl12 : Array (Option Value)} {oc12 kV12 dc12 pm12 ct12 : Value} {cd12 : Value}
    {f13 : Addr} {od13 an13 : Option Addr} {sl13 : Array (Option Value)} {oc13 kV13 dc13 pm13 ct13 : Value} {cd13 : Value}
    {f14 : Addr} {od14 an14 : Option Addr} {sl14 : Array (Option Value)} {oc14 kV14 dc14 pm14 ct14 : Value} {cd14 : Value}
    {f15 : Addr} {od15 an15 : Option Addr} {sl15 : Array (Option Value)} {oc15 kV15 dc15 pm15 ct15 : Value} {cd15 : Value}
    {f16 : Addr} {od16 an16 : Option Addr} {sl16 : Array (Option Value)} {oc16 kV16 dc16 pm16 ct16 : Value} {cd16 : Value}
    {f17 : Addr} {od17 an17 : Option Addr} {sl17 : Array (Option Value)} {oc17 kV17 dc17 pm17 ct17 : Value} {cd17 : Value}
    {f18 : Addr} {od18 an18 : Option Addr} {sl18 : Array (Option Value)} {oc18 kV18 dc18 pm18 ct18 : Value} {cd18 : Value}
    {f19 : Addr} {od19 an19 : Option Addr} {sl19 : Array (Option Value)} {oc19 kV19 dc19 pm19 ct19 : Value} {cd19 : Value}
    {f20 : Addr} {od20 an20 : Option Addr} {sl20 : Array (Option Value)} {oc20 kV20 dc20 pm20 ct20 : Value} {cd20 : Value}
    {f21 : Addr} {od21 an21 : Option Addr} {sl21 : Array (Option Value)} {oc21 kV21 dc21 pm21 ct21 : Value} {cd21 : Value}
    {f22 : Addr} {od22 an22 : Option Addr} {sl22 : Array (Option Value)} {oc22 kV22 dc22 pm22 ct22 : Value} {cd22 : Value}
    {f23 : Addr} {od23 an23 : Option Addr} {sl23 : Array (Option Value)} {oc23 kV23 dc23 pm23 ct23 : Value} {cd23 : Value}
    {f24 : Addr} {od24 an24 : Option Addr} {sl24 : Array (Option Value)} {oc24 kV24 dc24 pm24 ct24 : Value} {cd24 : Value}
    {f25 : Addr} {od25 an25 : Option Addr} {sl25 : Array (Option Value)} {oc25 kV25 dc25 pm25 ct25 : Value} {cd25 : Value}
    {f26 : Addr} {od26 an26 : Option Addr} {sl26 : Array (Option Value)} {oc26 kV26 dc26 pm26 ct26 : Value} {cd26 : Value}
    {f27 : Addr} {od27 an27 : Option Addr} {sl27 : Array (Option Value)} {oc27 kV27 dc27 pm27 ct27 : Value} {cd27 : Value}
    {f28 : Addr} {od28 an28 : Option Addr} {sl28 : Array (Option Value)} {oc28 kV28 dc28 pm28 ct28 : Value} {cd28 : Value}
    {f29 : Addr} {od29 an29 : Option Addr} {sl29 : Array (Option Value)} {oc29 kV29 dc29 pm29 ct29 : Value} {cd29 : Value}
    {f30 : Addr} {od30 an30 : Option Addr} {sl30 : Array (Option Value)} {oc30 kV30 dc30 pm30 ct30 : Value} {cd30 : Value}
    {f31 : Addr} {od31 an31 : Option Addr} {sl31 : Array (Option Value)} {oc31 kV31 dc31 pm31 ct31 : Value} {cd31 : Value}
    {f32 : Addr} {od32 an32 : Option Addr} {sl32 : Array (Option Value)} {oc32 kV32 dc32 pm32 ct32 : Value} {cd32 : Value}
    {f33 : Addr} {od33 an33 : Option Addr} {sl33 : Array (Option Value)} {oc33 kV33 dc33 pm33 ct33 : Value} {cd33 : Value}
    {f34 : Addr} {od34 an34 : Option Addr} {sl34 : Array (Option Value)} {oc34 kV34 dc34 pm34 ct34 : Value} {cd34 : Value}
    {f35 : Addr} {od35 an35 : Option Addr} {sl35 : Array (Option Value)} {oc35 kV35 dc35 pm35 ct35 : Value} {cd35 : Value}
    {f36 : Addr} {od36 an36 : Option Addr} {sl36 : Array (Option Value)} {oc36 kV36 dc36 pm36 ct36 : Value} {cd36 : Value}
    {f37 : Addr} {od37 an37 : Option Addr} {sl37 : Array (Option Value)} {oc37 kV37 dc37 pm37 ct37 : Value} {cd37 : Value}
    {f38 : Addr} {od38 an38 : Option Addr} {sl38 : Array (Option Value)} {oc38 kV38 dc38 pm38 ct38 : Value} {cd38 : Value}
    {f39 : Addr} {od39 an39 : Option Addr} {sl39 : Array (Option Value)} {oc39 kV39 dc39 pm39 ct39 : Value} {cd39 : Value}
    {f40 : Addr} {od40 an40 : Option Addr} {sl40 : Array (Option Value)} {oc40 kV40 dc40 pm40 ct40 : Value} {cd40 : Value}
    {f41 : Addr} {od41 an41 : Option Addr} {sl41 : Array (Option Value)} {oc41 kV41 dc41 pm41 ct41 : Value} {cd41 : Value}
    {tu0 : Value} {tv0 : V} {te0 : PyData}
    {tp1 : Addr} {td1 : Option Addr} {ti1 : Array Value} {tn1 : Nat} {ts1 : Array (Option Value)} {te1 : List PyData}
    {tu2 : Value} {tv2 : V} {te2 : PyData}
    {tu3 : Value} {tv3 : V} {te3 : PyData}
    {tu4 : Value} {tv4 : V} {te4 : PyData}
    {tu5 : Value} {tv5 : V} {te5 : PyData}
    {tp6 : Addr} {td6 : Option Addr} {ti6 : Array Value} {tn6 : Nat} {ts6 : Array (Option Value)} {te6 : List PyData}
    {tu7 : Value} {tv7 : V} {te7 : PyData}
    {tu8 : Value} {tv8 : V} {te8 : PyData}
    {tp9 : Addr} {td9 : Option Addr} {ti9 : Array Value} {tn9 : Nat} {ts9 : Array (Option Value)} {te9 : List PyData}
    {tu10 : Value} {tv10 : V} {te10 : PyData}
    {tu11 : Value} {tv11 : V} {te11 : PyData}
    {tu12 : Value} {tv12 : V} {te12 : PyData}
    {tu13 : Value} {tv13 : V} {te13 : PyData}
    (a0 : PySem.W.nsIn K mainGlobals "_law_asked" = some (some (.ref f0))) (l0 : K.lookup f0 = some ⟨oc0, od0, .func (PySem.W.fnOf "_law_asked" "_law_asked" (defArgs s__law_asked) (defBody s__law_asked) (defScope s__law_asked) .none kV0 dc0 pm0 an0 cd0 ct0), sl0⟩) (c0 : PySem.W.codeIn K cd0 "_law_asked" = true) (k0 : PySem.W.keepIn K (.ref f0) = true)
    (a1 : PySem.W.nsIn K mainGlobals "_law_flags" = some (some (.ref f1))) (l1 : K.lookup f1 = some ⟨oc1, od1, .func (PySem.W.fnOf "_law_flags" "_law_flags" (defArgs s__law_flags) (defBody s__law_flags) (defScope s__law_flags) .none kV1 dc1 pm1 an1 cd1 ct1), sl1⟩) (c1 : PySem.W.codeIn K cd1 "_law_flags" = true) (k1 : PySem.W.keepIn K (.ref f1) = true)
    (a2 : PySem.W.nsIn K mainGlobals "_law_all_flags" = some (some (.ref f2))) (l2 : K.lookup f2 = some ⟨oc2, od2, .func (PySem.W.fnOf "_law_all_flags" "_law_all_flags" (defArgs s__law_all_flags) (defBody s__law_all_flags) (defScope s__law_all_flags) .none kV2 dc2 pm2 an2 cd2 ct2), sl2⟩) (c2 : PySem.W.codeIn K cd2 "_law_all_flags" = true) (k2 : PySem.W.keepIn K (.ref f2) = true)
    (a3 : PySem.W.nsIn K mainGlobals "_law_names" = some (some (.ref f3))) (l3 : K.lookup f3 = some ⟨oc3, od3, .func (PySem.W.fnOf "_law_names" "_law_names" (defArgs s__law_names) (defBody s__law_names) (defScope s__law_names) .none kV3 dc3 pm3 an3 cd3 ct3), sl3⟩) (c3 : PySem.W.codeIn K cd3 "_law_names" = true) (k3 : PySem.W.keepIn K (.ref f3) = true)
    (a4 : PySem.W.nsIn K mainGlobals "_law_parts" = some (some (.ref f4))) (l4 : K.lookup f4 = some ⟨oc4, od4, .func (PySem.W.fnOf "_law_parts" "_law_parts" (defArgs s__law_parts) (defBody s__law_parts) (defScope s__law_parts) .none kV4 dc4 pm4 an4 cd4 ct4), sl4⟩) (c4 : PySem.W.codeIn K cd4 "_law_parts" = true) (k4 : PySem.W.keepIn K (.ref f4) = true)
    (a5 : PySem.W.nsIn K mainGlobals "_law_cases" = some (some (.ref f5))) (l5 : K.lookup f5 = some ⟨oc5, od5, .func (PySem.W.fnOf "_law_cases" "_law_cases" (defArgs s__law_cases) (defBody s__law_cases) (defScope s__law_cases) .none kV5 dc5 pm5 an5 cd5 ct5), sl5⟩) (c5 : PySem.W.codeIn K cd5 "_law_cases" = true) (k5 : PySem.W.keepIn K (.ref f5) = true)
    (a6 : PySem.W.nsIn K mainGlobals "_law_holds" = some (some (.ref f6))) (l6 : K.lookup f6 = some ⟨oc6, od6, .func (PySem.W.fnOf "_law_holds" "_law_holds" (defArgs s__law_holds) (defBody s__law_holds) (defScope s__law_holds) .none kV6 dc6 pm6 an6 cd6 ct6), sl6⟩) (c6 : PySem.W.codeIn K cd6 "_law_holds" = true) (k6 : PySem.W.keepIn K (.ref f6) = true)
    (a7 : PySem.W.nsIn K mainGlobals "_law_known" = some (some (.ref f7))) (l7 : K.lookup f7 = some ⟨oc7, od7, .func (PySem.W.fnOf "_law_known" "_law_known" (defArgs s__law_known) (defBody s__law_known) (defScope s__law_known) .none kV7 dc7 pm7 an7 cd7 ct7), sl7⟩) (c7 : PySem.W.codeIn K cd7 "_law_known" = true) (k7 : PySem.W.keepIn K (.ref f7) = true)
    (a8 : PySem.W.nsIn K mainGlobals "_law_same" = some (some (.ref f8))) (l8 : K.lookup f8 = some ⟨oc8, od8, .func (PySem.W.fnOf "_law_same" "_law_same" (defArgs s__law_same) (defBody s__law_same) (defScope s__law_same) .none kV8 dc8 pm8 an8 cd8 ct8), sl8⟩) (c8 : PySem.W.codeIn K cd8 "_law_same" = true) (k8 : PySem.W.keepIn K (.ref f8) = true)
    (a9 : PySem.W.nsIn K mainGlobals "_law_with" = some (some (.ref f9))) (l9 : K.lookup f9 = some ⟨oc9, od9, .func (PySem.W.fnOf "_law_with" "_law_with" (defArgs s__law_with) (defBody s__law_with) (defScope s__law_with) .none kV9 dc9 pm9 an9 cd9 ct9), sl9⟩) (c9 : PySem.W.codeIn K cd9 "_law_with" = true) (k9 : PySem.W.keepIn K (.ref f9) = true)
    (a10 : PySem.W.nsIn K mainGlobals "_law_is_needless" = some (some (.ref f10))) (l10 : K.lookup f10 = some ⟨oc10, od10, .func (PySem.W.fnOf "_law_is_needless" "_law_is_needless" (defArgs s__law_is_needless) (defBody s__law_is_needless) (defScope s__law_is_needless) .none kV10 dc10 pm10 an10 cd10 ct10), sl10⟩) (c10 : PySem.W.codeIn K cd10 "_law_is_needless" = true) (k10 : PySem.W.keepIn K (.ref f10) = true)
    (a11 : PySem.W.nsIn K mainGlobals "_law_draw" = some (some (.ref f11))) (l11 : K.lookup f11 = some ⟨oc11, od11, .func (PySem.W.fnOf "_law_draw" "_law_draw" (defArgs s__law_draw) (defBody s__law_draw) (defScope s__law_draw) .none kV11 dc11 pm11 an11 cd11 ct11), sl11⟩) (c11 : PySem.W.codeIn K cd11 "_law_draw" = true) (k11 : PySem.W.keepIn K (.ref f11) = true)
    (a12 : PySem.W.nsIn K mainGlobals "_law_choice" = some (some (.ref f12))) (l12 : K.lookup f12 = some ⟨oc12, od12, .func (PySem.W.fnOf "_law_choice" "_law_choice" (defArgs s__law_choice) (defBody s__law_choice) (defScope s__law_choice) .none kV12 dc12 pm12 an12 cd12 ct12), sl12⟩) (c12 : PySem.W.codeIn K cd12 "_law_choice" = true) (k12 : PySem.W.keepIn K (.ref f12) = true)
    (a13 : PySem.W.nsIn K mainGlobals "_law_condition" = some (some (.ref f13))) (l13 : K.lookup f13 = some ⟨oc13, od13, .func (PySem.W.fnOf "_law_condition" "_law_condition" (defArgs s__law_condition) (defBody s__law_condition) (defScope s__law_condition) .none kV13 dc13 pm13 an13 cd13 ct13), sl13⟩) (c13 : PySem.W.codeIn K cd13 "_law_condition" = true) (k13 : PySem.W.keepIn K (.ref f13) = true)
    (a14 : PySem.W.nsIn K mainGlobals "_law_job" = some (some (.ref f14))) (l14 : K.lookup f14 = some ⟨oc14, od14, .func (PySem.W.fnOf "_law_job" "_law_job" (defArgs s__law_job) (defBody s__law_job) (defScope s__law_job) .none kV14 dc14 pm14 an14 cd14 ct14), sl14⟩) (c14 : PySem.W.codeIn K cd14 "_law_job" = true) (k14 : PySem.W.keepIn K (.ref f14) = true)
    (a15 : PySem.W.nsIn K mainGlobals "_law_pipeline" = some (some (.ref f15))) (l15 : K.lookup f15 = some ⟨oc15, od15, .func (PySem.W.fnOf "_law_pipeline" "_law_pipeline" (defArgs s__law_pipeline) (defBody s__law_pipeline) (defScope s__law_pipeline) .none kV15 dc15 pm15 an15 cd15 ct15), sl15⟩) (c15 : PySem.W.codeIn K cd15 "_law_pipeline" = true) (k15 : PySem.W.keepIn K (.ref f15) = true)
    (a16 : PySem.W.nsIn K mainGlobals "_law_plain" = some (some (.ref f16))) (l16 : K.lookup f16 = some ⟨oc16, od16, .func (PySem.W.fnOf "_law_plain" "_law_plain" (defArgs s__law_plain) (defBody s__law_plain) (defScope s__law_plain) .none kV16 dc16 pm16 an16 cd16 ct16), sl16⟩) (c16 : PySem.W.codeIn K cd16 "_law_plain" = true) (k16 : PySem.W.keepIn K (.ref f16) = true)
    (a17 : PySem.W.nsIn K mainGlobals "_law_source" = some (some (.ref f17))) (l17 : K.lookup f17 = some ⟨oc17, od17, .func (PySem.W.fnOf "_law_source" "_law_source" (defArgs s__law_source) (defBody s__law_source) (defScope s__law_source) .none kV17 dc17 pm17 an17 cd17 ct17), sl17⟩) (c17 : PySem.W.codeIn K cd17 "_law_source" = true) (k17 : PySem.W.keepIn K (.ref f17) = true)
    (a18 : PySem.W.nsIn K mainGlobals "all_parts" = some (some (.ref f18))) (l18 : K.lookup f18 = some ⟨oc18, od18, .func (PySem.W.fnOf "all_parts" "all_parts" (defArgs s_all_parts) (defBody s_all_parts) (defScope s_all_parts) .none kV18 dc18 pm18 an18 cd18 ct18), sl18⟩) (c18 : PySem.W.codeIn K cd18 "all_parts" = true) (k18 : PySem.W.keepIn K (.ref f18) = true)
    (a19 : PySem.W.nsIn K mainGlobals "names_of" = some (some (.ref f19))) (l19 : K.lookup f19 = some ⟨oc19, od19, .func (PySem.W.fnOf "names_of" "names_of" (defArgs s_names_of) (defBody s_names_of) (defScope s_names_of) .none kV19 dc19 pm19 an19 cd19 ct19), sl19⟩) (c19 : PySem.W.codeIn K cd19 "names_of" = true) (k19 : PySem.W.keepIn K (.ref f19) = true)
    (a20 : PySem.W.nsIn K mainGlobals "all_cases" = some (some (.ref f20))) (l20 : K.lookup f20 = some ⟨oc20, od20, .func (PySem.W.fnOf "all_cases" "all_cases" (defArgs s_all_cases) (defBody s_all_cases) (defScope s_all_cases) .none kV20 dc20 pm20 an20 cd20 ct20), sl20⟩) (c20 : PySem.W.codeIn K cd20 "all_cases" = true) (k20 : PySem.W.keepIn K (.ref f20) = true)
    (a21 : PySem.W.nsIn K mainGlobals "words_in" = some (some (.ref f21))) (l21 : K.lookup f21 = some ⟨oc21, od21, .func (PySem.W.fnOf "words_in" "words_in" (defArgs s_words_in) (defBody s_words_in) (defScope s_words_in) .none kV21 dc21 pm21 an21 cd21 ct21), sl21⟩) (c21 : PySem.W.codeIn K cd21 "words_in" = true) (k21 : PySem.W.keepIn K (.ref f21) = true)
    (a22 : PySem.W.nsIn K mainGlobals "flags_of" = some (some (.ref f22))) (l22 : K.lookup f22 = some ⟨oc22, od22, .func (PySem.W.fnOf "flags_of" "flags_of" (defArgs s_flags_of) (defBody s_flags_of) (defScope s_flags_of) .none kV22 dc22 pm22 an22 cd22 ct22), sl22⟩) (c22 : PySem.W.codeIn K cd22 "flags_of" = true) (k22 : PySem.W.keepIn K (.ref f22) = true)
    (a23 : PySem.W.nsIn K mainGlobals "does_hold" = some (some (.ref f23))) (l23 : K.lookup f23 = some ⟨oc23, od23, .func (PySem.W.fnOf "does_hold" "does_hold" (defArgs s_does_hold) (defBody s_does_hold) (defScope s_does_hold) .none kV23 dc23 pm23 an23 cd23 ct23), sl23⟩) (c23 : PySem.W.codeIn K cd23 "does_hold" = true) (k23 : PySem.W.keepIn K (.ref f23) = true)
    (a24 : PySem.W.nsIn K mainGlobals "ended_as" = some (some (.ref f24))) (l24 : K.lookup f24 = some ⟨oc24, od24, .func (PySem.W.fnOf "ended_as" "ended_as" (defArgs s_ended_as) (defBody s_ended_as) (defScope s_ended_as) .none kV24 dc24 pm24 an24 cd24 ct24), sl24⟩) (c24 : PySem.W.codeIn K cd24 "ended_as" = true) (k24 : PySem.W.keepIn K (.ref f24) = true)
    (a25 : PySem.W.nsIn K mainGlobals "seen_by" = some (some (.ref f25))) (l25 : K.lookup f25 = some ⟨oc25, od25, .func (PySem.W.fnOf "seen_by" "seen_by" (defArgs s_seen_by) (defBody s_seen_by) (defScope s_seen_by) .none kV25 dc25 pm25 an25 cd25 ct25), sl25⟩) (c25 : PySem.W.codeIn K cd25 "seen_by" = true) (k25 : PySem.W.keepIn K (.ref f25) = true)
    (a26 : PySem.W.nsIn K mainGlobals "known_in" = some (some (.ref f26))) (l26 : K.lookup f26 = some ⟨oc26, od26, .func (PySem.W.fnOf "known_in" "known_in" (defArgs s_known_in) (defBody s_known_in) (defScope s_known_in) .none kV26 dc26 pm26 an26 cd26 ct26), sl26⟩) (c26 : PySem.W.codeIn K cd26 "known_in" = true) (k26 : PySem.W.keepIn K (.ref f26) = true)
    (a27 : PySem.W.nsIn K mainGlobals "first_unlike" = some (some (.ref f27))) (l27 : K.lookup f27 = some ⟨oc27, od27, .func (PySem.W.fnOf "first_unlike" "first_unlike" (defArgs s_first_unlike) (defBody s_first_unlike) (defScope s_first_unlike) .none kV27 dc27 pm27 an27 cd27 ct27), sl27⟩) (c27 : PySem.W.codeIn K cd27 "first_unlike" = true) (k27 : PySem.W.keepIn K (.ref f27) = true)
    (a28 : PySem.W.nsIn K mainGlobals "is_text_of" = some (some (.ref f28))) (l28 : K.lookup f28 = some ⟨oc28, od28, .func (PySem.W.fnOf "is_text_of" "is_text_of" (defArgs s_is_text_of) (defBody s_is_text_of) (defScope s_is_text_of) .none kV28 dc28 pm28 an28 cd28 ct28), sl28⟩) (c28 : PySem.W.codeIn K cd28 "is_text_of" = true) (k28 : PySem.W.keepIn K (.ref f28) = true)
    (a29 : PySem.W.nsIn K mainGlobals "is_name" = some (some (.ref f29))) (l29 : K.lookup f29 = some ⟨oc29, od29, .func (PySem.W.fnOf "is_name" "is_name" (defArgs s_is_name) (defBody s_is_name) (defScope s_is_name) .none kV29 dc29 pm29 an29 cd29 ct29), sl29⟩) (c29 : PySem.W.codeIn K cd29 "is_name" = true) (k29 : PySem.W.keepIn K (.ref f29) = true)
    (a30 : PySem.W.nsIn K mainGlobals "are_names" = some (some (.ref f30))) (l30 : K.lookup f30 = some ⟨oc30, od30, .func (PySem.W.fnOf "are_names" "are_names" (defArgs s_are_names) (defBody s_are_names) (defScope s_are_names) .none kV30 dc30 pm30 an30 cd30 ct30), sl30⟩) (c30 : PySem.W.codeIn K cd30 "are_names" = true) (k30 : PySem.W.keepIn K (.ref f30) = true)
    (a31 : PySem.W.nsIn K mainGlobals "is_status" = some (some (.ref f31))) (l31 : K.lookup f31 = some ⟨oc31, od31, .func (PySem.W.fnOf "is_status" "is_status" (defArgs s_is_status) (defBody s_is_status) (defScope s_is_status) .none kV31 dc31 pm31 an31 cd31 ct31), sl31⟩) (c31 : PySem.W.codeIn K cd31 "is_status" = true) (k31 : PySem.W.keepIn K (.ref f31) = true)
    (a32 : PySem.W.nsIn K mainGlobals "is_within" = some (some (.ref f32))) (l32 : K.lookup f32 = some ⟨oc32, od32, .func (PySem.W.fnOf "is_within" "is_within" (defArgs s_is_within) (defBody s_is_within) (defScope s_is_within) .none kV32 dc32 pm32 an32 cd32 ct32), sl32⟩) (c32 : PySem.W.codeIn K cd32 "is_within" = true) (k32 : PySem.W.keepIn K (.ref f32) = true)
    (a33 : PySem.W.nsIn K mainGlobals "is_condition" = some (some (.ref f33))) (l33 : K.lookup f33 = some ⟨oc33, od33, .func (PySem.W.fnOf "is_condition" "is_condition" (defArgs s_is_condition) (defBody s_is_condition) (defScope s_is_condition) .none kV33 dc33 pm33 an33 cd33 ct33), sl33⟩) (c33 : PySem.W.codeIn K cd33 "is_condition" = true) (k33 : PySem.W.keepIn K (.ref f33) = true)
    (a34 : PySem.W.nsIn K mainGlobals "is_job" = some (some (.ref f34))) (l34 : K.lookup f34 = some ⟨oc34, od34, .func (PySem.W.fnOf "is_job" "is_job" (defArgs s_is_job) (defBody s_is_job) (defScope s_is_job) .none kV34 dc34 pm34 an34 cd34 ct34), sl34⟩) (c34 : PySem.W.codeIn K cd34 "is_job" = true) (k34 : PySem.W.keepIn K (.ref f34) = true)
    (a35 : PySem.W.nsIn K mainGlobals "is_pipeline" = some (some (.ref f35))) (l35 : K.lookup f35 = some ⟨oc35, od35, .func (PySem.W.fnOf "is_pipeline" "is_pipeline" (defArgs s_is_pipeline) (defBody s_is_pipeline) (defScope s_is_pipeline) .none kV35 dc35 pm35 an35 cd35 ct35), sl35⟩) (c35 : PySem.W.codeIn K cd35 "is_pipeline" = true) (k35 : PySem.W.keepIn K (.ref f35) = true)
    (a36 : PySem.W.nsIn K mainGlobals "need_pipeline" = some (some (.ref f36))) (l36 : K.lookup f36 = some ⟨oc36, od36, .func (PySem.W.fnOf "need_pipeline" "need_pipeline" (defArgs s_need_pipeline) (defBody s_need_pipeline) (defScope s_need_pipeline) .none kV36 dc36 pm36 an36 cd36 ct36), sl36⟩) (c36 : PySem.W.codeIn K cd36 "need_pipeline" = true) (k36 : PySem.W.keepIn K (.ref f36) = true)
    (a37 : PySem.W.nsIn K mainGlobals "with_job" = some (some (.ref f37))) (l37 : K.lookup f37 = some ⟨oc37, od37, .func (PySem.W.fnOf "with_job" "with_job" (defArgs s_with_job) (defBody s_with_job) (defScope s_with_job) .none kV37 dc37 pm37 an37 cd37 ct37), sl37⟩) (c37 : PySem.W.codeIn K cd37 "with_job" = true) (k37 : PySem.W.keepIn K (.ref f37) = true)
    (a38 : PySem.W.nsIn K mainGlobals "least_pipeline" = some (some (.ref f38))) (l38 : K.lookup f38 = some ⟨oc38, od38, .func (PySem.W.fnOf "least_pipeline" "least_pipeline" (defArgs s_least_pipeline) (defBody s_least_pipeline) (defScope s_least_pipeline) .none kV38 dc38 pm38 an38 cd38 ct38), sl38⟩) (c38 : PySem.W.codeIn K cd38 "least_pipeline" = true) (k38 : PySem.W.keepIn K (.ref f38) = true)
    (a39 : PySem.W.nsIn K mainGlobals "need_name" = some (some (.ref f39))) (l39 : K.lookup f39 = some ⟨oc39, od39, .func (PySem.W.fnOf "need_name" "need_name" (defArgs s_need_name) (defBody s_need_name) (defScope s_need_name) .none kV39 dc39 pm39 an39 cd39 ct39), sl39⟩) (c39 : PySem.W.codeIn K cd39 "need_name" = true) (k39 : PySem.W.keepIn K (.ref f39) = true)
    (a40 : PySem.W.nsIn K mainGlobals "needless_needs" = some (some (.ref f40))) (l40 : K.lookup f40 = some ⟨oc40, od40, .func (PySem.W.fnOf "needless_needs" "needless_needs" (defArgs s_needless_needs) (defBody s_needless_needs) (defScope s_needless_needs) .none kV40 dc40 pm40 an40 cd40 ct40), sl40⟩) (c40 : PySem.W.codeIn K cd40 "needless_needs" = true) (k40 : PySem.W.keepIn K (.ref f40) = true)
    (a41 : PySem.W.nsIn K mainGlobals "law" = some (some (.ref f41))) (l41 : K.lookup f41 = some ⟨oc41, od41, .func (PySem.W.fnOf "law" "law" (defArgs s_law) (defBody s_law) (defScope s_law) .none kV41 dc41 pm41 an41 cd41 ct41), sl41⟩) (c41 : PySem.W.codeIn K cd41 "law" = true) (k41 : PySem.W.keepIn K (.ref f41) = true)
    (z0 : PySem.W.nsIn K mainGlobals "abs" = some none)
    (z1 : PySem.W.nsIn K mainGlobals "all" = some none)
    (z2 : PySem.W.nsIn K mainGlobals "any" = some none)
    (z3 : PySem.W.nsIn K mainGlobals "bool" = some none)
    (z4 : PySem.W.nsIn K mainGlobals "enumerate" = some none)
    (z5 : PySem.W.nsIn K mainGlobals "isinstance" = some none)
    (z6 : PySem.W.nsIn K mainGlobals "len" = some none)
    (z7 : PySem.W.nsIn K mainGlobals "list" = some none)
    (z8 : PySem.W.nsIn K mainGlobals "min" = some none)
    (z9 : PySem.W.nsIn K mainGlobals "range" = some none)
    (z10 : PySem.W.nsIn K mainGlobals "set" = some none)
    (z11 : PySem.W.nsIn K mainGlobals "sorted" = some none)
    (z12 : PySem.W.nsIn K mainGlobals "str" = some none)
    (z13 : PySem.W.nsIn K mainGlobals "tuple" = some none)
    (z14 : PySem.W.nsIn K mainGlobals "zip" = some none)
    (t0 : PySem.W.nsIn K mainGlobals "LETTERS" = some (some tu0)) (w0 : flatU tu0 = some (tv0, te0)) (y0 : c_LETTERS = te0)
    (t1 : PySem.W.nsIn K mainGlobals "WORDS" = some (some (.ref tp1))) (u1 : K.lookup tp1 = some ⟨.type "tuple", td1, .seq ti1 tn1, ts1⟩) (v1 : decide (ti1.size ≤ 1000) = true) (w1 : flatUs ti1.toList = some te1) (y1 : c_WORDS = .tuple te1)
    (t2 : PySem.W.nsIn K mainGlobals "MOST_NAME" = some (some tu2)) (w2 : flatU tu2 = some (tv2, te2)) (y2 : c_MOST_NAME = te2)
    (t3 : PySem.W.nsIn K mainGlobals "GOOD" = some (some tu3)) (w3 : flatU tu3 = some (tv3, te3)) (y3 : c_GOOD = te3)
    (t4 : PySem.W.nsIn K mainGlobals "BAD" = some (some tu4)) (w4 : flatU tu4 = some (tv4, te4)) (y4 : c_BAD = te4)
    (t5 : PySem.W.nsIn K mainGlobals "PASSED" = some (some tu5)) (w5 : flatU tu5 = some (tv5, te5)) (y5 : c_PASSED = te5)
    (t6 : PySem.W.nsIn K mainGlobals "STATUSES" = some (some (.ref tp6))) (u6 : K.lookup tp6 = some ⟨.type "tuple", td6, .seq ti6 tn6, ts6⟩) (v6 : decide (ti6.size ≤ 1000) = true) (w6 : flatUs ti6.toList = some te6) (y6 : c_STATUSES = .tuple te6)
    (t7 : PySem.W.nsIn K mainGlobals "MOST_DEEP" = some (some tu7)) (w7 : flatU tu7 = some (tv7, te7)) (y7 : c_MOST_DEEP = te7)
    (t8 : PySem.W.nsIn K mainGlobals "MOST_PARTS" = some (some tu8)) (w8 : flatU tu8 = some (tv8, te8)) (y8 : c_MOST_PARTS = te8)
    (t9 : PySem.W.nsIn K mainGlobals "PLAIN" = some (some (.ref tp9))) (u9 : K.lookup tp9 = some ⟨.type "tuple", td9, .seq ti9 tn9, ts9⟩) (v9 : decide (ti9.size ≤ 1000) = true) (w9 : flatUs ti9.toList = some te9) (y9 : c_PLAIN = .tuple te9)
    (t10 : PySem.W.nsIn K mainGlobals "MOST_JOBS" = some (some tu10)) (w10 : flatU tu10 = some (tv10, te10)) (y10 : c_MOST_JOBS = te10)
    (t11 : PySem.W.nsIn K mainGlobals "MOST_NEEDS" = some (some tu11)) (w11 : flatU tu11 = some (tv11, te11)) (y11 : c_MOST_NEEDS = te11)
    (t12 : PySem.W.nsIn K mainGlobals "MOST_READS" = some (some tu12)) (w12 : flatU tu12 = some (tv12, te12)) (y12 : c_MOST_READS = te12)
    (t13 : PySem.W.nsIn K mainGlobals "MOST_FLAGS" = some (some tu13)) (w13 : flatU tu13 = some (tv13, te13)) (y13 : c_MOST_FLAGS = te13) :
    ∃ fd : FuncData, (∀ (s : Shared) (v : Value), BindsTo s fd ⟨[v], []⟩ [("_law_script", v)]) ∧ ∀ base : Heap, K.In base → base.Ns mainGlobals mg → FnOk l.prog w K mg base CX0 26 fa fd ["_law_script"] (LS K (S_law)) := by
  have e := hfa.symm.trans (PySem.W.mg_of X G a41)
  cases e
  have fx : Fx K mg (fun _ => 0) := {
    f__law_asked := ⟨_, _, fun_mk l0 c0 k0, PySem.W.mg_of X G a0⟩,
    f__law_flags := ⟨_, _, fun_mk l1 c1 k1, PySem.W.mg_of X G a1⟩,
    f__law_all_flags := ⟨_, _, fun_mk l2 c2 k2, PySem.W.mg_of X G a2⟩,
    f__law_names := ⟨_, _, fun_mk l3 c3 k3, PySem.W.mg_of X G a3⟩,
    f__law_parts := ⟨_, _, fun_mk l4 c4 k4, PySem.W.mg_of X G a4⟩,
    f__law_cases := ⟨_, _, fun_mk l5 c5 k5, PySem.W.mg_of X G a5⟩,
    f__law_holds := ⟨_, _, fun_mk l6 c6 k6, PySem.W.mg_of X G a6⟩,
    f__law_known := ⟨_, _, fun_mk l7 c7 k7, PySem.W.mg_of X G a7⟩,
    f__law_same := ⟨_, _, fun_mk l8 c8 k8, PySem.W.mg_of X G a8⟩,
    f__law_with := ⟨_, _, fun_mk l9 c9 k9, PySem.W.mg_of X G a9⟩,
    f__law_is_needless := ⟨_, _, fun_mk l10 c10 k10, PySem.W.mg_of X G a10⟩,
    f__law_draw := ⟨_, _, fun_mk l11 c11 k11, PySem.W.mg_of X G a11⟩,
    f__law_choice := ⟨_, _, fun_mk l12 c12 k12, PySem.W.mg_of X G a12⟩,
    f__law_condition := ⟨_, _, fun_mk l13 c13 k13, PySem.W.mg_of X G a13⟩,
    f__law_job := ⟨_, _, fun_mk l14 c14 k14, PySem.W.mg_of X G a14⟩,
    f__law_pipeline := ⟨_, _, fun_mk l15 c15 k15, PySem.W.mg_of X G a15⟩,
    f__law_plain := ⟨_, _, fun_mk l16 c16 k16, PySem.W.mg_of X G a16⟩,
    f__law_source := ⟨_, _, fun_mk l17 c17 k17, PySem.W.mg_of X G a17⟩,
    f_all_parts := ⟨_, _, fun_mk l18 c18 k18, PySem.W.mg_of X G a18⟩,
    f_names_of := ⟨_, _, fun_mk l19 c19 k19, PySem.W.mg_of X G a19⟩,
    f_all_cases := ⟨_, _, fun_mk l20 c20 k20, PySem.W.mg_of X G a20⟩,
    f_words_in := ⟨_, _, fun_mk l21 c21 k21, PySem.W.mg_of X G a21⟩,
    f_flags_of := ⟨_, _, fun_mk l22 c22 k22, PySem.W.mg_of X G a22⟩,
    f_does_hold := ⟨_, _, fun_mk l23 c23 k23, PySem.W.mg_of X G a23⟩,
    f_ended_as := ⟨_, _, fun_mk l24 c24 k24, PySem.W.mg_of X G a24⟩,
    f_seen_by := ⟨_, _, fun_mk l25 c25 k25, PySem.W.mg_of X G a25⟩,
    f_known_in := ⟨_, _, fun_mk l26 c26 k26, PySem.W.mg_of X G a26⟩,
    f_first_unlike := ⟨_, _, fun_mk l27 c27 k27, PySem.W.mg_of X G a27⟩,
    f_is_text_of := ⟨_, _, fun_mk l28 c28 k28, PySem.W.mg_of X G a28⟩,
    f_is_name := ⟨_, _, fun_mk l29 c29 k29, PySem.W.mg_of X G a29⟩,
    f_are_names := ⟨_, _, fun_mk l30 c30 k30, PySem.W.mg_of X G a30⟩,
    f_is_status := ⟨_, _, fun_mk l31 c31 k31, PySem.W.mg_of X G a31⟩,
    f_is_within := ⟨_, _, fun_mk l32 c32 k32, PySem.W.mg_of X G a32⟩,
    f_is_condition := ⟨_, _, fun_mk l33 c33 k33, PySem.W.mg_of X G a33⟩,
    f_is_job := ⟨_, _, fun_mk l34 c34 k34, PySem.W.mg_of X G a34⟩,
    f_is_pipeline := ⟨_, _, fun_mk l35 c35 k35, PySem.W.mg_of X G a35⟩,
    f_need_pipeline := ⟨_, _, fun_mk l36 c36 k36, PySem.W.mg_of X G a36⟩,
    f_with_job := ⟨_, _, fun_mk l37 c37 k37, PySem.W.mg_of X G a37⟩,
    f_least_pipeline := ⟨_, _, fun_mk l38 c38 k38, PySem.W.mg_of X G a38⟩,
    f_need_name := ⟨_, _, fun_mk l39 c39 k39, PySem.W.mg_of X G a39⟩,
    f_needless_needs := ⟨_, _, fun_mk l40 c40 k40, PySem.W.mg_of X G a40⟩,
    f_law := ⟨_, _, fun_mk l41 c41 k41, PySem.W.mg_of X G a41⟩,
    n_abs := PySem.W.mg_none_of X G z0,
    n_all := PySem.W.mg_none_of X G z1,
    n_any := PySem.W.mg_none_of X G z2,
    n_bool := PySem.W.mg_none_of X G z3,
    n_enumerate := PySem.W.mg_none_of X G z4,
    n_isinstance := PySem.W.mg_none_of X G z5,
    n_len := PySem.W.mg_none_of X G z6,
    n_list := PySem.W.mg_none_of X G z7,
    n_min := PySem.W.mg_none_of X G z8,
    n_range := PySem.W.mg_none_of X G z9,
    n_set := PySem.W.mg_none_of X G z10,
    n_sorted := PySem.W.mg_none_of X G z11,
    n_str := PySem.W.mg_none_of X G z12,
    n_tuple := PySem.W.mg_none_of X G z13,
    n_zip := PySem.W.mg_none_of X G z14,
    c_LETTERS := by rw [y0]; exact gc_flat X G t0 w0,
    c_WORDS := by rw [y1]; exact gc_tup X G t1 u1 v1 w1,
    c_MOST_NAME := by rw [y2]; exact gc_flat X G t2 w2,
    c_GOOD := by rw [y3]; exact gc_flat X G t3 w3,
    c_BAD := by rw [y4]; exact gc_flat X G t4 w4,
    c_PASSED := by rw [y5]; exact gc_flat X G t5 w5,
    c_STATUSES := by rw [y6]; exact gc_tup X G t6 u6 v6 w6,
    c_MOST_DEEP := by rw [y7]; exact gc_flat X G t7 w7,
    c_MOST_PARTS := by rw [y8]; exact gc_flat X G t8 w8,
    c_PLAIN := by rw [y9]; exact gc_tup X G t9 u9 v9 w9,
    c_MOST_JOBS := by rw [y10]; exact gc_flat X G t10 w10,
    c_MOST_NEEDS := by rw [y11]; exact gc_flat X G t11 w11,
    c_MOST_READS := by rw [y12]; exact gc_flat X G t12 w12,
    c_MOST_FLAGS := by rw [y13]; exact gc_flat X G t13 w13 }
  exact ⟨_, fun s v => .of_eq rfl, fun base _ _ => all_law fx (fun_mk l41 c41 k41)⟩
end PJ
open PySem PySem.W PyProof.Rows
local instance : J.Tb := ⟨[]⟩
set_option maxHeartbeats 0 in
theorem PySem.Challenge.cw_jobwise_k08_whole_least_pipelines_and_ne_holds : PySem.Challenge.rw_jobwise_k08_whole_least_pipelines_and_ne.Holds := by
  w_on; o_law; k_head; (case hw => w_witness2)
  k_fill
  refine L2.walk_of (l := PySem.Challenge.rw_jobwise_k08_whole_least_pipelines_and_ne) (n := 63) (k := 26) (x := "_law_script") (CX := fun _ => L2.CX0) (sp := fun w => J.LS _ (PJ.S_law)) rfl (by decide) rfl ⟨rfl, by decide, by decide⟩ (fun w h Y => PySem.W.kIn_of Y) ?F (fun _ _ a ns hl _ hS => J.ls_law hl (fun _ z => nomatch z) hS (fun Q q => PJ.law_in ns hl Q q)) (fun _ _ _ _ _ h => h)
  case F =>
    intro w mg fa h KX G hmg
    refine' PJ.law_mk KX G hmg ?a0 ?l0 ?c0 ?k0 ?a1 ?l1 ?c1 ?k1 ?a2 ?l2 ?c2 ?k2 ?a3 ?l3 ?c3 ?k3 ?a4 ?l4 ?c4 ?k4 ?a5 ?l5 ?c5 ?k5 ?a6 ?l6 ?c6 ?k6 ?a7 ?l7 ?c7 ?k7 ?a8 ?l8 ?c8 ?k8 ?a9 ?l9 ?c9 ?k9 ?a10 ?l10 ?c10 ?k10 ?a11 ?l11 ?c11 ?k11 ?a12 ?l12 ?c12 ?k12 ?a13 ?l13 ?c13 ?k13 ?a14 ?l14 ?c14 ?k14 ?a15 ?l15 ?c15 ?k15 ?a16 ?l16 ?c16 ?k16 ?a17 ?l17 ?c17 ?k17 ?a18 ?l18 ?c18 ?k18 ?a19 ?l19 ?c19 ?k19 ?a20 ?l20 ?c20 ?k20 ?a21 ?l21 ?c21 ?k21 ?a22 ?l22 ?c22 ?k22 ?a23 ?l23 ?c23 ?k23 ?a24 ?l24 ?c24 ?k24 ?a25 ?l25 ?c25 ?k25 ?a26 ?l26 ?c26 ?k26 ?a27 ?l27 ?c27 ?k27 ?a28 ?l28 ?c28 ?k28 ?a29 ?l29 ?c29 ?k29 ?a30 ?l30 ?c30 ?k30 ?a31 ?l31 ?c31 ?k31 ?a32 ?l32 ?c32 ?k32 ?a33 ?l33 ?c33 ?k33 ?a34 ?l34 ?c34 ?k34 ?a35 ?l35 ?c35 ?k35 ?a36 ?l36 ?c36 ?k36 ?a37 ?l37 ?c37 ?k37 ?a38 ?l38 ?c38 ?k38 ?a39 ?l39 ?c39 ?k39 ?a40 ?l40 ?c40 ?k40 ?a41 ?l41 ?c41 ?k41 ?z0 ?z1 ?z2 ?z3 ?z4 ?z5 ?z6 ?z7 ?z8 ?z9 ?z10 ?z11 ?z12 ?z13 ?z14 ?t0 ?w0 ?y0 ?t1 ?u1 ?v1 ?w1 ?y1 ?t2 ?w2 ?y2 ?t3 ?w3 ?y3 ?t4 ?w4 ?y4 ?t5 ?w5 ?y5 ?t6 ?u6 ?v6 ?w6 ?y6 ?t7 ?w7 ?y7 ?t8 ?w8 ?y8 ?t9 ?u9 ?v9 ?w9 ?y9 ?t10 ?w10 ?y10 ?t11 ?w11 ?y11 ?t12 ?w12 ?y12 ?t13 ?w13 ?y13
    (case a0 => k_is)
    (case l0 => k_is)
    (case c0 => k_is)
    (case k0 => k_is)
    (case a1 => k_is)
    (case l1 => k_is)
    (case c1 => k_is)
    (case k1 => k_is)
    (case a2 => k_is)
    (case l2 => k_is)
    (case c2 => k_is)
    (case k2 => k_is)
    (case a3 => k_is)
    (case l3 => k_is)
    (case c3 => k_is)
    (case k3 => k_is)
    (case a4 => k_is)
    (case l4 => k_is)
    (case c4 => k_is)
    (case k4 => k_is)
    (case a5 => k_is)
    (case l5 => k_is)
    (case c5 => k_is)
    (case k5 => k_is)
    (case a6 => k_is)
    (case l6 => k_is)
    (case c6 => k_is)
    (case k6 => k_is)
    (case a7 => k_is)
    (case l7 => k_is)
    (case c7 => k_is)
    (case k7 => k_is)
    (case a8 => k_is)
    (case l8 => k_is)
    (case c8 => k_is)
    (case k8 => k_is)
    (case a9 => k_is)
    (case l9 => k_is)
    (case c9 => k_is)
    (case k9 => k_is)
    (case a10 => k_is)
    (case l10 => k_is)
    (case c10 => k_is)
    (case k10 => k_is)
    (case a11 => k_is)
    (case l11 => k_is)
    (case c11 => k_is)
    (case k11 => k_is)
    (case a12 => k_is)
    (case l12 => k_is)
    (case c12 => k_is)
    (case k12 => k_is)
    (case a13 => k_is)
    (case l13 => k_is)
    (case c13 => k_is)
    (case k13 => k_is)
    (case a14 => k_is)
    (case l14 => k_is)
    (case c14 => k_is)
    (case k14 => k_is)
    (case a15 => k_is)
    (case l15 => k_is)
    (case c15 => k_is)
    (case k15 => k_is)
    (case a16 => k_is)
    (case l16 => k_is)
    (case c16 => k_is)
    (case k16 => k_is)
    (case a17 => k_is)
    (case l17 => k_is)
    (case c17 => k_is)
    (case k17 => k_is)
    (case a18 => k_is)
    (case l18 => k_is)
    (case c18 => k_is)
    (case k18 => k_is)
    (case a19 => k_is)
    (case l19 => k_is)
    (case c19 => k_is)
    (case k19 => k_is)
    (case a20 => k_is)
    (case l20 => k_is)
    (case c20 => k_is)
    (case k20 => k_is)
    (case a21 => k_is)
    (case l21 => k_is)
    (case c21 => k_is)
    (case k21 => k_is)
    (case a22 => k_is)
    (case l22 => k_is)
    (case c22 => k_is)
    (case k22 => k_is)
    (case a23 => k_is)
    (case l23 => k_is)
    (case c23 => k_is)
    (case k23 => k_is)
    (case a24 => k_is)
    (case l24 => k_is)
    (case c24 => k_is)
    (case k24 => k_is)
    (case a25 => k_is)
    (case l25 => k_is)
    (case c25 => k_is)
    (case k25 => k_is)
    (case a26 => k_is)
    (case l26 => k_is)
    (case c26 => k_is)
    (case k26 => k_is)
    (case a27 => k_is)
    (case l27 => k_is)
    (case c27 => k_is)
    (case k27 => k_is)
    (case a28 => k_is)
    (case l28 => k_is)
    (case c28 => k_is)
    (case k28 => k_is)
    (case a29 => k_is)
    (case l29 => k_is)
    (case c29 => k_is)
    (case k29 => k_is)
    (case a30 => k_is)
    (case l30 => k_is)
    (case c30 => k_is)
    (case k30 => k_is)
    (case a31 => k_is)
    (case l31 => k_is)
    (case c31 => k_is)
    (case k31 => k_is)
    (case a32 => k_is)
    (case l32 => k_is)
    (case c32 => k_is)
    (case k32 => k_is)
    (case a33 => k_is)
    (case l33 => k_is)
    (case c33 => k_is)
    (case k33 => k_is)
    (case a34 => k_is)
    (case l34 => k_is)
    (case c34 => k_is)
    (case k34 => k_is)
    (case a35 => k_is)
    (case l35 => k_is)
    (case c35 => k_is)
    (case k35 => k_is)
    (case a36 => k_is)
    (case l36 => k_is)
    (case c36 => k_is)
    (case k36 => k_is)
    (case a37 => k_is)
    (case l37 => k_is)
    (case c37 => k_is)
    (case k37 => k_is)
    (case a38 => k_is)
    (case l38 => k_is)
    (case c38 => k_is)
    (case k38 => k_is)
    (case a39 => k_is)
    (case l39 => k_is)
    (case c39 => k_is)
    (case k39 => k_is)
    (case a40 => k_is)
    (case l40 => k_is)
    (case c40 => k_is)
    (case k40 => k_is)
    (case a41 => k_is)
    (case l41 => k_is)
    (case c41 => k_is)
    (case k41 => k_is)
    (case z0 => k_is)
    (case z1 => k_is)
    (case z2 => k_is)
    (case z3 => k_is)
    (case z4 => k_is)
    (case z5 => k_is)
    (case z6 => k_is)
    (case z7 => k_is)
    (case z8 => k_is)
    (case z9 => k_is)
    (case z10 => k_is)
    (case z11 => k_is)
    (case z12 => k_is)
    (case z13 => k_is)
    (case z14 => k_is)
    (case t0 => k_is)
    (case w0 => rfl)
    (case y0 => rfl)
    (case t1 => k_is)
    (case u1 => k_is)
    (case v1 => rfl)
    (case w1 => rfl)
    (case y1 => rfl)
    (case t2 => k_is)
    (case w2 => rfl)
    (case y2 => rfl)
    (case t3 => k_is)
    (case w3 => rfl)
    (case y3 => rfl)
    (case t4 => k_is)
    (case w4 => rfl)
    (case y4 => rfl)
    (case t5 => k_is)
    (case w5 => rfl)
    (case y5 => rfl)
    (case t6 => k_is)
    (case u6 => k_is)
    (case v6 => rfl)
    (case w6 => rfl)
    (case y6 => rfl)
    (case t7 => k_is)
    (case w7 => rfl)
    (case y7 => rfl)
    (case t8 => k_is)
    (case w8 => rfl)
    (case y8 => rfl)
    (case t9 => k_is)
    (case u9 => k_is)
    (case v9 => rfl)
    (case w9 => rfl)
    (case y9 => rfl)
    (case t10 => k_is)
    (case w10 => rfl)
    (case y10 => rfl)
    (case t11 => k_is)
    (case w11 => rfl)
    (case y11 => rfl)
    (case t12 => k_is)
    (case w12 => rfl)
    (case y12 => rfl)
    (case t13 => k_is)
    (case w13 => rfl)
    (case y13 => rfl)
