import PyProof.Rows.All
import HandS.SetFor
import HandS.SetKeys
import Wide.All
import OpenK.AllK
import Wide.FinOn
import HandS.ForMost
import HandS.ForExc
import HandS.IsInst
import HandS.TupAny
import HandS.Deep
import HandS.Small
import HandS.Conv
import HandS.Flow
import HandS.DictComp
import HandS.CallLocal
import HandS.TryOnly
import HandS.TryMany
import HandS.Lambda
import HandS.SortOrd
import HandS.WordsExc
import HandS.Text
import KE.KDictKeyed
import KE.KDictPairs
import KE.KeyNested
import KE.KSortTupG
import KE.GoesComp2
import PyProof.ReprRoads
import HandS.EndBits
import PyProof.P3In
import KE.DataCmp
import HandS.Zip
import KE.SortKeyHeap
import KE.KDictSum
import KE.KDictWalk
import HandS.SortKw
import HandS.EndTab
import HandS.HeadWalk
import HandS.Head0
import HandS.Head1
import HandS.Head2
import HandS.HeadHook4
import HandS.HeadNt
import HandS.More
import HandS.ExcOwn
import KE.GoesEnum
import HandS.Iter
import HandS.Style
import PySem.Challenge.RW_maybeparts_k26_words_of_trees
set_option Elab.async false
set_option linter.all false
set_option maxRecDepth 100000
/-! sets of ints and texts, with what their tables keep -/
namespace Zz
open PySem PySem.Spec PyProof.Rows L2
def kyE (e : Int × Value) : Key := match e.2 with
  | .int i _ => .inl i
  | .str x _ => .inr x
  | _ => .inl 0
/-- whether a key is one of these -/
def inK (ks : List Key) (k : Key) : Bool := ks.any fun x => decide (x = k)
theorem inK_iff {ks : List Key} {k : Key} : inK ks k = true ↔ k ∈ ks := by
  simp [inK]
def GoodM (w : World) (e : Int × Value) : Prop := keyIs (kyE e) e.2 = true ∧ e.1 = keyH w (kyE e)
theorem ky_of {k : Key} {hh : Int} {v : Value} (h : keyIs k v = true) : kyE (hh, v) = k := by
  rcases keyIs_shape h with ⟨i, t, rfl, rfl⟩ | ⟨x, t, rfl, rfl⟩ <;> rfl
theorem ky_scan {k : Key} {v : Value} (h : keyIs k v = true) : v.scannable = true := by
  rcases keyIs_shape h with ⟨i, t, rfl, rfl⟩ | ⟨x, t, rfl, rfl⟩ <;> rfl
/-- the set of keys at a: S its members -/
def SetM (w : World) (h : Heap) (a : Addr) (S : Key → Bool) (n : Nat) : Prop :=
  ∃ o es ep t, h.get? a = some o ∧ o.ExactSet ∧ o.data = .set es ep t ∧ (∀ e ∈ es.toList, GoodM w e) ∧ (es.toList.map kyE).Nodup ∧ (∀ k, S k = true ↔ k ∈ es.toList.map kyE) ∧
    (es.size < scanBound ∧ t.fits es.size = true ∧ es.size = n) ∧ Ris t.place.toList ∧ (w.params.followText "set-order" = true ∨ t.led = true)
section
variable {P : Program} {w : World} {h h' : Heap} {a : Addr} {S : Key → Bool} {n : Nat}
theorem SetM.at (R : SetM w h a S n) (k : ∀ o, h.get? a = some o → h'.get? a = some o) : SetM w h' a S n := let ⟨o, es, ep, t, ho, r⟩ := R; ⟨o, es, ep, t, k o ho, r⟩
theorem SetM.there (R : SetM w h a S n) : ∃ o, h.get? a = some o := let ⟨o, _, _, _, ho, _⟩ := R; ⟨o, ho⟩
theorem SetM.congr {S' : Key → Bool} (R : SetM w h a S n) (e : ∀ k, S' k = S k) : SetM w h a S' n := (funext e : S' = S) ▸ R
theorem gm_elems {l : List (Int × Value)} (g : ∀ e ∈ l, GoodM w e) : ElemsOf (mixKind P w) l := fun e he => ⟨⟨kyE e, (g e he).1, (g e he).2⟩, ky_scan (g e he).1⟩
theorem gm_is {e : Int × Value} (g : GoodM w e) (k : Key) : (mixKind P w).is k e.2 = true ↔ kyE e = k :=
  ⟨fun h => ky_of (hh := e.1) h, fun h => h ▸ g.1⟩
theorem gm_mem {l : List (Int × Value)} (g : ∀ e ∈ l, GoodM w e) (k : Key) : k ∈ l.map kyE ↔ ∃ e ∈ l, (mixKind P w).is k e.2 = true := by
  rw [List.mem_map]
  exact ⟨fun ⟨e, he, q⟩ => ⟨e, he, (gm_is (g e he) k).2 q⟩, fun ⟨e, he, q⟩ => ⟨e, he, (gm_is (g e he) k).1 q⟩⟩
theorem setM_new {ks : List Key} (ho : h.get? a = some { cls := .type "set", dict := none, data := .set #[] 0 (.fresh 0 0 (!w.params.followText "set-order")) }) : SetM w h a (inK (ks.take 0)) 0 :=
  ⟨_, #[], 0, _, ho, ⟨rfl, rfl, rfl⟩, rfl, (fun e he => by simp at he), (by simp), (fun k => by simp [inK]), ⟨by decide, by rfl, rfl⟩, List.Pairwise.nil, by
    show _ ∨ (!w.params.followText "set-order") = true
    cases w.params.followText "set-order" <;> simp⟩
end
section
variable {P : Program} {w : World} {A : Around} {E : Value → Shared → Prop} {s : Shared} {a : Addr} {S : Key → Bool} {n : Nat}
theorem setM_tail {g : Bool → Sem Unit} (hg : ∀ (b : Bool) (s₁ : Shared) (Q' : Unit → Shared → Prop), Q' () s₁ → wpAny (model P w) A (g b) Q' E s₁)
    {o : Obj} {es : Array (Int × Value)} {ep : Nat} {t : SetTable} (ho : s.heap.get? a = some o) (hex : o.ExactSet) (hd : o.data = .set es ep t)
    {fs : Array (Int × Value)} {u : SetTable} {S' : Key → Bool} (g1 : ∀ e ∈ fs.toList, GoodM w e) (nd1 : (fs.toList.map kyE).Nodup) (m1 : ∀ k, S' k = true ↔ k ∈ fs.toList.map kyE)
    (hb1 : fs.size < scanBound) (hf2 : u.fits fs.size = true) (hr : Ris u.place.toList) (hl : w.params.followText "set-order" = true ∨ u.led = true) {wasDummy : Bool} {R : Option Bool → Shared → Prop}
    (hR : ∀ h', Heap.SameBut a s.heap h' → SetM w h' a S' fs.size → R (some true) { s with heap := h' }) :
    wpAny (model P w) A (do
        storeSet a fs u
        if (!wasDummy && u.tooFull) = true then do
            g (relayAll u fs (SetTable.grown fs.size)).2.2
            storeSet a (relayAll u fs (SetTable.grown fs.size)).1 (relayAll u fs (SetTable.grown fs.size)).2.1
            pure (some true)
          else pure (some true)) R E s := by
  refine wpAny_bind (wpAny_storeSet_of ho hd ?_ (fits_of_scanBound hb1))
  have ho1 := store_at (es' := fs) (t' := u) ho hd
  have sb1 := Heap.SameBut.update s.heap a (Obj.putSet fs u)
  split
  · have pm := relayAll_perm u fs (SetTable.grown fs.size)
    have hf3 := relayAll_fits u fs (SetTable.grown fs.size)
    have hr3 := relayAll_ris u fs (SetTable.grown fs.size)
    have hl3 := relayAll_led u fs (SetTable.grown fs.size)
    generalize relayAll u fs (SetTable.grown fs.size) = Z at pm hf3 hr3 hl3 ⊢
    obtain ⟨es2, t3, gave⟩ := Z
    dsimp only at pm hf3 hr3 hl3 ⊢
    have hsz : es2.size = fs.size := by simpa using pm.length_eq
    refine wpAny_bind (hg _ _ _ (wpAny_bind (wpAny_storeSet_of ho1 rfl ?_ (fits_of_scanBound (by rw [hsz]; exact hb1)))))
    refine wpAny_pure (hR _ (sb1.trans (Heap.SameBut.update _ a _)) ⟨_, es2, _, t3, store_at (es' := es2) (t' := t3) ho1 rfl, hex, rfl, fun e he => g1 e (pm.mem_iff.mp he), (pm.map kyE).nodup_iff.mpr nd1,
      fun k => (m1 k).trans (pm.map kyE).mem_iff.symm, ⟨by rw [hsz]; exact hb1, hf3, hsz⟩, hr3, hl.imp id fun z => by rw [hl3]; exact z⟩)
  · exact wpAny_pure (hR _ sb1 ⟨_, fs, _, u, ho1, hex, rfl, g1, nd1, m1, ⟨hb1, hf2, rfl⟩, hr, hl⟩)
theorem setM_add {k : Key} {v : Value} {Q : Bool → Shared → Prop} (hk : keyIs k v = true) (R : SetM w s.heap a S n) (room : n + 1 < scanBound)
    (hQ : ∀ h', Heap.SameBut a s.heap h' → SetM w h' a (fun j => S j || decide (j = k)) (if S k = true then n else n + 1) → Q (!S k) { s with heap := h' }) :
    wpAny (model P w) A (setAddHashed a v ((mixKind P w).hash k)) Q E s := by
  obtain ⟨o, es, ep, t, ho, hex, hd, g, nd, hm, ⟨hb, hf, hn⟩, hr, hl⟩ := R
  have hkey : (mixKind P w).is k v = true := hk
  have hsc : v.scannable = true := ky_scan hk
  have hel : ElemsOf (mixKind P w) es.toList := gm_elems g
  unfold setAddHashed setAddHashedIn
  refine wpAny_holding (wpAny_bind (wpAny_setState_of ho hd hf ?_))
  dsimp only
  rw [byScan_of hsc hb hel]
  simp only [↓reduceIte]
  unfold setAddByScan
  refine wpAny_bind (wpAny_bind (wpAny_rule (wpAny_bind (wpAny_setScan_of hkey ho hd hf hel ?_))))
  cases hfi : List.findIdx? (fun e => (mixKind P w).is k e.2) es.toList with
  | some j =>
    dsimp only
    obtain ⟨hj, pj, _⟩ := List.findIdx?_eq_some_iff_getElem.mp hfi
    have hSk : S k = true := (hm k).2 ((gm_mem (P := P) (w := w) g k).2 ⟨es.toList[j], List.getElem_mem hj, pj⟩)
    have q := hQ s.heap (Heap.SameBut.refl a s.heap) ⟨o, es, ep, t, ho, hex, hd, g, nd, fun i => by
      rw [Bool.or_eq_true, decide_eq_true_eq, ← hm i]
      exact ⟨fun z => z.elim id (fun e => e ▸ hSk), .inl⟩, ⟨hb, hf, by rw [if_pos hSk]; exact hn⟩, hr, hl⟩
    rw [hSk] at q
    exact wpAny_pure (wpAny_pure q)
  | none =>
    dsimp only
    have hnk : k ∉ es.toList.map kyE := fun z => by
      obtain ⟨e, he, q⟩ := (gm_mem (P := P) (w := w) g k).1 z
      have c := List.findIdx?_eq_none_iff.mp hfi e he
      rw [q] at c
      cases c
    have hSk : S k = false := by
      rw [← Bool.not_eq_true]
      exact fun q => hnk ((hm k).1 q)
    have hgw : ∀ (b : Bool) {s₁ : Shared} {Q' : Unit → Shared → Prop}, Q' () s₁ → wpAny (model P w) A (match b with | true => rule "set.scan.the-table-gave-way" | false => pure ()) Q' E s₁ :=
      fun b s₁ Q' q => by cases b <;> first | exact wpAny_pure q | exact wpAny_rule q
    have pm := layNew_perm t es ((mixKind P w).hash k) v
    have hf1 := layNew_fits t es ((mixKind P w).hash k) v
    have hr1 := layNew_ris t es ((mixKind P w).hash k) v hr
    have hl1 := layNew_led t es ((mixKind P w).hash k) v
    generalize layNew t es ((mixKind P w).hash k) v = Z at pm hf1 hr1 hl1 ⊢
    obtain ⟨es1, t1, wasDummy, gave⟩ := Z
    dsimp only at pm hf1 hr1 hl1 ⊢
    rw [Array.toList_push] at pm
    have pc : es1.toList.Perm (((mixKind P w).hash k, v) :: es.toList) := pm.trans (List.perm_append_singleton _ _)
    have pk : (es1.toList.map kyE).Perm (k :: es.toList.map kyE) := by
      have z := pc.map kyE
      rw [List.map_cons, ky_of hk] at z
      exact z
    have g1 : ∀ e ∈ es1.toList, GoodM w e := fun e he => by
      rcases List.mem_cons.mp (pc.mem_iff.mp he) with z | z
      · subst z
        unfold GoodM
        rw [ky_of hk]
        exact ⟨hk, rfl⟩
      · exact g e z
    have nd1 : (es1.toList.map kyE).Nodup := pk.nodup_iff.mpr (List.nodup_cons.mpr ⟨hnk, nd⟩)
    have m1 : ∀ i, (S i || decide (i = k)) = true ↔ i ∈ es1.toList.map kyE := fun i => by
      rw [Bool.or_eq_true, decide_eq_true_eq, hm i, pk.mem_iff, List.mem_cons]
      exact Or.comm
    have hsz : es1.size = n + 1 := by
      have z := pc.length_eq
      simp only [Array.length_toList, List.length_cons] at z
      omega
    have hb1 : es1.size < scanBound := by rw [hsz]; exact room
    have hled : w.params.followText "set-order" = true ∨ t1.led = true := hl.imp id fun z => by rw [hl1]; exact z
    have fin : ∀ h', Heap.SameBut a s.heap h' → SetM w h' a (fun j => S j || decide (j = k)) es1.size → Q true { s with heap := h' } := fun h' sb r => by
      have q := hQ h' sb
      rw [hSk] at q
      rw [hsz] at r
      exact q r
    refine wpAny_bind (hgw _ ?_)
    split
    · refine wpAny_bind ?_
      rw [hashByValue_scannable 8 hsc]
      refine wpAny_pure (setM_tail ?_ ho hex hd g1 nd1 m1 hb1 ?_ ?_ ?_ ?_)
      · intro b s₁ Q' q; cases b <;> first | exact wpAny_pure q | exact wpAny_rule q
      · first | (split <;> first | exact hf1 | exact SetTable.fits_plain_off hf1) | exact hf1
      · first | (split <;> exact hr1) | exact hr1
      · first | (split <;> exact hled) | exact hled
      · intro h' sb r; dsimp only; exact wpAny_pure (fin h' sb r)
    · refine wpAny_bind (wpAny_pure ?_)
      simp only [↓reduceIte]
      refine setM_tail ?_ ho hex hd g1 nd1 m1 hb1 hf1 hr1 hled ?_
      · intro b s₁ Q' q; cases b <;> first | exact wpAny_pure q | exact wpAny_rule q
      · intro h' sb r; dsimp only; exact wpAny_pure (fin h' sb r)
theorem set_update_keys {I : Addr} {fp wr : List Addr} {G : Array GenState → Array GenState → Prop} {n : Nat} {Pv : Nat → Value → Prop} {St : Nat → Shared → Prop} {R : Result → Shared → Prop}
    (W : WalksS P w A.in1 I fp wr G n Pv St) (S : Addr) (hSf : S ∉ fp) (ks : List Key) (hn : n = ks.length) (hb : ks.length + 1 < scanBound) (hval : ∀ i v, Pv i v → ∃ k, ks[i]? = some k ∧ keyIs k v = true) :
    ∀ (k i : Nat) (s : Shared), n - i = k → i ≤ n → St i s → (∃ c, c ≤ i ∧ SetM w s.heap S (inK (ks.take i)) c) →
      (∀ s' c, Moved (S :: wr) G s s' → c ≤ n → SetM w s'.heap S (inK ks) c → R (.ok (.ret .none)) s') →
      codeAny (model P w) A (.builtin "set.update.loop" ⟨[.ref S, .ref I], []⟩) R s := by
  have hSw : S ∉ wr := fun h => hSf (W.sub _ h)
  have hsub : ∀ b ∈ wr, b ∈ S :: wr := fun b hb => List.mem_cons_of_mem _ hb
  intro k
  induction k with
  | zero =>
    intro i s hk' hi hst ⟨c, hc, hS⟩ hR
    obtain rfl : i = n := by omega
    refine codeAny_builtin F.entry_set_update_loop ?_
    rw [Around.under_plainId F.plain_set_update_loop _]
    show wpAny _ A.in1 (pyNext (.ref I) >>= _) _ _ s
    refine wpAny_bind (W.done s _ _ hst fun s' hm => ?_)
    rw [List.take_of_length_le (by omega)] at hS
    exact wpAny_pure (hR s' c (hm.mono hsub) hc (hS.at fun o e => hm.heap S o hSw e))
  | succ k ih =>
    intro i s hk' hi hst ⟨c, hc, hS⟩ hR
    have hlt : i < n := by omega
    refine codeAny_builtin F.entry_set_update_loop ?_
    rw [Around.under_plainId F.plain_set_update_loop _]
    show wpAny _ A.in1 (pyNext (.ref I) >>= _) _ _ s
    refine wpAny_bind (W.item i s _ _ hlt hst fun v s' hP hst' hm => ?_)
    obtain ⟨z, hz, hkz⟩ := hval i v hP
    have hS' : SetM w s'.heap S (inK (ks.take i)) c := hS.at fun o e => hm.heap S o hSw e
    show wpAny _ A.in1 (holding [v] (setAdd S v) >>= _) _ _ s'
    refine wpAny_bind (wpAny_holding ?_)
    unfold setAdd
    refine wpAny_holding (wpAny_bind ((mixKind P w).pyHash (k := z) hkz ?_))
    refine setM_add (s := { s' with toks := s'.toks + 1 }) hkz hS' (by omega) fun h' hsb hS2 => ?_
    have hS3 : SetM w h' S (inK (ks.take (i + 1))) (if inK (ks.take i) z = true then c else c + 1) := hS2.congr fun j => by
      rw [List.take_add_one, hz, Bool.eq_iff_iff, Bool.or_eq_true, inK_iff, inK_iff, decide_eq_true_eq, List.mem_append]
      simp
    have hc3 : (if inK (ks.take i) z = true then c else c + 1) ≤ i + 1 := by split <;> omega
    refine wpAny_pure ⟨plainId_quiet F.plain_set_update_loop _, ih (i + 1) _ (by omega) hlt (W.frame _ s' _ _ hst' (Nat.le_succ _) fun b hb o e => ?_) ⟨_, hc3, hS3⟩ fun s'' c2 hm'' hc'' hS'' => ?_⟩
    · rw [hsb.2 b (fun h : b = S => hSf (by rw [← h]; exact hb))]; exact e
    · refine hR s'' c2 (Moved.trans W.gtrans ((hm.mono hsub).then_heap (Nat.le_succ _) fun b o hb e => ?_) hm'') hc'' hS''
      rw [hsb.2 b (fun h : b = S => hb (by rw [h]; exact List.mem_cons_self))]; exact e
abbrev setObj (w : World) : Obj := { cls := .type "set", dict := none, data := .set #[] 0 (.fresh 0 0 (!w.params.followText "set-order")) }
set_option maxHeartbeats 3200000 in
theorem call_set_list {l : Addr} {items : Array Value} (ks : List Key) {Q : Value → Shared → Prop} (hh : A.handled = none) (hl : s.heap.IsList l items) (hisz : items.size = ks.length) (hb : ks.length + 1 < scanBound)
    (hval : ∀ (i : Nat) (v : Value), items[i]? = some v → ∃ k, ks[i]? = some k ∧ keyIs k v = true)
    (h : ∀ (h' : Heap) (tk c : Nat), SetM w h' s.heap.objs.size (inK ks) c → (∀ b o, s.heap.get? b = some o → h'.get? b = some o) → Q (.ref s.heap.objs.size) { s with heap := h', toks := tk }) :
    wpAny (model P w) A (call (.type "set") [.ref l]) Q E s := by
  obtain ⟨c, tl, hmro⟩ := F.called_set.mro
  have hmade := F.called_set.made
  have hsub := F.called_set.sub
  refine wpAny_call (codeAny_of_tree ?_)
  show wpAny _ _ (callAny (.type "set") _) _ _ _
  refine wpAny_pure ⟨Code.quiet_builtin _ (by decide +kernel), codeAny_builtin F.entry_type_call ?_⟩
  rw [Around.under_plain (weight_type_call_type "set" [.ref l] []) rfl]
  have h1 := F.called_set.notType
  have h2 := F.called_set.canCreate
  have hct := F.typeCall_set_1 (.ref l)
  repeat (any_goals (first | assumption | wp_step))
  refine codeAny_mono (code_set_led1 (.ref l) (E := E) (Q₁ := fun obj s₁ => obj = .ref s.heap.objs.size ∧ s₁ = { s with heap := s.heap.push (setObj w) }) ⟨rfl, rfl⟩) fun r s₁ hr => ?_
  cases r with
  | error e => exact hr
  | ok fl =>
    cases fl with
    | ret obj =>
      obtain ⟨rfl, rfl⟩ := hr
      have hS : (s.heap.push (setObj w)).get? s.heap.objs.size = some (setObj w) := Heap.get?_push_size _ rfl
      have hT : Shared.TypeIs { s with heap := s.heap.push (setObj w) } (.ref s.heap.objs.size) "set" := ⟨_, hS, rfl⟩
      have hli := F.called_set.init.lookup
      have hbi := F.called_set.init.bind (.ref s.heap.objs.size)
      repeat (any_goals (first | assumption | wp_step))
      refine codeAny_mono (codeAny_call_builtin (R := wants (fun r s₂ => r = .none ∧ ∃ h' tk c, s₂ = { s with heap := h', toks := tk } ∧ SetM w h' s.heap.objs.size (inK ks) c ∧
          (∀ b o, s.heap.get? b = some o → h'.get? b = some o)) E) F.called_set.init.plain F.entry_set_init (check_set_init_1 hT ?_)) fun r₂ s₂ hr₂ => ?_
      · obtain ⟨ol, hol, hcl, nl, hdl⟩ := hl
        obtain ⟨ocls, odict, odata, oslots⟩ := ol
        simp only at hcl hdl
        subst hcl; subst hdl
        have hol' : (s.heap.push (setObj w)).get? l = some { cls := .type "list", dict := odict, data := .seq items nl, slots := oslots } := Heap.get?_push_of_some _ hol
        have hsls := F.sub_list_set
        have hslf := F.sub_list_frozenset
        have hne : (Value.type "list" == Value.type "dict") = false := by decide
        have hl1 : (s.heap.push (setObj w)).IsList l items := ⟨_, hol', rfl, nl, rfl⟩
        unfold Builtin.«set.__init__» noKeywords Builtin.Frozenset.updateFrom
        generalize hPI : pyIter = PI
        wp_walk
        subst hPI
        refine wpAny_pyIter_list hl1 (wpAny_bind (wpAny_runValue ?_))
        have hlS : l < s.heap.objs.size := Heap.lt_size hol
        have hh3 : A.in1.in1.in1.handled = none := by simp [hh]
        have hneI : l ≠ (s.heap.push (setObj w)).objs.size := by rw [Heap.size_push]; exact Nat.ne_of_lt (Nat.lt_succ_of_lt hlS)
        have hSf : s.heap.objs.size ∉ [(s.heap.push (setObj w)).objs.size, l] := by
          rw [Heap.size_push]; simp only [List.mem_cons, List.not_mem_nil, or_false, not_or]
          exact ⟨Nat.ne_of_lt (Nat.lt_succ_self _), Nat.ne_of_gt hlS⟩
        refine set_update_keys ((Walks.list hh3 _ l hneI items).toS) s.heap.objs.size
          hSf ks hisz hb hval (items.size - 0) 0 _ (by omega) (Nat.zero_le _)
          ⟨⟨_, Heap.get?_push_size _ rfl, rfl, rfl⟩, (hl1.push _)⟩ ⟨0, Nat.le_refl 0, setM_new (Heap.get?_push_of_some _ hS)⟩ fun s' c' hm hc' hS' => ?_
        obtain ⟨h', g2, d', tk', os'⟩ := s'
        have eg : g2 = s.gens := hm.gens
        have ed : d' = s.drawn := hm.drawn
        have eo : os' = s.os := hm.os
        subst eg; subst ed; subst eo
        show wpAny _ _ _ _ _ _
        refine wpAny_pure ?_
        show wpAny _ _ (ret Value.none) _ _ _
        refine wpAny_pure ⟨rfl, h', tk', c', rfl, hS', fun b o e => ?_⟩
        have hb0 : b < s.heap.objs.size := Heap.lt_size e
        exact hm.heap b o (by simp only [List.mem_cons, List.not_mem_nil, or_false, not_or, Heap.size_push]; exact ⟨Nat.ne_of_lt hb0, Nat.ne_of_lt (Nat.lt_succ_of_lt hb0)⟩) (Heap.get?_push_of_some _ (Heap.get?_push_of_some _ e))
      · cases r₂ with
        | error e => exact hr₂
        | ok fl₂ =>
          cases fl₂ with
          | ret r =>
            obtain ⟨rfl, h', tk, c, rfl, hS', hk'⟩ := hr₂
            repeat (any_goals (first | assumption | wp_step))
            exact h _ _ _ hS' hk'
          | _ => exact hr₂.elim
    | _ => exact hr.elim
set_option maxHeartbeats 3200000 in
theorem call_set_tuple {l : Addr} {items : Array Value} (ks : List Key) {Q : Value → Shared → Prop} (hh : A.handled = none) (hl : s.heap.IsTuple l items) (hisz : items.size = ks.length) (hb : ks.length + 1 < scanBound)
    (hval : ∀ (i : Nat) (v : Value), items[i]? = some v → ∃ k, ks[i]? = some k ∧ keyIs k v = true)
    (h : ∀ (h' : Heap) (tk c : Nat), SetM w h' s.heap.objs.size (inK ks) c → (∀ b o, s.heap.get? b = some o → h'.get? b = some o) → Q (.ref s.heap.objs.size) { s with heap := h', toks := tk }) :
    wpAny (model P w) A (call (.type "set") [.ref l]) Q E s := by
  obtain ⟨c, tl, hmro⟩ := F.called_set.mro
  have hmade := F.called_set.made
  have hsub := F.called_set.sub
  refine wpAny_call (codeAny_of_tree ?_)
  show wpAny _ _ (callAny (.type "set") _) _ _ _
  refine wpAny_pure ⟨Code.quiet_builtin _ (by decide +kernel), codeAny_builtin F.entry_type_call ?_⟩
  rw [Around.under_plain (weight_type_call_type "set" [.ref l] []) rfl]
  have h1 := F.called_set.notType
  have h2 := F.called_set.canCreate
  have hct := F.typeCall_set_1 (.ref l)
  repeat (any_goals (first | assumption | wp_step))
  refine codeAny_mono (code_set_led1 (.ref l) (E := E) (Q₁ := fun obj s₁ => obj = .ref s.heap.objs.size ∧ s₁ = { s with heap := s.heap.push (setObj w) }) ⟨rfl, rfl⟩) fun r s₁ hr => ?_
  cases r with
  | error e => exact hr
  | ok fl =>
    cases fl with
    | ret obj =>
      obtain ⟨rfl, rfl⟩ := hr
      have hS : (s.heap.push (setObj w)).get? s.heap.objs.size = some (setObj w) := Heap.get?_push_size _ rfl
      have hT : Shared.TypeIs { s with heap := s.heap.push (setObj w) } (.ref s.heap.objs.size) "set" := ⟨_, hS, rfl⟩
      have hli := F.called_set.init.lookup
      have hbi := F.called_set.init.bind (.ref s.heap.objs.size)
      repeat (any_goals (first | assumption | wp_step))
      refine codeAny_mono (codeAny_call_builtin (R := wants (fun r s₂ => r = .none ∧ ∃ h' tk c, s₂ = { s with heap := h', toks := tk } ∧ SetM w h' s.heap.objs.size (inK ks) c ∧
          (∀ b o, s.heap.get? b = some o → h'.get? b = some o)) E) F.called_set.init.plain F.entry_set_init (check_set_init_1 hT ?_)) fun r₂ s₂ hr₂ => ?_
      · obtain ⟨ol, hol, hcl, nl, hdl⟩ := hl
        obtain ⟨ocls, odict, odata, oslots⟩ := ol
        simp only at hcl hdl
        subst hcl; subst hdl
        have hol' : (s.heap.push (setObj w)).get? l = some { cls := .type "tuple", dict := odict, data := .seq items nl, slots := oslots } := Heap.get?_push_of_some _ hol
        have hsls := F.sub_tuple_set
        have hslf := F.sub_tuple_frozenset
        have hne : (Value.type "tuple" == Value.type "dict") = false := by decide
        have hl1 : (s.heap.push (setObj w)).IsTuple l items := ⟨_, hol', rfl, nl, rfl⟩
        unfold Builtin.«set.__init__» noKeywords Builtin.Frozenset.updateFrom
        generalize hPI : pyIter = PI
        wp_walk
        subst hPI
        refine wpAny_pyIter_tuple hl1 (wpAny_bind (wpAny_runValue ?_))
        have hlS : l < s.heap.objs.size := Heap.lt_size hol
        have hh3 : A.in1.in1.in1.handled = none := by simp [hh]
        have hneI : l ≠ (s.heap.push (setObj w)).objs.size := by rw [Heap.size_push]; exact Nat.ne_of_lt (Nat.lt_succ_of_lt hlS)
        have hSf : s.heap.objs.size ∉ [(s.heap.push (setObj w)).objs.size, l] := by
          rw [Heap.size_push]; simp only [List.mem_cons, List.not_mem_nil, or_false, not_or]
          exact ⟨Nat.ne_of_lt (Nat.lt_succ_self _), Nat.ne_of_gt hlS⟩
        refine set_update_keys ((Walks.tuple hh3 _ l hneI items).toS) s.heap.objs.size
          hSf ks hisz hb hval (items.size - 0) 0 _ (by omega) (Nat.zero_le _)
          ⟨⟨_, Heap.get?_push_size _ rfl, rfl, rfl⟩, (hl1.push _)⟩ ⟨0, Nat.le_refl 0, setM_new (Heap.get?_push_of_some _ hS)⟩ fun s' c' hm hc' hS' => ?_
        obtain ⟨h', g2, d', tk', os'⟩ := s'
        have eg : g2 = s.gens := hm.gens
        have ed : d' = s.drawn := hm.drawn
        have eo : os' = s.os := hm.os
        subst eg; subst ed; subst eo
        show wpAny _ _ _ _ _ _
        refine wpAny_pure ?_
        show wpAny _ _ (ret Value.none) _ _ _
        refine wpAny_pure ⟨rfl, h', tk', c', rfl, hS', fun b o e => ?_⟩
        have hb0 : b < s.heap.objs.size := Heap.lt_size e
        exact hm.heap b o (by simp only [List.mem_cons, List.not_mem_nil, or_false, not_or, Heap.size_push]; exact ⟨Nat.ne_of_lt hb0, Nat.ne_of_lt (Nat.lt_succ_of_lt hb0)⟩) (Heap.get?_push_of_some _ (Heap.get?_push_of_some _ e))
      · cases r₂ with
        | error e => exact hr₂
        | ok fl₂ =>
          cases fl₂ with
          | ret r =>
            obtain ⟨rfl, h', tk, c, rfl, hS', hk'⟩ := hr₂
            repeat (any_goals (first | assumption | wp_step))
            exact h _ _ _ hS' hk'
          | _ => exact hr₂.elim
    | _ => exact hr.elim
end
end Zz
set_option Elab.async false
set_option linter.all false
set_option maxRecDepth 100000
namespace Zz
open PySem PySem.Spec PyProof.Rows L2
/-! values without a heap; mutable things by their place in a store -/
inductive D where
  | non
  | bl (b : Bool)
  | int (i : Int)
  | str (x : Str)
  | tup (xs : List D)
  | rol (xs : List D)
  | tpz (xs : List D)
  | ref (n : Nat)
  | glo (x : Str)
  | ty (n : String)
  | clo (f c : Addr) (q : Str) (ds : List D) (vs : List V)
/-- mutable things: a list, a dict by ints and texts, a dict by tuples, one no longer followed -/
inductive MO where
  | lst (xs : List D)
  | dk (kvs : List (Key × D))
  | dt (kvs : List (NestedKey × D))
  | st (ks : List Key)
  | tab (P : Addr) (q : Str)
  | off
abbrev Sto := List MO
abbrev Rho := List (Option D)
/-- where one stands -/
structure G where
  P : Program
  w : World
  K : PySem.W.Frag
  mg : Str → Option Value
abbrev gX (X : Cx) : G := ⟨X.prog, X.w, X.K, X.mg⟩
/-- what never changes -/
def Imm (o : HO) : Prop := match o with
  | .tup _ => True
  | .frz _ (.tup _) => True
  | .frz _ (.lst _) => True
  | .ext f => ∃ c q, HO.ext f = LamX.CodeO c q
  | _ => False
/-- a list that is only read -/
def RoL (K : PySem.W.Frag) (H : Hp) (a : Addr) (xs : List V) : Prop :=
  (∃ o, H a = some (.frz o (.lst xs))) ∨ ∃ (o : Obj) (its : Array Value) (n : Nat), K.lookup a = some o ∧ o.cls = .type "list" ∧ o.dict = none ∧ o.data = .seq its n ∧ its.size ≤ sizeLine ∧ Vals xs its.toList
/-- a tuple without a dict of its own -/
def TupO (K : PySem.W.Frag) (H : Hp) (a : Addr) (xs : List V) : Prop :=
  (∃ o : Obj, H a = some (.frz o (.tup xs)) ∧ o.dict = none) ∨ ∃ (o : Obj) (its : Array Value) (n : Nat), K.lookup a = some o ∧ o.cls = .type "tuple" ∧ o.dict = none ∧ o.data = .seq its n ∧ its.size ≤ sizeLine ∧ Vals xs its.toList
theorem TupO.sq {K : PySem.W.Frag} {H : Hp} {a : Addr} {xs : List V} (h : TupO K H a xs) : SqT K H a xs := by
  rcases h with ⟨o, h, _⟩ | ⟨o, its, n, h1, h2, _, h3⟩
  · exact .inl (.inr ⟨o, h⟩)
  · exact .inr ⟨o, its, n, h1, h2, h3⟩
theorem RoL.sq {K : PySem.W.Frag} {H : Hp} {a : Addr} {xs : List V} (h : RoL K H a xs) : SqL K H a xs := h.imp .inr id
mutual
inductive Rp (g : G) (H : Hp) (ι : List Addr) : D → V → Prop
  | non : Rp g H ι .non .non
  | bl (b : Bool) : Rp g H ι (.bl b) (.bl b)
  | int (i : Int) : Rp g H ι (.int i) (.int i)
  | str (x : Str) : Rp g H ι (.str x) (.str x)
  | tup {a : Addr} {xs : List V} {ds : List D} : TupO g.K H a xs → Rps g H ι ds xs → Rp g H ι (.tup ds) (.ref a)
  | tpz {a : Addr} {xs : List V} {ds : List D} : SqT g.K H a xs → Rps g H ι ds xs → Rp g H ι (.tpz ds) (.ref a)
  | rol {a : Addr} {xs : List V} {ds : List D} : RoL g.K H a xs → Rps g H ι ds xs → Rp g H ι (.rol ds) (.ref a)
  | ref {n : Nat} {a : Addr} : ι[n]? = some a → Rp g H ι (.ref n) (.ref a)
  | glo {x : Str} {f : Addr} : g.mg x = some (.ref f) → Rp g H ι (.glo x) (.ref f)
  | ty (n : String) : Rp g H ι (.ty n) (.ty n)
  | clo {f c : Addr} {q : Str} {ds : List D} {vs : List V} : H c = some (LamX.CodeO c q) → Rps g H ι ds vs → Rp g H ι (.clo f c q ds vs) (.ref f)
inductive Rps (g : G) (H : Hp) (ι : List Addr) : List D → List V → Prop
  | nil : Rps g H ι [] []
  | cons {d : D} {ds : List D} {v : V} {vs : List V} : Rp g H ι d v → Rps g H ι ds vs → Rps g H ι (d :: ds) (v :: vs)
end
mutual
def keyD : NestedKey → D
  | .none => .non
  | .num i => .int i
  | .text x => .str x
  | .tup ks => .tup (keyDs ks)
def keyDs : List NestedKey → List D
  | [] => []
  | k :: ks => keyD k :: keyDs ks
end
/-- an entry of a dict by tuples: key, the key's tuple, value -/
abbrev Ent := NestedKey × Addr × Value
def EntR (g : G) (H : Hp) (ι : List Addr) (p : NestedKey × D) (q : Ent) : Prop :=
  q.1 = p.1 ∧ p.1.depth ≤ 8 ∧ Rp g H ι (keyD p.1) (.ref q.2.1) ∧ ∃ v, RelV v q.2.2 ∧ Rp g H ι p.2 v
/-- the object of a dict by tuples -/
def DtObj (g : G) (o : Obj) (xs : List Ent) : Prop :=
  o.ExactDict ∧ (∃ es ep, o.data = .dict es ep ∧ es.toList = xs.map (entryOfKey (nestedKind g.P g.w))) ∧ (xs.map (·.1)).Nodup ∧ xs.length ≤ sizeLine
def setO (w : World) (a : Addr) (ks : List Key) : HO := .ext fun h => ∃ n, SetM w h a (inK ks) n
def atO (a : Addr) (o : Obj) : HO := .ext fun h => h.get? a = some o
/-- a heap in which o is everywhere -/
def allO (n : Nat) (o : Obj) : Heap := { objs := Array.replicate n o }
theorem allO_at {n b : Nat} {o u : Obj} (h : (allO n o).get? b = some u) : u = o := by
  unfold allO Heap.get? at h
  simp only [Array.getElem?_replicate] at h
  split at h <;> simp_all
theorem allO_get {n b : Nat} {o : Obj} (hb : b < n) (hf : o.isFreed = false) : (allO n o).get? b = some o := by
  unfold allO Heap.get?
  simp only [Array.getElem?_replicate, if_pos hb]
  obtain ⟨c, d, dt, sl⟩ := o
  cases dt <;> first | rfl | exact Bool.noConfusion hf
theorem ext_noImm {f : Heap → Prop} {n : Nat} {o : Obj} (hf : f (allO n o)) (hd : ∀ vs, o.data ≠ .fields vs) : ¬ Imm (.ext f) := by
  rintro ⟨c, q, e⟩
  have e2 := HO.ext.inj e
  rw [e2] at hf
  obtain ⟨oc, vs, t, h1, h2, _⟩ := hf
  rw [allO_at h1] at h2
  exact hd _ h2
theorem atO_noImm {a : Addr} {o : Obj} {es : Array DictEntry} {ep : Nat} (hd : o.data = .dict es ep) : ¬ Imm (atO a o) :=
  ext_noImm (n := a + 1) (o := o) (allO_get (Nat.lt_succ_self a) (by obtain ⟨_, _, dt, _⟩ := o; cases hd; rfl)) fun vs h => by rw [hd] at h; cases h
theorem setO_noImm {w : World} {h : Heap} {a : Addr} {ks : List Key} {n : Nat} (R : SetM w h a (inK ks) n) : ¬ Imm (setO w a ks) := by
  obtain ⟨o, es, ep, t, ho, hex, hd, r⟩ := R
  refine ext_noImm (n := a + 1) (o := o) ⟨n, o, es, ep, t, allO_get (Nat.lt_succ_self a) (by obtain ⟨_, _, dt, _⟩ := o; cases hd; rfl), hex, hd, r⟩ fun vs h => by rw [hd] at h; cases h
/-- a mutable thing at an address -/
def MR (g : G) (H : Hp) (ι : List Addr) : MO → Addr → Prop
  | .lst ds, a => ∃ vs, H a = some (.lst vs) ∧ Rps g H ι ds vs
  | .dk kvs, a => ∃ vs : List (Key × V), H a = some (.dK vs) ∧ Paired (fun p q => q.1 = p.1 ∧ Rp g H ι p.2 q.2) kvs vs
  | .dt kvs, a => ∃ o xs, H a = some (atO a o) ∧ DtObj g o xs ∧ (a == sysModules) = false ∧ Paired (EntR g H ι) kvs xs
  | .st ks, a => H a = some (setO g.w a ks) ∧ ¬ Imm (setO g.w a ks)
  | .tab P q, a => a = P ∧ LamX.TabS H a q
  | .off, a => ∃ u, H a = some u ∧ ¬ Imm u
structure Rl (g : G) (H : Hp) (ι : List Addr) (S : Sto) : Prop where
  len : ι.length = S.length
  nd : ι.Nodup
  at' : ∀ (n : Nat) (o : MO) (a : Addr), S[n]? = some o → ι[n]? = some a → MR g H ι o a
def Rs (g : G) (H : Hp) (ι : List Addr) (ρ : Rho) (σ : L2.St) : Prop :=
  ρ.length = σ.length ∧ ∀ (i : Nat) (d : D), ρ[i]? = some (some d) → ∃ v, σ[i]? = some (some v) ∧ Rp g H ι d v
/-- how the heap and the places of the store went on -/
structure Ex (H : Hp) (ι : List Addr) (H' : Hp) (ι' : List Addr) : Prop where
  pre : ∃ more, ι' = ι ++ more
  new : ∀ a ∈ ι', a ∈ ι ∨ H a = none
  kp : ∀ a o, H a = some o → a ∉ ι → H' a = some o
theorem Ex.refl (H : Hp) (ι : List Addr) : Ex H ι H ι := ⟨⟨[], by simp⟩, fun a h => .inl h, fun a o h _ => h⟩
theorem Ex.trans {H H1 H2 : Hp} {ι ι1 ι2 : List Addr} (a : Ex H ι H1 ι1) (b : Ex H1 ι1 H2 ι2) : Ex H ι H2 ι2 := by
  obtain ⟨m1, e1⟩ := a.pre
  obtain ⟨m2, e2⟩ := b.pre
  refine ⟨⟨m1 ++ m2, by rw [e2, e1, List.append_assoc]⟩, fun c hc => ?_, fun c o h hn => ?_⟩
  · rcases b.new c hc with h | h
    · exact a.new c h
    · by_cases hi : c ∈ ι
      · exact .inl hi
      · refine .inr ?_
        cases q : H c with
        | none => rfl
        | some o => rw [a.kp c o q hi] at h; cases h
  · refine b.kp c o (a.kp c o h hn) fun hc => ?_
    rcases a.new c hc with z | z
    · exact hn z
    · rw [h] at z; cases z
theorem Ex.get {H H' : Hp} {ι ι' : List Addr} (e : Ex H ι H' ι') {n : Nat} {a : Addr} (h : ι[n]? = some a) : ι'[n]? = some a := by
  obtain ⟨m, rfl⟩ := e.pre
  have hn : n < ι.length := (List.getElem?_eq_some_iff.mp h).1
  rw [List.getElem?_append_left hn]; exact h
section
variable {g : G} {H H' : Hp} {ι ι' : List Addr}
theorem Rps.length : ∀ {ds : List D} {vs : List V}, Rps g H ι ds vs → ds.length = vs.length
  | _, _, .nil => rfl
  | _, _, .cons _ t => by simp [Rps.length t]
theorem Rps.get : ∀ {ds : List D} {vs : List V} {i : Nat} {d : D}, Rps g H ι ds vs → ds[i]? = some d → ∃ v, vs[i]? = some v ∧ Rp g H ι d v
  | _, _, _, _, .nil, e => by simp at e
  | _, _, 0, _, .cons r _, e => by simp at e; subst e; exact ⟨_, rfl, r⟩
  | _, _, i + 1, d, .cons _ t, e => by
    obtain ⟨u, h1, h2⟩ := Rps.get (i := i) (d := d) t (by simpa using e)
    exact ⟨u, by simpa using h1, h2⟩
theorem Rps.getV : ∀ {ds : List D} {vs : List V} {i : Nat} {v : V}, Rps g H ι ds vs → vs[i]? = some v → ∃ d, ds[i]? = some d ∧ Rp g H ι d v
  | _, _, _, _, .nil, e => by simp at e
  | _, _, 0, _, .cons r _, e => by simp at e; subst e; exact ⟨_, rfl, r⟩
  | _, _, i + 1, v, .cons _ t, e => by
    obtain ⟨u, h1, h2⟩ := Rps.getV (i := i) (v := v) t (by simpa using e)
    exact ⟨u, by simpa using h1, h2⟩
theorem Rps.app : ∀ {ds es : List D} {vs us : List V}, Rps g H ι ds vs → Rps g H ι es us → Rps g H ι (ds ++ es) (vs ++ us)
  | _, _, _, _, .nil, s => s
  | _, _, _, _, .cons r t, s => .cons r (Rps.app t s)
theorem Rps.take : ∀ {ds : List D} {vs : List V} (n : Nat), Rps g H ι ds vs → Rps g H ι (ds.take n) (vs.take n)
  | _, _, 0, _ => .nil
  | _, _, _ + 1, .nil => .nil
  | _, _, n + 1, .cons r t => .cons r (Rps.take n t)
theorem Rps.drop : ∀ {ds : List D} {vs : List V} (n : Nat), Rps g H ι ds vs → Rps g H ι (ds.drop n) (vs.drop n)
  | _, _, 0, r => r
  | _, _, _ + 1, .nil => .nil
  | _, _, n + 1, .cons _ t => Rps.drop n t
theorem Rps.set {d : D} {v : V} (r : Rp g H ι d v) : ∀ {ds : List D} {vs : List V} (i : Nat), Rps g H ι ds vs → Rps g H ι (ds.set i d) (vs.set i v)
  | _, _, _, .nil => .nil
  | _, _, 0, .cons _ t => .cons r t
  | _, _, i + 1, .cons q t => .cons q (Rps.set r i t)
theorem Rps.rev {ds : List D} {vs : List V} (h : Rps g H ι ds vs) : Rps g H ι ds.reverse vs.reverse := by
  induction ds generalizing vs with
  | nil => cases h; exact .nil
  | cons d ds ih =>
    cases h with
    | cons r t =>
      rw [List.reverse_cons, List.reverse_cons]
      exact (ih t).app (.cons r .nil)
theorem Rps.of_get {ds : List D} {vs : List V} (hl : ds.length = vs.length) (h : ∀ (i : Nat) d v, ds[i]? = some d → vs[i]? = some v → Rp g H ι d v) : Rps g H ι ds vs := by
  induction ds generalizing vs with
  | nil => cases vs with
    | nil => exact .nil
    | cons v vs => simp at hl
  | cons d ds ih => cases vs with
    | nil => simp at hl
    | cons v vs => exact .cons (h 0 d v rfl rfl) (ih (by simpa using hl) fun i d v h1 h2 => h (i + 1) d v (by simpa using h1) (by simpa using h2))
/-- a tuple stays -/
theorem sqT_kept {K : PySem.W.Frag} (kp : ∀ a o, H a = some o → Imm o → H' a = some o) {a : Addr} {xs : List V} (h : SqT K H a xs) : SqT K H' a xs := by
  rcases h with (h | ⟨o, h⟩) | h
  · exact .inl (.inl (kp _ _ h True.intro))
  · exact .inl (.inr ⟨o, kp _ _ h True.intro⟩)
  · exact .inr h
theorem tupO_kept {K : PySem.W.Frag} (kp : ∀ a o, H a = some o → Imm o → H' a = some o) {a : Addr} {xs : List V} (h : TupO K H a xs) : TupO K H' a xs := by
  rcases h with ⟨o, h, d⟩ | h
  · exact .inl ⟨o, kp _ _ h True.intro, d⟩
  · exact .inr h
theorem roL_kept {K : PySem.W.Frag} (kp : ∀ a o, H a = some o → Imm o → H' a = some o) {a : Addr} {xs : List V} (h : RoL K H a xs) : RoL K H' a xs :=
  h.imp (fun ⟨o, e⟩ => ⟨o, kp _ _ e True.intro⟩) id
mutual
theorem Rp.mono (kp : ∀ a o, H a = some o → Imm o → H' a = some o) (hi : ∀ (n : Nat) (a : Addr), ι[n]? = some a → ι'[n]? = some a) : ∀ {d : D} {v : V}, Rp g H ι d v → Rp g H' ι' d v
  | _, _, .non => .non
  | _, _, .bl b => .bl b
  | _, _, .int i => .int i
  | _, _, .str x => .str x
  | _, _, .tup s r => .tup (tupO_kept kp s) (Rps.mono kp hi r)
  | _, _, .rol s r => .rol (roL_kept kp s) (Rps.mono kp hi r)
  | _, _, .tpz s r => .tpz (sqT_kept kp s) (Rps.mono kp hi r)
  | _, _, .ref e => .ref (hi _ _ e)
  | _, _, .glo e => .glo e
  | _, _, .ty n => .ty n
  | _, _, .clo h r => .clo (kp _ _ h ⟨_, _, rfl⟩) (Rps.mono kp hi r)
theorem Rps.mono (kp : ∀ a o, H a = some o → Imm o → H' a = some o) (hi : ∀ (n : Nat) (a : Addr), ι[n]? = some a → ι'[n]? = some a) : ∀ {ds : List D} {vs : List V}, Rps g H ι ds vs → Rps g H' ι' ds vs
  | _, _, .nil => .nil
  | _, _, .cons r t => .cons (Rp.mono kp hi r) (Rps.mono kp hi t)
end
theorem MR.there {o : MO} {a : Addr} (h : MR g H ι o a) : ∃ u, H a = some u ∧ ¬ Imm u := by
  cases o with
  | lst ds => obtain ⟨vs, e, _⟩ := h; exact ⟨_, e, id⟩
  | dk kvs => obtain ⟨vs, e, _⟩ := h; exact ⟨_, e, id⟩
  | dt kvs => obtain ⟨o, xs, e, d, _⟩ := h; obtain ⟨es, ep, hd, _⟩ := d.2.1; exact ⟨_, e, atO_noImm hd⟩
  | st ks => exact ⟨_, h.1, h.2⟩
  | tab P q => obtain ⟨_, ps, e, _⟩ := h; exact ⟨_, e, id⟩
  | off => exact h
theorem MR.noImm {o : MO} {a : Addr} (h : MR g H ι o a) : ∀ u, H a = some u → ¬ Imm u := fun u hu => by
  obtain ⟨u', e, n⟩ := h.there
  rw [e] at hu; cases hu; exact n
theorem Rl.noImm {S : Sto} (R : Rl g H ι S) {a : Addr} (ha : a ∈ ι) : ∀ u, H a = some u → ¬ Imm u := by
  obtain ⟨n, hn⟩ := List.getElem?_of_mem ha
  have hl : n < S.length := by rw [← R.len]; exact (List.getElem?_eq_some_iff.mp hn).1
  exact (R.at' n _ a (List.getElem?_eq_getElem hl) hn).noImm
theorem Rl.ne {S : Sto} (R : Rl g H ι S) {p : Addr} (hp : H p = none) : p ∉ ι := fun ha => by
  obtain ⟨n, hn⟩ := List.getElem?_of_mem ha
  have hl : n < S.length := by rw [← R.len]; exact (List.getElem?_eq_some_iff.mp hn).1
  obtain ⟨u, e, _⟩ := (R.at' n _ p (List.getElem?_eq_getElem hl) hn).there
  rw [hp] at e; cases e
theorem Rl.kept {S : Sto} (R : Rl g H ι S) (e : Ex H ι H' ι') : ∀ a o, H a = some o → Imm o → H' a = some o := fun a o h i =>
  e.kp a o h fun ha => R.noImm ha o h i
theorem Rp.ex {S : Sto} (R : Rl g H ι S) (e : Ex H ι H' ι') {d : D} {v : V} (r : Rp g H ι d v) : Rp g H' ι' d v := r.mono (R.kept e) fun n a h => e.get h
theorem Rps.ex {S : Sto} (R : Rl g H ι S) (e : Ex H ι H' ι') {ds : List D} {vs : List V} (r : Rps g H ι ds vs) : Rps g H' ι' ds vs := r.mono (R.kept e) fun n a h => e.get h
theorem Rs.ex {S : Sto} (R : Rl g H ι S) (e : Ex H ι H' ι') {ρ : Rho} {σ : L2.St} (r : Rs g H ι ρ σ) : Rs g H' ι' ρ σ :=
  ⟨r.1, fun i d h => let ⟨v, h1, h2⟩ := r.2 i d h; ⟨v, h1, h2.ex R e⟩⟩
theorem Rs.set {ρ : Rho} {σ : L2.St} (r : Rs g H ι ρ σ) {d : D} {v : V} (q : Rp g H ι d v) (i : Nat) : Rs g H ι (ρ.set i (some d)) (σ.set i (some v)) := by
  refine ⟨by simp [r.1], fun j e h => ?_⟩
  by_cases hj : i = j
  · subst hj
    have hl : i < ρ.length := by
      have := (List.getElem?_eq_some_iff.mp h).1
      simpa using this
    rw [List.getElem?_set_self hl] at h
    cases h
    exact ⟨v, List.getElem?_set_self (by rw [← r.1]; exact hl), q⟩
  · rw [List.getElem?_set_ne hj] at h
    rw [List.getElem?_set_ne hj]
    exact r.2 j e h
theorem Rs.forget {ρ : Rho} {σ : L2.St} (r : Rs g H ι ρ σ) (i : Nat) (x : Option V) : Rs g H ι (ρ.set i none) (σ.set i x) := by
  refine ⟨by simp [r.1], fun j e h => ?_⟩
  by_cases hj : i = j
  · subst hj
    have hl : i < ρ.length := by
      have := (List.getElem?_eq_some_iff.mp h).1
      simpa using this
    rw [List.getElem?_set_self hl] at h
    cases h
  · rw [List.getElem?_set_ne hj] at h
    rw [List.getElem?_set_ne hj]
    exact r.2 j e h
end
/-! ### weakest preconditions without a heap -/
/-- an exception: its class, its values by name -/
structure Xc where
  cls : Str
  fs : List (Str × D)
abbrev QD := D → Sto → Prop
abbrev QX := Xc → Sto → Prop
abbrev WE := Rho → Sto → QD → QX → Prop
abbrev WA := Rho → Sto → (List D → Sto → Prop) → QX → Prop
abbrev WT := Rho → Sto → (Bool → Sto → Prop) → QX → Prop
structure Kt where
  nx : Rho → Sto → Prop
  rt : QD
  bk : Rho → Sto → Prop
  ct : Rho → Sto → Prop
  ex : Xc → Rho → Sto → Prop
abbrev WS := Kt → Rho → Sto → Prop
/-- an exception's class and dict -/
def Rx (g : G) (H : Hp) (ι : List Addr) (x : Xc) (cls : Value) (d : Option Addr) : Prop :=
  ∃ C, g.mg x.cls = some (.ref C) ∧ cls = .ref C ∧
    match x.fs with
    | [] => True
    | fs => ∃ a vs, d = some a ∧ H a = some (.xd vs) ∧ a ∉ ι ∧ Paired (fun p q => q.1 = p.1 ∧ Rp g H ι p.2 q.2) fs vs
/-- the wish of an exception, lifted -/
def liftX (g : G) (W : WX) (H : Hp) (ι : List Addr) (ρ : Rho) : QX := fun x S' => ∀ ι' H' σ' cls d, Ex H ι H' ι' → Rl g H' ι' S' → Rs g H' ι' ρ σ' → Rx g H' ι' x cls d → W cls d σ' H'
def upE (g : G) (H : Hp) (ι : List Addr) (Q : VK) : QD := fun d S' => ∀ ι' H' v, Ex H ι H' ι' → Rl g H' ι' S' → Rp g H' ι' d v → Q v H'
def upA (g : G) (H : Hp) (ι : List Addr) (Q : List V → Hp → Prop) : List D → Sto → Prop := fun ds S' => ∀ ι' H' vs, Ex H ι H' ι' → Rl g H' ι' S' → Rps g H' ι' ds vs → Q vs H'
def upT (g : G) (H : Hp) (ι : List Addr) (Q : Bool → Hp → Prop) : Bool → Sto → Prop := fun b S' => ∀ ι' H', Ex H ι H' ι' → Rl g H' ι' S' → Q b H'
def upS (g : G) (H : Hp) (ι : List Addr) (Q : L2.St → Hp → Prop) : Rho → Sto → Prop := fun ρ' S' => ∀ ι' H' σ', Ex H ι H' ι' → Rl g H' ι' S' → Rs g H' ι' ρ' σ' → Q σ' H'
def liftE (g : G) (W : WX) (w : WE) : TE := fun σ H Q => ∃ ι S ρ q e, Rl g H ι S ∧ Rs g H ι ρ σ ∧ w ρ S q e ∧ (∀ d S', q d S' → upE g H ι Q d S') ∧ ∀ x S', e x S' → liftX g W H ι ρ x S'
def liftA (g : G) (W : WX) (w : WA) : TA := fun σ H Q => ∃ ι S ρ q e, Rl g H ι S ∧ Rs g H ι ρ σ ∧ w ρ S q e ∧ (∀ d S', q d S' → upA g H ι Q d S') ∧ ∀ x S', e x S' → liftX g W H ι ρ x S'
def liftT (g : G) (W : WX) (w : WT) : TT := fun σ H Q => ∃ ι S ρ q e, Rl g H ι S ∧ Rs g H ι ρ σ ∧ w ρ S q e ∧ (∀ d S', q d S' → upT g H ι Q d S') ∧ ∀ x S', e x S' → liftX g W H ι ρ x S'
/-- what is wanted behind a statement, lifted -/
structure KI (g : G) (W : WX) (H : Hp) (ι : List Addr) (k : Kt) (D : Ends) : Prop where
  nx : ∀ ρ' S', k.nx ρ' S' → upS g H ι D.nx ρ' S'
  rt : ∀ d S', k.rt d S' → upE g H ι D.rt d S'
  bk : ∀ ρ' S', k.bk ρ' S' → upS g H ι D.bk ρ' S'
  ct : ∀ ρ' S', k.ct ρ' S' → upS g H ι D.ct ρ' S'
  ex : ∀ x ρ' S', k.ex x ρ' S' → liftX g W H ι ρ' x S'
def liftS (g : G) (W : WX) (w : WS) : TS := fun D σ H => ∃ ι S ρ k, Rl g H ι S ∧ Rs g H ι ρ σ ∧ w k ρ S ∧ KI g W H ι k D
theorem liftX.on {g : G} {W : WX} {H H1 : Hp} {ι ι1 : List Addr} {ρ : Rho} {x : Xc} {S' : Sto} (h : liftX g W H ι ρ x S') (e : Ex H ι H1 ι1) : liftX g W H1 ι1 ρ x S' :=
  fun ι' H' σ' cls d e' => h ι' H' σ' cls d (e.trans e')
theorem KI.on {g : G} {W : WX} {H H1 : Hp} {ι ι1 : List Addr} {k : Kt} {D : Ends} (h : KI g W H ι k D) (e : Ex H ι H1 ι1) : KI g W H1 ι1 k D :=
  ⟨fun ρ' S' q ι' H' σ' e' => h.nx ρ' S' q ι' H' σ' (e.trans e'), fun d S' q ι' H' v e' => h.rt d S' q ι' H' v (e.trans e'), fun ρ' S' q ι' H' σ' e' => h.bk ρ' S' q ι' H' σ' (e.trans e'),
    fun ρ' S' q ι' H' σ' e' => h.ct ρ' S' q ι' H' σ' (e.trans e'), fun x ρ' S' q => (h.ex x ρ' S' q).on e⟩
/-! ### readings may be weakened -/
theorem PE.mono {X : Cx} {e : Expr} {t t' : TE} (h : PE X e t) (i : ∀ σ H Q, t' σ H Q → t σ H Q) : PE X e t' := ⟨fun pins s σ H Q I q => h.run pins s σ H Q I (i σ H Q q)⟩
theorem PA.mono {X : Cx} {e : List Expr} {t t' : TA} (h : PA X e t) (i : ∀ σ H Q, t' σ H Q → t σ H Q) : PA X e t' := ⟨fun pos pins s σ H Q I q => h.run pos pins s σ H Q I (i σ H Q q)⟩
theorem PT.mono {X : Cx} {e : Expr} {t t' : TT} (h : PT X e t) (i : ∀ σ H Q, t' σ H Q → t σ H Q) : PT X e t' := ⟨fun pins s σ H Q I q => h.run pins s σ H Q I (i σ H Q q)⟩
theorem PW.mono {X : Cx} {e : Expr} {t t' : TT} (h : PW X e t) (i : ∀ σ H Q, t' σ H Q → t σ H Q) : PW X e t' := ⟨fun wh pins s σ H Q I q => h.run wh pins s σ H Q I (i σ H Q q)⟩
theorem PS.mono {X : Cx} {e : Stmt} {t t' : TS} (h : PS X e t) (i : ∀ D σ H, t' D σ H → t D σ H) : PS X e t' := ⟨fun pins s σ H D I q => h.run pins s σ H D I (i D σ H q)⟩
theorem PSs.mono {X : Cx} {e : List Stmt} {t t' : TS} (h : PSs X e t) (i : ∀ D σ H, t' D σ H → t D σ H) : PSs X e t' := ⟨fun pins s σ H D I q => h.run pins s σ H D I (i D σ H q)⟩
/-! ### new tuples, their object known -/
section
variable {X : Cx} {es : List Expr} {t : TA} {pos : Pos}
abbrev NewT (H : Hp) (xs : List V) (Q : VK) : Prop := ∀ (p : Addr) (o : Obj), o.dict = none → H p = none → Q (.ref p) (upd H p (.frz o (.tup xs)))
theorem newT {pins : List (Addr × Obj)} {σ : L2.St} {H : Hp} {s : Shared} {xs : List V} {us : List Value} {Q : VK} (I : Inv X pins σ H s) (r : Vals xs us) (z : xs.length ≤ sizeLine) (q : NewT H xs Q) :
    EP X pins σ Q (.ref s.heap.objs.size) { s with heap := s.heap.push { cls := .type "tuple", data := .seq us.toArray } } := by
  have hf : H s.heap.objs.size = none := I.hok.fresh (Nat.le_refl _)
  refine ⟨.ref s.heap.objs.size, upd H s.heap.objs.size (.frz { cls := .type "tuple", data := .seq us.toArray } (.tup xs)), I.laid (t' := s.toks) (fun b u e => Heap.get?_push_of_some _ e) (Nat.le_refl _) ?_, rfl, q _ _ rfl hf⟩
  exact ⟨Heap.get?_push_size _ rfl, z, us, r, ⟨_, Heap.get?_push_size _ rfl, rfl, _, rfl⟩⟩
def tTupF (t : TA) : TE := fun σ H Q => t σ H fun xs H1 => xs.length ≤ sizeLine ∧ NewT H1 xs Q
theorem pe_tupF {x1} (h : PA X es t) : PE X (.Tuple es x1 pos) (tTupF t) := by
  refine ⟨fun pins s σ H Q I hq => ?_⟩
  exact wpAny_Tuple_spliced (thn (h.run pos pins s σ H _ I hq) fun us s1 ⟨xs, H1, I1, r, z, q⟩ => ⟨by rw [← r.length]; exact z, newT I1 r z q⟩)
def rCatF (K : PySem.W.Frag) : R2 := fun x y H Q => ∃ a b xs ys, x = .ref a ∧ y = .ref b ∧ SqT K H a xs ∧ SqT K H b ys ∧ xs.length + ys.length ≤ sizeLine ∧
  (xs = [] → Q (.ref b) H) ∧ (xs ≠ [] → ys = [] → Q (.ref a) H) ∧ (xs ≠ [] → ys ≠ [] → NewT H (xs ++ ys) Q)
theorem op_catF : OpR X (binaryOp .Add) (rCatF X.K) := by
  intro pins s σ H x y v u Q I rx ry h
  obtain ⟨a, b, xs, ys, rfl, rfl, ha, hb, hz, q0, q1, q2⟩ := h
  by_cases hx : xs = []
  · exact op_catA pins s σ H _ _ v u Q I rx ry ⟨a, b, xs, ys, rfl, rfl, ha, hb, hz, q0, q1, fun z => absurd hx z⟩
  · cases rx
    cases ry
    obtain ⟨its, r1, p1, _⟩ := I.tuple ha
    obtain ⟨its2, r2, p2, _⟩ := I.tuple hb
    exact HT.cat_tup p1 p2 (fun z => hx (r1.nil_iff.mp z)) (fun z => ⟨.ref a, H, I, rfl, q1 hx (r2.nil_iff.mp z)⟩)
      (fun z => newT I (r1.append r2) (by rw [List.length_append]; exact hz) (q2 hx fun w => z (r2.nil_iff.mpr w))) (by rw [← r1.length, ← r2.length]; exact hz)
def rSlF (K : PySem.W.Frag) : V → Option Int → Option Int → Hp → VK → Prop := fun x lo hi H Q => ∃ a xs, x = .ref a ∧ SqT K H a xs ∧
  (HT.sIx xs.length 0 lo = 0 ∧ HT.sIx xs.length xs.length hi = xs.length → Q (.ref a) H) ∧ (¬ (HT.sIx xs.length 0 lo = 0 ∧ HT.sIx xs.length xs.length hi = xs.length) → NewT H (cutV xs lo hi) Q)
theorem sl_tupF : SlR X (rSlF X.K) := by
  intro pins s σ H x v vl vu lo hi sl Q I rx hs pl pu h
  obtain ⟨a, xs, rfl, hx, q1, q2⟩ := h
  by_cases hw : HT.sIx xs.length 0 lo = 0 ∧ HT.sIx xs.length xs.length hi = xs.length
  · exact sl_tupA pins s σ H _ v vl vu lo hi sl Q I rx hs pl pu ⟨a, xs, rfl, hx, q1, fun z => absurd hw z⟩
  · cases rx
    obtain ⟨its, r, ht, hz⟩ := I.tuple hx
    have hlen : its.toArray.size = xs.length := by rw [List.size_toArray]; exact r.length.symm
    refine ⟨"tuple", _, PyProof.Rows.slot_tuple_getitem.lookup, ht.typeIs, ?_⟩
    refine HT.getItem_tuple_cut ht hs pl pu (by rw [hlen]; exact hw) ?_ (by rw [hlen]; exact hz)
    rw [hlen]
    exact newT I ((r.drop (HT.sIx xs.length 0 lo)).take (HT.sIx xs.length xs.length hi - HT.sIx xs.length 0 lo)) (Nat.le_trans (cutV_length xs lo hi) hz) (q2 hw)
theorem call_tupleF : CallR X (.type "tuple") (fun xs H Q => ∃ p ys, xs = [.ref p] ∧ ((SqL X.K H p ys ∧ NewT H ys Q) ∨ (SqT X.K H p ys ∧ Q (.ref p) H))) := by
  intro pins s σ H xs us Q I r h
  obtain ⟨p, ys, rfl, h⟩ := h
  rcases h with ⟨hq, q⟩ | ⟨hq, q⟩
  · obtain ⟨u, rfl, rx⟩ := vals1 r
    cases rx
    obtain ⟨its, r', pl, hz⟩ := I.list hq
    have hlen := r'.length
    refine call_tuple_list pl.isList (fun h' kp => ?_) (by simp only [List.size_toArray] <;> omega)
    exact newT (I.kept (t' := s.toks) kp) r' hz q
  · exact call_tuple_of pins s σ H _ us Q I r ⟨p, ys, rfl, .inr ⟨hq, q⟩⟩
end
end Zz
set_option Elab.async false
set_option linter.all false
set_option maxRecDepth 100000
namespace Zz
open PySem PySem.Spec PyProof.Rows L2
section
variable {g : G} {H H' : Hp} {ι ι' : List Addr} {S : Sto}
theorem MR.keep {o : MO} {a : Addr} (h : MR g H ι o a) (e : H' a = H a) (kp : ∀ a o, H a = some o → Imm o → H' a = some o) (hi : ∀ (n : Nat) (a : Addr), ι[n]? = some a → ι'[n]? = some a) : MR g H' ι' o a := by
  cases o with
  | lst ds => obtain ⟨vs, q, r⟩ := h; exact ⟨vs, e.trans q, r.mono kp hi⟩
  | dk kvs => obtain ⟨vs, q, r⟩ := h; exact ⟨vs, e.trans q, Paired.mapP r fun p q z => ⟨z.1, z.2.mono kp hi⟩⟩
  | dt kvs =>
    obtain ⟨o, xs, q, z, n, r⟩ := h
    exact ⟨o, xs, e.trans q, z, n, Paired.mapP r fun p q ⟨h1, h2, h3, v, h4, h5⟩ => ⟨h1, h2, h3.mono kp hi, v, h4, h5.mono kp hi⟩⟩
  | st ks => exact ⟨e.trans h.1, h.2⟩
  | tab P q => obtain ⟨h0, ps, h1, h2, h3⟩ := h; exact ⟨h0, ps, e.trans h1, h2, fun pos cv hc => let ⟨c, e1, e2⟩ := h3 pos cv hc; ⟨c, e1, kp _ _ e2 ⟨c, q, rfl⟩⟩⟩
  | off => obtain ⟨u, q, n⟩ := h; exact ⟨u, e.trans q, n⟩
/-- something new beside the store -/
theorem Rl.beside (R : Rl g H ι S) {p : Addr} (hp : H p = none) (u : HO) : Ex H ι (upd H p u) ι ∧ Rl g (upd H p u) ι S := by
  have hn := R.ne hp
  have kp : ∀ a o, H a = some o → upd H p u a = some o := fun a o h => by rw [upd_ne (ne_of_none h hp)]; exact h
  refine ⟨⟨⟨[], by simp⟩, fun a h => .inl h, fun a o h _ => kp a o h⟩, ⟨R.len, R.nd, fun n o a h1 h2 => (R.at' n o a h1 h2).keep ?_ (fun a o h _ => kp a o h) fun _ _ h => h⟩⟩
  rw [upd_ne]
  rintro rfl
  exact hn (List.mem_of_getElem? h2)
/-- something new in the store -/
theorem Rl.new (R : Rl g H ι S) {p : Addr} (hp : H p = none) {u : HO} {o : MO} (m : MR g (upd H p u) (ι ++ [p]) o p) : Ex H ι (upd H p u) (ι ++ [p]) ∧ Rl g (upd H p u) (ι ++ [p]) (S ++ [o]) := by
  have hn := R.ne hp
  have kp : ∀ a o, H a = some o → upd H p u a = some o := fun a o h => by rw [upd_ne (ne_of_none h hp)]; exact h
  refine ⟨⟨⟨[p], rfl⟩, fun a h => ?_, fun a o h _ => kp a o h⟩, ⟨by simp [R.len], ?_, fun n o' a h1 h2 => ?_⟩⟩
  · rcases List.mem_append.mp h with h | h
    · exact .inl h
    · rw [List.mem_singleton.mp h]; exact .inr hp
  · refine List.nodup_append.mpr ⟨R.nd, by simp, fun a ha b hb => ?_⟩
    rw [List.mem_singleton.mp hb]
    rintro rfl
    exact hn ha
  · by_cases hl : n < S.length
    · rw [List.getElem?_append_left hl] at h1
      rw [List.getElem?_append_left (by rw [R.len]; exact hl)] at h2
      refine (R.at' n o' a h1 h2).keep ?_ (fun a o h _ => kp a o h) fun n a h => ?_
      · rw [upd_ne]
        rintro rfl
        exact hn (List.mem_of_getElem? h2)
      · rw [List.getElem?_append_left (List.getElem?_eq_some_iff.mp h).1]; exact h
    · have hl' : S.length ≤ n := Nat.le_of_not_lt hl
      rw [List.getElem?_append_right hl'] at h1
      rw [List.getElem?_append_right (by rw [R.len]; exact hl')] at h2
      have h0 : n - S.length = 0 := by
        have := (List.getElem?_eq_some_iff.mp h1).1
        simpa using this
      rw [h0] at h1
      rw [R.len, h0] at h2
      cases h1; cases h2
      exact m
/-- something of the store is changed -/
theorem Rl.put (R : Rl g H ι S) {n : Nat} {a : Addr} {o o' : MO} {u : HO} (hs : S[n]? = some o) (ha : ι[n]? = some a) (m : MR g (upd H a u) ι o' a) : Ex H ι (upd H a u) ι ∧ Rl g (upd H a u) ι (S.set n o') := by
  have hm := List.mem_of_getElem? ha
  have kp : ∀ c o, H c = some o → Imm o → upd H a u c = some o := fun c o h i => by
    rw [upd_ne]
    · exact h
    · rintro rfl; exact R.noImm hm _ h i
  refine ⟨⟨⟨[], by simp⟩, fun a h => .inl h, fun c o h hn => ?_⟩, ⟨by simp [R.len], R.nd, fun j o2 b h1 h2 => ?_⟩⟩
  · rw [upd_ne]
    · exact h
    · rintro rfl; exact hn hm
  · by_cases hj : n = j
    · subst hj
      rw [List.getElem?_set_self (List.getElem?_eq_some_iff.mp hs).1] at h1
      rw [ha] at h2
      cases h1; cases h2
      exact m
    · rw [List.getElem?_set_ne hj] at h1
      refine (R.at' j o2 b h1 h2).keep ?_ kp fun _ _ h => h
      rw [upd_ne]
      rintro rfl
      exact hj (by
        have e1 := List.getElem?_eq_some_iff.mp ha
        have e2 := List.getElem?_eq_some_iff.mp h2
        exact (List.getElem_inj R.nd).mp (e1.2.trans e2.2.symm))
theorem Rl.get (R : Rl g H ι S) {n : Nat} {o : MO} (h : S[n]? = some o) : ∃ a, ι[n]? = some a ∧ MR g H ι o a := by
  have hl : n < ι.length := by rw [R.len]; exact (List.getElem?_eq_some_iff.mp h).1
  exact ⟨_, List.getElem?_eq_getElem hl, R.at' n o _ h (List.getElem?_eq_getElem hl)⟩
end
/-! ### parts -/
def oB {α : Type} (o : Option α) (k : α → Prop) : Prop := match o with
  | some a => k a
  | none => False
theorem oB_iff {α : Type} {o : Option α} {k : α → Prop} : oB o k ↔ ∃ a, o = some a ∧ k a := by cases o <;> simp [oB]
@[simp] theorem oB_some {α : Type} (a : α) (k : α → Prop) : oB (some a) k = k a := rfl
@[simp] theorem oB_none {α : Type} (k : α → Prop) : oB none k = False := rfl
def wVar (i : Nat) : WE := fun ρ S Q _ => oB ρ[i]?.join fun d => Q d S
def wC (d : D) : WE := fun _ S Q _ => Q d S
def aNil : WA := fun _ S Q _ => Q [] S
def aCons (a : WE) (r : WA) : WA := fun ρ S Q E => a ρ S (fun d S1 => r ρ S1 (fun ds S2 => Q (d :: ds) S2) E) E
/-- a value of two -/
abbrev F2 := Sto → D → D → QD → Prop
def wOp (f : F2) (a b : WE) : WE := fun ρ S Q E => a ρ S (fun x S1 => b ρ S1 (fun y S2 => f S2 x y Q) E) E
abbrev F1 := Sto → D → QD → Prop
def wUn (f : F1) (a : WE) : WE := fun ρ S Q E => a ρ S (fun x S1 => f S1 x Q) E
abbrev FA := Sto → List D → QD → Prop
def wFn (f : FA) (a : WA) : WE := fun ρ S Q E => a ρ S (fun xs S1 => f S1 xs Q) E
def F2.or (f f' : F2) : F2 := fun S x y Q => f S x y Q ∨ f' S x y Q
def wTup (a : WA) : WE := fun ρ S Q E => a ρ S (fun ds S1 => ds.length ≤ sizeLine ∧ Q (.tup ds) S1) E
def wLst (a : WA) : WE := fun ρ S Q E => a ρ S (fun ds S1 => ds.length ≤ sizeLine ∧ Q (.ref S1.length) (S1 ++ [.lst ds])) E
def wIf (t : WT) (a b : WE) : WE := fun ρ S Q E => t ρ S (fun c S1 => if c = true then a ρ S1 Q E else b ρ S1 Q E) E
def tVal (a : WE) : WT := fun ρ S Q E => a ρ S (fun d S1 => match d with | .bl b => Q b S1 | _ => False) E
def tAnd (a b : WT) : WT := fun ρ S Q E => a ρ S (fun c S1 => if c = true then b ρ S1 Q E else Q false S1) E
def tOr (a b : WT) : WT := fun ρ S Q E => a ρ S (fun c S1 => if c = true then Q true S1 else b ρ S1 Q E) E
def tNot (a : WT) : WT := fun ρ S Q E => a ρ S (fun c S1 => Q (!c) S1) E
def wAnd (a b : WE) : WE := fun ρ S Q E => a ρ S (fun d S1 => match d with | .bl true => b ρ S1 Q E | .bl false => Q (.bl false) S1 | _ => False) E
def wOr (a b : WE) : WE := fun ρ S Q E => a ρ S (fun d S1 => match d with | .bl false => b ρ S1 Q E | .bl true => Q (.bl true) S1 | _ => False) E
def wNot (a : WE) : WE := fun ρ S Q E => a ρ S (fun d S1 => match d with | .bl c => Q (.bl (!c)) S1 | _ => False) E
section
variable {X : Cx} {W : WX}
theorem e_var {i : Nat} {x : Str} {pos : Pos} (hN : X.N[i]? = some x) (hv : Vis X.env.scope x) (hd : (x == ("__debug__" : Str)) = false := by decide) (hcd : (x == ("__classdict__" : Str)) = false := by decide) : PE X (.Name x pos) (liftE (gX X) W (wVar i)) := by
  refine PE.mono (pe_var hN hv hd hcd) fun σ H Q h => ?_
  obtain ⟨ι, S, ρ, q, e, R, r, h, hq, he⟩ := h
  obtain ⟨d, h1, h2⟩ := oB_iff.mp h
  obtain ⟨v, hv, rp⟩ := r.2 i d (Option.join_eq_some_iff.mp h1)
  exact ⟨v, hv, hq d S h2 ι H v (Ex.refl _ _) R rp⟩
/-- the sort of constants -/
theorem e_const {e : Expr} {v : V} {d : D} (h : PE X e (tC v)) (rp : ∀ H ι, Rp (gX X) H ι d v) : PE X e (liftE (gX X) W (wC d)) := by
  refine PE.mono h fun σ H Q h => ?_
  obtain ⟨ι, S, ρ, q, e, R, r, h, hq, he⟩ := h
  exact hq d S h ι H v (Ex.refl _ _) R (rp H ι)
theorem e_int {i j pos} : PE X (.Constant (.int i) j pos) (liftE (gX X) W (wC (.int i))) := e_const pe_int fun _ _ => .int i
theorem e_bl {b j pos} : PE X (.Constant (.bool b) j pos) (liftE (gX X) W (wC (.bl b))) := e_const pe_bl fun _ _ => .bl b
theorem e_non {j pos} : PE X (.Constant .none j pos) (liftE (gX X) W (wC .non)) := e_const pe_non fun _ _ => .non
theorem e_str {x j pos} : PE X (.Constant (.str x) j pos) (liftE (gX X) W (wC (.str x))) := e_const pe_str fun _ _ => .str x
theorem a_nil : PA X [] (liftA (gX X) W aNil) := by
  refine PA.mono pa_nil fun σ H Q h => ?_
  obtain ⟨ι, S, ρ, q, e, R, r, h, hq, he⟩ := h
  exact hq [] S h ι H [] (Ex.refl _ _) R .nil
theorem a_cons {e : Expr} {es : List Expr} {we : WE} {wr : WA} (ha : PE X e (liftE (gX X) W we)) (hr : PA X es (liftA (gX X) W wr)) (hs : starEach (e :: es) X.env = (false, eval e X.env) :: starEach es X.env := by rfl) :
    PA X (e :: es) (liftA (gX X) W (aCons we wr)) := by
  refine PA.mono (pa_cons ha hr hs) fun σ H Q h => ?_
  obtain ⟨ι, S, ρ, q, e, R, r, h, hq, he⟩ := h
  refine ⟨ι, S, ρ, _, e, R, r, h, fun d S1 h1 ι1 H1 v e1 R1 rv => ?_, he⟩
  exact ⟨ι1, S1, ρ, _, e, R1, r.ex R e1, h1, fun ds S2 h2 ι2 H2 vs e2 R2 rvs => hq _ _ h2 ι2 H2 _ (e1.trans e2) R2 (.cons (rv.ex R1 e2) rvs), fun x S' z => (he x S' z).on e1⟩
/-- two parts in a row -/
theorem two {wa wb : WE} {q2 : D → D → Sto → Prop} {Q2 : V → V → Hp → Prop} {g : G} {H : Hp} {ι : List Addr} {S : Sto} {ρ : Rho} {σ : L2.St} {e : QX} (R : Rl g H ι S) (r : Rs g H ι ρ σ) (h : wa ρ S (fun x S1 => wb ρ S1 (fun y S2 => q2 x y S2) e) e)
    (hq : ∀ x y S2, q2 x y S2 → ∀ ι2 H2 v u, Ex H ι H2 ι2 → Rl g H2 ι2 S2 → Rp g H2 ι2 x v → Rp g H2 ι2 y u → Q2 v u H2) (he : ∀ x S', e x S' → liftX g W H ι ρ x S') :
    liftE g W wa σ H fun x H1 => liftE g W wb σ H1 fun y H2 => Q2 x y H2 := by
  refine ⟨ι, S, ρ, _, e, R, r, h, fun x S1 h1 ι1 H1 v e1 R1 rv => ?_, he⟩
  exact ⟨ι1, S1, ρ, _, e, R1, r.ex R e1, h1, fun y S2 h2 ι2 H2 u e2 R2 ru => hq x y S2 h2 ι2 H2 v u (e1.trans e2) R2 (rv.ex R1 e2) ru, fun x S' z => (he x S' z).on e1⟩
/-- a rule of values served by f -/
def Ok2 (g : G) (r : R2) (f : F2) : Prop := ∀ {H : Hp} {ι : List Addr} {S : Sto} {x y : D} {v u : V} {Q : VK} {q : QD}, Rl g H ι S → Rp g H ι x v → Rp g H ι y u → f S x y q →
  (∀ z S', q z S' → upE g H ι Q z S') → r v u H Q
def Ok1 (g : G) (r : V → Hp → VK → Prop) (f : F1) : Prop := ∀ {H : Hp} {ι : List Addr} {S : Sto} {x : D} {v : V} {Q : VK} {q : QD}, Rl g H ι S → Rp g H ι x v → f S x q →
  (∀ z S', q z S' → upE g H ι Q z S') → r v H Q
def OkA (g : G) (r : List V → Hp → VK → Prop) (f : FA) : Prop := ∀ {H : Hp} {ι : List Addr} {S : Sto} {xs : List D} {vs : List V} {Q : VK} {q : QD}, Rl g H ι S → Rps g H ι xs vs → f S xs q →
  (∀ z S', q z S' → upE g H ι Q z S') → r vs H Q
theorem upE.on {g : G} {H H1 : Hp} {ι ι1 : List Addr} {Q : VK} {z : D} {S' : Sto} (h : upE g H ι Q z S') (e : Ex H ι H1 ι1) : upE g H1 ι1 Q z S' := fun ι' H' v e' => h ι' H' v (e.trans e')
theorem upE.here {g : G} {H : Hp} {ι : List Addr} {Q : VK} {z : D} {S : Sto} {v : V} (h : upE g H ι Q z S) (R : Rl g H ι S) (r : Rp g H ι z v) : Q v H := h ι H v (Ex.refl _ _) R r
theorem Ok2.or {g : G} {r r' : R2} {f f' : F2} (h : Ok2 g r f) (h' : Ok2 g r' f') : Ok2 g (fun x y H Q => r x y H Q ∨ r' x y H Q) (f.or f') := by
  intro H ι S x y v u Q q R rx ry hf hq
  rcases hf with z | z
  · exact .inl (h R rx ry z hq)
  · exact .inr (h' R rx ry z hq)
theorem lift_op {r : R2} {f : F2} {ta : WE} {tb : WE} {g : G} (ok : Ok2 g r f) : ∀ σ H Q, liftE g W (wOp f ta tb) σ H Q → tOp r (liftE g W ta) (liftE g W tb) σ H Q := fun σ H Q h => by
  obtain ⟨ι, S, ρ, q, e, R, rr, h, hq, he⟩ := h
  exact two R rr h (fun x y S2 z ι2 H2 v u e2 R2 rv ru => ok R2 rv ru z fun d S3 h2 => (hq d S3 h2).on e2) he
theorem e_op {a b : Expr} {pos : Pos} {op : Operator} {r : R2} {f : F2} {wa wb : WE} (ho : OpR X (binaryOp op) r) (ok : Ok2 (gX X) r f) (ha : PE X a (liftE (gX X) W wa)) (hb : PE X b (liftE (gX X) W wb)) :
    PE X (.BinOp a op b pos) (liftE (gX X) W (wOp f wa wb)) := PE.mono (pe_op ho ha hb) (lift_op ok)
theorem e_cmp {a b : Expr} {pos : Pos} {op : CmpOp} {r : R2} {f : F2} {wa wb : WE} (ho : OpR X (compareOp op) r) (ok : Ok2 (gX X) r f) (ha : PE X a (liftE (gX X) W wa)) (hb : PE X b (liftE (gX X) W wb)) (hm : behindInMarks op b = false := by first | exact nomark _ | rfl) :
    PE X (.Compare a [op] [b] pos) (liftE (gX X) W (wOp f wa wb)) := PE.mono (pe_cmpR ho ha hb hm) (lift_op ok)
theorem t_cmp {a b : Expr} {pos : Pos} {op : CmpOp} {r : R2} {f : F2} {wa wb : WE} (ho : OpR X (compareOp op) r) (ok : Ok2 (gX X) r f) (ha : PE X a (liftE (gX X) W wa)) (hb : PE X b (liftE (gX X) W wb)) (hm : behindInMarks op b = false := by first | exact nomark _ | rfl) :
    PT X (.Compare a [op] [b] pos) (liftT (gX X) W (tVal (wOp f wa wb))) := by
  refine PT.mono (pt_cmpR ho ha hb hm) fun σ H Q h => ?_
  obtain ⟨ι, S, ρ, q, e, R, rr, h, hq, he⟩ := h
  refine two R rr h (fun x y S2 z ι2 H2 v u e2 R2 rv ru => ok R2 rv ru z fun d S3 h2 ι3 H3 t e3 R3 rt => ?_) he
  cases rt with
  | bl b => exact ⟨b, rfl, hq b S3 h2 ι3 H3 (e2.trans e3) R3⟩
  | _ => exact False.elim h2
theorem e_un {a : Expr} {pos : Pos} {op : UnaryOp} {r : V → Hp → VK → Prop} {f : F1} {wa : WE} (ho : UnR X (unaryOp op) r) (ok : Ok1 (gX X) r f) (ha : PE X a (liftE (gX X) W wa)) : PE X (.UnaryOp op a pos) (liftE (gX X) W (wUn f wa)) := by
  refine PE.mono (pe_un ho ha) fun σ H Q h => ?_
  obtain ⟨ι, S, ρ, q, e, R, rr, h, hq, he⟩ := h
  exact ⟨ι, S, ρ, _, e, R, rr, h, fun x S1 h1 ι1 H1 v e1 R1 rv => ok R1 rv h1 fun d S3 h2 => (hq d S3 h2).on e1, he⟩
theorem e_tup {es : List Expr} {x1 pos} {w : WA} (h : PA X es (liftA (gX X) W w)) : PE X (.Tuple es x1 pos) (liftE (gX X) W (wTup w)) := by
  refine PE.mono (pe_tupF h) fun σ H Q h => ?_
  obtain ⟨ι, S, ρ, q, e, R, rr, h, hq, he⟩ := h
  refine ⟨ι, S, ρ, _, e, R, rr, h, fun ds S1 h1 ι1 H1 vs e1 R1 rv => ⟨by rw [← rv.length]; exact h1.1, fun p o od hp => ?_⟩, he⟩
  obtain ⟨e2, R2⟩ := R1.beside hp (.frz o (.tup vs))
  exact hq _ S1 h1.2 ι1 _ _ (e1.trans e2) R2 (.tup (.inl ⟨o, upd_same, od⟩) (rv.ex R1 e2))
theorem e_lst {es : List Expr} {pos} {w : WA} (h : PA X es (liftA (gX X) W w)) : PE X (.List es pos) (liftE (gX X) W (wLst w)) := by
  refine PE.mono (pe_lst h) fun σ H Q h => ?_
  obtain ⟨ι, S, ρ, q, e, R, rr, h, hq, he⟩ := h
  refine ⟨ι, S, ρ, _, e, R, rr, h, fun ds S1 h1 ι1 H1 vs e1 R1 rv => ⟨by rw [← rv.length]; exact h1.1, fun p hp => ?_⟩, he⟩
  have hn := R1.ne hp
  obtain ⟨e2, R2⟩ := R1.new hp (u := .lst vs) (o := .lst ds) ⟨vs, upd_same, rv.mono (fun a o h _ => by rw [upd_ne (ne_of_none h hp)]; exact h) fun n a h => by rw [List.getElem?_append_left (List.getElem?_eq_some_iff.mp h).1]; exact h⟩
  exact hq _ _ h1.2 _ _ _ (e1.trans e2) R2 (.ref (by rw [← R1.len]; simp))
/-! tests, and, or, not, if -/
theorem t_val {e : Expr} {w : WE} (h : PE X e (liftE (gX X) W w)) (he : ∀ whole, isTrue e X.env whole = (do let v ← whole; standAt e.pos; holding [v] (truthy v)) := by intro _; rfl) : PT X e (liftT (gX X) W (tVal w)) := by
  refine PT.mono (pt_val h he) fun σ H Q h => ?_
  obtain ⟨ι, S, ρ, q, e, R, rr, h, hq, he⟩ := h
  refine ⟨ι, S, ρ, _, e, R, rr, h, fun d S1 h1 ι1 H1 v e1 R1 rv => ?_, he⟩
  cases rv with
  | bl b => exact ⟨b, rfl, hq b S1 h1 ι1 H1 e1 R1⟩
  | _ => exact False.elim h1
/-- tests in a row -/
theorem twoT {wa wb : WT} {g : G} {H : Hp} {ι : List Addr} {S : Sto} {ρ : Rho} {σ : L2.St} {e : QX} {q : Bool → Sto → Prop} {Q : Bool → Hp → Prop} (b₀ : Bool) (R : Rl g H ι S) (r : Rs g H ι ρ σ)
    (h : wa ρ S (fun c S1 => if c = b₀ then wb ρ S1 q e else q (!b₀) S1) e) (hq : ∀ b S', q b S' → upT g H ι Q b S') (he : ∀ x S', e x S' → liftX g W H ι ρ x S') :
    liftT g W wa σ H fun c H1 => if c = b₀ then liftT g W wb σ H1 Q else Q (!b₀) H1 := by
  refine ⟨ι, S, ρ, _, e, R, r, h, fun c S1 h1 ι1 H1 e1 R1 => ?_, he⟩
  by_cases hc : c = b₀
  · rw [if_pos hc] at h1 ⊢
    exact ⟨ι1, S1, ρ, q, e, R1, r.ex R e1, h1, fun b S2 h2 ι2 H2 e2 R2 => hq b S2 h2 ι2 H2 (e1.trans e2) R2, fun x S' z => (he x S' z).on e1⟩
  · rw [if_neg hc] at h1 ⊢
    exact hq _ _ h1 _ _ e1 R1
theorem w_one {op : BoolOp} {a : Expr} {pos : Pos} {t : TT} (h : PT X a t) : PW X (.BoolOp op [a] pos) t := by
  cases op
  · exact pw_and1 h
  · exact pw_or1 h
theorem w_and {a b : Expr} {rest : List Expr} {pos : Pos} {ta tb : WT} (ha : PT X a (liftT (gX X) W ta)) (hb : PW X (.BoolOp .And (b :: rest) pos) (liftT (gX X) W tb)) : PW X (.BoolOp .And (a :: b :: rest) pos) (liftT (gX X) W (tAnd ta tb)) := by
  refine PW.mono (pw_and ha hb) fun σ H Q h => ?_
  obtain ⟨ι, S, ρ, q, e, R, r, h, hq, he⟩ := h
  exact twoT (b₀ := true) (q := q) R r h hq he
theorem w_or {a b : Expr} {rest : List Expr} {pos : Pos} {ta tb : WT} (ha : PT X a (liftT (gX X) W ta)) (hb : PW X (.BoolOp .Or (b :: rest) pos) (liftT (gX X) W tb)) : PW X (.BoolOp .Or (a :: b :: rest) pos) (liftT (gX X) W (tOr ta tb)) := by
  refine PW.mono (pw_or ha hb) fun σ H Q h => ?_
  obtain ⟨ι, S, ρ, q, e, R, r, h, hq, he⟩ := h
  refine ⟨ι, S, ρ, _, e, R, r, h, fun c S1 h1 ι1 H1 e1 R1 => ?_, he⟩
  cases c with
  | true => exact hq _ _ h1 _ _ e1 R1
  | false => exact ⟨ι1, S1, ρ, q, e, R1, r.ex R e1, h1, fun b S2 h2 ι2 H2 e2 R2 => hq b S2 h2 ι2 H2 (e1.trans e2) R2, fun x S' z => (he x S' z).on e1⟩
theorem t_not {a : Expr} {pos : Pos} {ta : WT} (ha : PT X a (liftT (gX X) W ta)) : PT X (.UnaryOp .Not a pos) (liftT (gX X) W (tNot ta)) := by
  refine PT.mono (pt_not ha) fun σ H Q h => ?_
  obtain ⟨ι, S, ρ, q, e, R, r, h, hq, he⟩ := h
  exact ⟨ι, S, ρ, _, e, R, r, h, fun c S1 h1 ι1 H1 e1 R1 => hq _ _ h1 _ _ e1 R1, he⟩
theorem e_one {op : BoolOp} {a : Expr} {pos : Pos} {t : TE} (h : PE X a t) : PE X (.BoolOp op [a] pos) t := pe_one h
theorem e_and {a b : Expr} {rest : List Expr} {pos : Pos} {ta tb : WE} (ha : PE X a (liftE (gX X) W ta)) (hb : PE X (.BoolOp .And (b :: rest) pos) (liftE (gX X) W tb)) : PE X (.BoolOp .And (a :: b :: rest) pos) (liftE (gX X) W (wAnd ta tb)) := by
  refine PE.mono (pe_and ha hb) fun σ H Q h => ?_
  obtain ⟨ι, S, ρ, q, e, R, r, h, hq, he⟩ := h
  refine ⟨ι, S, ρ, _, e, R, r, h, fun d S1 h1 ι1 H1 v e1 R1 rv => ?_, he⟩
  cases rv with
  | bl c =>
    refine ⟨c, rfl, ?_⟩
    cases c with
    | true => exact ⟨ι1, S1, ρ, q, e, R1, r.ex R e1, h1, fun b S2 h2 ι2 H2 v e2 R2 rv => hq b S2 h2 ι2 H2 v (e1.trans e2) R2 rv, fun x S' z => (he x S' z).on e1⟩
    | false => exact hq _ _ h1 _ _ _ e1 R1 (.bl false)
  | _ => exact False.elim h1
theorem e_or {a b : Expr} {rest : List Expr} {pos : Pos} {ta tb : WE} (ha : PE X a (liftE (gX X) W ta)) (hb : PE X (.BoolOp .Or (b :: rest) pos) (liftE (gX X) W tb)) : PE X (.BoolOp .Or (a :: b :: rest) pos) (liftE (gX X) W (wOr ta tb)) := by
  refine PE.mono (pe_or ha hb) fun σ H Q h => ?_
  obtain ⟨ι, S, ρ, q, e, R, r, h, hq, he⟩ := h
  refine ⟨ι, S, ρ, _, e, R, r, h, fun d S1 h1 ι1 H1 v e1 R1 rv => ?_, he⟩
  cases rv with
  | bl c =>
    refine ⟨c, rfl, ?_⟩
    cases c with
    | false => exact ⟨ι1, S1, ρ, q, e, R1, r.ex R e1, h1, fun b S2 h2 ι2 H2 v e2 R2 rv => hq b S2 h2 ι2 H2 v (e1.trans e2) R2 rv, fun x S' z => (he x S' z).on e1⟩
    | true => exact hq _ _ h1 _ _ _ e1 R1 (.bl true)
  | _ => exact False.elim h1
theorem e_not {a : Expr} {pos : Pos} {ta : WE} (ha : PE X a (liftE (gX X) W ta)) : PE X (.UnaryOp .Not a pos) (liftE (gX X) W (wNot ta)) := by
  refine PE.mono (pe_not ha) fun σ H Q h => ?_
  obtain ⟨ι, S, ρ, q, e, R, r, h, hq, he⟩ := h
  refine ⟨ι, S, ρ, _, e, R, r, h, fun d S1 h1 ι1 H1 v e1 R1 rv => ?_, he⟩
  cases rv with
  | bl c => exact ⟨c, rfl, hq _ _ h1 _ _ _ e1 R1 (.bl _)⟩
  | _ => exact False.elim h1
theorem e_if {c a b : Expr} {pos : Pos} {tc : WT} {ta tb : WE} (hc : PT X c (liftT (gX X) W tc)) (ha : PE X a (liftE (gX X) W ta)) (hb : PE X b (liftE (gX X) W tb)) : PE X (.IfExp c a b pos) (liftE (gX X) W (wIf tc ta tb)) := by
  refine PE.mono (pe_ifExp hc ha hb) fun σ H Q h => ?_
  obtain ⟨ι, S, ρ, q, e, R, r, h, hq, he⟩ := h
  refine ⟨ι, S, ρ, _, e, R, r, h, fun c S1 h1 ι1 H1 e1 R1 => ?_, he⟩
  cases c with
  | true => exact ⟨ι1, S1, ρ, q, e, R1, r.ex R e1, h1, fun b S2 h2 ι2 H2 v e2 R2 rv => hq b S2 h2 ι2 H2 v (e1.trans e2) R2 rv, fun x S' z => (he x S' z).on e1⟩
  | false => exact ⟨ι1, S1, ρ, q, e, R1, r.ex R e1, h1, fun b S2 h2 ι2 H2 v e2 R2 rv => hq b S2 h2 ι2 H2 v (e1.trans e2) R2 rv, fun x S' z => (he x S' z).on e1⟩
end
end Zz
set_option Elab.async false
set_option linter.all false
set_option maxRecDepth 100000
namespace Zz
open PySem PySem.Spec PyProof.Rows L2
/-! ### numbers -/
def fI (C : Int → Int → Prop) (h : Int → Int → Int) : F2 := fun S x y Q => match x, y with
  | .int i, .int j => C i j ∧ Q (.int (h i j)) S
  | _, _ => False
def fI0 (h : Int → Int → Int) : F2 := fun S x y Q => match x, y with
  | .int i, .int j => Q (.int (h i j)) S
  | _, _ => False
def fIB (h : Int → Int → Bool) : F2 := fun S x y Q => match x, y with
  | .int i, .int j => Q (.bl (h i j)) S
  | _, _ => False
section
variable {g : G}
theorem ok_I {C : Int → Int → Prop} {h : Int → Int → Int} : Ok2 g (rI C fun i j => .int (h i j)) (fI C h) := by
  intro H ι S x y v u Q q R rx ry hf hq
  cases rx <;> first | exact False.elim hf | (cases ry <;> first | exact False.elim hf | exact ⟨_, _, rfl, rfl, hf.1, (hq _ _ hf.2).here R (.int _)⟩)
theorem ok_I0 {h : Int → Int → Int} : Ok2 g (rI0 fun i j => .int (h i j)) (fI0 h) := by
  intro H ι S x y v u Q q R rx ry hf hq
  cases rx <;> first | exact False.elim hf | (cases ry <;> first | exact False.elim hf | exact ⟨_, _, rfl, rfl, (hq _ _ hf).here R (.int _)⟩)
theorem ok_IB {h : Int → Int → Bool} : Ok2 g (rI0 fun i j => .bl (h i j)) (fIB h) := by
  intro H ι S x y v u Q q R rx ry hf hq
  cases rx <;> first | exact False.elim hf | (cases ry <;> first | exact False.elim hf | exact ⟨_, _, rfl, rfl, (hq _ _ hf).here R (.bl _)⟩)
def fNeg : F1 := fun S x Q => match x with | .int i => Q (.int (-i)) S | _ => False
theorem ok_neg : Ok1 g (rU fun i => .int (-i)) fNeg := by
  intro H ι S x v Q q R rx hf hq
  cases rx <;> first | exact False.elim hf | exact ⟨_, rfl, (hq _ _ hf).here R (.int _)⟩
end
/-! ### + -/
/-- where two lists stand -/
def atL (S : Sto) (x : D) (k : List D → Prop) : Prop := match x with
  | .ref n => (match S[n]? with | some (.lst xs) => k xs | _ => False)
  | _ => False
/-- a list or tuple's items -/
def atSq (S : Sto) (x : D) (k : List D → Prop) : Prop := match x with
  | .ref n => (match S[n]? with | some (.lst xs) => k xs | _ => False)
  | .rol xs => k xs
  | .tup xs => k xs
  | _ => False
theorem atL_iff {S : Sto} {x : D} {k : List D → Prop} : atL S x k ↔ ∃ n xs, x = .ref n ∧ S[n]? = some (.lst xs) ∧ k xs := by
  unfold atL
  cases x <;> simp
  rename_i n
  cases h : S[n]? with
  | none => simp
  | some o => cases o <;> simp
def fAddS : F2 := fun S x y Q => match x, y with
  | .str a, .str b => a.length + b.length ≤ sizeLine ∧ Q (.str (a ++ b)) S
  | _, _ => False
def fAddT : F2 := fun S x y Q => match x, y with
  | .tup a, .tup b => a.length + b.length ≤ sizeLine ∧ Q (.tup (a ++ b)) S
  | _, _ => False
def fAddL : F2 := fun S x y Q => atL S x fun a => atL S y fun b => a.length + b.length ≤ sizeLine ∧ Q (.ref S.length) (S ++ [.lst (a ++ b)])
section
variable {X : Cx} {g : G}
theorem ok_addS : Ok2 g (fun x y H Q => ∃ i j, x = .str i ∧ y = .str j ∧ i.length + j.length ≤ sizeLine ∧ Q (.str (i ++ j)) H) fAddS := by
  intro H ι S x y v u Q q R rx ry hf hq
  cases rx <;> first | exact False.elim hf | (cases ry <;> first | exact False.elim hf | exact ⟨_, _, rfl, rfl, hf.1, (hq _ _ hf.2).here R (.str _)⟩)
theorem ok_addT : Ok2 g (rCatF g.K) fAddT := by
  intro H ι S x y v u Q q R rx ry hf hq
  cases rx <;> first | exact False.elim hf | (cases ry <;> first | exact False.elim hf | skip)
  rename_i a xs ds sx rx b ys es sy ry
  have l1 := rx.length
  have l2 := ry.length
  refine ⟨a, b, xs, ys, rfl, rfl, sx.sq, sy.sq, by have := hf.1; omega, fun e => ?_, fun _ e => ?_, fun _ _ p o od hp => ?_⟩
  · subst e
    cases rx
    exact (hq _ _ hf.2).here R (.tup sy ry)
  · subst e
    cases ry
    have := (hq _ _ hf.2).here (v := .ref a) R (by rw [List.append_nil]; exact .tup sx rx)
    exact this
  · obtain ⟨e2, R2⟩ := R.beside hp (.frz o (.tup (xs ++ ys)))
    exact (hq _ _ hf.2) ι _ _ e2 R2 (.tup (.inl ⟨o, upd_same, od⟩) ((rx.app ry).ex R e2))
theorem newList {H : Hp} {ι : List Addr} {S : Sto} (R : Rl g H ι S) {p : Addr} (hp : H p = none) {ds : List D} {vs : List V} (rv : Rps g H ι ds vs) :
    Ex H ι (upd H p (.lst vs)) (ι ++ [p]) ∧ Rl g (upd H p (.lst vs)) (ι ++ [p]) (S ++ [.lst ds]) ∧ Rp g (upd H p (.lst vs)) (ι ++ [p]) (.ref S.length) (.ref p) := by
  obtain ⟨e2, R2⟩ := R.new hp (u := .lst vs) (o := .lst ds) ⟨vs, upd_same, rv.mono (fun a o h _ => by rw [upd_ne (ne_of_none h hp)]; exact h) fun n a h => by rw [List.getElem?_append_left (List.getElem?_eq_some_iff.mp h).1]; exact h⟩
  exact ⟨e2, R2, .ref (by rw [← R.len]; simp)⟩
theorem Rl.list {H : Hp} {ι : List Addr} {S : Sto} (R : Rl g H ι S) {n : Nat} {xs : List D} {v : V} (h : S[n]? = some (.lst xs)) (r : Rp g H ι (.ref n) v) : ∃ a vs, v = .ref a ∧ H a = some (.lst vs) ∧ Rps g H ι xs vs ∧ ι[n]? = some a := by
  cases r with
  | ref e =>
    obtain ⟨a', e', vs, h1, h2⟩ := R.get h
    rw [e] at e'; cases e'
    exact ⟨_, vs, rfl, h1, h2, e⟩
theorem ok_addL : Ok2 g rCat fAddL := by
  intro H ι S x y v u Q q R rx ry hf hq
  obtain ⟨n, xs, rfl, h1, hf⟩ := atL_iff.mp hf
  obtain ⟨m, ys, rfl, h2, hf⟩ := atL_iff.mp hf
  obtain ⟨a, vs, rfl, e1, r1, _⟩ := R.list h1 rx
  obtain ⟨b, us, rfl, e2, r2, _⟩ := R.list h2 ry
  have l1 := r1.length
  have l2 := r2.length
  refine ⟨a, b, vs, us, rfl, rfl, e1, e2, by have := hf.1; omega, fun p hp => ?_⟩
  obtain ⟨e3, R3, rp⟩ := newList R hp (r1.app r2)
  exact (hq _ _ hf.2) _ _ _ e3 R3 rp
def fAdd : F2 := (fI0 fun i j => i + j).or (fAddS.or (fAddT.or fAddL))
theorem or_add : OpR X (binaryOp .Add) (fun x y H Q => rI0 (fun i j => .int (i + j)) x y H Q ∨ ((∃ i j, x = .str i ∧ y = .str j ∧ i.length + j.length ≤ sizeLine ∧ Q (.str (i ++ j)) H) ∨ (rCatF X.K x y H Q ∨ rCat x y H Q))) :=
  op_add.or (op_add_str.or (op_catF.or op_cat))
theorem ok_add : Ok2 (gX X) (fun x y H Q => rI0 (fun i j => .int (i + j)) x y H Q ∨ ((∃ i j, x = .str i ∧ y = .str j ∧ i.length + j.length ≤ sizeLine ∧ Q (.str (i ++ j)) H) ∨ (rCatF X.K x y H Q ∨ rCat x y H Q))) fAdd :=
  ok_I0.or (ok_addS.or (Ok2.or (g := gX X) ok_addT ok_addL))
end
/-! ### data in one piece -/
mutual
inductive Sn (S : Sto) : D → PyData → Prop
  | non : Sn S .non .none
  | bl (b : Bool) : Sn S (.bl b) (.bool b)
  | int (i : Int) : Sn S (.int i) (.int i)
  | str (x : Str) : Sn S (.str x) (.str x)
  | tup {xs : List D} {ps : List PyData} : Sns S xs ps → Sn S (.tup xs) (.tuple ps)
  | rol {xs : List D} {ps : List PyData} : Sns S xs ps → Sn S (.rol xs) (.list ps)
  | lst {n : Nat} {xs : List D} {ps : List PyData} : S[n]? = some (.lst xs) → Sns S xs ps → Sn S (.ref n) (.list ps)
inductive Sns (S : Sto) : List D → List PyData → Prop
  | nil : Sns S [] []
  | cons {d : D} {ds : List D} {p : PyData} {ps : List PyData} : Sn S d p → Sns S ds ps → Sns S (d :: ds) (p :: ps)
end
section
variable {g : G} {H : Hp} {ι : List Addr} {S : Sto}
mutual
theorem Sn.dp (R : Rl g H ι S) : ∀ {d : D} {p : PyData} {v : V}, Sn S d p → Rp g H ι d v → Dp g.K H v p
  | _, _, _, .non, r => by cases r; exact .non
  | _, _, _, .bl b, r => by cases r; exact .bl b
  | _, _, _, .int i, r => by cases r; exact .int i
  | _, _, _, .str x, r => by cases r; exact .str x
  | _, _, _, .tup s, r => by
    cases r with
    | tup t q => exact .tup t.sq (Sns.dp R s q)
  | _, _, _, .rol s, r => by
    cases r with
    | rol t q => exact .lst t.sq (Sns.dp R s q)
  | _, _, _, .lst h s, r => by
    obtain ⟨a, vs, rfl, e1, r1, _⟩ := R.list h r
    exact .lst (.inl (.inl e1)) (Sns.dp R s r1)
theorem Sns.dp (R : Rl g H ι S) : ∀ {ds : List D} {ps : List PyData} {vs : List V}, Sns S ds ps → Rps g H ι ds vs → DpAll g.K H vs ps
  | _, _, _, .nil, r => by cases r; exact .nil
  | _, _, _, .cons s t, r => by
    cases r with
    | cons r1 r2 => exact .cons (Sn.dp R s r1) (Sns.dp R t r2)
end
end
def fEq (b : Bool) : F2 := fun S x y Q => ∃ p q, Sn S x p ∧ Sn S y q ∧ SeqAt.shaped p = true ∧ SeqAt.shaped q = true ∧ Q (.bl (if b then PyData.eqv p q else !PyData.eqv p q)) S
theorem ok_eq {g : G} : Ok2 g (rEqD g.K) (fEq true) := by
  intro H ι S x y v u Q q R rx ry hf hq
  obtain ⟨d, e, h1, h2, s1, s2, z⟩ := hf
  exact ⟨d, e, h1.dp R rx, h2.dp R ry, s1, s2, (hq _ _ z).here R (.bl _)⟩
theorem ok_ne {g : G} : Ok2 g (rNeD g.K) (fEq false) := by
  intro H ι S x y v u Q q R rx ry hf hq
  obtain ⟨d, e, h1, h2, s1, s2, z⟩ := hf
  exact ⟨d, e, h1.dp R rx, h2.dp R ry, s1, s2, (hq _ _ z).here R (.bl _)⟩
/-- is None -/
def isNon : D → Bool
  | .non => true
  | _ => false
def fIsN (b : Bool) : F2 := fun S x y Q => match y with | .non => Q (.bl (if b then isNon x else !isNon x)) S | _ => False
theorem isNon_iff {g : G} {H : Hp} {ι : List Addr} {d : D} {v : V} (r : Rp g H ι d v) : decide (v = .non) = isNon d := by
  cases r <;> simp [isNon]
theorem ok_isN {g : G} : Ok2 g (fun x y H Q => y = .non ∧ Q (.bl (decide (x = .non))) H) (fIsN true) := by
  intro H ι S x y v u Q q R rx ry hf hq
  cases ry <;> first | exact False.elim hf | skip
  refine ⟨rfl, ?_⟩
  rw [isNon_iff rx]
  exact (hq _ _ hf).here R (.bl _)
theorem ok_notN {g : G} : Ok2 g (fun x y H Q => y = .non ∧ Q (.bl (!decide (x = .non))) H) (fIsN false) := by
  intro H ι S x y v u Q q R rx ry hf hq
  cases ry <;> first | exact False.elim hf | skip
  refine ⟨rfl, ?_⟩
  rw [isNon_iff rx]
  exact (hq _ _ hf).here R (.bl _)
/-- x in a list, of data -/
def anyEq (p : PyData) (qs : List PyData) : Bool := qs.any fun z => PyData.eqv z p
def fIn (b : Bool) : F2 := fun S x y Q => ∃ p qs, Sn S x p ∧ Sn S y (.list qs) ∧ SeqAt.shaped p = true ∧ SeqAt.shaped (.list qs) = true ∧ Q (.bl (if b then anyEq p qs else !anyEq p qs)) S
theorem ok_in {g : G} : Ok2 g (rInD g.K) (fIn true) := by
  intro H ι S x y v u Q q R rx ry hf hq
  obtain ⟨d, e, h1, h2, s1, s2, z⟩ := hf
  exact ⟨d, e, h1.dp R rx, h2.dp R ry, s1, s2, (hq _ _ z).here R (.bl _)⟩
theorem ok_notIn {g : G} : Ok2 g (rNotInD g.K) (fIn false) := by
  intro H ι S x y v u Q q R rx ry hf hq
  obtain ⟨d, e, h1, h2, s1, s2, z⟩ := hf
  exact ⟨d, e, h1.dp R rx, h2.dp R ry, s1, s2, (hq _ _ z).here R (.bl _)⟩
/-- a sign in a text -/
def fInS (b : Bool) : F2 := fun S x y Q => match x, y with
  | .str c, .str z => ∃ k, c = ⟨#[k]⟩ ∧ Q (.bl (if b then decide (k ∈ z.cps.toList) else !decide (k ∈ z.cps.toList))) S
  | _, _ => False
theorem ok_inS {g : G} : Ok2 g (fun x y H Q => ∃ (c : Nat) (z : Str), x = .str ⟨#[c]⟩ ∧ y = .str z ∧ Q (.bl (decide (c ∈ z.cps.toList))) H) (fInS true) := by
  intro H ι S x y v u Q q R rx ry hf hq
  cases rx <;> first | exact False.elim hf | (cases ry <;> first | exact False.elim hf | skip)
  obtain ⟨k, rfl, z⟩ := hf
  exact ⟨k, _, rfl, rfl, (hq _ _ z).here R (.bl _)⟩
theorem ok_notInS {g : G} : Ok2 g (fun x y H Q => ∃ (c : Nat) (z : Str), x = .str ⟨#[c]⟩ ∧ y = .str z ∧ Q (.bl (!decide (c ∈ z.cps.toList))) H) (fInS false) := by
  intro H ι S x y v u Q q R rx ry hf hq
  cases rx <;> first | exact False.elim hf | (cases ry <;> first | exact False.elim hf | skip)
  obtain ⟨k, rfl, z⟩ := hf
  exact ⟨k, _, rfl, rfl, (hq _ _ z).here R (.bl _)⟩
/-- texts by < -/
def fLtS : F2 := fun S x y Q => match x, y with
  | .str a, .str b => Q (.bl (decide (a.cps.toList < b.cps.toList))) S
  | _, _ => False
theorem ok_ltS {g : G} : Ok2 g (fun x y H Q => ∃ i j, x = .str i ∧ y = .str j ∧ Q (.bl (decide (i.cps.toList < j.cps.toList))) H) fLtS := by
  intro H ι S x y v u Q q R rx ry hf hq
  cases rx <;> first | exact False.elim hf | (cases ry <;> first | exact False.elim hf | exact ⟨_, _, rfl, rfl, (hq _ _ hf).here R (.bl _)⟩)
end Zz
set_option Elab.async false
set_option linter.all false
set_option maxRecDepth 100000
namespace Zz
open PySem PySem.Spec PyProof.Rows L2
/-! ### items, slices -/
def fIx : F2 := fun S x y Q => match y with
  | .int i => (match x with
    | .str z => z.length ≤ sizeLine ∧ oB (atI z.cps.toList i) fun c => Q (.str ⟨#[c]⟩) S
    | _ => atSq S x fun xs => oB (atI xs i) fun d => Q d S)
  | _ => False
theorem atI_map {α β : Type} {R : α → β → Prop} {xs : List α} {ys : List β} {i : Int} {a : α} (hl : xs.length = ys.length) (hR : ∀ (j : Nat) a, xs[j]? = some a → ∃ b, ys[j]? = some b ∧ R a b) (h : atI xs i = some a) : ∃ b, atI ys i = some b ∧ R a b := by
  unfold atI at h ⊢
  rw [← hl]
  cases e : ixN xs.length i with
  | none => rw [e] at h; cases h
  | some j => rw [e] at h; exact hR j a h
section
variable {X : Cx} {W : WX} {g : G}
theorem ok_ix : Ok2 g (rIx g.K) fIx := by
  intro H ι S x y v u Q q R rx ry hf hq
  cases ry <;> first | exact False.elim hf | skip
  rename_i i
  have seq : ∀ (ds : List D) (vs : List V) (d : D), Rps g H ι ds vs → atI ds i = some d → q d S → ∃ t, atI vs i = some t ∧ Q t H := fun ds vs d r h1 h2 => by
    obtain ⟨t, e, rt⟩ := atI_map r.length (fun j a => r.get) h1
    exact ⟨t, e, (hq _ _ h2).here R rt⟩
  cases rx with
  | str z =>
    obtain ⟨hz, hf⟩ := hf
    obtain ⟨c, h1, h2⟩ := oB_iff.mp hf
    exact .inr (.inr ⟨z, i, c, rfl, rfl, hz, h1, (hq _ _ h2).here R (.str _)⟩)
  | tup s r =>
    obtain ⟨d, h1, h2⟩ := oB_iff.mp (show oB _ _ from hf)
    obtain ⟨t, e, z⟩ := seq _ _ _ r h1 h2
    exact .inr (.inl ⟨_, _, i, t, rfl, rfl, s.sq, e, z⟩)
  | rol s r =>
    obtain ⟨d, h1, h2⟩ := oB_iff.mp (show oB _ _ from hf)
    obtain ⟨t, e, z⟩ := seq _ _ _ r h1 h2
    exact .inl ⟨_, _, i, t, rfl, rfl, s.sq, e, z⟩
  | @ref n a e0 =>
    obtain ⟨n', xs, e1, e2, hf⟩ := atL_iff.mp (show atL S (.ref n) _ from hf)
    cases e1
    obtain ⟨d, h1, h2⟩ := oB_iff.mp hf
    obtain ⟨a', vs, e3, e4, r, _⟩ := R.list e2 (.ref e0)
    cases e3
    obtain ⟨t, e, z⟩ := seq _ _ _ r h1 h2
    exact .inl ⟨_, _, i, t, rfl, rfl, .inl (.inl e4), e, z⟩
  | non => exact False.elim hf
  | bl b => exact False.elim hf
  | int i => exact False.elim hf
  | glo e => exact False.elim hf
  | tpz s r => exact False.elim hf
  | ty n => exact False.elim hf
  | clo _ _ => exact False.elim hf
theorem e_ix {a b : Expr} {pos : Pos} {wa wb : WE} (ha : PE X a (liftE (gX X) W wa)) (hb : PE X b (liftE (gX X) W wb)) (hs : PlainIx b := by exact fun _ _ => rfl) : PE X (.Subscript a b pos) (liftE (gX X) W (wOp fIx wa wb)) :=
  PE.mono (pe_ix (r := rIx X.K) ix_seq ha hb hs) (lift_op (g := gX X) ok_ix)
abbrev WO := Rho → Sto → (Option Int → Sto → Prop) → QX → Prop
def oNo : WO := fun _ S Q _ => Q none S
def oAt (w : WE) : WO := fun ρ S Q E => w ρ S (fun d S1 => match d with | .int i => Q (some i) S1 | _ => False) E
def liftO (g : G) (W : WX) (w : WO) : TO := fun σ H Q => ∃ ι S ρ q e, Rl g H ι S ∧ Rs g H ι ρ σ ∧ w ρ S q e ∧ (∀ o S', q o S' → ∀ ι' H', Ex H ι H' ι' → Rl g H' ι' S' → Q o H') ∧ ∀ x S', e x S' → liftX g W H ι ρ x S'
theorem PO.mono {X : Cx} {e : Option Expr} {t t' : TO} (h : PO X e t) (i : ∀ σ H Q, t' σ H Q → t σ H Q) : PO X e t' := ⟨fun pins s σ H Q I q => h.run pins s σ H Q I (i σ H Q q)⟩
theorem o_none : PO X none (liftO (gX X) W oNo) := by
  refine PO.mono po_none fun σ H Q h => ?_
  obtain ⟨ι, S, ρ, q, e, R, r, h, hq, he⟩ := h
  exact hq _ _ h ι H (Ex.refl _ _) R
theorem o_some {a : Expr} {w : WE} (h : PE X a (liftE (gX X) W w)) : PO X (some a) (liftO (gX X) W (oAt w)) := by
  refine PO.mono (po_some h) fun σ H Q h => ?_
  obtain ⟨ι, S, ρ, q, e, R, r, h, hq, he⟩ := h
  refine ⟨ι, S, ρ, _, e, R, r, h, fun d S1 h1 ι1 H1 v e1 R1 rv => ?_, he⟩
  cases rv <;> first | exact False.elim h1 | exact ⟨_, rfl, hq _ _ h1 _ _ e1 R1⟩
def cutD {α : Type} (xs : List α) (lo hi : Option Int) : List α := (xs.drop (HT.sIx xs.length 0 lo)).take (HT.sIx xs.length xs.length hi - HT.sIx xs.length 0 lo)
def fSl (S : Sto) (x : D) (lo hi : Option Int) (Q : QD) : Prop := match x with
  | .str z => z.length ≤ sizeLine ∧ Q (.str (cutS z lo hi)) S
  | .tup xs => Q (.tup (cutD xs lo hi)) S
  | .rol xs => Q (.ref S.length) (S ++ [.lst (cutD xs lo hi)])
  | .ref n => (match S[n]? with | some (.lst xs) => Q (.ref S.length) (S ++ [.lst (cutD xs lo hi)]) | _ => False)
  | _ => False
def wSl (a : WE) (lo hi : WO) : WE := fun ρ S Q E => a ρ S (fun x S1 => lo ρ S1 (fun l S2 => hi ρ S2 (fun h S3 => fSl S3 x l h Q) E) E) E
abbrev rSlq (K : PySem.W.Frag) : V → Option Int → Option Int → Hp → VK → Prop := fun x lo hi H Q => rSlL K x lo hi H Q ∨ (rSlF K x lo hi H Q ∨ rSlS x lo hi H Q)
theorem sl_q : SlR X (rSlq X.K) := sl_list.or (sl_tupF.or sl_str)
theorem Rps.cut {H : Hp} {ι : List Addr} {ds : List D} {vs : List V} {lo hi : Option Int} (r : Rps g H ι ds vs) : Rps g H ι (cutD ds lo hi) (cutV vs lo hi) := by
  unfold cutD cutV
  rw [r.length]
  exact (r.drop _).take _
theorem ok_sl {H : Hp} {ι : List Addr} {S : Sto} {x : D} {v : V} {lo hi : Option Int} {Q : VK} {q : QD} (R : Rl g H ι S) (rx : Rp g H ι x v) (hf : fSl S x lo hi q) (hq : ∀ z S', q z S' → upE g H ι Q z S') : rSlq g.K v lo hi H Q := by
  have lst : ∀ {a : Addr} {vs : List V} {ds : List D}, SqL g.K H a vs → Rps g H ι ds vs → q (.ref S.length) (S ++ [.lst (cutD ds lo hi)]) → rSlq g.K (.ref a) lo hi H Q := fun {a vs ds} s r h =>
    .inl ⟨a, vs, rfl, s, fun p hp => by
      obtain ⟨e3, R3, rp⟩ := newList R hp (r.cut (lo := lo) (hi := hi))
      exact hq _ _ h _ _ _ e3 R3 rp⟩
  cases rx with
  | str z => exact .inr (.inr ⟨z, rfl, hf.1, (hq _ _ hf.2).here R (.str _)⟩)
  | @tup a vs ds s r =>
    refine .inr (.inl ⟨a, vs, rfl, s.sq, fun hw => ?_, fun hw p o od hp => ?_⟩)
    · refine (hq _ _ hf).here R (.tup s ?_)
      have e : cutD ds lo hi = ds := by
        unfold cutD
        rw [r.length, hw.1, hw.2, List.drop_zero, Nat.sub_zero]
        exact List.take_of_length_le (Nat.le_of_eq r.length)
      rw [e]; exact r
    · obtain ⟨e2, R2⟩ := R.beside hp (.frz o (.tup (cutV vs lo hi)))
      exact (hq _ _ hf) ι _ _ e2 R2 (.tup (.inl ⟨o, upd_same, od⟩) (r.cut.ex R e2))
  | rol s r => exact lst s.sq r hf
  | @ref n a e0 =>
    obtain ⟨n', xs, e1, e2, hf⟩ := atL_iff.mp (show atL S (.ref n) fun xs => q (.ref S.length) (S ++ [.lst (cutD xs lo hi)]) from hf)
    cases e1
    obtain ⟨a', vs, e3, e4, r, _⟩ := R.list e2 (.ref e0)
    cases e3
    exact lst (.inl (.inl e4)) r hf
  | non => exact False.elim hf
  | bl b => exact False.elim hf
  | int i => exact False.elim hf
  | glo e => exact False.elim hf
  | tpz s r => exact False.elim hf
  | ty n => exact False.elim hf
  | clo _ _ => exact False.elim hf
theorem e_sl {e : Expr} {lo hi : Option Expr} {pos p2 : Pos} {wa : WE} {wl wh : WO} (ha : PE X e (liftE (gX X) W wa)) (hl : PO X lo (liftO (gX X) W wl)) (hh : PO X hi (liftO (gX X) W wh)) : PE X (.Subscript e (.Slice lo hi none p2) pos) (liftE (gX X) W (wSl wa wl wh)) := by
  refine PE.mono (pe_slice sl_q ha hl hh) fun σ H Q h => ?_
  obtain ⟨ι, S, ρ, q, e, R, r, h, hq, he⟩ := h
  refine ⟨ι, S, ρ, _, e, R, r, h, fun x S1 h1 ι1 H1 v e1 R1 rv => ?_, he⟩
  refine ⟨ι1, S1, ρ, _, e, R1, r.ex R e1, h1, fun l S2 h2 ι2 H2 e2 R2 => ?_, fun x S' z => (he x S' z).on e1⟩
  refine ⟨ι2, S2, ρ, _, e, R2, (r.ex R e1).ex R1 e2, h2, fun u S3 h3 ι3 H3 e3 R3 => ?_, fun x S' z => ((he x S' z).on e1).on e2⟩
  exact ok_sl (g := gX X) R3 ((rv.ex R1 e2).ex R2 e3) h3 fun z S' hz => (((hq z S' hz).on e1).on e2).on e3
/-! ### calls of built-ins -/
theorem e_bltn {x : Str} {v : V} {d : D} {u : Value} {pos : Pos} (hg : Gl X x) (hm : X.mg x = none) (hv : bootBuiltins x = some u) (rv : RelV v u) (rd : ∀ H ι, Rp (gX X) H ι d v) (hn : x ≠ "__name__" := by decide) (hd : (x == ("__debug__" : Str)) = false := by decide) :
    PE X (.Name x pos) (liftE (gX X) W (wC d)) := e_const (pe_bltn hg hm hv rv hn hd) rd
theorem e_glob {x : Str} {v : V} {d : D} {u : Value} {pos : Pos} (hg : Gl X x) (hm : X.mg x = some u) (rv : RelV v u) (rd : ∀ H ι, Rp (gX X) H ι d v) (hd : (x == ("__debug__" : Str)) = false := by decide) : PE X (.Name x pos) (liftE (gX X) W (wC d)) := e_const (pe_glob hg hm rv hd) rd
theorem lift_fn {r : List V → Hp → VK → Prop} {f : FA} {wa : WA} (ok : OkA g r f) : ∀ σ H Q, liftE g W (wFn f wa) σ H Q → tCB r (liftA g W wa) σ H Q := fun σ H Q h => by
  obtain ⟨ι, S, ρ, q, e, R, rr, h, hq, he⟩ := h
  exact ⟨ι, S, ρ, _, e, R, rr, h, fun ds S1 h1 ι1 H1 vs e1 R1 rv => ok R1 rv h1 fun d S3 h2 => (hq d S3 h2).on e1, he⟩
theorem e_callB {x : Str} {p pos : Pos} {e : Expr} {es : List Expr} {id : String} {r : List V → Hp → VK → Prop} {f : FA} {wa : WA} (hc : CallR X (.builtin id) r) (ok : OkA (gX X) r f) (hg : Gl X x) (hm : X.mg x = none) (hv : bootBuiltins x = some (.builtin id)) (ha : PA X (e :: es) (liftA (gX X) W wa))
    (hn : x ≠ "__name__" := by decide) (hdb : (x == ("__debug__" : Str)) = false := by decide) (hst : starEach (e :: es) X.env = (false, eval e X.env) :: starEach es X.env := by rfl) (hpl : (backTo pos (starEach es X.env)).any (·.1) = false := by rfl) :
    PE X (.Call (.Name x p) (e :: es) [] pos) (liftE (gX X) W (wFn f wa)) := PE.mono (pe_callB hc hg hm hv ha hn hdb hst hpl) (lift_fn ok)
theorem e_callTy {x : Str} {p pos : Pos} {e : Expr} {es : List Expr} {T : String} {r : List V → Hp → VK → Prop} {f : FA} {wa : WA} (hc : CallR X (.type T) r) (ok : OkA (gX X) r f) (hg : Gl X x) (hm : X.mg x = none) (hv : bootBuiltins x = some (.type T)) (ha : PA X (e :: es) (liftA (gX X) W wa))
    (hn : x ≠ "__name__" := by decide) (hdb : (x == ("__debug__" : Str)) = false := by decide) (hst : starEach (e :: es) X.env = (false, eval e X.env) :: starEach es X.env := by rfl) (hpl : (backTo pos (starEach es X.env)).any (·.1) = false := by rfl) :
    PE X (.Call (.Name x p) (e :: es) [] pos) (liftE (gX X) W (wFn f wa)) := PE.mono (pe_callTy hc hg hm hv ha hn hdb hst hpl) (lift_fn ok)
theorem Rps.one {H : Hp} {ι : List Addr} {x : D} {vs : List V} (r : Rps g H ι [x] vs) : ∃ v, vs = [v] ∧ Rp g H ι x v := by
  cases r with
  | cons a b => cases b; exact ⟨_, rfl, a⟩
theorem Rps.two' {H : Hp} {ι : List Addr} {x y : D} {vs : List V} (r : Rps g H ι [x, y] vs) : ∃ v u, vs = [v, u] ∧ Rp g H ι x v ∧ Rp g H ι y u := by
  cases r with
  | cons a b =>
    obtain ⟨u, rfl, c⟩ := b.one
    exact ⟨_, _, rfl, a, c⟩
def fA1 (f : F1) : FA := fun S xs Q => match xs with | [x] => f S x Q | _ => False
/-- a list's or tuple's places -/
theorem sq_of {H : Hp} {ι : List Addr} {S : Sto} {x : D} {v : V} {k : List D → Prop} (R : Rl g H ι S) (r : Rp g H ι x v) (h : atSq S x k) : ∃ a vs ds, v = .ref a ∧ ((SqL g.K H a vs ∧ (∀ ys, x ≠ .tup ys)) ∨ (SqT g.K H a vs ∧ x = .tup ds)) ∧ Rps g H ι ds vs ∧ k ds := by
  cases r with
  | tup s r => exact ⟨_, _, _, rfl, .inr ⟨s.sq, rfl⟩, r, h⟩
  | rol s r => exact ⟨_, _, _, rfl, .inl ⟨s.sq, fun _ z => nomatch z⟩, r, h⟩
  | @ref n a e0 =>
    obtain ⟨n', xs, e1, e2, hf⟩ := atL_iff.mp (show atL S (.ref n) k from h)
    cases e1
    obtain ⟨a', vs, e3, e4, r, _⟩ := R.list e2 (.ref e0)
    cases e3
    exact ⟨_, _, _, rfl, .inl ⟨.inl (.inl e4), fun _ z => nomatch z⟩, r, hf⟩
  | _ => exact False.elim h
def fLen : F1 := fun S x Q => match x with
  | .str z => z.length ≤ sizeLine ∧ Q (.int z.length) S
  | _ => atSq S x fun xs => Q (.int xs.length) S
theorem c_len : CallR X (.builtin "len") (fun xs H Q => (∃ p ys, xs = [.ref p] ∧ (SqL X.K H p ys ∨ SqT X.K H p ys) ∧ Q (.int ys.length) H) ∨ ∃ z, xs = [.str z] ∧ z.length ≤ sizeLine ∧ Q (.int z.length) H) := call_len_seq.or call_len_str
theorem ok_len : OkA g (fun xs H Q => (∃ p ys, xs = [.ref p] ∧ (SqL g.K H p ys ∨ SqT g.K H p ys) ∧ Q (.int ys.length) H) ∨ ∃ z, xs = [.str z] ∧ z.length ≤ sizeLine ∧ Q (.int z.length) H) (fA1 fLen) := by
  intro H ι S xs vs Q q R r hf hq
  match xs, r, hf with
  | [x], r, hf =>
    obtain ⟨v, rfl, r1⟩ := r.one
    have go : (atSq S x fun xs => q (.int xs.length) S) → ((∃ p ys, [v] = [V.ref p] ∧ (SqL g.K H p ys ∨ SqT g.K H p ys) ∧ Q (.int ys.length) H) ∨ ∃ z, [v] = [V.str z] ∧ z.length ≤ sizeLine ∧ Q (.int z.length) H) := fun h => by
      obtain ⟨a, us, ds, rfl, hs, rd, z⟩ := sq_of R r1 h
      refine Or.inl ⟨a, us, rfl, hs.imp (·.1) (·.1), ?_⟩
      rw [← rd.length]
      exact (hq _ _ z).here R (.int _)
    cases r1 with
    | str z => exact .inr ⟨z, rfl, hf.1, (hq _ _ hf.2).here R (.int _)⟩
    | _ => exact go hf
def fList : F1 := fun S x Q => atSq S x fun xs => Q (.ref S.length) (S ++ [.lst xs])
theorem ok_list : OkA g (fun xs H Q => ∃ p ys, xs = [.ref p] ∧ (SqL g.K H p ys ∨ SqT g.K H p ys) ∧ ∀ l, H l = none → Q (.ref l) (upd H l (.lst ys))) (fA1 fList) := by
  intro H ι S xs vs Q q R r hf hq
  match xs, r, hf with
  | [x], r, hf =>
    obtain ⟨v, rfl, r1⟩ := r.one
    obtain ⟨a, us, ds, rfl, hs, rd, z⟩ := sq_of R r1 hf
    refine ⟨a, us, rfl, hs.imp (·.1) (·.1), fun p hp => ?_⟩
    obtain ⟨e3, R3, rp⟩ := newList R hp rd
    exact hq _ _ z _ _ _ e3 R3 rp
def fTuple : F1 := fun S x Q => atSq S x fun xs => Q (.tup xs) S
theorem ok_tuple : OkA g (fun xs H Q => ∃ p ys, xs = [.ref p] ∧ ((SqL g.K H p ys ∧ NewT H ys Q) ∨ (SqT g.K H p ys ∧ Q (.ref p) H))) (fA1 fTuple) := by
  intro H ι S xs vs Q q R r hf hq
  match xs, r, hf with
  | [x], r, hf =>
    obtain ⟨v, rfl, r1⟩ := r.one
    obtain ⟨a, us, ds, rfl, hs, rd, z⟩ := sq_of R r1 hf
    refine ⟨a, us, rfl, ?_⟩
    rcases hs with ⟨hs, _⟩ | ⟨hs, rfl⟩
    · refine .inl ⟨hs, fun p o od hp => ?_⟩
      obtain ⟨e2, R2⟩ := R.beside hp (.frz o (.tup us))
      exact hq _ _ z ι _ _ e2 R2 (.tup (.inl ⟨o, upd_same, od⟩) (rd.ex R e2))
    · exact .inr ⟨hs, (hq _ _ z).here R r1⟩
def boolsD : List D → Option (List Bool)
  | [] => some []
  | .bl b :: r => (boolsD r).map (b :: ·)
  | _ :: _ => none
theorem bools_of {H : Hp} {ι : List Addr} : ∀ {ds : List D} {vs : List V} {bs : List Bool}, Rps g H ι ds vs → boolsD ds = some bs → vs = bs.map V.bl
  | _, _, _, .nil, h => by cases h; rfl
  | _, _, bs, .cons (d := d) r t, h => by
    cases r <;> first | (cases h; done) | skip
    rename_i b
    rw [boolsD] at h
    obtain ⟨bs', e, rfl⟩ := Option.map_eq_some_iff.mp h
    rw [bools_of t e]; rfl
def fAll : F1 := fun S x Q => atSq S x fun xs => oB (boolsD xs) fun bs => Q (.bl (bs.all id)) S
def fAny : F1 := fun S x Q => atSq S x fun xs => oB (boolsD xs) fun bs => Q (.bl (bs.any id)) S
theorem ok_all : OkA g (rAll g.K) (fun S xs Q => match xs with | [.ref n] => fAll S (.ref n) Q | _ => False) := by
  intro H ι S xs vs Q q R r hf hq
  match xs, r, hf with
  | [.ref n], r, hf =>
    obtain ⟨v, rfl, r1⟩ := r.one
    obtain ⟨a, us, ds, rfl, hs, rd, z⟩ := sq_of R r1 hf
    obtain ⟨bs, e, z⟩ := oB_iff.mp z
    rcases hs with ⟨hs, _⟩ | ⟨_, hs⟩
    · rw [bools_of rd e] at hs
      exact ⟨a, bs, rfl, hs, (hq _ _ z).here R (.bl _)⟩
    · cases hs
theorem ok_any : OkA g (rAny g.K) (fun S xs Q => match xs with | [.ref n] => fAny S (.ref n) Q | _ => False) := by
  intro H ι S xs vs Q q R r hf hq
  match xs, r, hf with
  | [.ref n], r, hf =>
    obtain ⟨v, rfl, r1⟩ := r.one
    obtain ⟨a, us, ds, rfl, hs, rd, z⟩ := sq_of R r1 hf
    obtain ⟨bs, e, z⟩ := oB_iff.mp z
    rcases hs with ⟨hs, _⟩ | ⟨_, hs⟩
    · rw [bools_of rd e] at hs
      exact ⟨a, bs, rfl, hs, (hq _ _ z).here R (.bl _)⟩
    · cases hs
def fAbs : F1 := fun S x Q => match x with | .int i => Q (.int (if i < 0 then -i else i)) S | _ => False
theorem ok_abs : OkA g (fun xs H Q => ∃ i, xs = [.int i] ∧ Q (.int (if i < 0 then -i else i)) H) (fA1 fAbs) := by
  intro H ι S xs vs Q q R r hf hq
  match xs, r, hf with
  | [x], r, hf =>
    obtain ⟨v, rfl, r1⟩ := r.one
    cases r1 <;> first | exact False.elim hf | exact ⟨_, rfl, (hq _ _ hf).here R (.int _)⟩
def fInt : F1 := fun S x Q => match x with | .int i => Q (.int i) S | .bl k => Q (.int (if k then 1 else 0)) S | _ => False
theorem ok_int : OkA g (fun xs H Q => (∃ i, xs = [.int i] ∧ Q (.int i) H) ∨ ∃ k, xs = [.bl k] ∧ Q (.int (if k then 1 else 0)) H) (fA1 fInt) := by
  intro H ι S xs vs Q q R r hf hq
  match xs, r, hf with
  | [x], r, hf =>
    obtain ⟨v, rfl, r1⟩ := r.one
    cases r1 <;> first | exact False.elim hf | exact .inl ⟨_, rfl, (hq _ _ hf).here R (.int _)⟩ | exact .inr ⟨_, rfl, (hq _ _ hf).here R (.int _)⟩
/-! ### isinstance -/
def typeD (S : Sto) : D → Option String
  | .non => some "NoneType"
  | .bl _ => some "bool"
  | .int _ => some "int"
  | .str _ => some "str"
  | .tup _ => some "tuple"
  | .rol _ => some "list"
  | .ref n => (match S[n]? with | some (.lst _) => some "list" | some (.dk _) => some "dict" | _ => none)
  | _ => none
def fIsi (T : String) : F1 := fun S x Q => oB (typeD S x) fun t => oB (kitB t T) fun b => Q (.bl b) S
theorem type_of {H : Hp} {ι : List Addr} {S : Sto} {x : D} {v : V} {t : String} (R : Rl g H ι S) (r : Rp g H ι x v) (h : typeD S x = some t) : TyX g.K H v (.type t) := by
  cases r with
  | non => cases h; exact .base .non
  | bl b => cases h; exact .base (.bl b)
  | int i => cases h; exact .base (.int i)
  | str z => cases h; exact .base (.str z)
  | tup s r =>
    cases h
    rcases s with ⟨o, s, _⟩ | ⟨o, its, n, hk, hc, _⟩
    · exact .fTuple s
    · exact .kTuple hk hc
  | rol s r =>
    cases h
    rcases s with ⟨o, s⟩ | ⟨o, its, n, hk, hc, _⟩
    · exact .base (.frz s)
    · exact .kList hk hc
  | @ref n a e0 =>
    simp only [typeD] at h
    cases e : S[n]? with
    | none => rw [e] at h; cases h
    | some o =>
      rw [e] at h
      obtain ⟨a', e1, m⟩ := R.get e
      rw [e0] at e1; cases e1
      cases o with
      | lst xs => cases h; obtain ⟨vs, e2, _⟩ := m; exact .base (.lst e2)
      | dk kvs => cases h; obtain ⟨vs, e2, _⟩ := m; exact .base (.dK e2)
      | _ => cases h
  | _ => cases h
theorem ok_isi {T : String} : OkA g (rIsi g.K) (fun S xs Q => match xs with | [x, .ty T'] => T' = T ∧ fIsi T S x Q | _ => False) := by
  intro H ι S xs vs Q q R r hf hq
  match xs, r, hf with
  | [x, .ty T'], r, hf =>
    obtain ⟨rfl, hf⟩ := hf
    obtain ⟨v, u, rfl, r1, r2⟩ := r.two'
    cases r2
    obtain ⟨t, h1, hf⟩ := oB_iff.mp hf
    obtain ⟨b, h2, hf⟩ := oB_iff.mp hf
    exact ⟨v, .ty T', .type t, .type T', b, rfl, .ty _, type_of R r1 h1, kit_ty h2, (hq _ _ hf).here R (.bl _)⟩
end
end Zz
set_option Elab.async false
set_option linter.all false
set_option maxRecDepth 100000
namespace Zz
open PySem PySem.Spec PyProof.Rows L2
/-! ### targets -/
inductive Pat where
  | nm (i : Nat)
  | tp (ps : List Pat)
mutual
def Pat.rd (K : PySem.W.Frag) : Pat → TG
  | .nm i => gName i
  | .tp ps => gTup K ps.length (Pat.rds K ps)
def Pat.rds (K : PySem.W.Frag) : List Pat → TGs
  | [] => gNil
  | p :: ps => gCons (p.rd K) (Pat.rds K ps)
end
mutual
def Pat.go : Pat → D → Rho → Option Rho
  | .nm i, d, ρ => some (ρ.set i (some d))
  | .tp ps, .tup ds, ρ => Pat.gos ps ds ρ
  | .tp ps, .tpz ds, ρ => Pat.gos ps ds ρ
  | .tp _, _, _ => none
def Pat.gos : List Pat → List D → Rho → Option Rho
  | [], [], ρ => some ρ
  | p :: ps, d :: ds, ρ => (p.go d ρ).bind fun ρ' => Pat.gos ps ds ρ'
  | _, _, _ => none
end
mutual
def Pat.own : Pat → List Nat
  | .nm i => [i]
  | .tp ps => Pat.owns ps
def Pat.owns : List Pat → List Nat
  | [] => []
  | p :: ps => p.own ++ Pat.owns ps
end
theorem set_set_ne {α : Type} (l : List α) {i j : Nat} (h : i ≠ j) (a b : α) : (l.set i a).set j b = (l.set j b).set i a := List.set_comm _ _ h
theorem wipe_set {i : Nat} {x : Option V} : ∀ {vs : List Nat} {σ : L2.St}, i ∈ vs → wipe (σ.set i x) vs = wipe σ vs
  | v :: vs, σ, h => by
    unfold wipe
    by_cases hi : i ∈ vs
    · rw [wipe_set hi]
    · rcases List.mem_cons.mp h with e | h
      · subst e
        have out : ∀ {vs : List Nat} {σ : L2.St}, i ∉ vs → wipe (σ.set i x) vs = (wipe σ vs).set i x := by
          intro vs
          induction vs with
          | nil => intro σ _; rfl
          | cons w ws ih =>
            intro σ hn
            unfold wipe
            rw [ih (fun z => hn (List.mem_cons_of_mem _ z)), set_set_ne _ (fun e => hn (by rw [e]; exact List.mem_cons_self))]
        rw [out hi, List.set_set]
      · exact absurd h hi
section
variable {g : G} {H : Hp} {ι : List Addr}
mutual
theorem Pat.ok : ∀ (p : Pat) {ρ ρ' : Rho} {σ : L2.St} {d : D} {v : V}, Rs g H ι ρ σ → Rp g H ι d v → p.go d ρ = some ρ' →
    ∃ σ', (∀ Q : L2.St → Hp → Prop, Q σ' H → p.rd g.K v σ H Q) ∧ Rs g H ι ρ' σ' ∧ ∀ vs, (∀ i ∈ p.own, i ∈ vs) → wipe σ' vs = wipe σ vs
  | .nm i, ρ, ρ', σ, d, v, r, rv, h => by
    cases h
    exact ⟨_, fun Q q => q, r.set rv i, fun vs hi => wipe_set (hi i (by simp [Pat.own]))⟩
  | .tp ps, ρ, ρ', σ, d, v, r, rv, h => by
    cases rv with
    | tup s q =>
      obtain ⟨σ', h1, h2, h3⟩ := Pat.oks ps r q h
      refine ⟨σ', fun Q z => ⟨_, _, rfl, s.sq, ?_, h1 Q z⟩, h2, h3⟩
      rw [← q.length]
      exact (Pat.gos_len ps h).symm
    | tpz s q =>
      obtain ⟨σ', h1, h2, h3⟩ := Pat.oks ps r q h
      refine ⟨σ', fun Q z => ⟨_, _, rfl, s, ?_, h1 Q z⟩, h2, h3⟩
      rw [← q.length]
      exact (Pat.gos_len ps h).symm
    | _ => simp [Pat.go] at h
theorem Pat.oks : ∀ (ps : List Pat) {ρ ρ' : Rho} {σ : L2.St} {ds : List D} {vs : List V}, Rs g H ι ρ σ → Rps g H ι ds vs → Pat.gos ps ds ρ = some ρ' →
    ∃ σ', (∀ Q : L2.St → Hp → Prop, Q σ' H → Pat.rds g.K ps vs σ H Q) ∧ Rs g H ι ρ' σ' ∧ ∀ ws, (∀ i ∈ Pat.owns ps, i ∈ ws) → wipe σ' ws = wipe σ ws
  | [], ρ, ρ', σ, ds, vs, r, rv, h => by
    cases rv with
    | nil => cases h; exact ⟨σ, fun Q q => ⟨rfl, q⟩, r, fun _ _ => rfl⟩
    | cons a b => simp [Pat.gos] at h
  | p :: ps, ρ, ρ', σ, ds, vs, r, rv, h => by
    cases rv with
    | nil => simp [Pat.gos] at h
    | cons a b =>
      simp only [Pat.gos, Option.bind_eq_some_iff] at h
      obtain ⟨ρ1, h1, h2⟩ := h
      obtain ⟨σ1, q1, r1, w1⟩ := Pat.ok p r a h1
      obtain ⟨σ2, q2, r2, w2⟩ := Pat.oks ps r1 b h2
      refine ⟨σ2, fun Q q => ⟨_, _, rfl, q1 _ (q2 Q q)⟩, r2, fun ws hw => ?_⟩
      rw [w2 ws fun i hi => hw i (by simp [Pat.owns, hi]), w1 ws fun i hi => hw i (by simp [Pat.owns, hi])]
theorem Pat.gos_len : ∀ (ps : List Pat) {ρ ρ' : Rho} {ds : List D}, Pat.gos ps ds ρ = some ρ' → ps.length = ds.length
  | [], _, _, [], _ => rfl
  | [], _, _, _ :: _, h => by simp [Pat.gos] at h
  | _ :: _, _, _, [], h => by simp [Pat.gos] at h
  | p :: ps, _, _, d :: ds, h => by
    simp only [Pat.gos, Option.bind_eq_some_iff] at h
    obtain ⟨_, _, h2⟩ := h
    simp [Pat.gos_len ps h2]
end
end
section
variable {X : Cx} {pos : Pos}
theorem g_nm {i : Nat} {x : Str} (hN : X.N.Nodup) (hi : X.N[i]? = some x) (hx : Loc X.env.scope x) (hf : X.fn x = true ∨ X.env.scope.names.lookup x = some .local := by first | exact .inl rfl | exact .inr rfl | assumption) : PG X (.Name x pos) (Pat.rd X.K (.nm i)) := by
  have := pg_name (pos := pos) hN hi hx hf
  simpa only [Pat.rd] using this
theorem gs_nil : PGs X [] (Pat.rds X.K []) := by simpa only [Pat.rds] using pgs_nil
theorem gs_cons {e : Expr} {es : List Expr} {p : Pat} {ps : List Pat} (h1 : PG X e (p.rd X.K)) (h2 : PGs X es (Pat.rds X.K ps))
    (hs : (assignEach (e :: es) X.env).map (·.2) = assign e X.env :: (assignEach es X.env).map (·.2) := by rfl) : PGs X (e :: es) (Pat.rds X.K (p :: ps)) := by
  have := pgs_cons h1 h2 hs
  simpa only [Pat.rds] using this
theorem g_tp {es : List Expr} {k : Nat} {ps : List Pat} (hc : X.calm = true) (h : PGs X es (Pat.rds X.K ps))
    (hn : (assignEach es X.env).length = ps.length := by rfl) (hst : (assignEach es X.env).findIdx? (·.1) = none := by rfl) : PG X (.Tuple es k pos) (Pat.rd X.K (.tp ps)) := by
  have := pg_tup (pos := pos) (k := k) hc h hn hst
  simpa only [Pat.rd] using this
end
/-! ### statements -/
def sNext : WS := fun k ρ S => k.nx ρ S
def sSeq (a b : WS) : WS := fun k ρ S => a { k with nx := b k } ρ S
def sAsg (w : WE) (p : Pat) : WS := fun k ρ S => w ρ S (fun d S1 => oB (p.go d ρ) fun ρ' => k.nx ρ' S1) (fun x S1 => k.ex x ρ S1)
def sDrop (w : WE) : WS := fun k ρ S => w ρ S (fun _ S1 => k.nx ρ S1) (fun x S1 => k.ex x ρ S1)
def sRet (w : WE) : WS := fun k ρ S => w ρ S k.rt (fun x S1 => k.ex x ρ S1)
def sRetN : WS := fun k _ S => k.rt .non S
def sIf (t : WT) (a b : WS) : WS := fun k ρ S => t ρ S (fun c S1 => if c = true then a k ρ S1 else b k ρ S1) (fun x S1 => k.ex x ρ S1)
def sBrk : WS := fun k ρ S => k.bk ρ S
def sCnt : WS := fun k ρ S => k.ct ρ S
def sPar (i j : Nat) (w : WA) : WS := fun k ρ S => w ρ S (fun ds S1 => match ds with | [a, b] => k.nx ((ρ.set i (some a)).set j (some b)) S1 | _ => False) (fun x S1 => k.ex x ρ S1)
def sAug (i : Nat) (f : F2) (w : WE) : WS := fun k ρ S => oB ρ[i]?.join fun x => w ρ S (fun y S1 => f S1 x y (fun z S2 => k.nx (ρ.set i (some z)) S2)) (fun x S1 => k.ex x ρ S1)
section
variable {X : Cx} {W : WX} {pos : Pos}
theorem ss_nil : PSs X [] (liftS (gX X) W sNext) := by
  refine PSs.mono pss_nil fun D σ H h => ?_
  obtain ⟨ι, S, ρ, k, R, r, h, ki⟩ := h
  exact ki.nx _ _ h ι H σ (Ex.refl _ _) R r
theorem ss_cons {st : Stmt} {rest : List Stmt} {a b : WS} (h1 : PS X st (liftS (gX X) W a)) (h2 : PSs X rest (liftS (gX X) W b)) : PSs X (st :: rest) (liftS (gX X) W (sSeq a b)) := by
  refine PSs.mono (pss_cons h1 h2) fun D σ H h => ?_
  obtain ⟨ι, S, ρ, k, R, r, h, ki⟩ := h
  refine ⟨ι, S, ρ, _, R, r, h, ⟨fun ρ' S' q ι' H' σ' e R' r' => ⟨ι', S', ρ', k, R', r', q, ki.on e⟩, ki.rt, ki.bk, ki.ct, ki.ex⟩⟩
theorem ss_one {st : Stmt} {a : WS} (h1 : PS X st (liftS (gX X) W a)) : PSs X [st] (liftS (gX X) W a) := pss_one h1
/-- the part common to assignments -/
theorem s_asg {tg e : Expr} {w : WE} {p : Pat} (he : PE X e (liftE (gX X) W w)) (hg : PG X tg (p.rd X.K)) (hs : swapsWithSole [tg] e pos.line X.env = pure false := by rfl) (hw : swappedStores [tg] e X.env = pure none := by rfl)
    (h1 : (assignEach [tg] X.env).map (·.2) = [assign tg X.env] := by rfl) : PS X (.Assign [tg] e pos) (liftS (gX X) W (sAsg w p)) := by
  refine PS.mono (ps_asg he hg hs hw h1) fun D σ H h => ?_
  obtain ⟨ι, S, ρ, k, R, r, h, ki⟩ := h
  refine ⟨ι, S, ρ, _, _, R, r, h, fun d S1 q ι1 H1 v e1 R1 rv => ?_, fun x S' q => ki.ex x ρ S' q⟩
  obtain ⟨ρ', h2, h3⟩ := oB_iff.mp q
  obtain ⟨σ', hq, r', _⟩ := p.ok (r.ex R e1) rv h2
  exact hq _ (ki.nx _ _ h3 ι1 H1 σ' e1 R1 r')
theorem s_set {i : Nat} {x : Str} {e : Expr} {w : WE} {pos' : Pos} (hN : X.N.Nodup) (hi : X.N[i]? = some x) (hx : Loc X.env.scope x) (he : PE X e (liftE (gX X) W w)) (hs : swapsWith e (some (.Name x pos')) pos.line X.env = pure false := by rfl)
    (hf : X.fn x = true ∨ X.env.scope.names.lookup x = some .local := by first | exact .inl rfl | exact .inr rfl | assumption) : PS X (.Assign [.Name x pos'] e pos) (liftS (gX X) W (sAsg w (.nm i))) := by
  refine PS.mono (ps_set hN hi hx he hs hf) fun D σ H h => ?_
  obtain ⟨ι, S, ρ, k, R, r, h, ki⟩ := h
  refine ⟨ι, S, ρ, _, _, R, r, h, fun d S1 q ι1 H1 v e1 R1 rv => ?_, fun x S' q => ki.ex x ρ S' q⟩
  exact ki.nx _ _ q ι1 H1 _ e1 R1 ((r.ex R e1).set rv i)
theorem s_par {i j : Nat} {x y : Str} {a b : Expr} {w : WA} {px py pt : Pos} {kt k2 pt2} (hc : X.calm = true) (hN : X.N.Nodup) (hi : X.N[i]? = some x) (hj : X.N[j]? = some y) (hij : i ≠ j)
    (hx : X.env.scope.names.lookup x = some .local) (hy : X.env.scope.names.lookup y = some .local) (ha : PA X [a, b] (liftA (gX X) W w))
    (hw : swappedStores [.Tuple [.Name x px, .Name y py] kt pt] (.Tuple [a, b] k2 pt2) X.env = pure (some [x, y]) := by rfl)
    (hs : swapsWithSole [.Tuple [.Name x px, .Name y py] kt pt] (.Tuple [a, b] k2 pt2) pos.line X.env = pure false := by rfl) :
    PS X (.Assign [.Tuple [.Name x px, .Name y py] kt pt] (.Tuple [a, b] k2 pt2) pos) (liftS (gX X) W (sPar i j w)) := by
  refine PS.mono (ps_par hc hN hi hj hij hx hy ha hw hs) fun D σ H h => ?_
  obtain ⟨ι, S, ρ, k, R, r, h, ki⟩ := h
  refine ⟨ι, S, ρ, _, _, R, r, h, fun ds S1 q ι1 H1 vs e1 R1 rv => ?_, fun x S' q => ki.ex x ρ S' q⟩
  match ds, rv, q with
  | [d1, d2], rv, q =>
    obtain ⟨v, u, rfl, r1, r2⟩ := rv.two'
    exact ⟨v, u, rfl, ki.nx _ _ q ι1 H1 _ e1 R1 (((r.ex R e1).set r1 i).set r2 j)⟩
theorem s_expr {e : Expr} {w : WE} (he : PE X e (liftE (gX X) W w)) (hs : swapsWith e none pos.line X.env = pure false := by rfl) : PS X (.Expr e pos) (liftS (gX X) W (sDrop w)) := by
  refine PS.mono (ps_expr he hs) fun D σ H h => ?_
  obtain ⟨ι, S, ρ, k, R, r, h, ki⟩ := h
  exact ⟨ι, S, ρ, _, _, R, r, h, fun d S1 q ι1 H1 v e1 R1 rv => ki.nx _ _ q ι1 H1 _ e1 R1 (r.ex R e1), fun x S' q => ki.ex x ρ S' q⟩
theorem s_doc {x j pos'} : PS X (.Expr (.Constant (.str x) j pos) pos') (liftS (gX X) W sNext) := by
  refine PS.mono ps_doc fun D σ H h => ?_
  obtain ⟨ι, S, ρ, k, R, r, h, ki⟩ := h
  exact ki.nx _ _ h ι H σ (Ex.refl _ _) R r
theorem s_pass : PS X (.Pass pos) (liftS (gX X) W sNext) := by
  refine PS.mono ps_pass fun D σ H h => ?_
  obtain ⟨ι, S, ρ, k, R, r, h, ki⟩ := h
  exact ki.nx _ _ h ι H σ (Ex.refl _ _) R r
theorem s_brk : PS X (.Break pos) (liftS (gX X) W sBrk) := by
  refine PS.mono ps_break fun D σ H h => ?_
  obtain ⟨ι, S, ρ, k, R, r, h, ki⟩ := h
  exact ki.bk _ _ h ι H σ (Ex.refl _ _) R r
theorem s_cnt : PS X (.Continue pos) (liftS (gX X) W sCnt) := by
  refine PS.mono ps_continue fun D σ H h => ?_
  obtain ⟨ι, S, ρ, k, R, r, h, ki⟩ := h
  exact ki.ct _ _ h ι H σ (Ex.refl _ _) R r
theorem s_ret {e : Expr} {w : WE} (he : PE X e (liftE (gX X) W w)) : PS X (.Return (some e) pos) (liftS (gX X) W (sRet w)) := by
  refine PS.mono (ps_ret he) fun D σ H h => ?_
  obtain ⟨ι, S, ρ, k, R, r, h, ki⟩ := h
  exact ⟨ι, S, ρ, _, _, R, r, h, ki.rt, fun x S' q => ki.ex x ρ S' q⟩
theorem s_retN : PS X (.Return none pos) (liftS (gX X) W sRetN) := by
  refine PS.mono ps_retN fun D σ H h => ?_
  obtain ⟨ι, S, ρ, k, R, r, h, ki⟩ := h
  exact ki.rt _ _ h ι H _ (Ex.refl _ _) R .non
theorem s_if {c : Expr} {a b : List Stmt} {t : WT} {wa wb : WS} (hc : PT X c (liftT (gX X) W t)) (ha : PSs X a (liftS (gX X) W wa)) (hb : PSs X b (liftS (gX X) W wb)) : PS X (.If c a b pos) (liftS (gX X) W (sIf t wa wb)) := by
  refine PS.mono (ps_if hc ha hb) fun D σ H h => ?_
  obtain ⟨ι, S, ρ, k, R, r, h, ki⟩ := h
  refine ⟨ι, S, ρ, _, _, R, r, h, fun c S1 q ι1 H1 e1 R1 => ?_, fun x S' q => ki.ex x ρ S' q⟩
  cases c with
  | true => exact ⟨ι1, S1, ρ, k, R1, r.ex R e1, q, ki.on e1⟩
  | false => exact ⟨ι1, S1, ρ, k, R1, r.ex R e1, q, ki.on e1⟩
theorem s_aug {i : Nat} {x : Str} {e : Expr} {w : WE} {op : Operator} {rr : R2} {f : F2} {pos' : Pos} (hN : X.N.Nodup) (hi : X.N[i]? = some x) (hx : Loc X.env.scope x) (he : PE X e (liftE (gX X) W w)) (ho : OpR X (inplaceOp op) rr) (ok : Ok2 (gX X) rr f)
    (hf : X.fn x = true ∨ X.env.scope.names.lookup x = some .local := by first | exact .inl rfl | exact .inr rfl | assumption) : PS X (.AugAssign (.Name x pos') op e pos) (liftS (gX X) W (sAug i f w)) := by
  refine PS.mono (ps_aug (ti := rr) hN hi hx he ho hf) fun D σ H h => ?_
  obtain ⟨ι, S, ρ, k, R, r, h, ki⟩ := h
  obtain ⟨d, h1, h⟩ := oB_iff.mp h
  obtain ⟨v, hv, rv⟩ := r.2 i d (Option.join_eq_some_iff.mp h1)
  refine ⟨v, hv, ι, S, ρ, _, _, R, r, h, fun y S1 q ι1 H1 u e1 R1 ru => ?_, fun x S' q => ki.ex x ρ S' q⟩
  exact ok R1 (rv.ex R e1) ru q fun z S2 q2 ι2 H2 t e2 R2 rt => ki.nx _ _ q2 ι2 H2 _ (e1.trans e2) R2 (((r.ex R e1).ex R1 e2).set rt i)
end
/-! ### what loops walk -/
structure Src where
  items : List D
  ok : Sto → Prop
abbrev WI := Rho → Sto → (Src → Sto → Prop) → QX → Prop
/-- an iterator goes as told -/
def Jok (g : G) (J : It) (c : Src) (H₀ : Hp) (ι₀ : List Addr) : Prop := ∀ (i : Nat) (H : Hp) (ι : List Addr) (S : Sto), Ex H₀ ι₀ H ι → Rl g H ι S → c.ok S →
  (∀ d, c.items[i]? = some d → J.go i H ∧ ∀ x H2, J.yld i H x H2 → Ex H ι H2 ι ∧ Rl g H2 ι S ∧ Rp g H2 ι d x) ∧ (c.items.length ≤ i → J.stop i H)
def liftI (g : G) (W : WX) (w : WI) : TI := fun σ H Q => ∃ ι S ρ q e, Rl g H ι S ∧ Rs g H ι ρ σ ∧ w ρ S q e ∧ (∀ c S', q c S' → ∀ ι' H' J, Ex H ι H' ι' → Rl g H' ι' S' → Jok g J c H' ι' → Q J H') ∧ ∀ x S', e x S' → liftX g W H ι ρ x S'
theorem PI.mono {X : Cx} {tg e : Expr} {t t' : TI} (h : PI X tg e t) (i : ∀ σ H Q, t' σ H Q → t σ H Q) : PI X tg e t' := ⟨fun pins s σ H Q I q => h.run pins s σ H Q I (i σ H Q q)⟩
/-- a list or tuple -/
def iSeqK (K : PySem.W.Frag) (tl : TE) : TI := fun σ H R => tl σ H fun x H1 => ∃ a, x = .ref a ∧ (((∃ xs, SqL K H1 a xs) ∧ R (Itl K a) H1) ∨ ((∃ xs, SqT K H1 a xs) ∧ R (Itt K a) H1))
theorem PE.const_run {X : Cx} {e : Expr} {tl : TE} (h : PE X e tl) : True := trivial
theorem pi_seq {X : Cx} {tg l : Expr} {tl : TE} (hl : PE X l tl) : PI X tg l (iSeqK X.K tl) := by
  refine ⟨fun pins s σ H R I h => ?_⟩
  refine thn (hl.run pins s σ H _ I h) fun v s1 ⟨x, H1, I1, r1, a, e, q⟩ => ?_
  subst e
  cases r1
  have hne : ∀ b ∈ [s1.heap.objs.size], FpOk X pins H1 b := fun b hb => by
    rw [List.mem_singleton.mp hb]
    exact I1.fpOk (Nat.le_refl _) (I1.hok.fresh (Nat.le_refl _))
  have kp : ∀ o : Obj, ∀ b u, s1.heap.get? b = some u → (s1.heap.push o).get? b = some u := fun o b u z => Heap.get?_push_of_some _ z
  rcases q with ⟨⟨xs, hq⟩, q⟩ | ⟨⟨xs, hq⟩, q⟩
  · obtain ⟨its, _, p, _⟩ := I1.list hq
    refine wpAny_pyIter_list p.isList ?_
    exact ⟨_, [s1.heap.objs.size], _, _, H1, rfl, I1.kept (t' := s1.toks) (kp _), turn_list a _, ⟨_, Heap.get?_push_size _ rfl, rfl, rfl⟩, hne, q⟩
  · obtain ⟨its, _, p, _⟩ := I1.tuple hq
    refine wpAny_pyIter_tuple (show s1.heap.IsTuple a its.toArray from p) ?_
    exact ⟨_, [s1.heap.objs.size], _, _, H1, rfl, I1.kept (t' := s1.toks) (kp _), turn_tuple a _, ⟨_, Heap.get?_push_size _ rfl, rfl, rfl⟩, hne, q⟩
/-- what a list or tuple is walked as -/
def srcOf (S : Sto) (x : D) (k : Src → Prop) : Prop := match x with
  | .tup xs => k ⟨xs, fun _ => True⟩
  | .rol xs => k ⟨xs, fun _ => True⟩
  | .ref n => (match S[n]? with | some (.lst xs) => k ⟨xs, fun S' => S'[n]? = some (.lst xs)⟩ | _ => False)
  | _ => False
def wSeq (w : WE) : WI := fun ρ S Q E => w ρ S (fun x S1 => srcOf S1 x fun c => Q c S1) E
theorem vals_of_list {g : G} {H : Hp} {a : Addr} {xs ys : List V} (h : H a = some (.lst xs)) (h' : SqL g.K H a ys) (hk : g.K.lookup a = none ∨ True) : True := trivial
section
variable {g : G} {X : Cx} {W : WX}
theorem jok_tup {H : Hp} {ι : List Addr} {S : Sto} {a : Addr} {vs : List V} {ds : List D} (R : Rl g H ι S) (s : SqT g.K H a vs) (r : Rps g H ι ds vs) : Jok g (Itt g.K a) ⟨ds, fun _ => True⟩ H ι := by
  intro i H' ι' S' e R' _
  have s' := sqT_kept (R.kept e) s
  have r' := r.ex R e
  refine ⟨fun d hd => ?_, fun hl => ⟨vs, s', by rw [← r.length]; exact hl⟩⟩
  obtain ⟨v, hv, rv⟩ := r'.get hd
  refine ⟨⟨vs, v, s', hv⟩, fun x H2 y => ?_⟩
  obtain ⟨rfl, y⟩ := y
  have hx := y vs s'
  rw [hv] at hx; cases hx
  exact ⟨Ex.refl _ _, R', rv⟩
theorem jok_rol {H : Hp} {ι : List Addr} {S : Sto} {a : Addr} {vs : List V} {ds : List D} (R : Rl g H ι S) (s : RoL g.K H a vs) (r : Rps g H ι ds vs) : Jok g (Itl g.K a) ⟨ds, fun _ => True⟩ H ι := by
  intro i H' ι' S' e R' _
  have s' := (roL_kept (R.kept e) s).sq
  have r' := r.ex R e
  refine ⟨fun d hd => ?_, fun hl => ⟨vs, s', by rw [← r.length]; exact hl⟩⟩
  obtain ⟨v, hv, rv⟩ := r'.get hd
  refine ⟨⟨vs, v, s', hv⟩, fun x H2 y => ?_⟩
  obtain ⟨rfl, y⟩ := y
  have hx := y vs s'
  rw [hv] at hx; cases hx
  exact ⟨Ex.refl _ _, R', rv⟩
theorem jok_lst {H : Hp} {ι : List Addr} {n : Nat} {a : Addr} {ds : List D} (ha : ι[n]? = some a) : Jok g (Itl g.K a) ⟨ds, fun S' => S'[n]? = some (.lst ds)⟩ H ι := by
  intro i H' ι' S' e R' ok
  obtain ⟨a', vs, e3, e4, r', _⟩ := R'.list ok (.ref (e.get ha))
  cases e3
  have s' : SqL g.K H' a vs := .inl (.inl e4)
  refine ⟨fun d hd => ?_, fun hl => ⟨vs, s', by rw [← r'.length]; exact hl⟩⟩
  obtain ⟨v, hv, rv⟩ := r'.get hd
  refine ⟨⟨vs, v, s', hv⟩, fun x H2 y => ?_⟩
  obtain ⟨rfl, y⟩ := y
  have hx := y vs s'
  rw [hv] at hx; cases hx
  exact ⟨Ex.refl _ _, R', rv⟩
theorem i_seq {tg l : Expr} {w : WE} (hl : PE X l (liftE (gX X) W w)) : PI X tg l (liftI (gX X) W (wSeq w)) := by
  refine PI.mono (pi_seq hl) fun σ H Q h => ?_
  obtain ⟨ι, S, ρ, q, e, R, r, h, hq, he⟩ := h
  refine ⟨ι, S, ρ, _, e, R, r, h, fun x S1 h1 ι1 H1 v e1 R1 rv => ?_, he⟩
  cases rv with
  | tup s r2 => exact ⟨_, rfl, .inr ⟨⟨_, s.sq⟩, hq _ _ h1 ι1 H1 _ e1 R1 (jok_tup (g := gX X) R1 s.sq r2)⟩⟩
  | rol s r2 => exact ⟨_, rfl, .inl ⟨⟨_, s.sq⟩, hq _ _ h1 ι1 H1 _ e1 R1 (jok_rol (g := gX X) R1 s r2)⟩⟩
  | @ref n a e0 =>
    simp only [srcOf] at h1
    cases ho : S1[n]? with
    | none => rw [ho] at h1; exact False.elim h1
    | some o =>
      rw [ho] at h1
      cases o with
      | lst xs =>
        obtain ⟨a', vs, e3, e4, _, _⟩ := R1.list ho (.ref e0)
        cases e3
        exact ⟨_, rfl, .inl ⟨⟨_, .inl (.inl e4)⟩, hq _ _ h1 ι1 H1 _ e1 R1 (jok_lst (g := gX X) e0)⟩⟩
      | _ => exact False.elim h1
  | _ => exact False.elim h1
end
/-- lo, lo + 1, .. -/
def rngD (lo : Int) (n : Nat) : List D := (List.range n).map fun (i : Nat) => D.int (lo + i)
def iRange1 (w : WE) : WI := fun ρ S Q E => w ρ S (fun x S1 => match x with | .int j => (-(2 ^ 62) ≤ j ∧ j < 2 ^ 62) ∧ Q ⟨rngD 0 j.toNat, fun _ => True⟩ S1 | _ => False) E
def iRange2 (a b : WE) : WI := fun ρ S Q E => a ρ S (fun x S1 => b ρ S1 (fun y S2 => match x, y with | .int i, .int j => (-(2 ^ 62) ≤ i ∧ i < 2 ^ 62 ∧ -(2 ^ 62) ≤ j ∧ j < 2 ^ 62) ∧ Q ⟨rngD i (j - i).toNat, fun _ => True⟩ S2 | _, _ => False) E) E
theorem jok_rng {g : G} {H : Hp} {ι : List Addr} {lo : Int} {n : Nat} : Jok g (Itr lo n) ⟨rngD lo n, fun _ => True⟩ H ι := by
  intro i H' ι' S' e R' _
  refine ⟨fun d hd => ?_, fun hl => (by simpa [rngD] using hl : n ≤ i)⟩
  have hi : i < n := by
    have := (List.getElem?_eq_some_iff.mp hd).1
    simpa [rngD] using this
  refine ⟨hi, fun x H2 y => ?_⟩
  obtain ⟨rfl, rfl⟩ := y
  have : d = .int (lo + i) := by
    simp [rngD, List.getElem?_range hi] at hd
    exact hd.symm
  subst this
  exact ⟨Ex.refl _ _, R', .int _⟩
section
variable {X : Cx} {W : WX}
theorem i_range1 {tg a : Expr} {w : WE} {p pos : Pos} (hg : Gl X "range") (hm : X.mg "range" = none) (ha : PE X a (liftE (gX X) W w)) (hs : starEach [a] X.env = [(false, eval a X.env)] := by rfl) : PI X tg (.Call (.Name "range" p) [a] [] pos) (liftI (gX X) W (iRange1 w)) := by
  refine PI.mono (pi_range1 hg hm (pa_cons ha pa_nil hs) hs) fun σ H Q h => ?_
  obtain ⟨ι, S, ρ, q, e, R, r, h, hq, he⟩ := h
  refine ⟨ι, S, ρ, _, e, R, r, h, fun x S1 h1 ι1 H1 v e1 R1 rv => ?_, he⟩
  cases rv <;> first | exact False.elim h1 | exact ⟨_, rfl, h1.1.1, h1.1.2, hq _ _ h1.2 ι1 H1 _ e1 R1 jok_rng⟩
theorem i_range2 {tg a b : Expr} {wa wb : WE} {p pos : Pos} (hg : Gl X "range") (hm : X.mg "range" = none) (ha : PE X a (liftE (gX X) W wa)) (hb : PE X b (liftE (gX X) W wb)) (hs : starEach [a, b] X.env = [(false, eval a X.env), (false, eval b X.env)] := by rfl) (hs2 : starEach [b] X.env = [(false, eval b X.env)] := by rfl) :
    PI X tg (.Call (.Name "range" p) [a, b] [] pos) (liftI (gX X) W (iRange2 wa wb)) := by
  refine PI.mono (pi_range2 hg hm (pa_cons ha (pa_cons hb pa_nil hs2) (by rw [hs, hs2])) hs hs2) fun σ H Q h => ?_
  obtain ⟨ι, S, ρ, q, e, R, r, h, hq, he⟩ := h
  refine two R r h (fun x y S2 z ι2 H2 v u e2 R2 rv ru => ?_) he
  cases rv <;> first | exact False.elim z | (cases ru <;> first | exact False.elim z | exact ⟨_, _, rfl, z.1, hq _ _ z.2 ι2 H2 _ e2 R2 jok_rng⟩)
/-- a text sign by sign -/
def sgD (z : Str) : List D := z.cps.toList.map fun c => D.str ⟨#[c]⟩
def iSigns (w : WE) : WI := fun ρ S Q E => w ρ S (fun x S1 => match x with | .str z => Q ⟨sgD z, fun _ => True⟩ S1 | _ => False) E
theorem jok_str {g : G} {H : Hp} {ι : List Addr} {z : Str} : Jok g (Its z) ⟨sgD z, fun _ => True⟩ H ι := by
  intro i H' ι' S' e R' _
  refine ⟨fun d hd => ?_, fun hl => (by simpa [sgD] using hl : z.cps.size ≤ i)⟩
  have hi : i < z.cps.size := by
    have := (List.getElem?_eq_some_iff.mp hd).1
    simpa [sgD] using this
  refine ⟨hi, fun x H2 y => ?_⟩
  obtain ⟨rfl, c, hc, rfl⟩ := y
  have : d = .str ⟨#[c]⟩ := by
    simp [sgD, hc] at hd
    exact hd.symm
  subst this
  exact ⟨Ex.refl _ _, R', .str _⟩
theorem i_signs {tg a : Expr} {w : WE} (ha : PE X a (liftE (gX X) W w)) : PI X tg a (liftI (gX X) W (iSigns w)) := by
  refine PI.mono (pi_str ha) fun σ H Q h => ?_
  obtain ⟨ι, S, ρ, q, e, R, r, h, hq, he⟩ := h
  refine ⟨ι, S, ρ, _, e, R, r, h, fun x S1 h1 ι1 H1 v e1 R1 rv => ?_, he⟩
  cases rv <;> first | exact False.elim h1 | exact ⟨_, rfl, hq _ _ h1 ι1 H1 _ e1 R1 jok_str⟩
end
end Zz
set_option Elab.async false
set_option linter.all false
set_option maxRecDepth 100000
namespace Zz
open PySem PySem.Spec PyProof.Rows L2
def forL (c : Src) (p : Pat) (b : WS) (k : Kt) : List D → Rho → Sto → Prop
  | [], ρ, S => c.ok S ∧ k.nx ρ S
  | d :: ds, ρ, S => c.ok S ∧ oB (p.go d ρ) fun ρ1 => b { k with nx := forL c p b k ds, ct := forL c p b k ds, bk := k.nx } ρ1 S
def sFor (wi : WI) (p : Pat) (b : WS) : WS := fun k ρ S => wi ρ S (fun c S1 => forL c p b k c.items ρ S1) (fun x S1 => k.ex x ρ S1)
def whN (t : WT) (b : WS) (k : Kt) : Nat → Rho → Sto → Prop
  | 0, _, _ => False
  | n + 1, ρ, S => t ρ S (fun c S1 => if c = true then b { k with nx := whN t b k n, ct := whN t b k n, bk := k.nx } ρ S1 else k.nx ρ S1) (fun x S1 => k.ex x ρ S1)
def sWhile (t : WT) (b : WS) : WS := fun k ρ S => ∃ n, whN t b k n ρ S
theorem drop_some {α : Type} {l : List α} {i : Nat} {d : α} {ds : List α} (h : l.drop i = d :: ds) : l[i]? = some d ∧ l.drop (i + 1) = ds ∧ i < l.length := by
  have hi : i < l.length := by
    apply Nat.lt_of_not_le
    intro z
    rw [List.drop_eq_nil_of_le z] at h; cases h
  rw [List.drop_eq_getElem_cons hi] at h
  injection h with h1 h2
  exact ⟨by rw [List.getElem?_eq_getElem hi, h1], h2, hi⟩
section
variable {X : Cx} {W : WX} {pos : Pos}
theorem s_for {tg iter : Expr} {body : List Stmt} {wi : WI} {p : Pat} {wb : WS} (hp : PassesOwn (model X.prog X.w) X.A X.env X.xe) (hc : X.calm = true) (hi : PI X tg iter (liftI (gX X) W wi)) (hg : PG X tg (p.rd X.K)) (hb : PSs X body (liftS (gX X) W wb))
    (hs : ∀ x, foldedSetIterable iter X.env x = pure x := by intro _; rfl) : PS X (.For tg iter body [] pos) (liftS (gX X) W (sFor wi p wb)) := by
  refine PS.mono (ps_for hp hc hi hg hb hs) fun D σ H h => ?_
  obtain ⟨ι, S, ρ, k, R, r, h, ki⟩ := h
  refine ⟨ι, S, ρ, _, _, R, r, h, fun c S1 q ι1 H1 J e1 R1 jok => ?_, fun x S' q => ki.ex x ρ S' q⟩
  refine ⟨fun i m σ' H' => ∃ ι' S' ρ', i + m = c.items.length ∧ Ex H1 ι1 H' ι' ∧ Rl (gX X) H' ι' S' ∧ Rs (gX X) H' ι' ρ' σ' ∧ forL c p wb k (c.items.drop i) ρ' S',
    ⟨c.items.length, ι1, S1, ρ, by simp, Ex.refl _ _, R1, r.ex R e1, by simpa using q⟩, ?_⟩
  rintro i m σ' H' ⟨ι', S', ρ', hm, e2, R2, r2, w⟩
  cases hd : c.items.drop i with
  | nil =>
    rw [hd] at w
    have hl : c.items.length ≤ i := by simpa using hd
    exact .inl ⟨(jok i H' ι' S' e2 R2 w.1).2 hl, ki.nx _ _ w.2 ι' H' σ' (e1.trans e2) R2 r2⟩
  | cons d ds =>
    rw [hd] at w
    obtain ⟨h1, h2, h3⟩ := drop_some hd
    obtain ⟨ok, w⟩ := w
    obtain ⟨ρ1, hρ, w⟩ := oB_iff.mp w
    obtain ⟨go, step⟩ := (jok i H' ι' S' e2 R2 ok).1 d h1
    refine .inr ⟨go, fun σ3 H3 => ∃ ι3 S3 ρ3, Ex H1 ι1 H3 ι3 ∧ Rl (gX X) H3 ι3 S3 ∧ Rs (gX X) H3 ι3 ρ3 σ3 ∧ forL c p wb k (c.items.drop (i + 1)) ρ3 S3, ?_, ?_⟩
    · rintro σ3 H3 ⟨ι3, S3, ρ3, a, b, cc, dd⟩
      exact ⟨m - 1, by omega, ι3, S3, ρ3, by omega, a, b, cc, dd⟩
    · intro x H3 y
      obtain ⟨e3, R3, rx⟩ := step x H3 y
      obtain ⟨σ1, q1, r1, _⟩ := p.ok (r2.ex R2 e3) rx hρ
      refine q1 _ ⟨ι', S', ρ1, _, R3, r1, w, ?_⟩
      have again : ∀ ρ' S4, forL c p wb k ds ρ' S4 → upS (gX X) H3 ι' (fun σ3 H3 => ∃ ι3 S3 ρ3, Ex H1 ι1 H3 ι3 ∧ Rl (gX X) H3 ι3 S3 ∧ Rs (gX X) H3 ι3 ρ3 σ3 ∧ forL c p wb k (c.items.drop (i + 1)) ρ3 S3) ρ' S4 :=
        fun ρ' S4 z ι4 H4 σ4 e4 R4 r4 => ⟨ι4, S4, ρ', (e2.trans e3).trans e4, R4, r4, by rw [h2]; exact z⟩
      have ki' := (ki.on e1).on (e2.trans e3)
      exact ⟨again, ki'.rt, ki'.nx, again, ki'.ex⟩
theorem s_while {c : Expr} {body : List Stmt} {t : WT} {wb : WS} (hp : PassesOwn (model X.prog X.w) X.A X.env X.xe) (hc : PT X c (liftT (gX X) W t)) (hb : PSs X body (liftS (gX X) W wb)) : PS X (.While c body [] pos) (liftS (gX X) W (sWhile t wb)) := by
  refine PS.mono (ps_while hp hc hb) fun D σ H h => ?_
  obtain ⟨ι, S, ρ, k, R, r, ⟨n, h⟩, ki⟩ := h
  refine ⟨fun m σ' H' => ∃ ι' S' ρ', Ex H ι H' ι' ∧ Rl (gX X) H' ι' S' ∧ Rs (gX X) H' ι' ρ' σ' ∧ whN t wb k m ρ' S', ⟨n, ι, S, ρ, Ex.refl _ _, R, r, h⟩, ?_⟩
  rintro m σ' H' ⟨ι', S', ρ', e2, R2, r2, w⟩
  cases m with
  | zero => exact False.elim w
  | succ m =>
    refine ⟨ι', S', ρ', _, _, R2, r2, w, fun b S3 q ι3 H3 e3 R3 => ?_, fun x S' q => (ki.ex x ρ' S' q).on e2⟩
    cases b with
    | false =>
      rw [if_neg Bool.false_ne_true] at q ⊢
      exact ki.nx _ _ q ι3 H3 σ' (e2.trans e3) R3 (r2.ex R2 e3)
    | true =>
      rw [if_pos rfl] at q ⊢
      refine ⟨fun σ4 H4 => ∃ ι' S' ρ', Ex H ι H4 ι' ∧ Rl (gX X) H4 ι' S' ∧ Rs (gX X) H4 ι' ρ' σ4 ∧ whN t wb k m ρ' S', fun σ4 H4 z => ⟨m, Nat.lt_succ_self m, z⟩, ι3, S3, ρ', _, R3, r2.ex R2 e3, q, ?_⟩
      have again : ∀ ρ' S4, whN t wb k m ρ' S4 → upS (gX X) H3 ι3 (fun σ4 H4 => ∃ ι' S' ρ', Ex H ι H4 ι' ∧ Rl (gX X) H4 ι' S' ∧ Rs (gX X) H4 ι' ρ' σ4 ∧ whN t wb k m ρ' S') ρ' S4 :=
        fun ρ' S4 z ι4 H4 σ4 e4 R4 r4 => ⟨ι4, S4, ρ', (e2.trans e3).trans e4, R4, r4, z⟩
      have ki' := ki.on (e2.trans e3)
      exact ⟨again, ki'.rt, ki'.nx, again, ki'.ex⟩
end
/-! ### comprehensions of lists -/
def wipeR (ρ : Rho) : List Nat → Rho
  | [] => ρ
  | v :: vs => (wipeR ρ vs).set v none
theorem Rs.wipe {g : G} {H : Hp} {ι : List Addr} {ρ : Rho} {σ : L2.St} (r : Rs g H ι ρ σ) : ∀ vs, Rs g H ι (wipeR ρ vs) (L2.wipe σ vs)
  | [] => r
  | v :: vs => (Rs.wipe r vs).forget v none
theorem wipe_wipe {vs : List Nat} : ∀ (us : List Nat) (σ : L2.St), (∀ u ∈ us, u ∈ vs) → L2.wipe (L2.wipe σ us) vs = L2.wipe σ vs
  | [], _, _ => rfl
  | u :: us, σ, h => by
    show L2.wipe ((L2.wipe σ us).set u none) vs = _
    rw [wipe_set (h u List.mem_cons_self)]
    exact wipe_wipe us σ fun x hx => h x (List.mem_cons_of_mem _ hx)
def atN (S : Sto) (n : Nat) (k : List D → Prop) : Prop := match S[n]? with
  | some (.lst xs) => k xs
  | _ => False
theorem atN_iff {S : Sto} {n : Nat} {k : List D → Prop} : atN S n k ↔ ∃ xs, S[n]? = some (.lst xs) ∧ k xs := by
  unfold atN
  cases h : S[n]? with
  | none => simp
  | some o => cases o <;> simp
def tYesD : WT := fun _ S Q _ => Q true S
def compL (c : Src) (p : Pat) (t : WT) (e : WE) (n : Nat) (ρ : Rho) (Q : QD) : List D → Sto → Prop
  | [], S => c.ok S ∧ Q (.ref n) S
  | d :: ds, S => c.ok S ∧ oB (p.go d ρ) fun ρ1 => t ρ1 S (fun b S1 => if b = true then e ρ1 S1 (fun y S2 => atN S2 n fun acc => acc.length < sizeLine ∧ compL c p t e n ρ Q ds (S2.set n (.lst (acc ++ [y])))) (fun _ _ => False)
      else compL c p t e n ρ Q ds S1) (fun _ _ => False)
def wComp (wi : WI) (p : Pat) (t : WT) (e : WE) (own : List Nat) : WE := fun ρ S Q E => wi ρ S (fun c S1 => compL c p t e S1.length (wipeR ρ own) Q c.items (S1 ++ [.lst []])) E
/-- no exception -/
abbrev W0 : WX := fun _ _ _ _ => False
structure PTL (X : Cx) (ifs : List Expr) (W : WX) (t : WT) : Prop where
  pt : PTs X ifs (liftT (gX X) W t)
section
variable {X : Cx} {W : WX}
theorem PTs.mono {X : Cx} {e : List Expr} {t t' : TT} (h : PTs X e t) (i : ∀ σ H Q, t' σ H Q → t σ H Q) : PTs X e t' := ⟨fun pins s σ H Q I q => h.run pins s σ H Q I (i σ H Q q)⟩
theorem ts_nil : PTs X [] (liftT (gX X) W tYesD) := by
  refine PTs.mono pts_nil fun σ H Q h => ?_
  obtain ⟨ι, S, ρ, q, e, R, r, h, hq, he⟩ := h
  exact hq _ _ h ι H (Ex.refl _ _) R
theorem ts_one {c : Expr} {t : WT} (h : PT X c (liftT (gX X) W t)) : PTs X [c] (liftT (gX X) W t) := pts_one h
theorem lc_lift {wi : WI} {p : Pat} {t : WT} {we : WE} {vs : List Nat} (hv : ∀ i ∈ p.own, i ∈ vs) {g : G} : ∀ σ H Q, liftE g W (wComp wi p t we vs) σ H Q → tLc (liftI g W wi) (p.rd g.K) (liftT g W0 t) (liftE g W0 we) vs σ H Q := by
  intro σ H Q h
  obtain ⟨ι, S, ρ, q, e, R, r, h, hq, he⟩ := h
  refine ⟨ι, S, ρ, _, e, R, r, h, fun c S1 h1 ι1 H1 J e1 R1 jok => ?_, he⟩
  intro D hD
  obtain ⟨e2, R2, _⟩ := newList R1 hD (ds := []) (vs := []) .nil
  have hDn := R1.ne hD
  have rw1 := ((r.ex R e1).wipe vs).ex R1 e2
  refine ⟨fun i m H' => ∃ ι' S', i + m = c.items.length ∧ Ex (upd H1 D (.lst [])) (ι1 ++ [D]) H' ι' ∧ Rl g H' ι' S' ∧ compL c p t we S1.length (wipeR ρ vs) q (c.items.drop i) S',
    ⟨c.items.length, _, _, by simp, Ex.refl _ _, R2, by simpa using h1⟩, ?_⟩
  rintro i m H' ⟨ι', S', hm, e3, R3, w⟩
  have hDat : ι'[S1.length]? = some D := e3.get (by rw [← R1.len]; simp)
  cases hd : c.items.drop i with
  | nil =>
    rw [hd] at w
    have hl : c.items.length ≤ i := by simpa using hd
    exact .inl ⟨(jok i H' ι' S' (e2.trans e3) R3 w.1).2 hl, hq _ _ w.2 ι' H' _ (e1.trans (e2.trans e3)) R3 (.ref hDat)⟩
  | cons d ds =>
    rw [hd] at w
    obtain ⟨h1, h2, h3⟩ := drop_some hd
    obtain ⟨ok, w⟩ := w
    obtain ⟨ρ1, hρ, w⟩ := oB_iff.mp w
    obtain ⟨go, step⟩ := (jok i H' ι' S' (e2.trans e3) R3 ok).1 d h1
    refine .inr ⟨go, fun H4 => ∃ ι4 S4, Ex (upd H1 D (.lst [])) (ι1 ++ [D]) H4 ι4 ∧ Rl g H4 ι4 S4 ∧ compL c p t we S1.length (wipeR ρ vs) q (c.items.drop (i + 1)) S4, ?_, ?_⟩
    · rintro H4 ⟨ι4, S4, a, b, cc⟩
      exact ⟨m - 1, by omega, ι4, S4, by omega, a, b, cc⟩
    · intro x H4 y
      obtain ⟨e4, R4, rx⟩ := step x H4 y
      obtain ⟨σ1, q1, r1, hw⟩ := p.ok ((rw1.ex R2 e3).ex R3 e4) rx hρ
      refine q1 _ ⟨(hw vs hv).trans (wipe_wipe vs σ fun _ z => z), ι', S', ρ1, _, _, R4, r1, w, fun b S5 q5 ι5 H5 e5 R5 => ?_, fun _ _ z => z.elim⟩
      cases b with
      | false =>
        rw [if_neg Bool.false_ne_true] at q5 ⊢
        exact ⟨ι5, S5, (e3.trans e4).trans e5, R5, by rw [h2]; exact q5⟩
      | true =>
        rw [if_pos rfl] at q5 ⊢
        refine ⟨ι5, S5, ρ1, _, _, R5, r1.ex R4 e5, q5, fun y S6 q6 ι6 H6 u e6 R6 ru => ?_, fun _ _ z => z.elim⟩
        obtain ⟨acc, ha, hz, q6⟩ := atN_iff.mp q6
        have hDat6 : ι6[S1.length]? = some D := (e4.trans (e5.trans e6)).get hDat
        obtain ⟨a', vs', e7, e8, r8, _⟩ := R6.list ha (.ref hDat6)
        cases e7
        have kp : ∀ a o, H6 a = some o → Imm o → upd H6 D (.lst (vs' ++ [u])) a = some o := fun a o h i => by
          rw [upd_ne]
          · exact h
          · rintro rfl; rw [e8] at h; cases h; exact i
        obtain ⟨e9, R9⟩ := R6.put (u := .lst (vs' ++ [u])) (o' := .lst (acc ++ [y])) ha hDat6 ⟨_, upd_same, (r8.app (.cons ru .nil)).mono kp fun _ _ h => h⟩
        exact ⟨vs', e8, by rw [← r8.length]; exact hz, ι6, _, (((e3.trans e4).trans e5).trans e6).trans e9, R9, by rw [h2]; exact q6⟩
theorem e_comp {elt tg iter : Expr} {ifs : List Expr} {scope : Scope} {own : List (Str × Nat)} {pos : Pos} {wi : WI} {p : Pat} {t : WT} {we : WE} (hc : X.calm = true) (hN : X.N.Nodup) (hi : PI X tg iter (liftI (gX X) W wi)) (ok : BlkOk X.N X.env.scope scope own)
    (hg : ∀ (s : Shared) (H : Hp) (C : Addr) (cl : List (Str × Addr)) (fp : List Addr), PG (X.blk s H scope (compEnvC scope cl C X.env) fp) tg (p.rd X.K))
    (ht : ∀ (s : Shared) (H : Hp) (C : Addr) (cl : List (Str × Addr)) (fp : List Addr), PTs (X.blk s H scope (compEnvC scope cl C X.env) fp) ifs (liftT (gX X) W0 t))
    (he : ∀ (s : Shared) (H : Hp) (C : Addr) (cl : List (Str × Addr)) (fp : List Addr), PE (X.blk s H scope (compEnvC scope cl C X.env) fp) elt (liftE (gX X) W0 we)) (hv : ∀ i ∈ p.own, i ∈ own.map (·.2) := by decide) (hs : ∀ x, foldedSetIterable iter X.env x = pure x := by intro _; rfl) :
    PE X (.ListComp elt [⟨tg, iter, ifs, 0⟩] scope pos) (liftE (gX X) W (wComp wi p t we (own.map (·.2)))) :=
  PE.mono (pe_lc hc hN hi ok hg ht he hs) (lc_lift (g := gX X) hv)
/-- name = [..] -/
theorem s_setComp {i : Nat} {y : Str} {py : Pos} {elt tg iter : Expr} {ifs : List Expr} {scope : Scope} {own : List (Str × Nat)} {pos spos : Pos} {wi : WI} {p : Pat} {t : WT} {we : WE} (hc : X.calm = true) (hN : X.N.Nodup) (hy : X.N[i]? = some y) (hyl : X.env.scope.names.lookup y = some .local)
    (hsw : swapsWith (.ListComp elt [⟨tg, iter, ifs, 0⟩] scope pos) (some (.Name y py)) spos.line X.env = pure true) (hi : PI X tg iter (liftI (gX X) W wi)) (ok : BlkOk X.N X.env.scope scope own)
    (hg : ∀ (s : Shared) (H : Hp) (C : Addr) (cl : List (Str × Addr)) (fp : List Addr), PG (X.blk s H scope (compEnvC scope cl C X.env) fp) tg (p.rd X.K))
    (ht : ∀ (s : Shared) (H : Hp) (C : Addr) (cl : List (Str × Addr)) (fp : List Addr), PTs (X.blk s H scope (compEnvC scope cl C X.env) fp) ifs (liftT (gX X) W0 t))
    (he : ∀ (s : Shared) (H : Hp) (C : Addr) (cl : List (Str × Addr)) (fp : List Addr), PE (X.blk s H scope (compEnvC scope cl C X.env) fp) elt (liftE (gX X) W0 we)) (hv : ∀ i ∈ p.own, i ∈ own.map (·.2) := by decide) (hs : ∀ x, foldedSetIterable iter X.env x = pure x := by intro _; rfl) :
    PS X (.Assign [.Name y py] (.ListComp elt [⟨tg, iter, ifs, 0⟩] scope pos) spos) (liftS (gX X) W (sAsg (wComp wi p t we (own.map (·.2))) (.nm i))) := by
  refine PS.mono (ps_setLc hc hN hy hyl hsw hi ok hg ht he hs) fun D σ H h => ?_
  obtain ⟨ι, S, ρ, k, R, r, h, ki⟩ := h
  refine lc_lift (g := gX X) hv σ H _ ⟨ι, S, ρ, _, _, R, r, h, fun d S1 q ι1 H1 v e1 R1 rv => ?_, fun x S' q => ki.ex x ρ S' q⟩
  exact ki.nx _ _ q ι1 H1 _ e1 R1 ((r.ex R e1).set rv i)
end
end Zz
set_option Elab.async false
set_option linter.all false
set_option maxRecDepth 100000
namespace Zz
open PySem PySem.Spec PyProof.Rows L2
abbrev Ga := List D → Sto → QD → QX → Prop
/-- the def at f does what γ says -/
structure FnG (g : G) (base : Heap) (k : Nat) (f : Addr) (fd : FuncData) (ps : List Str) (γ : Ga) : Prop where
  len : ∀ ds S q e, γ ds S q e → ds.length = ps.length
  run : ∀ (A : Around) (outer : List PySem.Env) (s : Shared) (H : Hp) (args : Args) (us : List Value) (vs : List V) (ι : List Addr) (S : Sto) (ds : List D) (q : QD) (e : QX) (Q : VK) (E : XK),
    Room k A → A.guards = some [] → Env0 g.P g.w g.K g.mg base A outer s H → BindsTo s fd args (ps.zip us) → Vals vs us → Rl g H ι S → Rps g H ι ds vs → γ ds S q e →
    (∀ d S', q d S' → upE g H ι Q d S') → (∀ x S', e x S' → ∀ ι' H' cls d, Ex H ι H' ι' → Rl g H' ι' S' → Rx g H' ι' x cls d → E cls d H') →
    codeAny (model g.P g.w) A (.call (.ref f) args) (CR (L2.CX g.P g.w) outer g.P g.w H s Q E) s
theorem FnG.mono {g : G} {base : Heap} {j k : Nat} {f : Addr} {fd : FuncData} {ps : List Str} {γ : Ga} (F : FnG g base j f fd ps γ) (h : j ≤ k) : FnG g base k f fd ps γ :=
  ⟨F.len, fun A outer s H args us vs ι S ds q e Q E hr => F.run A outer s H args us vs ι S ds q e Q E (hr.mono h)⟩
theorem FnG.never {g : G} {base : Heap} {k : Nat} {f : Addr} {fd : FuncData} {ps : List Str} : FnG g base k f fd ps (fun _ _ _ _ => False) :=
  ⟨fun _ _ _ _ h => h.elim, fun _ _ _ _ _ _ _ _ _ _ _ _ _ _ _ _ _ _ _ _ _ h => h.elim⟩
def wCall (γ : Ga) (a : WA) : WE := fun ρ S Q E => a ρ S (fun ds S1 => γ ds S1 Q E) E
section
variable {X : Cx} {W : WX} {k : Nat} {f : Addr} {fd : FuncData} {ps : List Str} {γ : Ga}
/-- what is wanted ahead of a call -/
def aheadC (X : Cx) (W : WX) (γ : Ga) (σ : L2.St) (Q : VK) : List V → Hp → Prop := fun vs H1 => ∃ ι S ds q e ρ, Rl (gX X) H1 ι S ∧ Rs (gX X) H1 ι ρ σ ∧ Rps (gX X) H1 ι ds vs ∧ γ ds S q e ∧ (∀ d S', q d S' → upE (gX X) H1 ι Q d S') ∧ ∀ x S', e x S' → liftX (gX X) W H1 ι ρ x S'
theorem run_fnG {pins : List (Addr × Obj)} {σ : L2.St} {H : Hp} {s : Shared} {Q : VK} {us : List Value} {vs : List V} (F : FnG (gX X) X.base k f fd ps γ) (hr : Room k X.A) (hgd : X.A.guards = some []) (hb : Binds X.K fd ps []) (tk : Takes X W)
    (I : Inv X pins σ H s) (r : Vals vs us) (h : aheadC X W γ σ Q vs H) : wpAny (model X.prog X.w) X.A (call (.ref f) us) (EP X pins σ Q) X.xe s := by
  obtain ⟨ι, S, ds, q, e, ρ, R, rr, rd, hg, hq, he⟩ := h
  have hl : (us ++ []).length = ps.length := by rw [List.append_nil, ← r.length, ← rd.length]; exact F.len _ _ _ _ hg
  have hB := hb s us I.kIn hl
  rw [List.append_nil] at hB
  refine wpAny_call (codeAny_mono (F.run X.A X.stack s H ⟨us, []⟩ us vs ι S ds q e Q (fun cls d H' => W cls d σ H') hr hgd I.env0 hB r R rd hg hq fun x S' hx ι' H' cls d ee RR rx => he x S' hx ι' H' σ cls d ee RR (rr.ex R ee) rx) fun res s' hq => ?_)
  cases res with
  | error e => exact tk e s' (XE.of_call I (fun cls d H' h => h) hq)
  | ok fl =>
    cases fl with
    | ret u => exact I.after hq
    | next => exact False.elim hq
    | brk => exact False.elim hq
    | cont => exact False.elim hq
theorem ahead_of {wa : WA} {σ : L2.St} {H : Hp} {Q : VK} (h : liftE (gX X) W (wCall γ wa) σ H Q) : liftA (gX X) W wa σ H (aheadC X W γ σ Q) := by
  obtain ⟨ι, S, ρ, q, e, R, r, h, hq, he⟩ := h
  exact ⟨ι, S, ρ, _, e, R, r, h, fun ds S1 h1 ι1 H1 vs e1 R1 rv => ⟨ι1, S1, ds, q, e, ρ, R1, r.ex R e1, rv, h1, fun d S' z => (hq d S' z).on e1, fun x S' z => (he x S' z).on e1⟩, he⟩
theorem e_call {x : Str} {p pos : Pos} {e : Expr} {es : List Expr} {wa : WA} (F : FnG (gX X) X.base k f fd ps γ) (hr : Room k X.A) (hgd : X.A.guards = some []) (hg : Gl X x) (hm : X.mg x = some (.ref f)) (hk : PySem.W.keepIn X.K (.ref f) = true) (hb : Binds X.K fd ps []) (tk : Takes X W)
    (ha : PA X (e :: es) (liftA (gX X) W wa)) (hdb : (x == ("__debug__" : Str)) = false := by decide) (he : starEach (e :: es) X.env = (false, eval e X.env) :: starEach es X.env := by rfl) (hpl : (backTo pos (starEach es X.env)).any (·.1) = false := by rfl) :
    PE X (.Call (.Name x p) (e :: es) [] pos) (liftE (gX X) W (wCall γ wa)) := by
  refine ⟨fun pins s σ H Q I h => ?_⟩
  refine wpAny_Call_Name_kw (ld_glob I hg hm ?_ hdb)
  refine PySem.W.callWith_K (h₀ := X.base) I.ok.mod.kin hk (thn (ha.run pos pins s σ H _ I (ahead_of h)) fun us s1 ⟨vs, H1, I1, r, q⟩ => ⟨I1.kIn, ?_⟩) he hpl
  exact run_fnG F hr hgd hb tk I1 r q
theorem e_call0 {x : Str} {p pos : Pos} (F : FnG (gX X) X.base k f fd ps γ) (hr : Room k X.A) (hgd : X.A.guards = some []) (hg : Gl X x) (hm : X.mg x = some (.ref f)) (hk : PySem.W.keepIn X.K (.ref f) = true) (hb : Binds X.K fd ps []) (tk : Takes X W)
    (hdb : (x == ("__debug__" : Str)) = false := by decide) : PE X (.Call (.Name x p) [] [] pos) (liftE (gX X) W (wCall γ aNil)) := by
  refine ⟨fun pins s σ H Q I h => ?_⟩
  refine wpAny_Call_Name_kw (ld_glob I hg hm ?_ hdb)
  obtain ⟨ι, S, ρ, q, e, R, r, h, hq, he⟩ := h
  exact PySem.W.callWith_K0 I.kIn hk (run_fnG (us := []) (vs := []) F hr hgd hb tk I .nil ⟨ι, S, [], q, e, ρ, R, r, .nil, h, hq, he⟩)
end
theorem room_in2 {k : Nat} {A : Around} (r : Room (k + 1) A) (env : PySem.Env) : Room k (A.deeper env).in1.in1 :=
  ⟨r.hd, by have := r.dp; show A.depth + 1 + 3 * k + 5 < _; omega, by have := r.un; show A.units + 3 + 1 + 1 + 16 * k + 200 < _; omega⟩
/-! ### a def by its body -/
def startR (n : Nat) (ds : List D) : Rho := ds.map some ++ List.replicate (n - ds.length) none
def endK (q : QD) (e : QX) : Kt where
  nx := fun _ S => q .non S
  rt := q
  bk := fun _ _ => False
  ct := fun _ _ => False
  ex := fun x _ S => e x S
/-- what a body is worth: n names, p parameters -/
def bodyG (n p : Nat) (b : WS) : Ga := fun ds S q e => ds.length = p ∧ b (endK q e) (startR n ds) S
theorem rs_start {g : G} {H : Hp} {ι : List Addr} {N : List Str} {ds : List D} {vs : List V} (r : Rps g H ι ds vs) : Rs g H ι (startR N.length ds) (L2.start N vs) := by
  refine ⟨by unfold startR L2.start; simp [r.length], fun i d h => ?_⟩
  unfold startR at h
  by_cases hi : i < ds.length
  · rw [List.getElem?_append_left (by simpa using hi), List.getElem?_map] at h
    obtain ⟨d', h1, h2⟩ := Option.map_eq_some_iff.mp h
    cases h2
    obtain ⟨v, hv, rv⟩ := r.get h1
    refine ⟨v, ?_, rv⟩
    unfold L2.start
    rw [List.getElem?_append_left (by rw [List.length_map, ← r.length]; exact hi), List.getElem?_map, hv]
    rfl
  · rw [List.getElem?_append_right (by simpa using hi), List.getElem?_replicate] at h
    split at h <;> cases h
theorem fng_of {g : G} {base : Heap} {k : Nat} {f : Addr} {name qual : Str} {params : Arguments} {body : List Stmt} {scope : Scope} {dV kV doc pm cdv ct oc : Value} {an od : Option Addr} {osl : Array (Option Value)} {N ps : List Str} {wb : WS}
    (lk : g.K.lookup f = some ⟨oc, od, .func (PySem.W.fnOf name qual params body scope dV kV doc pm an cdv ct), osl⟩) (hcd : PySem.W.codeIn g.K cdv qual = true) (Sc : FnScope N ps scope)
    (hbody : ∀ (A : Around) (outer : List PySem.Env) (s : Shared) (H : Hp) (E : XK), Room k (A.deeper (envOfC qual scope s.heap.objs.size f cdv)) → (A.deeper (envOfC qual scope s.heap.objs.size f cdv)).guards = some [] → Room k (A.deeper (envOfC qual scope s.heap.objs.size f cdv)).in1.in1 →
      PSs (cxOf (L2.CX g.P g.w) g.P g.w g.K g.mg base N qual scope f cdv A outer s H E) body (liftS (gX (cxOf (L2.CX g.P g.w) g.P g.w g.K g.mg base N qual scope f cdv A outer s H E)) (fun cls d _ H => E cls d H) wb)) :
    FnG g base (k + 1) f (PySem.W.fnOf name qual params body scope dV kV doc pm an cdv ct) ps (bodyG N.length ps.length wb) := by
  refine ⟨fun ds S q e h => h.1, fun A outer s H args us vs ι S ds q e Q E hr hgd e0 hb r R rd hγ hq he => ?_⟩
  have hlv : vs.length = ps.length := by rw [← rd.length]; exact hγ.1
  have KX : g.K.In s.heap := e0.mod.kin.keeps fun b o z => (e0.bs b o z).1
  have lim : s.heap.NoLimit := e0.mod.nolimit.keeps fun b o z => (e0.bs b o z).1
  have hkind : ∀ y ∈ ps.zip us, scope.names.lookup y.1 = some .local ∨ (scope.names.lookup y.1 = some .cell ∧ ((cellsFrom (s.heap.objs.size + 1) scope.names []).lookup y.1).isSome = true) := by
    rintro ⟨n, v⟩ hy
    rcases Sc.par n (List.of_mem_zip hy).1 with z | z
    · exact .inl z
    · exact .inr ⟨z, PySem.W.cellsFrom_some _ _ _ (.inl z)⟩
  refine codeAny_call_function hr.depth (KX _ _ lk) rfl Sc.co Sc.gen rfl (PySem.W.codeRec_of KX hcd) (hb _ _ _ _ ?_)
  refine wpAny_newFunctionEnv_cells Sc.kind hkind fun env he1 s1 x => ?_
  subst he1
  refine ⟨lim.keeps x.toInCall.keep, codeAny_func ?_⟩
  have ht := hbody A outer s H E (hr.deeper _) hgd (room_in2 hr _)
  have I : Inv (cxOf (L2.CX g.P g.w) g.P g.w g.K g.mg base N qual scope f cdv A outer s H E) [] (L2.start N vs) H s1 := inv_start Sc hr.hd e0 hlv r x
  have hrun := ht.run [] s1 (L2.start N vs) H { nx := fun _ H' => Q .non H', rt := Q } I ⟨ι, S, _, endK q e, R, rs_start rd, hγ.2,
    ⟨fun ρ' S' z ι' H' σ' ee RR rr => hq _ _ z ι' H' _ ee RR .non, fun d S' z => hq d S' z, fun _ _ z => z.elim, fun _ _ z => z.elim, fun x' ρ' S' z ι' H' σ' cls d ee RR rr rx => he x' S' z ι' H' cls d ee RR rx⟩⟩
  refine wpAny_mono hrun (fun fl s' hs => ?_) fun _ _ z => z
  have fin : ∀ {σ' : L2.St} {H' : Hp} {v : V} {u : Value}, Inv (cxOf (L2.CX g.P g.w) g.P g.w g.K g.mg base N qual scope f cdv A outer s H E) [] σ' H' s' → RelV v u → Q v H' → CE outer g.P g.w H s Q u s' :=
    fun J rv z => ⟨_, _, J.os, J.bare, J.base, J.hok, rv, z⟩
  cases fl with
  | ret u => obtain ⟨v, σ', H', J, rv, z⟩ := hs; exact fin J rv z
  | next => obtain ⟨σ', H', J, z⟩ := hs; exact fin (v := V.non) (u := Value.none) J rfl z
  | brk => obtain ⟨_, _, _, z⟩ := hs; exact z.elim
  | cont => obtain ⟨_, _, _, z⟩ := hs; exact z.elim
/-- by the text's def -/
theorem fun_G {g : G} {base : Heap} {x qual : Str} {st : Stmt} {f : Addr} {fd : FuncData} {N ps : List Str} {k : Nat} {wb : WS} (F : Fun g.K x qual st f fd) (Sc : FnScope N ps (defScope st))
    (hbody : ∀ (cdv : Value) (A : Around) (outer : List PySem.Env) (s : Shared) (H : Hp) (E : XK), Room k (A.deeper (envOfC qual (defScope st) s.heap.objs.size f cdv)) → (A.deeper (envOfC qual (defScope st) s.heap.objs.size f cdv)).guards = some [] → Room k (A.deeper (envOfC qual (defScope st) s.heap.objs.size f cdv)).in1.in1 →
      PSs (cxOf (L2.CX g.P g.w) g.P g.w g.K g.mg base N qual (defScope st) f cdv A outer s H E) (defBody st) (liftS (gX (cxOf (L2.CX g.P g.w) g.P g.w g.K g.mg base N qual (defScope st) f cdv A outer s H E)) (fun cls d _ H => E cls d H) wb)) :
    FnG g base (k + 1) f fd ps (bodyG N.length ps.length wb) := by
  obtain ⟨oc, od, kV, doc, pm, an, cdv, ct, osl, rfl, lk, hcd⟩ := F.ex
  exact fng_of lk hcd Sc fun A outer s H E => hbody cdv A outer s H E
/-- what a body takes of exceptions -/
theorem tk_fn {P : Program} {w : World} {K : PySem.W.Frag} {mg : Str → Option Value} {base : Heap} {N : List Str} {qual : Str} {scope : Scope} {f : Addr} {cd : Value} {A : Around} {outer : List PySem.Env} {s : Shared} {H : Hp} {E : XK} :
    Takes (cxOf (L2.CX P w) P w K mg base N qual scope f cd A outer s H E) (fun cls d _ H => E cls d H) := takes_of rfl rfl rfl rfl
theorem po_fn {P : Program} {w : World} {K : PySem.W.Frag} {mg : Str → Option Value} {base : Heap} {N : List Str} {qual : Str} {scope : Scope} {f : Addr} {cd : Value} {A : Around} {outer : List PySem.Env} {s : Shared} {H : Hp} {E : XK} :
    PassesOwn (model (cxOf (L2.CX P w) P w K mg base N qual scope f cd A outer s H E).prog (cxOf (L2.CX P w) P w K mg base N qual scope f cd A outer s H E).w) (cxOf (L2.CX P w) P w K mg base N qual scope f cd A outer s H E).A (cxOf (L2.CX P w) P w K mg base N qual scope f cd A outer s H E).env
      (cxOf (L2.CX P w) P w K mg base N qual scope f cd A outer s H E).xe := passes_of rfl
end Zz
set_option Elab.async false
set_option linter.all false
set_option maxRecDepth 100000
namespace Zz
open PySem PySem.Spec PyProof.Rows L2
theorem rps_ints {g : G} {H : Hp} {ι : List Addr} : ∀ ns : List Int, Rps g H ι (ns.map D.int) (ns.map V.int)
  | [] => .nil
  | n :: ns => .cons (.int n) (rps_ints ns)
/-- the law's call, from what its γ says of the script -/
theorem law_callG {g : G} {mb : Str → Option Value} {k : Nat} {fa a : Addr} {fd : FuncData} {x : Str} {γ : Ga} {s₁ : Shared} {vs : List Value} {ns : List Int}
    (KX : g.K.In s₁.heap) (hns : s₁.heap.Ns mainGlobals g.mg) (hb : s₁.heap.Ns builtinsNs mb) (hbb : ∀ x : Str, x ≠ "__name__" → mb x = bootBuiltins x) (hlim : s₁.heap.NoLimit) (hg : s₁.gens = #[])
    (ha : s₁.heap.get? a = some { cls := .type "list", data := .seq vs.toArray }) (hi : IntsAre vs ns) (hl : ns.length ≤ sizeLine) (hr : Room k callerA)
    (F : ∀ base : Heap, g.K.In base → base.Ns mainGlobals g.mg → FnG g base k fa fd [x] γ) (hbind : ∀ (s : Shared) (u : Value), BindsTo s fd ⟨[u], []⟩ [(x, u)])
    (hγ : γ [.rol (ns.map D.int)] [] (fun d _ => d = .bl true) (fun _ _ => False)) :
    codeAny (model g.P g.w) callerA (.call (.ref fa) ⟨[.ref a], []⟩) (fun r s' => r = .ok (.ret (.bool true)) ∧ OldK s₁.heap s'.heap ∧ s'.os = s₁.os ∧ AllBare s'.gens) s₁ := by
  have rv := vals_ints hi
  have lenV := hi.length
  let scr : HO := .frz { cls := .type "list", data := .seq vs.toArray } (.lst (ns.map V.int))
  have core : ∀ H : Hp, (∀ b u, H b = some u → b = a ∧ u = scr ∧ g.K.lookup a = none) → RoL g.K H a (ns.map V.int) →
      codeAny (model g.P g.w) callerA (.call (.ref fa) ⟨[.ref a], []⟩) (fun r s' => r = .ok (.ret (.bool true)) ∧ OldK s₁.heap s'.heap ∧ s'.os = s₁.os ∧ AllBare s'.gens) s₁ := by
    intro H hH hS
    have hok : HOk g.P g.w H s₁.heap := fun b u e => by
      obtain ⟨rfl, rfl, _⟩ := hH b u e
      exact ⟨ha, by rw [List.length_map]; exact hl, vs, _, rv, ha⟩
    have dct : ∀ {b : Addr} {o : Obj} {es : Array DictEntry} {ep : Nat}, s₁.heap.get? b = some o → o.data = .dict es ep → H b = none := fun {b o es ep} e d => by
      cases q : H b with
      | none => rfl
      | some u =>
        obtain ⟨rfl, _, _⟩ := hH b u q
        rw [ha] at e; cases e; cases d
    have nsK : ∀ {b : Addr} {m : Str → Option Value}, s₁.heap.Ns b m → (hidT s₁.heap H).Ns b m := fun {b m} ⟨o, es, ep, e, d, r⟩ => ⟨o, es, ep, hidT_get e (dct e d), d, r⟩
    have hKb : g.K.In (hidT s₁.heap H) := fun b o e => hidT_get (KX b o e) (by
      cases q : H b with
      | none => rfl
      | some u =>
        obtain ⟨rfl, _, z⟩ := hH b u q
        rw [z] at e; cases e)
    have hM : Mod g.K g.mg (hidT s₁.heap H) := ⟨hKb, nsK hns, ⟨mb, nsK hb, hbb⟩, let ⟨mc, h1, h2⟩ := hlim; ⟨mc, nsK h1, h2⟩⟩
    have e0 : Env0 g.P g.w g.K g.mg (hidT s₁.heap H) callerA [] s₁ H :=
      ⟨rfl, hM, fun b o e => of_hidT e, Nat.le_of_eq (hidT_size _ _), trivial, fun b hb => absurd hb (List.not_mem_nil), hok, .of_eq hg⟩
    have R0 : Rl g H [] [] := ⟨rfl, List.nodup_nil, fun n o b h _ => by simp at h⟩
    refine codeAny_mono ((F _ hKb (nsK hns)).run callerA [] s₁ H ⟨[.ref a], []⟩ [.ref a] [.ref a] [] [] _ _ _ (fun v _ => v = .bl true) (fun _ _ _ => False) hr rfl e0 (hbind s₁ (.ref a)) (.cons rfl .nil) R0
      (.cons (.rol hS (rps_ints ns)) .nil) hγ (fun d S' hd ι' H' v _ _ rv => by subst hd; cases rv; rfl) fun _ _ z => z.elim) fun r s' h => ?_
    cases r with
    | error e =>
      obtain ⟨_, _, _, _, _, _, _, _, _, _, _, _, z⟩ := h
      exact z.elim
    | ok fl =>
      cases fl with
      | next => exact False.elim h
      | brk => exact False.elim h
      | cont => exact False.elim h
      | ret u =>
        obtain ⟨v, H', os, bare, un, hok', r', rfl⟩ := h
        obtain rfl : u = Value.bool true := r'
        refine ⟨rfl, OldK.of_keep fun b o e => ?_, os, bare⟩
        cases q : H b with
        | none => exact un.keep b o e q List.not_mem_nil List.not_mem_nil
        | some u =>
          obtain ⟨rfl, rfl, _⟩ := hH b u q
          obtain ⟨e2, _⟩ := hok' _ _ (un.frzs _ _ _ q)
          rw [ha] at e; cases e
          exact e2
  cases hk : g.K.lookup a with
  | some o =>
    have e := KX a o hk
    rw [ha] at e
    cases e
    exact core (fun _ => none) (fun b u z => by cases z) (.inr ⟨_, vs.toArray, _, hk, rfl, rfl, rfl, by rw [List.size_toArray, lenV]; exact hl, by simpa using rv⟩)
  | none =>
    refine core (fun b => if b = a then some scr else none) (fun b u z => ?_) (.inl ⟨_, if_pos rfl⟩)
    split at z
    · rename_i hb
      cases z
      exact ⟨hb, rfl, hk⟩
    · cases z
/-- the goal that k_head leaves, from the law's γ -/
theorem walk_G {l : PySem.W.OpenLaw} {n k : Nat} {q : Program} {loose : List Str} {XP : (Str → Option Value) → Heap → Prop} {YP : World → Heap → Prop} {d : DefRec} {K : Params → PySem.W.Frag} {x : Str} {γ : Ga}
    (hn : l.most = some n) (hn2 : n ≤ sizeLine) (hdf : d.params.defaults = []) (hr : Room k callerA)
    (hY : ∀ (w : World) (h : Heap), YP w h → (K w.params).In h)
    (F : ∀ (w : World) (mg : Str → Option Value) (fa : Addr) (h : Heap), (K w.params).In h → h.Ns mainGlobals mg → mg d.name = some (.ref fa) →
      ∃ fd : FuncData, (∀ (s : Shared) (u : Value), BindsTo s fd ⟨[u], []⟩ [(x, u)]) ∧ ∀ base : Heap, (K w.params).In base → base.Ns mainGlobals mg → FnG ⟨l.prog, w, K w.params, mg⟩ base k fa fd [x] γ)
    (hγ : ∀ ns : List Int, ns.length ≤ n → (∀ z ∈ ns, Builtin.Int.intBits z ≤ 1048576) → γ [.rol (ns.map D.int)] [] (fun d _ => d = .bl true) (fun _ _ => False)) :
    PySem.W.WalkO q loose XP YP l.row.toRowW d [] (fun f vs => PySem.call f vs) := by
  refine Att.attach_callB hn hdf fun w s₀ s₁ mg mb fa o pm cd doc a vs ns Gr Y ho hd hcd hmg hobj hints hlen hbits hg => ?_
  have KX := hY w _ Y
  obtain ⟨fd, hb, hF⟩ := F w mg fa _ KX Gr.T.g hmg
  exact law_callG (g := ⟨l.prog, w, K w.params, mg⟩) KX Gr.T.g Gr.T.b Gr.T.builtins Gr.T.nolimit hg hobj hints (Nat.le_trans hlen hn2) hr hF hb (hγ ns hlen hbits)
end Zz
set_option Elab.async false
set_option linter.all false
set_option maxRecDepth 100000
namespace Zz
open PySem PySem.Spec PyProof.Rows L2
/-! ### names -/
section
variable {X : Cx} {W : WX}
theorem ev (i : Nat) {x : Str} {pos : Pos} (hN : X.N[i]? = some x := by rfl) (hv : Vis X.env.scope x := by first | exact .inl rfl | exact .inr (.inl rfl) | exact .inr (.inr rfl)) (hd : (x == ("__debug__" : Str)) = false := by decide) (hcd : (x == ("__classdict__" : Str)) = false := by decide) :
    PE X (.Name x pos) (liftE (gX X) W (wVar i)) := e_var hN hv hd hcd
theorem gn (i : Nat) {x : Str} {pos : Pos} (hN : X.N.Nodup) (hi : X.N[i]? = some x := by rfl) (hx : Loc X.env.scope x := by first | exact .inl rfl | exact .inr rfl) (hf : X.fn x = true ∨ X.env.scope.names.lookup x = some .local := by first | exact .inl rfl | exact .inr rfl) : PG X (.Name x pos) (Pat.rd X.K (.nm i)) := g_nm hN hi hx hf
theorem tk0 : Takes X W0 := fun u s' ⟨_, _, _, _, _, _, _, _, _, _, _, _, _, _, _, _, w⟩ => w.elim
/-- a constant of the module -/
structure CstG (g : G) (x : Str) (d : D) (u : Value) (v : V) : Prop where
  at' : g.mg x = some u
  rel : RelV v u
  rp : ∀ H ι, Rp g H ι d v
theorem e_cst {x : Str} {d : D} {u : Value} {v : V} {pos : Pos} (hg : Gl X x) (c : CstG (gX X) x d u v) (hd : (x == ("__debug__" : Str)) = false := by decide) : PE X (.Name x pos) (liftE (gX X) W (wC d)) := e_glob hg c.at' c.rel c.rp hd
end
theorem boot_len : bootBuiltins "len" = some (.builtin "len") := by decide +kernel
theorem boot_repr : bootBuiltins "repr" = some (.builtin "repr") := by decide +kernel
theorem boot_sum : bootBuiltins "sum" = some (.builtin "sum") := by decide +kernel
theorem boot_sorted : bootBuiltins "sorted" = some (.builtin "sorted") := by decide +kernel
theorem boot_all : bootBuiltins "all" = some (.builtin "all") := by decide +kernel
theorem boot_any : bootBuiltins "any" = some (.builtin "any") := by decide +kernel
theorem boot_abs : bootBuiltins "abs" = some (.builtin "abs") := by decide +kernel
theorem boot_isinstance : bootBuiltins "isinstance" = some (.builtin "isinstance") := by decide +kernel
theorem boot_ty_int : bootBuiltins "int" = some (.type "int") := by decide +kernel
theorem boot_ty_str : bootBuiltins "str" = some (.type "str") := by decide +kernel
theorem boot_ty_bool : bootBuiltins "bool" = some (.type "bool") := by decide +kernel
theorem boot_ty_tuple : bootBuiltins "tuple" = some (.type "tuple") := by decide +kernel
theorem boot_ty_list : bootBuiltins "list" = some (.type "list") := by decide +kernel
theorem boot_ty_dict : bootBuiltins "dict" = some (.type "dict") := by decide +kernel
theorem boot_ty_set : bootBuiltins "set" = some (.type "set") := by decide +kernel
/-! ### numbers -/
def fSub : F2 := fI0 fun i j => i - j
def fMul : F2 := fI CMul fun i j => i * j
def fMod : F2 := fI (fun _ j => 0 < j) fun i j => i % j
def fDiv : F2 := fI CDiv fun i j => i / j
def fPow : F2 := fI CPow fun i j => i ^ j.toNat
def fIAdd : F2 := fI0 fun i j => i + j
/-! ### isinstance, all, any -/
def fIsiA (T : String) : FA := fun S xs Q => match xs with | [x, .ty T'] => T' = T ∧ fIsi T S x Q | _ => False
def fAllA : FA := fun S xs Q => match xs with | [.ref n] => fAll S (.ref n) Q | _ => False
def fAnyA : FA := fun S xs Q => match xs with | [.ref n] => fAny S (.ref n) Q | _ => False
/-! ### a < b < c -/
def wChain (f f' : F2) (a b c : WE) : WE := fun ρ S Q E => a ρ S (fun x S1 => b ρ S1 (fun y S2 => f S2 x y fun z S3 => match z with
  | .bl true => c ρ S3 (fun u S4 => f' S4 y u Q) E
  | .bl false => Q (.bl false) S3
  | _ => False) E) E
section
variable {X : Cx} {W : WX}
theorem lift_chain {r r' : R2} {f f' : F2} {wa wb wc : WE} {g : G} (ok : Ok2 g r f) (ok' : Ok2 g r' f') : ∀ σ H Q, liftE g W (wChain f f' wa wb wc) σ H Q → tChain r r' (liftE g W wa) (liftE g W wb) (liftE g W wc) σ H Q := fun σ H Q h => by
  obtain ⟨ι, S, ρ, q, e, R, rr, h, hq, he⟩ := h
  refine ⟨ι, S, ρ, _, e, R, rr, h, fun x S1 h1 ι1 H1 v e1 R1 rv => ?_, he⟩
  refine ⟨ι1, S1, ρ, _, e, R1, rr.ex R e1, h1, fun y S2 h2 ι2 H2 u e2 R2 ru => ?_, fun x S' z => (he x S' z).on e1⟩
  refine ok R2 (rv.ex R1 e2) ru h2 fun z S3 h3 ι3 H3 t e3 R3 rt => ?_
  have e03 := (e1.trans e2).trans e3
  cases rt with
  | bl b =>
    refine ⟨b, rfl, ?_⟩
    cases b with
    | false => exact hq _ _ h3 ι3 H3 _ e03 R3 (.bl false)
    | true =>
      refine ⟨ι3, S3, ρ, _, e, R3, rr.ex R e03, h3, fun d S4 h4 ι4 H4 t e4 R4 rt => ?_, fun x S' z => (he x S' z).on e03⟩
      exact ok' R4 ((ru.ex R2 e3).ex R3 e4) rt h4 fun z S5 h5 => ((hq z S5 h5).on e03).on e4
  | _ => exact False.elim h3
theorem e_chain {a b c : Expr} {pos : Pos} {op op' : CmpOp} {r r' : R2} {f f2 : F2} {wa wb wc : WE} (ho : OpR X (compareOp op) r) (ok : Ok2 (gX X) r f) (ho' : OpR X (compareOp op') r') (ok' : Ok2 (gX X) r' f2) (ha : PE X a (liftE (gX X) W wa)) (hb : PE X b (liftE (gX X) W wb)) (hc : PE X c (liftE (gX X) W wc))
    (hm : lastMarks [op, op'] [b, c] = false := by with_unfolding_all rfl) : PE X (.Compare a [op, op'] [b, c] pos) (liftE (gX X) W (wChain f f2 wa wb wc)) := PE.mono (pe_chain ho ho' ha hb hc hm) (lift_chain ok ok')
theorem t_chain {a b c : Expr} {pos : Pos} {op op' : CmpOp} {r r' : R2} {f f2 : F2} {wa wb wc : WE} (ho : OpR X (compareOp op) r) (ok : Ok2 (gX X) r f) (ho' : OpR X (compareOp op') r') (ok' : Ok2 (gX X) r' f2) (ha : PE X a (liftE (gX X) W wa)) (hb : PE X b (liftE (gX X) W wb)) (hc : PE X c (liftE (gX X) W wc))
    (hm : lastMarks [op, op'] [b, c] = false := by with_unfolding_all rfl) : PT X (.Compare a [op, op'] [b, c] pos) (liftT (gX X) W (tVal (wChain f f2 wa wb wc))) := by
  refine PT.mono (pt_chain ho ho' ha hb hc hm) fun σ H Q h => ?_
  obtain ⟨ι, S, ρ, q, e, R, r, h, hq, he⟩ := h
  refine lift_chain ok ok' σ H _ ⟨ι, S, ρ, _, e, R, r, h, fun d S1 h1 ι1 H1 v e1 R1 rv => ?_, he⟩
  cases rv with
  | bl b => exact ⟨b, rfl, hq b S1 h1 ι1 H1 e1 R1⟩
  | _ => exact False.elim h1
end
/-! ### methods -/
def isLst (S : Sto) (x : D) : Prop := ∃ n xs, x = .ref n ∧ S[n]? = some (.lst xs)
def isDk (S : Sto) (x : D) : Prop := ∃ n xs, x = .ref n ∧ S[n]? = some (.dk xs)
abbrev FM := Sto → D → List D → QD → Prop
def wMt (is : Sto → D → Prop) (f : FM) (o : WE) (a : WA) : WE := fun ρ S Q E => o ρ S (fun x S1 => is S1 x ∧ a ρ S1 (fun ys S2 => f S2 x ys Q) E) E
/-- xs.append(y) -/
def fApp : FM := fun S x ys Q => match x, ys with
  | .ref n, [y] => atN S n fun xs => xs.length < sizeLine ∧ Q .non (S.set n (.lst (xs ++ [y])))
  | _, _ => False
/-- xs.extend(ys), a list -/
def fExt : FM := fun S x ys Q => match x, ys with
  | .ref n, [.ref m] => atN S n fun xs => atN S m fun zs => xs.length + zs.length ≤ sizeLine ∧ Q .non (S.set n (.lst (xs ++ zs)))
  | _, _ => False
def OkM (g : G) (r : V → List V → Hp → VK → Prop) (f : FM) : Prop := ∀ {H : Hp} {ι : List Addr} {S : Sto} {x : D} {v : V} {ys : List D} {us : List V} {Q : VK} {q : QD}, Rl g H ι S → Rp g H ι x v → Rps g H ι ys us → f S x ys q →
  (∀ z S', q z S' → upE g H ι Q z S') → r v us H Q
section
variable {X : Cx} {W : WX} {g : G}
theorem Rl.wr {H : Hp} {ι : List Addr} {S : Sto} (R : Rl g H ι S) {n : Nat} {xs ys : List D} {a : Addr} {vs us : List V} (h : S[n]? = some (.lst xs)) (ha : ι[n]? = some a) (e : H a = some (.lst vs)) (r : Rps g H ι ys us) :
    Ex H ι (upd H a (.lst us)) ι ∧ Rl g (upd H a (.lst us)) ι (S.set n (.lst ys)) := by
  refine R.put (u := .lst us) (o' := .lst ys) h ha ⟨us, upd_same, r.mono (fun b o hb i => ?_) fun _ _ z => z⟩
  rw [upd_ne]
  · exact hb
  · rintro rfl; rw [e] at hb; cases hb; exact i
theorem ok_app : OkM g rAppend fApp := by
  intro H ι S x v ys us Q q R rx ry hf hq
  cases rx <;> first | exact False.elim hf | skip
  rename_i n a e0
  match ys, ry, hf with
  | [y], ry, hf =>
    obtain ⟨u, rfl, ru⟩ := ry.one
    obtain ⟨xs, h1, h2, h3⟩ := atN_iff.mp hf
    obtain ⟨a', vs, e1, e2, r, ea⟩ := R.list h1 (.ref e0)
    cases e1
    obtain ⟨e3, R3⟩ := R.wr h1 ea e2 (r.app (.cons ru .nil))
    exact ⟨_, vs, u, rfl, rfl, e2, by rw [← r.length]; exact h2, hq _ _ h3 _ _ _ e3 R3 .non⟩
theorem ok_ext : OkM g rExtend fExt := by
  intro H ι S x v ys us Q q R rx ry hf hq
  cases rx <;> first | exact False.elim hf | skip
  rename_i n a e0
  match ys, ry, hf with
  | [.ref m], ry, hf =>
    obtain ⟨u, rfl, ru⟩ := ry.one
    obtain ⟨xs, h1, hf⟩ := atN_iff.mp hf
    obtain ⟨zs, h2, h3, h4⟩ := atN_iff.mp hf
    obtain ⟨a', vs, e1, e2, r, ea⟩ := R.list h1 (.ref e0)
    cases e1
    obtain ⟨b, ws, e1, e4, r2, eb⟩ := R.list h2 ru
    subst e1
    obtain ⟨e3, R3⟩ := R.wr h1 ea e2 (r.app r2)
    exact ⟨_, b, vs, ws, rfl, rfl, e2, e4, by rw [← r.length, ← r2.length]; exact h3, hq _ _ h4 _ _ _ e3 R3 .non⟩
theorem lift_mt {T : String} {is : Sto → D → Prop} {r : V → List V → Hp → VK → Prop} {f : FM} {wo : WE} {wa : WA} (hT : ∀ {H ι S x v}, Rl g H ι S → Rp g H ι x v → is S x → tyV g.K T v H) (ok : OkM g r f) :
    ∀ σ H Q, liftE g W (wMt is f wo wa) σ H Q → tBM g.K T r (liftE g W wo) (liftA g W wa) σ H Q := fun σ H Q h => by
  obtain ⟨ι, S, ρ, q, e, R, rr, h, hq, he⟩ := h
  refine ⟨ι, S, ρ, _, e, R, rr, h, fun x S1 h1 ι1 H1 v e1 R1 rv => ⟨hT R1 rv h1.1, ?_⟩, he⟩
  exact ⟨ι1, S1, ρ, _, e, R1, rr.ex R e1, h1.2, fun ys S2 h2 ι2 H2 us e2 R2 ru => ok R2 (rv.ex R1 e2) ru h2 fun z S' hz => ((hq z S' hz).on e1).on e2, fun x S' z => (he x S' z).on e1⟩
theorem ty_lst {H : Hp} {ι : List Addr} {S : Sto} {x : D} {v : V} (R : Rl g H ι S) (r : Rp g H ι x v) (h : isLst S x) : tyV g.K "list" v H := by
  obtain ⟨n, xs, rfl, h⟩ := h
  obtain ⟨a, vs, rfl, e, _⟩ := R.list h r
  exact .inl ⟨rfl, vs, .inl (.inl e)⟩
variable {o e : Expr} {es : List Expr} {wo : WE} {wa : WA} {apos cpos : Pos}
theorem e_mt_append (ho : PE X o (liftE (gX X) W wo)) (ha : PA X (e :: es) (liftA (gX X) W wa))
    (hbase : attributeBase o "append" X.env (eval o X.env) = eval o X.env := by rfl)
    (hfew : ((backTo cpos (starEach (e :: es) X.env)).all (fun x => !x.1) && (backToKw cpos (keywordEach [] X.env)).all (fun x => x.1.isSome)
      && decide ((e :: es).length + ([] : List Keyword).length + (if ([] : List Keyword).isEmpty then 0 else 1) < 30)) = true := by rfl)
    (hline : (apos.endLine == cpos.line) = true := by rfl) (hs : starEach (e :: es) X.env = (false, eval e X.env) :: starEach es X.env := by rfl) (hplain : (backTo cpos (starEach es X.env)).any (·.1) = false := by rfl) :
    PE X (.Call (.Attribute o "append" apos) (e :: es) [] cpos) (liftE (gX X) W (wMt isLst fApp wo wa)) :=
  PE.mono (pe_bm PySem.F.plainAttrs_list PySem.F.slot_list_append PySem.F.type_list_append mt_append ho ha hbase hfew hline hs hplain) (lift_mt (g := gX X) ty_lst ok_app)
theorem e_mt_extend (ho : PE X o (liftE (gX X) W wo)) (ha : PA X (e :: es) (liftA (gX X) W wa))
    (hbase : attributeBase o "extend" X.env (eval o X.env) = eval o X.env := by rfl)
    (hfew : ((backTo cpos (starEach (e :: es) X.env)).all (fun x => !x.1) && (backToKw cpos (keywordEach [] X.env)).all (fun x => x.1.isSome)
      && decide ((e :: es).length + ([] : List Keyword).length + (if ([] : List Keyword).isEmpty then 0 else 1) < 30)) = true := by rfl)
    (hline : (apos.endLine == cpos.line) = true := by rfl) (hs : starEach (e :: es) X.env = (false, eval e X.env) :: starEach es X.env := by rfl) (hplain : (backTo cpos (starEach es X.env)).any (·.1) = false := by rfl) :
    PE X (.Call (.Attribute o "extend" apos) (e :: es) [] cpos) (liftE (gX X) W (wMt isLst fExt wo wa)) :=
  PE.mono (pe_bm PySem.F.plainAttrs_list PySem.F.slot_list_extend PySem.F.type_list_extend mt_extend ho ha hbase hfew hline hs hplain) (lift_mt (g := gX X) ty_lst ok_ext)
end
end Zz
set_option Elab.async false
set_option linter.all false
set_option maxRecDepth 100000
namespace Zz
open PySem PySem.Spec PyProof.Rows L2
/-! ### tables of ints and texts -/
def kD : Key → D
  | .inl i => .int i
  | .inr x => .str x
def keyOf : D → Option Key
  | .int i => some (.inl i)
  | .str x => some (.inr x)
  | _ => none
theorem keyOf_some {d : D} {k : Key} (h : keyOf d = some k) : d = kD k := by
  cases d <;> cases h <;> rfl
theorem kD_rp {g : G} {H : Hp} {ι : List Addr} {k : Key} {v : V} (r : Rp g H ι (kD k) v) : v = kV k := by
  cases k <;> (cases r; rfl)
section
variable {κ α : Type} [DecidableEq κ]
def valK (kvs : List (κ × α)) (k : κ) : Option α := (kvs.find? fun kv => decide (kv.1 = k)).map (·.2)
def putA (kvs : List (κ × α)) (k : κ) (v : α) : List (κ × α) :=
  if (kvs.any fun kv => decide (kv.1 = k)) = true then kvs.map (fun kv => if kv.1 = k then (kv.1, v) else kv) else kvs ++ [(k, v)]
def mergeA (kvs more : List (κ × α)) : List (κ × α) := more.foldl (fun acc kv => putA acc kv.1 kv.2) kvs
theorem valK_nil {k : κ} : valK ([] : List (κ × α)) k = none := rfl
theorem valK_cons {p : κ × α} {r : List (κ × α)} {k : κ} : valK (p :: r) k = if p.1 = k then some p.2 else valK r k := by
  by_cases e : p.1 = k <;> simp [valK, List.find?_cons, e]
theorem putA_nil {k : κ} {v : α} : putA ([] : List (κ × α)) k v = [(k, v)] := rfl
theorem putA_len (kvs : List (κ × α)) (k : κ) (v : α) : (putA kvs k v).length ≤ kvs.length + 1 := by
  unfold putA
  split <;> simp
theorem putA_keys (kvs : List (κ × α)) (k : κ) (v : α) : (putA kvs k v).map (·.1) = if k ∈ kvs.map (·.1) then kvs.map (·.1) else kvs.map (·.1) ++ [k] := by
  unfold putA
  have e : (kvs.any fun kv => decide (kv.1 = k)) = true ↔ k ∈ kvs.map (·.1) := by simp
  by_cases h : (kvs.any fun kv => decide (kv.1 = k)) = true
  · rw [if_pos h, if_pos (e.mp h), List.map_map]
    refine List.map_congr_left fun x _ => ?_
    show (if x.1 = k then (x.1, v) else x).1 = x.1
    split <;> rfl
  · rw [if_neg h, if_neg fun z => h (e.mpr z)]
    simp
end
section
variable {g : G} {H : Hp} {ι : List Addr}
def RelKV (g : G) (H : Hp) (ι : List Addr) : List (Key × D) → List (Key × V) → Prop := Paired fun p q => q.1 = p.1 ∧ Rp g H ι p.2 q.2
theorem RelKV.val {kvs : List (Key × D)} {vs : List (Key × V)} (r : RelKV g H ι kvs vs) (k : Key) : (∀ d, valK kvs k = some d → ∃ v, valV vs k = some v ∧ Rp g H ι d v) ∧ (valK kvs k = none → valV vs k = none) := by
  unfold RelKV at r
  induction r with
  | nil => exact ⟨fun d h => (by cases h), fun _ => rfl⟩
  | @cons p q ps qs h t ih =>
    rw [valK_cons]
    by_cases e : p.1 = k
    · rw [if_pos e, valV_pos (h.1.trans e)]
      exact ⟨fun d z => (by cases z; exact ⟨_, rfl, h.2⟩), fun z => (by cases z)⟩
    · rw [if_neg e, valV_neg fun z => e (h.1.symm.trans z)]
      exact ih
theorem RelKV.anyK {kvs : List (Key × D)} {vs : List (Key × V)} (r : RelKV g H ι kvs vs) (k : Key) : (kvs.any fun kv => decide (kv.1 = k)) = vs.any fun kv => decide (kv.1 = k) := by
  unfold RelKV at r
  induction r with
  | nil => rfl
  | cons h t ih => rw [List.any_cons, List.any_cons, ih, h.1]
theorem RelKV.put {kvs : List (Key × D)} {vs : List (Key × V)} (r : RelKV g H ι kvs vs) (k : Key) {d : D} {v : V} (rv : Rp g H ι d v) : RelKV g H ι (putA kvs k d) (putK vs k v) := by
  have e := r.anyK k
  unfold putA putK
  rw [← e]
  by_cases h : (kvs.any fun kv => decide (kv.1 = k)) = true
  · rw [if_pos h, if_pos h]
    clear e h
    unfold RelKV at r ⊢
    induction r with
    | nil => exact .nil
    | @cons p q ps qs h t ih =>
      refine .cons ?_ ih
      dsimp only
      by_cases e : p.1 = k
      · rw [if_pos e, if_pos (h.1.trans e)]; exact ⟨h.1, rv⟩
      · rw [if_neg e, if_neg fun z => e (h.1.symm.trans z)]; exact h
  · rw [if_neg h, if_neg h]
    exact Paired.snoc r ⟨rfl, rv⟩
theorem RelKV.merge {more : List (Key × D)} {ms : List (Key × V)} (r : RelKV g H ι more ms) : ∀ {kvs : List (Key × D)} {vs : List (Key × V)}, RelKV g H ι kvs vs → RelKV g H ι (mergeA kvs more) (mergeK vs ms) := by
  unfold RelKV at r
  induction r with
  | nil => intro kvs vs q; exact q
  | @cons p q ps qs h t ih =>
    intro kvs vs r0
    show RelKV g H ι (mergeA (putA kvs p.1 p.2) ps) (mergeK (putK vs q.1 q.2) qs)
    rw [h.1]
    exact ih (r0.put _ h.2)
theorem RelKV.length {kvs : List (Key × D)} {vs : List (Key × V)} (r : RelKV g H ι kvs vs) : kvs.length = vs.length := Paired.length r
theorem RelKV.mono {H' : Hp} {ι' : List Addr} (kp : ∀ a o, H a = some o → Imm o → H' a = some o) (hi : ∀ (n : Nat) (a : Addr), ι[n]? = some a → ι'[n]? = some a) {kvs : List (Key × D)} {vs : List (Key × V)} (r : RelKV g H ι kvs vs) : RelKV g H' ι' kvs vs :=
  Paired.mapP r fun p q z => ⟨z.1, z.2.mono kp hi⟩
theorem Rl.dict {S : Sto} (R : Rl g H ι S) {n : Nat} {kvs : List (Key × D)} {v : V} (h : S[n]? = some (.dk kvs)) (r : Rp g H ι (.ref n) v) : ∃ a vs, v = .ref a ∧ H a = some (.dK vs) ∧ RelKV g H ι kvs vs ∧ ι[n]? = some a := by
  cases r with
  | ref e =>
    obtain ⟨a', e', vs, h1, h2⟩ := R.get h
    rw [e] at e'; cases e'
    exact ⟨_, vs, rfl, h1, h2, e⟩
theorem Rl.wrD {S : Sto} (R : Rl g H ι S) {n : Nat} {kvs ks : List (Key × D)} {a : Addr} {vs us : List (Key × V)} (h : S[n]? = some (.dk kvs)) (ha : ι[n]? = some a) (e : H a = some (.dK vs)) (r : RelKV g H ι ks us) :
    Ex H ι (upd H a (.dK us)) ι ∧ Rl g (upd H a (.dK us)) ι (S.set n (.dk ks)) := by
  refine R.put (u := .dK us) (o' := .dk ks) h ha ⟨us, upd_same, r.mono (fun b o hb i => ?_) fun _ _ z => z⟩
  rw [upd_ne]
  · exact hb
  · rintro rfl; rw [e] at hb; cases hb; exact i
theorem newDict {S : Sto} (R : Rl g H ι S) {p : Addr} (hp : H p = none) {ks : List (Key × D)} {us : List (Key × V)} (r : RelKV g H ι ks us) :
    Ex H ι (upd H p (.dK us)) (ι ++ [p]) ∧ Rl g (upd H p (.dK us)) (ι ++ [p]) (S ++ [.dk ks]) ∧ Rp g (upd H p (.dK us)) (ι ++ [p]) (.ref S.length) (.ref p) := by
  obtain ⟨e2, R2⟩ := R.new hp (u := .dK us) (o := .dk ks) ⟨us, upd_same, r.mono (fun a o h _ => by rw [upd_ne (ne_of_none h hp)]; exact h) fun n a h => by rw [List.getElem?_append_left (List.getElem?_eq_some_iff.mp h).1]; exact h⟩
  exact ⟨e2, R2, .ref (by rw [← R.len]; simp)⟩
end
def atD (S : Sto) (x : D) (k : List (Key × D) → Prop) : Prop := match x with
  | .ref n => (match S[n]? with | some (.dk xs) => k xs | _ => False)
  | _ => False
theorem atD_iff {S : Sto} {x : D} {k : List (Key × D) → Prop} : atD S x k ↔ ∃ n xs, x = .ref n ∧ S[n]? = some (.dk xs) ∧ k xs := by
  unfold atD
  cases x <;> simp
  rename_i n
  cases h : S[n]? with
  | none => simp
  | some o => cases o <;> simp
/-! ### d.get(k), d.get(k, x) -/
def wGet (o a : WE) : WE := fun ρ S Q E => o ρ S (fun x S1 => isDk S1 x ∧ a ρ S1 (fun y S2 => atD S2 x fun kvs => oB (keyOf y) fun k => Q ((valK kvs k).getD .non) S2) E) E
def wGet2 (o a b : WE) : WE := fun ρ S Q E => o ρ S (fun x S1 => isDk S1 x ∧ a ρ S1 (fun y S2 => b ρ S2 (fun z S3 => atD S3 x fun kvs => oB (keyOf y) fun k => Q ((valK kvs k).getD z) S3) E) E) E
section
variable {X : Cx} {W : WX} {k : Nat}
theorem isD_of {g : G} {H : Hp} {ι : List Addr} {S : Sto} {x : D} {v : V} (R : Rl g H ι S) (r : Rp g H ι x v) (h : isDk S x) : ∃ a, v = .ref a ∧ IsD H a := by
  obtain ⟨n, xs, rfl, h⟩ := h
  obtain ⟨a, vs, rfl, e, _⟩ := R.dict h r
  exact ⟨a, rfl, .inl ⟨vs, .inl e⟩⟩
theorem getD_rp {g : G} {H : Hp} {ι : List Addr} {kvs : List (Key × D)} {vs : List (Key × V)} (r : RelKV g H ι kvs vs) (k : Key) {z : D} {u : V} (rz : Rp g H ι z u) : Rp g H ι ((valK kvs k).getD z) ((valV vs k).getD u) := by
  cases e : valK kvs k with
  | none => rw [(r.val k).2 e]; exact rz
  | some d =>
    obtain ⟨v, h1, h2⟩ := (r.val k).1 d e
    rw [h1]; exact h2
theorem e_mt_get {o a : Expr} {wo wa : WE} {apos cpos : Pos} (hr : Room k X.A) (ho : PE X o (liftE (gX X) W wo)) (ha : PE X a (liftE (gX X) W wa)) (m : M1 X o "get" apos a cpos := by exact ⟨rfl, rfl, rfl, rfl⟩) :
    PE X (.Call (.Attribute o "get" apos) [a] [] cpos) (liftE (gX X) W (wGet wo wa)) := by
  refine PE.mono (pe_dget1 (by have := hr.un; omega) ho ha m) fun σ H Q h => ?_
  obtain ⟨ι, S, ρ, q, e, R, r, h, hq, he⟩ := h
  refine ⟨ι, S, ρ, _, e, R, r, h, fun x S1 h1 ι1 H1 v e1 R1 rv => ?_, he⟩
  obtain ⟨a', rfl, d⟩ := isD_of R1 rv h1.1
  refine ⟨a', rfl, d, ι1, S1, ρ, _, e, R1, r.ex R e1, h1.2, fun y S2 h2 ι2 H2 u e2 R2 ru => ?_, fun x S' z => (he x S' z).on e1⟩
  obtain ⟨n, kvs, rfl, hn, h2⟩ := atD_iff.mp h2
  obtain ⟨k, hk, h2⟩ := oB_iff.mp h2
  obtain ⟨b, vs, eb, hb, rr, _⟩ := R2.dict hn (rv.ex R1 e2)
  cases eb
  rw [keyOf_some hk] at ru
  refine ⟨valV vs k, .inl ⟨vs, k, .inl hb, kD_rp ru, rfl⟩, ?_⟩
  exact hq _ _ h2 ι2 H2 _ (e1.trans e2) R2 (getD_rp rr k .non)
theorem e_mt_get2 {o a b : Expr} {wo wa wb : WE} {apos cpos : Pos} (hr : Room k X.A) (ho : PE X o (liftE (gX X) W wo)) (ha : PE X a (liftE (gX X) W wa)) (hb : PE X b (liftE (gX X) W wb)) (m : M2 X o "get" apos a b cpos := by exact ⟨rfl, rfl, rfl, rfl⟩) :
    PE X (.Call (.Attribute o "get" apos) [a, b] [] cpos) (liftE (gX X) W (wGet2 wo wa wb)) := by
  refine PE.mono (pe_dget2 (by have := hr.un; omega) ho ha hb m) fun σ H Q h => ?_
  obtain ⟨ι, S, ρ, q, e, R, r, h, hq, he⟩ := h
  refine ⟨ι, S, ρ, _, e, R, r, h, fun x S1 h1 ι1 H1 v e1 R1 rv => ?_, he⟩
  obtain ⟨a', rfl, d⟩ := isD_of R1 rv h1.1
  refine ⟨a', rfl, d, ι1, S1, ρ, _, e, R1, r.ex R e1, h1.2, fun y S2 h2 ι2 H2 u e2 R2 ru => ?_, fun x S' z => (he x S' z).on e1⟩
  refine ⟨ι2, S2, ρ, _, e, R2, r.ex R (e1.trans e2), h2, fun z S3 h3 ι3 H3 t e3 R3 rt => ?_, fun x S' z => (he x S' z).on (e1.trans e2)⟩
  obtain ⟨n, kvs, rfl, hn, h3⟩ := atD_iff.mp h3
  obtain ⟨k, hk, h3⟩ := oB_iff.mp h3
  obtain ⟨b, vs, eb, hb, rr, _⟩ := R3.dict hn ((rv.ex R1 e2).ex R2 e3)
  cases eb
  rw [keyOf_some hk] at ru
  refine ⟨valV vs k, .inl ⟨vs, k, .inl hb, kD_rp ru, rfl⟩, ?_⟩
  exact hq _ _ h3 ι3 H3 _ ((e1.trans e2).trans e3) R3 (getD_rp rr k rt)
end
/-! ### xs[i] = v, d[k] = v -/
def fPut (S : Sto) (x y d : D) (Q : Sto → Prop) : Prop := match x with
  | .ref n => (match S[n]? with
    | some (.lst xs) => (match y with | .int i => oB (ixN xs.length i) fun j => Q (S.set n (.lst (xs.set j d))) | _ => False)
    | some (.dk kvs) => kvs.length < sizeLine ∧ oB (keyOf y) fun k => Q (S.set n (.dk (putA kvs k d)))
    | _ => False)
  | _ => False
def sPut (o i w : WE) : WS := fun k ρ S => w ρ S (fun d S1 => o ρ S1 (fun x S2 => i ρ S2 (fun y S3 => fPut S3 x y d fun S4 => k.nx ρ S4) (fun x S' => k.ex x ρ S')) (fun x S' => k.ex x ρ S')) (fun x S' => k.ex x ρ S')
def rPutA : TSet := fun o i v H Q => rSetL o i v H Q ∨ rSetD o i v H Q
/-- xs[i] op= v, of a list -/
def atIx (S : Sto) (x y : D) (k : D → Prop) : Prop := match x, y with
  | .ref n, .int j => atN S n fun xs => oB (atI xs j) k
  | _, _ => False
def sAugS (f : F2) (o i w : WE) : WS := fun k ρ S => o ρ S (fun x S1 => i ρ S1 (fun y S2 => atIx S2 x y fun d =>
    w ρ S2 (fun u S3 => f S3 d u fun z S4 => fPut S4 x y z fun S5 => k.nx ρ S5) (fun x S' => k.ex x ρ S')) (fun x S' => k.ex x ρ S')) (fun x S' => k.ex x ρ S')
section
variable {X : Cx} {W : WX} {k : Nat} {g : G}
theorem set_any (hu : X.A.units + 1 < cLine) : PSet X rPutA := by
  intro pins s σ H o i v ov iv u Q I ro ri rv h
  rcases h with h | h
  · exact set_list pins s σ H o i v ov iv u Q I ro ri rv h
  · exact set_dict hu pins s σ H o i v ov iv u Q I ro ri rv h
theorem ok_put {H : Hp} {ι : List Addr} {S : Sto} {x y d : D} {vx vy v : V} {Q : Hp → Prop} {q : Sto → Prop} (R : Rl g H ι S) (rx : Rp g H ι x vx) (ry : Rp g H ι y vy) (rd : Rp g H ι d v) (h : fPut S x y d q)
    (hq : ∀ S', q S' → ∀ H', Ex H ι H' ι → Rl g H' ι S' → Q H') : rPutA vx vy v H Q := by
  unfold fPut at h
  cases rx <;> first | exact False.elim h | skip
  rename_i n a e0
  cases ho : S[n]? with
  | none => simp only [ho] at h
  | some o =>
    simp only [ho] at h
    cases o with
    | lst xs =>
      simp only at h
      cases ry <;> first | exact False.elim h | skip
      rename_i i
      obtain ⟨j, hj, h⟩ := oB_iff.mp h
      obtain ⟨a', vs, e1, e2, r, ea⟩ := R.list ho (.ref e0)
      cases e1
      obtain ⟨e3, R3⟩ := R.wr ho ea e2 (Rps.set rd j r)
      exact .inl ⟨_, vs, i, j, rfl, rfl, e2, by rw [← r.length]; exact hj, hq _ h _ e3 R3⟩
    | dk kvs =>
      simp only at h
      obtain ⟨hz, h⟩ := h
      obtain ⟨k, hk, h⟩ := oB_iff.mp h
      rw [keyOf_some hk] at ry
      obtain ⟨a', vs, e1, e2, r, ea⟩ := R.dict ho (.ref e0)
      cases e1
      obtain ⟨e3, R3⟩ := R.wrD ho ea e2 (r.put k rd)
      exact .inr ⟨_, _, rfl, .inl ⟨vs, k, e2, kD_rp ry, by rw [← r.length]; exact hz, rfl⟩, hq _ h _ e3 R3⟩
    | dt _ => exact False.elim h
    | st _ => exact False.elim h
    | tab _ _ => exact False.elim h
    | off => exact False.elim h
theorem s_put {o i value : Expr} {pos pos' : Pos} {wo wi wv : WE} (hr : Room k X.A) (ho : PE X o (liftE (gX X) W wo)) (hi : PE X i (liftE (gX X) W wi)) (hv : PE X value (liftE (gX X) W wv))
    (ha : ∀ v, assign (.Subscript o i pos') X.env v = (do
      let ov ← holding [v] (eval o X.env)
      let iv ← holding [v, ov] (eval i X.env)
      standAt pos'
      holding [v, ov, iv] (setItem ov iv v)
      release [v, ov, iv] []) := by intro _; rfl)
    (hs : swapsWithSole [.Subscript o i pos'] value pos.line X.env = pure false := by rfl) (hw : swappedStores [.Subscript o i pos'] value X.env = pure none := by rfl)
    (h1 : (assignEach [.Subscript o i pos'] X.env).map (·.2) = [assign (.Subscript o i pos') X.env] := by rfl) :
    PS X (.Assign [.Subscript o i pos'] value pos) (liftS (gX X) W (sPut wo wi wv)) := by
  refine PS.mono (ps_asg hv (pg_sub ho hi (set_any (by have := hr.un; omega)) ha) hs hw h1) fun D σ H h => ?_
  obtain ⟨ι, S, ρ, k, R, r, h, ki⟩ := h
  refine ⟨ι, S, ρ, _, _, R, r, h, fun d S1 h1 ι1 H1 v e1 R1 rv => ?_, fun x S' q => ki.ex x ρ S' q⟩
  refine ⟨ι1, S1, ρ, _, _, R1, r.ex R e1, h1, fun x S2 h2 ι2 H2 vx e2 R2 rx => ?_, fun x S' q => (ki.ex x ρ S' q).on e1⟩
  have e02 := e1.trans e2
  refine ⟨ι2, S2, ρ, _, _, R2, r.ex R e02, h2, fun y S3 h3 ι3 H3 vy e3 R3 ry => ?_, fun x S' q => (ki.ex x ρ S' q).on e02⟩
  have e03 := e02.trans e3
  exact ok_put R3 (rx.ex R2 e3) ry ((rv.ex R1 e2).ex R2 e3) h3 fun S4 h4 H4 e4 R4 => ki.nx _ _ h4 ι3 H4 σ (e03.trans e4) R4 (r.ex R (e03.trans e4))
def rGetL (K : PySem.W.Frag) : V → V → Hp → VK → Prop := fun x y H Q => ∃ p xs i v, x = .ref p ∧ y = .int i ∧ SqL K H p xs ∧ atI xs i = some v ∧ Q v H
theorem get_list : PGet X (rGetL X.K) := by
  intro pins s σ H x y v u Q I rx ry h
  obtain ⟨p, xs, i, z, rfl, rfl, hq, he, q⟩ := h
  cases rx
  obtain ⟨t, rfl⟩ := ry
  obtain ⟨its, r, pl, hz⟩ := I.list hq
  obtain ⟨j, h1, h2, h3, h4, h5⟩ := atI_get he
  obtain ⟨w, ew, rw'⟩ := r.get h2
  have hl := r.length
  have hn := line63
  have fin : EP X pins σ Q w s := ⟨z, H, I, rw', q⟩
  by_cases h0 : 0 ≤ i
  · have hj : i.toNat = j := by
      rw [seqIndex_of h0 h5] at h1
      exact Option.some.inj h1
    exact wpAny_getItem_list pl.isList h0 (by omega) (by rw [hj]; simpa using ew) fin
  · have hj : (i + (its.toArray.size : Int)).toNat = j := by
      rw [seqIndex_neg (by omega) h4] at h1
      rw [List.size_toArray, ← hl]
      exact Option.some.inj h1
    exact wpAny_getItem_list_neg pl.isList (by omega) (by rw [List.size_toArray] <;> omega) (by omega) (by rw [hj]; simpa using ew) fin
theorem s_augS {o i value : Expr} {tpos pos : Pos} {op : Operator} {r : R2} {f : F2} {wo wi wv : WE} (hr : Room k X.A) (ho : PE X o (liftE (gX X) W wo)) (hi : PE X i (liftE (gX X) W wi)) (hv : PE X value (liftE (gX X) W wv)) (hop : OpR X (inplaceOp op) r) (ok : Ok2 (gX X) r f)
    (ha : ∀ ov iv new, augStore i ov iv new = (do holding [new, ov, iv] (setItem ov iv new); release [new, ov, iv] []; pure .next) := by intros; rfl) : PS X (.AugAssign (.Subscript o i tpos) op value pos) (liftS (gX X) W (sAugS f wo wi wv)) := by
  refine PS.mono (ps_augS ho hi get_list hv (tip := r) hop (set_any (by have := hr.un; omega)) ha) fun D σ H h => ?_
  obtain ⟨ι, S, ρ, k, R, rr, h, ki⟩ := h
  refine ⟨ι, S, ρ, _, _, R, rr, h, fun x S1 h1 ι1 H1 vx e1 R1 rx => ?_, fun x S' q => ki.ex x ρ S' q⟩
  refine ⟨ι1, S1, ρ, _, _, R1, rr.ex R e1, h1, fun y S2 h2 ι2 H2 vy e2 R2 ry => ?_, fun x S' q => (ki.ex x ρ S' q).on e1⟩
  have e02 := e1.trans e2
  cases x <;> first | exact False.elim h2 | skip
  rename_i n
  cases y <;> first | exact False.elim h2 | skip
  rename_i j
  obtain ⟨xs, hn, h2⟩ := atN_iff.mp h2
  obtain ⟨d, hd, h2⟩ := oB_iff.mp h2
  obtain ⟨a, vs, e3, e4, rl, ea⟩ := R2.list hn (rx.ex R1 e2)
  cases ry
  obtain ⟨v, hv, rv⟩ := atI_map rl.length (fun j a => rl.get) hd
  refine ⟨a, vs, j, v, e3, rfl, .inl (.inl e4), hv, ?_⟩
  refine ⟨ι2, S2, ρ, _, _, R2, rr.ex R e02, h2, fun u S3 h3 ι3 H3 vu e5 R3 ru => ?_, fun x S' q => (ki.ex x ρ S' q).on e02⟩
  have e03 := e02.trans e5
  refine ok R3 (rv.ex R2 e5) ru h3 fun z S4 h4 ι4 H4 vz e6 R4 rz => ?_
  have e04 := e03.trans e6
  exact ok_put R4 ((rx.ex R1 e2).ex R2 (e5.trans e6)) (.int j) rz h4 fun S5 h5 H5 e7 R5 => ki.nx _ _ h5 ι4 H5 σ (e04.trans e7) R5 (rr.ex R (e04.trans e7))
end
end Zz
set_option Elab.async false
set_option linter.all false
set_option maxRecDepth 100000
namespace Zz
open PySem PySem.Spec PyProof.Rows L2
open Sem (wp)
/-! ### sum(lists, []) -/
theorem args_sum2 (x y : Value) : argsOk "sum" ⟨[x, y], []⟩ := by first | exact PySem.argsOk_of_fast (by kernel_rfl) | decide +kernel | rfl
abbrev lObj (vs : List Value) (m : Nat) : Obj := { cls := .type "list", dict := none, data := .seq vs.toArray m, slots := #[] }
section
variable {prog : Program} {w : World} {A : Around} {R : Result → Shared → Prop} {I ax : Addr} {items : Array Value}
def preL (cs : Nat → List Value) : Nat → List Value
  | 0 => []
  | i + 1 => preL cs i ++ cs i
theorem sum_loop_lists (hh : A.handled = none) (cs : Nat → List Value) (Ls : Nat → Addr) (hval : ∀ (i : Nat) (v : Value), items[i]? = some v → v = .ref (Ls i)) (S : Addr) (hSI : S ≠ I) (hSa : S ≠ ax) (haI : ax ≠ I) (hLw : ∀ i, i < items.size → Ls i ≠ I ∧ Ls i ≠ S) (hz : ∀ i, i ≤ items.size → (preL cs i).length ≤ sizeLine) :
    ∀ (k i : Nat) (s : Shared) (T : Addr) (c m : Nat), items.size - i = k → i ≤ items.size → s.heap.IsListIter I ax i → s.heap.IsList ax items → (∀ j, j < items.size → ∃ m, s.heap.get? (Ls j) = some (lObj (cs j) m)) → s.heap.get? S = some { cls := .type "list", dict := none, data := .seq #[.ref T] c, slots := #[] } →
    s.heap.get? T = some (lObj (preL cs i) m) → T ≠ I → T ≠ S →
    (∀ h' tk T' m', (∀ b o, b ≠ I → b ≠ S → s.heap.get? b = some o → h'.get? b = some o) → h'.get? T' = some (lObj (preL cs items.size) m') → (k = 0 ∧ T' = T) ∨ (0 < k ∧ s.heap.objs.size ≤ T') → R (.ok (.ret (.ref T'))) { s with heap := h', toks := tk }) →
    codeAny (model prog w) A (.builtin "sum.loop" ⟨[.ref I, .ref S, rawInt 2, rawInt 0], []⟩) R s := by
  intro k
  induction k with
  | zero =>
    intro i s T c m hk hi hit hax hLs hS hT hTI hTS hR
    have hin : i = items.size := by omega
    subst hin
    refine codeAny_builtin F.entry_sum_loop ?_
    rw [Around.under_plainId F.plain_sum_loop _]
    show wpAny _ A.in1 (seqItems? (.ref S) >>= _) _ _ s
    refine wpAny_bind (wpAny_seqItems hS rfl ?_)
    show wpAny _ A.in1 (tryCatch (pyNext (.ref I)) _ >>= _) _ _ s
    refine wpAny_bind (wpAny_tryCatch (wpAny_pyNext_list_end (A := A.in1) hh hit hax (by simp) fun h' he' => ?_))
    exact wpAny_pure (hR h' s.toks T m (fun b o hb _ e => he' b o hb e) (he' T _ hTI hT) (.inl ⟨rfl, rfl⟩))
  | succ k ih =>
    intro i s T c m hk hi hit hax hLs hS hT hTI hTS hR
    have hlt : i < items.size := by omega
    refine codeAny_builtin F.entry_sum_loop ?_
    rw [Around.under_plainId F.plain_sum_loop _]
    show wpAny _ A.in1 (seqItems? (.ref S) >>= _) _ _ s
    refine wpAny_bind (wpAny_seqItems hS rfl ?_)
    show wpAny _ A.in1 (tryCatch (pyNext (.ref I)) _ >>= _) _ _ s
    have hx : items[i]? = some (.ref (Ls i)) := by
      have e : items[i]? = some items[i] := by simp [hlt]
      rw [e, hval i _ e]
    refine wpAny_bind (wpAny_tryCatch (wpAny_pyNext_list_item hit hax hx fun h' hit' hs' => ?_))
    have kp : ∀ b o, b ≠ I → s.heap.get? b = some o → h'.get? b = some o := fun b o hb e => hs'.extBut b o hb e
    have hS' := kp S _ hSI hS
    have hT' := kp T _ hTI hT
    obtain ⟨ml, hl⟩ := hLs i hlt
    have hl' := kp (Ls i) _ (hLw i hlt).1 hl
    have hax' : h'.IsList ax items := hax.extBut hs'.extBut haI
    have hsz : (preL cs i).toArray.size + (cs i).toArray.size ≤ sizeLine := by
      have := hz (i + 1) hlt
      simp only [preL, List.length_append] at this
      simpa using this
    show wpAny _ A.in1 ((holding [Value.ref (Ls i)] (binaryOp .Add (.ref T) (.ref (Ls i)))).attempt >>= _) _ _ _
    refine wpAny_bind (wpAny_attempt (wpAny_holding (PySem.P.add_list hT' hl' ?_ hsz)))
    have ea : (preL cs i).toArray ++ (cs i).toArray = (preL cs (i + 1)).toArray := by simp [preL]
    rw [ea]
    show wpAny _ A.in1 (updateSeq S (fun _ => #[Value.ref h'.objs.size]) >>= _) _ _ { s with heap := h'.push (lObj (preL cs (i + 1)) 0) }
    have hSn : S ≠ h'.objs.size := Nat.ne_of_lt (Heap.lt_size hS')
    have hSp : (h'.push (lObj (preL cs (i + 1)) 0)).get? S = some { cls := .type "list", dict := none, data := .seq #[.ref T] c, slots := #[] } := Heap.get?_push_of_some _ hS'
    refine wpAny_bind (wpAny_updateSeq hSp rfl ?_)
    have hS₂ := Heap.get?_update_self (Obj.mapSeq fun _ => #[Value.ref h'.objs.size]) hSp rfl
    refine wpAny_bind (wpAny_letGo ?_)
    refine wpAny_bind (wpAny_updateSeq hS₂ rfl (wpAny_pure ⟨plainId_quiet F.plain_sum_loop _, ?_⟩))
    have other : ∀ b o, b ≠ S → b ≠ I → s.heap.get? b = some o → (((h'.push (lObj (preL cs (i + 1)) 0)).update S (Obj.mapSeq fun _ => #[Value.ref h'.objs.size])).update S (Obj.mapSeq fun _ => #[Value.ref h'.objs.size])).get? b = some o := fun b o hb hbI e =>
      (Heap.get?_update_other _ _ (Ne.symm hb)).trans ((Heap.get?_update_other _ _ (Ne.symm hb)).trans (Heap.get?_push_of_some _ (kp b o hbI e)))
    have hN : (((h'.push (lObj (preL cs (i + 1)) 0)).update S (Obj.mapSeq fun _ => #[Value.ref h'.objs.size])).update S (Obj.mapSeq fun _ => #[Value.ref h'.objs.size])).get? h'.objs.size = some (lObj (preL cs (i + 1)) 0) :=
      (Heap.get?_update_other _ _ hSn).trans ((Heap.get?_update_other _ _ hSn).trans (Heap.get?_push_size _ rfl))
    have hss : s.heap.objs.size = h'.objs.size := hs'.1.symm
    refine ih (i + 1) _ h'.objs.size _ 0 (by omega) hlt (hit'.at fun o e => ?_) (hax'.at fun o e => ?_) (fun j hj => ?_) (Heap.get?_update_self _ hS₂ rfl) hN (Nat.ne_of_gt ?_) (Ne.symm hSn) fun h'' tk T' m' hk'' hT'' hcase => ?_
    · exact (Heap.get?_update_other _ _ hSI).trans ((Heap.get?_update_other _ _ hSI).trans (Heap.get?_push_of_some _ e))
    · exact (Heap.get?_update_other _ _ hSa).trans ((Heap.get?_update_other _ _ hSa).trans (Heap.get?_push_of_some _ e))
    · obtain ⟨mj, ej⟩ := hLs j hj
      exact ⟨mj, other _ _ (hLw j hj).2 (hLw j hj).1 ej⟩
    · obtain ⟨o, e, _⟩ := hit'
      exact Heap.lt_size e
    · refine hR h'' tk T' m' (fun b o hbI hbS e => hk'' b o hbI hbS (other b o hbS hbI e)) hT'' (.inr ⟨Nat.succ_pos _, ?_⟩)
      rcases hcase with ⟨_, rfl⟩ | ⟨_, h2⟩
      · rw [hss]; exact Nat.le_refl _
      · rw [hss]
        refine Nat.le_trans ?_ h2
        show h'.objs.size ≤ (((h'.push (lObj (preL cs (i + 1)) 0)).update S _).update S _).objs.size
        rw [Heap.size_update, Heap.size_update, Heap.size_push]
        exact Nat.le_succ _
end
theorem sub_list_bytearray' : isSubtype (.type "list") (.type "bytearray") = pure false := by rw [isSubtype_type]; kernel_rfl
section
variable {prog : Program} {w : World} {A : Around} {E : Value → Shared → Prop} {s : Shared}
theorem call_sum_lists {l T0 : Addr} {items : Array Value} {m0 : Nat} {Q : Value → Shared → Prop} (hh : A.handled = none) (cs : Nat → List Value) (Ls : Nat → Addr) (hl : s.heap.IsList l items) (hval : ∀ (i : Nat) (v : Value), items[i]? = some v → v = .ref (Ls i))
    (hLs : ∀ j, j < items.size → ∃ m, s.heap.get? (Ls j) = some (lObj (cs j) m)) (hz : ∀ i, i ≤ items.size → (preL cs i).length ≤ sizeLine) (hT : s.heap.get? T0 = some (lObj [] m0))
    (hQ : ∀ h' tk T' m', (∀ b o, s.heap.get? b = some o → h'.get? b = some o) → h'.get? T' = some (lObj (preL cs items.size) m') → (items.size = 0 ∧ T' = T0) ∨ (0 < items.size ∧ s.heap.objs.size ≤ T') → Q (.ref T') { s with heap := h', toks := tk }) :
    wpAny (model prog w) A (call (.builtin "sum") [.ref l, .ref T0]) Q E s := by
  refine call_function_tree F.kind_sum F.plain_sum F.entry_sum (args_sum2 _ _) ?_
  unfold Builtin.«sum»
  simp only [List.length_cons, List.length_nil]
  rw [if_neg (by decide)]
  refine wpAny_bind (wpAny_of_eq (show Builtin.Builtins.bindParams "sum" ["start"] 0 ⟨[.ref T0], []⟩ = pure [some (.ref T0)] from rfl) ?_)
  have hlt : l < s.heap.objs.size := by obtain ⟨_, e, _⟩ := hl; exact Heap.lt_size e
  refine wpAny_bind (wpAny_pyIter_list hl ?_)
  generalize hI : s.heap.objs.size = I at hlt hQ ⊢
  refine wpAny_bind (wpAny_pure ?_)
  have tyL : ∀ h' : Heap, (∀ o, s.heap.get? T0 = some o → h'.get? T0 = some o) → ∀ s' : Shared, s'.heap = h' → s'.TypeIs (.ref T0) "list" := fun h' k s' e => ⟨_, by rw [e]; exact k _ hT, rfl⟩
  simp only [List.forIn_cons, List.forIn_nil]
  have t1 : (⟨s.heap.push { cls := .type "list_iterator", data := .fields #[.ref l, .int 0 0] }, s.gens, s.drawn, s.toks, s.os⟩ : Shared).TypeIs (.ref T0) "list" := ⟨_, Heap.get?_push_of_some _ hT, rfl⟩
  refine wpAny_bind (wpAny_bind (wpAny_bind (wpAny_isInstance (T := "list") (b := false) t1 F.sub_list_str ?_)))
  simp only [Bool.false_eq_true, if_false]
  refine wpAny_pure (wpAny_bind (wpAny_bind (wpAny_isInstance (T := "list") (b := false) t1 F.sub_list_bytes ?_)))
  simp only [Bool.false_eq_true, if_false]
  refine wpAny_pure (wpAny_bind (wpAny_bind (wpAny_isInstance (T := "list") (b := false) t1 sub_list_bytearray' ?_)))
  simp only [Bool.false_eq_true, if_false]
  refine wpAny_pure (wpAny_pure ?_)
  refine wpAny_bind (wpAny_newObj_type ?_)
  have szI : (s.heap.push { cls := .type "list_iterator", data := .fields #[.ref l, .int 0 0] }).objs.size = I + 1 := by rw [Heap.size_push, hI]
  have k1 : ∀ b o, s.heap.get? b = some o → ((s.heap.push { cls := .type "list_iterator", data := .fields #[.ref l, .int 0 0] }).push { cls := .type "list", data := .seq #[.ref T0] }).get? b = some o := fun b o e => Heap.get?_push_of_some _ (Heap.get?_push_of_some _ e)
  have nI : ∀ b o, s.heap.get? b = some o → b ≠ I := fun b o e => by rw [← hI]; exact Nat.ne_of_lt (Heap.lt_size e)
  have nS : ∀ b o, s.heap.get? b = some o → b ≠ I + 1 := fun b o e => by
    have := Heap.lt_size e
    rw [hI] at this
    exact Nat.ne_of_lt (Nat.lt_succ_of_lt this)
  rw [szI]
  refine wpAny_pure ⟨plainId_quiet F.plain_sum_loop _, sum_loop_lists (I := I) (ax := l) (items := items) hh cs Ls hval (I + 1) (Nat.succ_ne_self _) (Nat.ne_of_gt (Nat.lt_succ_of_lt hlt)) (Nat.ne_of_lt hlt) (fun i hi => ?_) hz items.size 0 _ T0 0 m0 rfl (Nat.zero_le _) ?_ ?_ (fun j hj => ?_) ?_ ?_ ?_ ?_ fun h' tk T' m' hk hT' hc => ?_⟩
  · obtain ⟨m, e⟩ := hLs i hi
    exact ⟨nI _ _ e, nS _ _ e⟩
  · exact ⟨_, Heap.get?_push_of_some _ (by rw [← hI]; exact Heap.get?_push_size _ rfl), rfl, rfl⟩
  · exact (hl.push _).push _
  · obtain ⟨m, e⟩ := hLs j hj
    exact ⟨m, k1 _ _ e⟩
  · have e := Heap.get?_push_size (h := s.heap.push { cls := .type "list_iterator", data := .fields #[.ref l, .int 0 0] }) (o := { cls := .type "list", data := .seq #[.ref T0] }) 
    rw [szI] at e
    first | exact e rfl | exact e
  · exact k1 _ _ hT
  · exact nI _ _ hT
  · exact nS _ _ hT
  · refine hQ h' tk T' m' (fun b o e => hk b o (nI b o e) (nS b o e) (k1 b o e)) hT' ?_
    rcases hc with h | ⟨h1, h2⟩
    · exact .inl h
    · refine .inr ⟨h1, Nat.le_trans ?_ h2⟩
      show I ≤ ((s.heap.push _).push _).objs.size
      rw [Heap.size_push, Heap.size_push, hI]
      omega
end
end Zz
set_option Elab.async false
set_option linter.all false
set_option maxRecDepth 100000
namespace Zz
open PySem PySem.Spec PyProof.Rows L2
/-! ### sum(lists, []) by values -/
def listsD (S : Sto) : List D → Option (List (List D))
  | [] => some []
  | .ref n :: r => (match S[n]? with | some (.lst xs) => (listsD S r).map (xs :: ·) | _ => none)
  | _ :: _ => none
def fSum2 : FA := fun S xs Q => match xs with
  | [.ref n, .ref m] => atN S n fun ls => atN S m fun st => st = [] ∧ oB (listsD S ls) fun cs => cs.flatten.length ≤ sizeLine ∧ if ls = [] then Q (.ref m) S else Q (.ref S.length) (S ++ [.lst cs.flatten])
  | _ => False
def rSum2 (K : PySem.W.Frag) : List V → Hp → VK → Prop := fun vs H Q => ∃ (a b : Addr) (ps : List Addr) (cs : List (List V)), vs = [.ref a, .ref b] ∧ H a = some (.lst (ps.map V.ref)) ∧ H b = some (.lst []) ∧
  Paired (fun p c => H p = some (.lst c)) ps cs ∧ cs.flatten.length ≤ sizeLine ∧ if ps = [] then Q (.ref b) H else ∀ p, H p = none → Q (.ref p) (upd H p (.lst cs.flatten))
theorem preL_flat (cs : List (List Value)) : ∀ i, i ≤ cs.length → preL (fun j => cs.getD j []) i = (cs.take i).flatten
  | 0, _ => by simp [preL]
  | i + 1, h => by
    have hi : i < cs.length := h
    have e : cs.take (i + 1) = cs.take i ++ [cs[i]] := by rw [List.take_add_one, List.getElem?_eq_getElem hi]; rfl
    rw [preL, preL_flat cs i (Nat.le_of_lt h), e, List.flatten_append, List.flatten_singleton, List.getD_eq_getElem?_getD, List.getElem?_eq_getElem hi]
    rfl
section
variable {X : Cx} {k : Nat}
theorem lists_of {pins : List (Addr × Obj)} {σ : L2.St} {H : Hp} {s : Shared} (I : Inv X pins σ H s) : ∀ {ps : List Addr} {cs : List (List V)}, Paired (fun p c => H p = some (.lst c)) ps cs →
    ∃ us : List (List Value), Paired Vals cs us ∧ ∀ (j : Nat) p, ps[j]? = some p → ∃ m, s.heap.get? p = some (lObj (us.getD j []) m)
  | _, _, .nil => ⟨[], .nil, fun j p e => by simp at e⟩
  | _, _, .cons (a := p) h t => by
    obtain ⟨us, r, f⟩ := lists_of I t
    obtain ⟨_, its, n, rv, _, e⟩ := I.lstM h
    refine ⟨its :: us, .cons rv r, fun j q e2 => ?_⟩
    cases j with
    | zero => cases e2; exact ⟨n, e⟩
    | succ j => exact f j q (by simpa using e2)
theorem flat_vals : ∀ {cs : List (List V)} {us : List (List Value)}, Paired Vals cs us → Vals cs.flatten us.flatten
  | _, _, .nil => .nil
  | _, _, .cons h t => Vals.append h (flat_vals t)
theorem paired_len {α β : Type} {F : α → β → Prop} {l : List α} {m : List β} (h : Paired F l m) : l.length = m.length := Paired.length h
theorem cr_sum2 (hr : Room k X.A) : CallR X (.builtin "sum") (rSum2 X.K) := by
  intro pins s σ H vs us Q I r h
  obtain ⟨a, b, ps, cs, rfl, ha, hb, hp, hz, q⟩ := h
  obtain ⟨u1, u2, rfl, r1, r2⟩ := r.two
  cases r1
  cases r2
  obtain ⟨za, its, na, ra, la, ea⟩ := I.lstM ha
  obtain ⟨_, itb, nb, rb, _, eb⟩ := I.lstM hb
  cases rb
  have ei := refs_at ra
  subst ei
  obtain ⟨us, ru, fu⟩ := lists_of I hp
  have lu : us.length = ps.length := by rw [← paired_len ru, ← paired_len hp]
  have hsz : ((ps.map Value.ref).toArray).size = ps.length := by simp
  have flen : us.flatten.length = cs.flatten.length := (flat_vals ru).length.symm
  refine call_sum_lists (items := (ps.map Value.ref).toArray) hr.hd (fun j => us.getD j []) (fun j => ps.getD j 0) ⟨_, ea, rfl, _, rfl⟩ (fun i v e => ?_) (fun j hj => ?_) (fun i hi => ?_) eb fun h' tk T' m' kp hT hc => ?_
  · simp only [List.getElem?_toArray, List.getElem?_map] at e
    obtain ⟨p, e1, e2⟩ := Option.map_eq_some_iff.mp e
    rw [← e2, List.getD_eq_getElem?_getD, e1]; rfl
  · rw [hsz] at hj
    have e1 : ps[j]? = some (ps.getD j 0) := by rw [List.getD_eq_getElem?_getD, List.getElem?_eq_getElem hj]; rfl
    exact fu j _ e1
  · rw [hsz] at hi
    rw [preL_flat us i (by omega)]
    have : (us.take i).flatten.length ≤ us.flatten.length := by
      have e : us.flatten = (us.take i).flatten ++ (us.drop i).flatten := by rw [← List.flatten_append, List.take_append_drop]
      rw [e, List.length_append]
      omega
    omega
  · rw [hsz] at hT hc
    rw [preL_flat us ps.length (by omega), ← lu, List.take_length] at hT
    by_cases hn : ps = []
    · subst hn
      rw [if_pos rfl] at q
      rcases hc with ⟨_, rfl⟩ | ⟨h0, _⟩
      · exact ⟨.ref T', H, I.kept kp, rfl, q⟩
      · exact absurd h0 (by simp)
    · rw [if_neg hn] at q
      rcases hc with ⟨h0, _⟩ | ⟨_, h0⟩
      · exact absurd (List.length_eq_zero_iff.mp h0) hn
      · exact ⟨.ref T', _, I.laid (t' := tk) kp h0 (show ObjOk X.prog X.w _ _ _ (.lst cs.flatten) from ⟨hz, us.flatten, m', flat_vals ru, hT⟩), rfl, q T' (I.hok.fresh h0)⟩
end
section
variable {g : G}
theorem lists_rp {H : Hp} {ι : List Addr} {S : Sto} (R : Rl g H ι S) : ∀ {ls : List D} {vs : List V} {cs : List (List D)}, Rps g H ι ls vs → listsD S ls = some cs →
    ∃ ps ws, vs = ps.map V.ref ∧ Paired (fun p c => H p = some (.lst c)) ps ws ∧ Paired (fun c w => Rps g H ι c w) cs ws
  | _, _, _, .nil, h => by cases h; exact ⟨[], [], rfl, .nil, .nil⟩
  | _, _, cs, .cons (d := d) r t, h => by
    cases d <;> first | (cases h; done) | skip
    rename_i n
    rw [listsD] at h
    cases ho : S[n]? with
    | none => rw [ho] at h; cases h
    | some o =>
      rw [ho] at h
      cases o <;> first | (cases h; done) | skip
      rename_i xs
      obtain ⟨cs', e, rfl⟩ := Option.map_eq_some_iff.mp h
      obtain ⟨ps, ws, rfl, p1, p2⟩ := lists_rp R t e
      obtain ⟨a, ws1, rfl, e1, r1, _⟩ := R.list ho r
      exact ⟨a :: ps, ws1 :: ws, rfl, .cons e1 p1, .cons r1 p2⟩
theorem flat_rps {H : Hp} {ι : List Addr} : ∀ {cs : List (List D)} {ws : List (List V)}, Paired (fun c w => Rps g H ι c w) cs ws → Rps g H ι cs.flatten ws.flatten
  | _, _, .nil => .nil
  | _, _, .cons h t => h.app (flat_rps t)
theorem ok_sum2 : OkA g (rSum2 g.K) fSum2 := by
  intro H ι S xs vs Q q R r hf hq
  match xs, r, hf with
  | [.ref n, .ref m], r, hf =>
    obtain ⟨v, u, rfl, r1, r2⟩ := r.two'
    obtain ⟨ls, h1, hf⟩ := atN_iff.mp hf
    obtain ⟨st, h2, rfl, hf⟩ := atN_iff.mp hf
    obtain ⟨cs, h3, h4, h5⟩ := oB_iff.mp hf
    obtain ⟨a, vs, rfl, e1, rl, _⟩ := R.list h1 r1
    obtain ⟨b, us, rfl, e2, rb, _⟩ := R.list h2 r2
    cases rb
    obtain ⟨ps, ws, rfl, p1, p2⟩ := lists_rp R rl h3
    have fl := flat_rps p2
    refine ⟨a, b, ps, ws, rfl, e1, e2, p1, by rw [← fl.length]; exact h4, ?_⟩
    have lp : ls.length = ps.length := by rw [rl.length, List.length_map]
    by_cases hn : ls = []
    · subst hn
      have : ps = [] := List.length_eq_zero_iff.mp (by simpa using lp.symm)
      subst this
      rw [if_pos rfl] at h5 ⊢
      exact (hq _ _ h5).here R r2
    · rw [if_neg hn] at h5
      rw [if_neg fun z => hn (List.length_eq_zero_iff.mp (by rw [lp, z]; rfl))]
      intro p hp
      obtain ⟨e3, R3, rp⟩ := newList R hp fl
      exact hq _ _ h5 _ _ _ e3 R3 rp
end
/-! ### dict(pairs) -/
def pairsD : List D → Option (List (Key × D))
  | [] => some []
  | .tup [k, v] :: r => (keyOf k).bind fun k' => (pairsD r).map fun t => (k', v) :: t
  | _ => none
def fDict : F1 := fun S x Q => atSq S x fun xs => xs.length ≤ sizeLine ∧ oB (pairsD xs) fun kvs => Q (.ref S.length) (S ++ [.dk (mergeA [] kvs)])
def rDictA (K : PySem.W.Frag) : List V → Hp → VK → Prop := fun xs H Q => ∃ (a : Addr) (ps : List Addr) (kvs : List (Key × V)), xs = [.ref a] ∧ (SqL K H a (ps.map V.ref) ∨ TupO K H a (ps.map V.ref)) ∧ Paired (fun p kv => SqT K H p [kV kv.1, kv.2]) ps kvs ∧
    ∀ p, H p = none → Q (.ref p) (upd H p (.dK (mergeK [] kvs)))
section
variable {X : Cx} {k : Nat}
theorem tup_plain {pins : List (Addr × Obj)} {σ : L2.St} {H : Hp} {s : Shared} {a : Addr} {xs : List V} (I : Inv X pins σ H s) (h : TupO X.K H a xs) : ∃ its : List Value, Vals xs its ∧ PlainSeq "tuple" s.heap a its.toArray ∧ xs.length ≤ sizeLine := by
  rcases h with ⟨o, h, hd⟩ | ⟨o, its, n, hk, hc, hd, hs, hz, r⟩
  · obtain ⟨e, z, its, r, o', e', c, n, dt⟩ := I.hok a _ h
    rw [e] at e'; cases e'
    exact ⟨its, r, ⟨o, n, e, c, hd, dt⟩, z⟩
  · refine ⟨its.toList, r, ⟨o, n, I.kIn a o hk, hc, hd, by simpa using hs⟩, ?_⟩
    have e := r.length
    simp only [Array.length_toList] at e
    omega
theorem pair_keys (P : Program) (w : World) : ∀ {prs : List (Key × Value)} {ps : List Addr} {h : Heap}, (∀ (j : Nat) (q : Key × Value), prs[j]? = some q → ∃ (b : Addr) (u : Value), ps[j]? = some b ∧ IsTup h b #[u, q.2] ∧ keyIs q.1 u = true) →
    ∃ us : Nat → Value, ∀ (j : Nat) (q : Key × Value), prs[j]? = some q → ∃ b, ps[j]? = some b ∧ IsTup h b #[us j, q.2] ∧ keyIs q.1 (us j) = true := by
  intro prs ps h hp
  refine ⟨fun j => open Classical in if e : ∃ (b : Addr) (u : Value) (q : Key × Value), prs[j]? = some q ∧ ps[j]? = some b ∧ IsTup h b #[u, q.2] ∧ keyIs q.1 u = true then e.choose_spec.choose else .none, fun j q e => ?_⟩
  obtain ⟨b, u, h1, h2, h3⟩ := hp j q e
  have ex : ∃ (b : Addr) (u : Value) (q : Key × Value), prs[j]? = some q ∧ ps[j]? = some b ∧ IsTup h b #[u, q.2] ∧ keyIs q.1 u = true := ⟨b, u, q, e, h1, h2, h3⟩
  obtain ⟨q', h4, h5, h6, h7⟩ := ex.choose_spec.choose_spec
  rw [e] at h4; cases h4
  simp only [dif_pos ex]
  exact ⟨_, h5, h6, h7⟩
theorem cr_dict (hr : Room k X.A) (hc : X.calm = true) : CallR X (.type "dict") (rDictA X.K) := by
  intro pins s σ H xs us Q I r q
  obtain ⟨a, ps, kvs, rfl, hq, hp, q⟩ := q
  rcases hq with hq | hq
  · exact call_dictP hc pins s σ H _ us Q I r ⟨a, ps, kvs, rfl, hq, hp, q⟩
  · rw [Vals.ref1 r]
    obtain ⟨its, rv, pl, hz⟩ := tup_plain I hq
    have ei := refs_at rv
    subst ei
    rw [List.length_map] at hz
    obtain ⟨prs, rel, hl, hpr⟩ := pairs_of I hp
    obtain ⟨ks, hks⟩ := pair_keys X.prog X.w hpr
    have hpl : ((List.range prs.length).map fun j => (ks j, (prs.getD j (.inl 0, .none)).2)).length = prs.length := by simp
    have at' : ∀ j (key v : Value), ((List.range prs.length).map fun j => (ks j, (prs.getD j (.inl 0, .none)).2))[j]? = some (key, v) → ∃ q, prs[j]? = some q ∧ key = ks j ∧ v = q.2 := fun j key v e => by
      rw [List.getElem?_map] at e
      obtain ⟨i, e1, e2⟩ := Option.map_eq_some_iff.mp e
      have hj : j < prs.length := by
        have := (List.getElem?_eq_some_iff.mp e1).1
        simpa using this
      have : i = j := by rw [List.getElem?_range hj] at e1; exact (Option.some.inj e1).symm
      subst this
      refine ⟨prs[i], List.getElem?_eq_getElem hj, (congrArg Prod.fst e2).symm, ?_⟩
      have := (congrArg Prod.snd e2).symm
      simp only [List.getD_eq_getElem?_getD, List.getElem?_eq_getElem hj] at this
      exact this
    refine _root_.PySem.call_dict_pairs (knd := mixKind X.prog X.w) (kvs := prs) (PairArg.tuple a (ps.map Value.ref).toArray (fun j => ps.getD j 0) ((List.range prs.length).map fun j => (ks j, (prs.getD j (.inl 0, .none)).2))) hr.hd
      ⟨pl, by simp [hl], fun j key v e => ?_⟩ ⟨by rw [hpl], fun i key v e => ?_⟩ (by rw [hpl, hl]; exact hz) fun h' tk hd' kp => ?_
    · obtain ⟨q, e1, rfl, rfl⟩ := at' j key v e
      obtain ⟨b, e2, e3, _⟩ := hks j q e1
      have e5 : ps.getD j 0 = b := by rw [List.getD_eq_getElem?_getD, e2]; rfl
      exact ⟨by simp [e2, e5], .inl (by show IsTup s.heap (ps.getD j 0) _; rw [e5]; exact e3)⟩
    · obtain ⟨q, e1, rfl, rfl⟩ := at' i key v e
      obtain ⟨b, e2, e3, e4⟩ := hks i q e1
      exact ⟨q.1, e1, e4⟩
    · have hm : (s.heap.objs.size == sysModules) = false := beq_eq_false_iff_ne.mpr (Nat.ne_of_gt I.big)
      have hlen : (mergeK [] kvs).length ≤ sizeLine := by
        refine Nat.le_trans (length_mergeK kvs []) ?_
        rw [List.length_nil, Nat.zero_add, rel.length, hl]
        exact hz
      exact ⟨.ref s.heap.objs.size, upd H s.heap.objs.size (.dK (mergeK [] kvs)), I.laid (t' := tk) (fun b o e => kp b o (by simp) e) (Nat.le_refl _) (show ObjOk X.prog X.w _ _ _ (.dK (mergeK [] kvs)) from ⟨hlen, hm, merged [] prs, KV.merge rel .nil, hd'⟩), rfl, q _ (I.hok.fresh (Nat.le_refl _))⟩
end
section
variable {g : G}
theorem pairs_rp {H : Hp} {ι : List Addr} : ∀ {xs : List D} {vs : List V} {kvs : List (Key × D)}, Rps g H ι xs vs → pairsD xs = some kvs →
    ∃ ps ws, vs = ps.map V.ref ∧ Paired (fun p kv => SqT g.K H p [kV kv.1, kv.2]) ps ws ∧ RelKV g H ι kvs ws
  | [], _, _, .nil, h => by cases h; exact ⟨[], [], rfl, .nil, .nil⟩
  | .tup [k, v] :: xs, _, kvs, .cons r t, h => by
    simp only [pairsD, Option.bind_eq_some_iff, Option.map_eq_some_iff] at h
    obtain ⟨k', hk, kvs', e, rfl⟩ := h
    obtain ⟨ps, ws, rfl, p1, p2⟩ := pairs_rp t e
    cases r with
    | tup s r =>
      obtain ⟨x, y, rfl, r1, r2⟩ := r.two'
      rw [keyOf_some hk] at r1
      have := kD_rp r1
      subst this
      exact ⟨_ :: ps, (k', y) :: ws, rfl, .cons s.sq p1, .cons ⟨rfl, r2⟩ p2⟩
theorem ok_dict : OkA g (rDictA g.K) (fA1 fDict) := by
  intro H ι S xs vs Q q R r hf hq
  match xs, r, hf with
  | [x], r, hf =>
    obtain ⟨v, rfl, r1⟩ := r.one
    have fin : ∀ {a : Addr} {ds : List D} {ws : List V}, (SqL g.K H a ws ∨ TupO g.K H a ws) → Rps g H ι ds ws → (ds.length ≤ sizeLine ∧ oB (pairsD ds) fun kvs => q (.ref S.length) (S ++ [.dk (mergeA [] kvs)])) → rDictA g.K [.ref a] H Q := fun {a ds ws} hs rd hk => by
      obtain ⟨_, hk⟩ := hk
      obtain ⟨kvs, h1, h2⟩ := oB_iff.mp hk
      obtain ⟨ps, vs, rfl, p1, p2⟩ := pairs_rp rd h1
      refine ⟨a, ps, vs, rfl, hs, p1, fun p hp => ?_⟩
      obtain ⟨e3, R3, rp⟩ := newDict R hp (p2.merge (kvs := []) (vs := []) .nil)
      exact hq _ _ h2 _ _ _ e3 R3 rp
    cases r1 with
    | tup s r2 => exact fin (.inr s) r2 hf
    | rol s r2 => exact fin (.inl s.sq) r2 hf
    | @ref n a e0 =>
      obtain ⟨n', ds, e1, e2, hf⟩ := atL_iff.mp (show atL S (.ref n) _ from hf)
      cases e1
      obtain ⟨a', ws, e3, e4, rl, _⟩ := R.list e2 (.ref e0)
      cases e3
      exact fin (.inl (.inl (.inl e4))) rl hf
    | _ => exact False.elim hf
end
end Zz
set_option Elab.async false
set_option linter.all false
set_option maxRecDepth 100000
namespace Zz
open PySem PySem.Spec PyProof.Rows L2
/-! ### x in y, x not in y -/
def bz (b r : Bool) : Bool := if b = true then r else !r
def fInSq (b : Bool) (S : Sto) (x : D) (ys : List D) (Q : QD) : Prop := ∃ p qs, Sn S x p ∧ Sns S ys qs ∧ SeqAt.shaped p = true ∧ PyData.canLayAll0 qs = true ∧ Q (.bl (bz b (anyEq p qs))) S
def fInB (b : Bool) : F2 := fun S x y Q => match y with
  | .str z => ∃ k, x = .str ⟨#[k]⟩ ∧ Q (.bl (bz b (decide (k ∈ z.cps.toList)))) S
  | .tup ys => fInSq b S x ys Q
  | .rol ys => fInSq b S x ys Q
  | .ref n => (match S[n]? with
    | some (.lst ys) => fInSq b S x ys Q
    | some (.dk kvs) => oB (keyOf x) fun k => Q (.bl (bz b (valK kvs k).isSome)) S
    | _ => False)
  | _ => False
abbrev fInA : F2 := fInB true
abbrev fNotInA : F2 := fInB false
def rInT (K : PySem.W.Frag) (b : Bool) : R2 := fun x y H Q => ∃ d ds, Dp K H x d ∧ (Dp K H y (.tuple ds) ∨ Dp K H y (.list ds)) ∧ SeqAt.shaped d = true ∧ PyData.canLayAll0 ds = true ∧ Q (.bl (bz b (anyEq d ds))) H
def rInSg (b : Bool) : R2 := fun x y H Q => ∃ (c : Nat) (z : Str), x = .str ⟨#[c]⟩ ∧ y = .str z ∧ Q (.bl (bz b (decide (c ∈ z.cps.toList)))) H
def rInK (b : Bool) : R2 := fun x y H Q => ∃ (a : Addr) (kvs : List (Key × V)) (k : Key), y = .ref a ∧ H a = some (.dK kvs) ∧ x = kV k ∧ Q (.bl (bz b (valV kvs k).isSome)) H
def rInA (K : PySem.W.Frag) (b : Bool) : R2 := fun x y H Q => rInSg b x y H Q ∨ (rInT K b x y H Q ∨ rInK b x y H Q)
section
variable {X : Cx} {k : Nat}
theorem or_in (hr : Room k X.A) : OpR X (compareOp .In) (rInA X.K true) := by
  refine OpR.or op_in_sign (OpR.or ?_ ?_)
  · intro pins s σ H x y v u Q I rx ry h
    obtain ⟨d, ds, hd, he, sd, se, q⟩ := h
    obtain ⟨as, r1⟩ := Dp.reads I d x v hd rx
    have hu := hr.un
    rcases he with he | he
    · obtain ⟨bs, r2⟩ := Dp.reads I (.tuple ds) y u he ry
      exact SeqAt.in_tuple_reads r2 r1 se (SeqAt.canLay_of_shaped sd) (room_in_shaped sd (by omega)) ⟨.bl _, H, I, rfl, q⟩
    · obtain ⟨bs, r2⟩ := Dp.reads I (.list ds) y u he ry
      exact SeqAt.in_list_reads r2 r1 se (SeqAt.canLay_of_shaped sd) (room_in_shaped sd (by omega)) ⟨.bl _, H, I, rfl, q⟩
  · intro pins s σ H x y v u Q I rx ry h
    obtain ⟨a, kvs, k, rfl, ha, rfl, q⟩ := h
    cases ry
    exact d_in (by have := hr.un; omega) I (.inl ⟨kvs, k, .inl ha, rfl, rfl⟩) rx fun s' I' => ⟨.bl _, H, I', rfl, q⟩
theorem or_notIn (hr : Room k X.A) : OpR X (compareOp .NotIn) (rInA X.K false) := by
  refine OpR.or op_notIn_sign (OpR.or ?_ ?_)
  · intro pins s σ H x y v u Q I rx ry h
    obtain ⟨d, ds, hd, he, sd, se, q⟩ := h
    obtain ⟨as, r1⟩ := Dp.reads I d x v hd rx
    have hu := hr.un
    rcases he with he | he
    · obtain ⟨bs, r2⟩ := Dp.reads I (.tuple ds) y u he ry
      exact SeqAt.notIn_tuple_reads r2 r1 se (SeqAt.canLay_of_shaped sd) (room_in_shaped sd (by omega)) ⟨.bl _, H, I, rfl, q⟩
    · obtain ⟨bs, r2⟩ := Dp.reads I (.list ds) y u he ry
      exact SeqAt.notIn_list_reads r2 r1 se (SeqAt.canLay_of_shaped sd) (room_in_shaped sd (by omega)) ⟨.bl _, H, I, rfl, q⟩
  · intro pins s σ H x y v u Q I rx ry h
    obtain ⟨a, kvs, k, rfl, ha, rfl, q⟩ := h
    cases ry
    exact d_notIn (by have := hr.un; omega) I (.inl ⟨kvs, k, .inl ha, rfl, rfl⟩) rx fun s' I' => ⟨.bl _, H, I', rfl, q⟩
end
section
variable {g : G}
theorem ok_inB {b : Bool} : Ok2 g (rInA g.K b) (fInB b) := by
  intro H ι S x y v u Q q R rx ry hf hq
  have seq : ∀ {ys : List D} {us : List V} {a : Addr}, (SqT g.K H a us ∨ SqL g.K H a us) → Rps g H ι ys us → fInSq b S x ys q → rInA g.K b v (.ref a) H Q := fun {ys us a} hs r h => by
    obtain ⟨p, qs, h1, h2, s1, s2, z⟩ := h
    refine .inr (.inl ⟨p, qs, h1.dp R rx, ?_, s1, s2, (hq _ _ z).here R (.bl _)⟩)
    rcases hs with hs | hs
    · exact .inl (.tup hs (h2.dp R r))
    · exact .inr (.lst hs (h2.dp R r))
  cases ry with
  | str z =>
    obtain ⟨k, rfl, hf⟩ := hf
    cases rx
    exact .inl ⟨k, z, rfl, rfl, (hq _ _ hf).here R (.bl _)⟩
  | tup s r => exact seq (.inl s.sq) r hf
  | rol s r => exact seq (.inr s.sq) r hf
  | @ref n a e0 =>
    simp only [fInB] at hf
    cases ho : S[n]? with
    | none => simp only [ho] at hf
    | some o =>
      simp only [ho] at hf
      cases o with
      | lst ys =>
        obtain ⟨a', us, e1, e2, r, _⟩ := R.list ho (.ref e0)
        cases e1
        exact seq (.inr (.inl (.inl e2))) r hf
      | dk kvs =>
        obtain ⟨k, hk, hf⟩ := oB_iff.mp hf
        obtain ⟨a', us, e1, e2, r, _⟩ := R.dict ho (.ref e0)
        cases e1
        rw [keyOf_some hk] at rx
        refine .inr (.inr ⟨a, us, k, rfl, e2, kD_rp rx, ?_⟩)
        have e : (valV us k).isSome = (valK kvs k).isSome := by
          cases e : valK kvs k with
          | none => rw [(r.val k).2 e]; rfl
          | some d =>
            obtain ⟨w, h1, _⟩ := (r.val k).1 d e
            rw [h1]; rfl
        rw [e]
        exact (hq _ _ hf).here R (.bl _)
      | dt _ => exact False.elim hf
      | st _ => exact False.elim hf
      | tab _ _ => exact False.elim hf
      | off => exact False.elim hf
  | _ => exact False.elim hf
theorem ok_inA : Ok2 g (rInA g.K true) fInA := ok_inB
theorem ok_notInA : Ok2 g (rInA g.K false) fNotInA := ok_inB
end
/-! ### < of data -/
def fCmpD (f : PyData → PyData → Bool) : F2 := fun S x y Q => ∃ p q, Sn S x p ∧ Sn S y q ∧ PySem.W.alike p q = true ∧ p ≠ .none ∧ p.depth ≤ 64 ∧ Q (.bl (f p q)) S
def fLt : F2 := fCmpD PySem.W.dataLt
def fGt : F2 := fCmpD fun p q => PySem.W.dataLt q p
def fLe : F2 := fCmpD fun p q => !PySem.W.dataLt q p
def fGe : F2 := fCmpD fun p q => !PySem.W.dataLt p q
def rCmpD (K : PySem.W.Frag) (f : PyData → PyData → Bool) : R2 := fun x y H Q => ∃ p q, Dp K H x p ∧ Dp K H y q ∧ PySem.W.alike p q = true ∧ p ≠ .none ∧ p.depth ≤ 64 ∧ Q (.bl (f p q)) H
section
variable {X : Cx} {k : Nat} {g : G}
theorem or_lt (hr : Room k X.A) : OpR X (compareOp .Lt) (rCmpD X.K PySem.W.dataLt) := by
  intro pins s σ H x y v u Q I rx ry h
  obtain ⟨p, q, hp, hq, al, nn, dp, z⟩ := h
  obtain ⟨as, r1⟩ := Dp.reads I p x v hp rx
  obtain ⟨bs, r2⟩ := Dp.reads I q y u hq ry
  exact PySem.W.lt_data r1 r2 al nn (by have := hr.un; omega) ⟨.bl _, H, I, rfl, z⟩
theorem or_gt (hr : Room k X.A) : OpR X (compareOp .Gt) (rCmpD X.K fun p q => PySem.W.dataLt q p) := by
  intro pins s σ H x y v u Q I rx ry h
  obtain ⟨p, q, hp, hq, al, nn, dp, z⟩ := h
  obtain ⟨as, r1⟩ := Dp.reads I p x v hp rx
  obtain ⟨bs, r2⟩ := Dp.reads I q y u hq ry
  exact PySem.W.gt_data r1 r2 al nn (by have := hr.un; omega) ⟨.bl _, H, I, rfl, z⟩
theorem or_le (hr : Room k X.A) : OpR X (compareOp .LtE) (rCmpD X.K fun p q => !PySem.W.dataLt q p) := by
  intro pins s σ H x y v u Q I rx ry h
  obtain ⟨p, q, hp, hq, al, nn, dp, z⟩ := h
  obtain ⟨as, r1⟩ := Dp.reads I p x v hp rx
  obtain ⟨bs, r2⟩ := Dp.reads I q y u hq ry
  exact PySem.W.le_data r1 r2 al nn (by have := hr.un; omega) ⟨.bl _, H, I, rfl, z⟩
theorem or_ge (hr : Room k X.A) : OpR X (compareOp .GtE) (rCmpD X.K fun p q => !PySem.W.dataLt p q) := by
  intro pins s σ H x y v u Q I rx ry h
  obtain ⟨p, q, hp, hq, al, nn, dp, z⟩ := h
  obtain ⟨as, r1⟩ := Dp.reads I p x v hp rx
  obtain ⟨bs, r2⟩ := Dp.reads I q y u hq ry
  exact PySem.W.ge_data r1 r2 al nn (by have := hr.un; omega) ⟨.bl _, H, I, rfl, z⟩
theorem ok_cmpD {f : PyData → PyData → Bool} : Ok2 g (rCmpD g.K f) (fCmpD f) := by
  intro H ι S x y v u Q q R rx ry hf hq
  obtain ⟨p, p', h1, h2, al, nn, dp, z⟩ := hf
  exact ⟨p, p', h1.dp R rx, h2.dp R ry, al, nn, dp, (hq _ _ z).here R (.bl _)⟩
theorem ok_lt : Ok2 g (rCmpD g.K PySem.W.dataLt) fLt := ok_cmpD
end
/-! ### repr -/
def isDisp : D → Bool
  | .tup _ => true
  | .rol _ => true
  | .ref _ => true
  | _ => false
def fReprA : FA := fun S xs Q => match xs with
  | [x] => ∃ p, isDisp x = true ∧ Sn S x p ∧ p.showable = true ∧ p.hasDict = false ∧ p.depth ≤ 64 ∧ p.shown.length ≤ sizeLine ∧ Q (.str p.shown) S
  | _ => False
def rReprD (K : PySem.W.Frag) : List V → Hp → VK → Prop := fun xs H Q => ∃ a p, xs = [.ref a] ∧ Dp K H (.ref a) p ∧ p.showable = true ∧ p.hasDict = false ∧ p.depth ≤ 64 ∧ p.shown.length ≤ sizeLine ∧ Q (.str p.shown) H
theorem cr_repr {X : Cx} {k : Nat} (hr : Room k X.A) (hgd : X.A.guards = some []) : CallR X (.builtin "repr") (rReprD X.K) := by
  intro pins s σ H xs us Q I r h
  obtain ⟨a, p, rfl, hd, hs, hn, dp, hz, q⟩ := h
  rw [Vals.ref1 r]
  obtain ⟨as, r1⟩ := Dp.reads I p (.ref a) (.ref a) hd rfl
  exact repr_of_reads' r1 hs (PyData.noDict_hsm hn) hgd (by have := hr.un; omega) (fun _ _ e => e) (fun h' u tk kp => ⟨.str _, H, I.kept kp, ⟨_, rfl⟩, q⟩) hz
theorem ok_repr {g : G} : OkA g (rReprD g.K) fReprA := by
  intro H ι S xs vs Q q R r hf hq
  match xs, r, hf with
  | [x], r, hf =>
    obtain ⟨v, rfl, r1⟩ := r.one
    obtain ⟨p, hd, sn, h1, h2, h3, h4, z⟩ := hf
    have dp := sn.dp R r1
    cases r1 <;> first | (cases hd; done) | exact ⟨_, p, rfl, dp, h1, h2, h3, h4, (hq _ _ z).here R (.str _)⟩
/-! ### zip of two -/
def sqItems (S : Sto) (x : D) : Option (List D) := match x with
  | .tup xs => some xs
  | .rol xs => some xs
  | .ref n => (match S[n]? with | some (.lst xs) => some xs | _ => none)
  | _ => none
def sqKeeps (x : D) (xs : List D) (S : Sto) : Prop := match x with
  | .ref n => S[n]? = some (.lst xs)
  | _ => True
def isTp : D → Bool
  | .tup _ => true
  | _ => false
def iZip2 (a b : WE) : WI := fun ρ S Q E => a ρ S (fun x S1 => b ρ S1 (fun y S2 => isTp x = isTp y ∧ oB (sqItems S2 x) fun xs => oB (sqItems S2 y) fun ys => Q ⟨(xs.zip ys).map fun p => .tpz [p.1, p.2], fun S' => sqKeeps x xs S' ∧ sqKeeps y ys S'⟩ S2) E) E
section
variable {g : G}
theorem sq_here {H : Hp} {ι : List Addr} {S : Sto} {x : D} {v : V} {xs : List D} (R : Rl g H ι S) (r : Rp g H ι x v) (h : sqItems S x = some xs) : ∃ a vs, v = .ref a ∧ (if isTp x = true then SqT g.K H a vs else SqL g.K H a vs) ∧ Rps g H ι xs vs ∧ sqKeeps x xs S := by
  cases r with
  | tup s r => cases h; exact ⟨_, _, rfl, s.sq, r, trivial⟩
  | rol s r => cases h; exact ⟨_, _, rfl, s.sq, r, trivial⟩
  | @ref n a e0 =>
    simp only [sqItems] at h
    cases ho : S[n]? with
    | none => rw [ho] at h; cases h
    | some o =>
      rw [ho] at h
      cases o <;> first | (cases h; done) | skip
      cases h
      obtain ⟨a', vs, e1, e2, r, _⟩ := R.list ho (.ref e0)
      cases e1
      exact ⟨a, vs, rfl, .inl (.inl e2), r, ho⟩
  | _ => cases h
/-- what is kept may be read again -/
theorem sq_again {H H' : Hp} {ι ι' : List Addr} {S S' : Sto} {x : D} {a : Addr} {xs : List D} (R : Rl g H ι S) (r : Rp g H ι x (.ref a)) (h : sqItems S x = some xs) (e : Ex H ι H' ι') (R' : Rl g H' ι' S') (k : sqKeeps x xs S') :
    ∃ vs, (if isTp x = true then SqT g.K H' a vs else SqL g.K H' a vs) ∧ Rps g H' ι' xs vs := by
  have r' := r.ex R e
  have h' : sqItems S' x = some xs := by
    cases x with
    | ref n =>
      have : S'[n]? = some (.lst xs) := k
      simp only [sqItems, this]
    | _ => exact h
  obtain ⟨a', vs, e1, h1, h2, _⟩ := sq_here R' r' h'
  cases e1
  exact ⟨vs, h1, h2⟩
variable {X : Cx} {W : WX}
theorem zip_get {xs ys : List D} {i : Nat} {d : D} (h : ((xs.zip ys).map fun p => D.tpz [p.1, p.2])[i]? = some d) : ∃ x y, xs[i]? = some x ∧ ys[i]? = some y ∧ d = .tpz [x, y] := by
  rw [List.getElem?_map] at h
  obtain ⟨p, h1, rfl⟩ := Option.map_eq_some_iff.mp h
  rw [List.getElem?_zip_eq_some] at h1
  exact ⟨p.1, p.2, h1.1, h1.2, rfl⟩
theorem zip_end {xs ys : List D} {i : Nat} (h : ((xs.zip ys).map fun p => D.tpz [p.1, p.2]).length ≤ i) : xs.length ≤ i ∨ ys.length ≤ i := by
  rw [List.length_map, List.length_zip] at h
  omega
theorem jok_zipL {H : Hp} {ι : List Addr} {S : Sto} {x y : D} {xs ys : List D} {a b : Addr} (R : Rl g H ι S) (rx : Rp g H ι x (.ref a)) (ry : Rp g H ι y (.ref b)) (hx : sqItems S x = some xs) (hy : sqItems S y = some ys) (tx : isTp x = false) (ty : isTp y = false) :
    Jok g (Itz g.K a b) ⟨(xs.zip ys).map fun p => .tpz [p.1, p.2], fun S' => sqKeeps x xs S' ∧ sqKeeps y ys S'⟩ H ι := by
  intro i H' ι' S' e R' ok
  obtain ⟨vs, s1, r1⟩ := sq_again R rx hx e R' ok.1
  obtain ⟨us, s2, r2⟩ := sq_again R ry hy e R' ok.2
  rw [tx, if_neg Bool.false_ne_true] at s1
  rw [ty, if_neg Bool.false_ne_true] at s2
  refine ⟨fun d hd => ?_, fun hl => ⟨vs, us, s1, s2, by rw [← r1.length, ← r2.length]; exact zip_end hl⟩⟩
  obtain ⟨dx, dy, h1, h2, rfl⟩ := zip_get hd
  obtain ⟨v, hv, rv⟩ := r1.get h1
  obtain ⟨u, hu, ru⟩ := r2.get h2
  refine ⟨⟨vs, us, v, u, s1, s2, hv, hu⟩, fun t H2 yl => ?_⟩
  obtain ⟨T, v', u', rfl, hT, rfl, f1, f2⟩ := yl
  have e1 := f1 vs s1
  have e2 := f2 us s2
  rw [hv] at e1; cases e1
  rw [hu] at e2; cases e2
  obtain ⟨e3, R3⟩ := R'.beside hT (.tup [v, u])
  exact ⟨e3, R3, .tpz (.inl (.inl upd_same)) (.cons (rv.ex R' e3) (.cons (ru.ex R' e3) .nil))⟩
theorem jok_zipT {H : Hp} {ι : List Addr} {S : Sto} {x y : D} {xs ys : List D} {a b : Addr} (R : Rl g H ι S) (rx : Rp g H ι x (.ref a)) (ry : Rp g H ι y (.ref b)) (hx : sqItems S x = some xs) (hy : sqItems S y = some ys) (tx : isTp x = true) (ty : isTp y = true) :
    Jok g (RZ.ItzT g.K a b) ⟨(xs.zip ys).map fun p => .tpz [p.1, p.2], fun S' => sqKeeps x xs S' ∧ sqKeeps y ys S'⟩ H ι := by
  intro i H' ι' S' e R' ok
  obtain ⟨vs, s1, r1⟩ := sq_again R rx hx e R' ok.1
  obtain ⟨us, s2, r2⟩ := sq_again R ry hy e R' ok.2
  rw [tx, if_pos rfl] at s1
  rw [ty, if_pos rfl] at s2
  refine ⟨fun d hd => ?_, fun hl => ⟨vs, us, s1, s2, by rw [← r1.length, ← r2.length]; exact zip_end hl⟩⟩
  obtain ⟨dx, dy, h1, h2, rfl⟩ := zip_get hd
  obtain ⟨v, hv, rv⟩ := r1.get h1
  obtain ⟨u, hu, ru⟩ := r2.get h2
  refine ⟨⟨vs, us, v, u, s1, s2, hv, hu⟩, fun t H2 yl => ?_⟩
  obtain ⟨T, v', u', rfl, hT, rfl, f1, f2⟩ := yl
  have e1 := f1 vs s1
  have e2 := f2 us s2
  rw [hv] at e1; cases e1
  rw [hu] at e2; cases e2
  obtain ⟨e3, R3⟩ := R'.beside hT (.tup [v, u])
  exact ⟨e3, R3, .tpz (.inl (.inl upd_same)) (.cons (rv.ex R' e3) (.cons (ru.ex R' e3) .nil))⟩
theorem i_zip {elts : List Expr} {kk : Nat} {tpos : Pos} {a b : Expr} {wa wb : WE} {p pos : Pos} (hg : Gl X "zip") (hm : X.mg "zip" = none) (ha : PE X a (liftE (gX X) W wa)) (hb : PE X b (liftE (gX X) W wb))
    (hs : starEach [a, b] X.env = (false, eval a X.env) :: starEach [b] X.env := by rfl) (hs2 : starEach [b] X.env = [(false, eval b X.env)] := by rfl) (hpl : (backTo pos (starEach [b] X.env)).any (·.1) = false := by rfl) :
    PI X (.Tuple elts kk tpos) (.Call (.Name "zip" p) [a, b] [] pos) (liftI (gX X) W (iZip2 wa wb)) := by
  refine PI.mono (RZ.pi_zipA hg hm (pa_cons ha (pa_cons hb pa_nil hs2) hs) hs hpl) fun σ H Q h => ?_
  obtain ⟨ι, S, ρ, q, e, R, r, h, hq, he⟩ := h
  refine two R r h (fun x y S2 z ι2 H2 v u e2 R2 rv ru => ?_) he
  obtain ⟨ht, z⟩ := z
  obtain ⟨xs, hx, z⟩ := oB_iff.mp z
  obtain ⟨ys, hy, z⟩ := oB_iff.mp z
  obtain ⟨a', vs, rfl, s1, r1, _⟩ := sq_here R2 rv hx
  obtain ⟨b', us, rfl, s2, r2, _⟩ := sq_here R2 ru hy
  refine ⟨a', b', vs, us, rfl, ?_⟩
  cases tx : isTp x with
  | false =>
    have ty : isTp y = false := by rw [← ht]; exact tx
    rw [tx, if_neg Bool.false_ne_true] at s1
    rw [ty, if_neg Bool.false_ne_true] at s2
    exact .inl ⟨s1, s2, hq _ _ z ι2 H2 _ e2 R2 (jok_zipL (g := gX X) R2 rv ru hx hy tx ty)⟩
  | true =>
    have ty : isTp y = true := by rw [← ht]; exact tx
    rw [tx, if_pos rfl] at s1
    rw [ty, if_pos rfl] at s2
    exact .inr ⟨s1, s2, hq _ _ z ι2 H2 _ e2 R2 (jok_zipT (g := gX X) R2 rv ru hx hy tx ty)⟩
end
end Zz
set_option Elab.async false
set_option linter.all false
set_option maxRecDepth 100000
namespace Zz
open PySem PySem.Spec PyProof.Rows L2
/-! ### comprehensions, clause by clause: what is done for an item is any act -/
/-- a clause's turn -/
def turnC (p0 : Pos) (tg : Expr) (ifs : List Expr) (it : Value) (env : PySem.Env) (act : Sem PySem.Fin → Sem PySem.Fin) (nxt : Sem PySem.Fin) : Sem PySem.Fin :=
  standAt p0 >>= fun _ => pyNext it >>= fun r => match r with
    | none => pure (.done .next)
    | some v => letOwnedTupleGo tg it v >>= fun _ => assign tg env v >>= fun _ =>
      (forIn ifs true fun c r => if r = true then isTrue c env (eval c env) >>= fun ok => pure (ForInStep.yield ok) else pure (ForInStep.yield r)) >>= fun ok => if ok = true then act nxt else nxt
abbrev noX : Value → Shared → Prop := fun _ _ => False
/-- no generator's loop -/
structure PlainComp (e : Expr) (depth : Nat) (it acc : Value) (env : PySem.Env) : Prop where
  un : ∀ A : Around, A.under (.compLoop e depth it acc env) = A
  den : ∀ (prog : Program) (w : World), (model prog w).den (.compLoop e depth it acc env) = (compTurn e depth it acc env).onRaise (fun x => noteFrame x env >>= fun _ => theTreesLotGoes x)
theorem loopC {prog : Program} {w : World} {A : Around} {R : Result → Shared → Prop} {s : Shared} {e : Expr} {depth : Nat} {it acc : Value} {env : PySem.Env} {p0 : Pos} {tg : Expr} {ifs : List Expr} {act : Sem PySem.Fin → Sem PySem.Fin}
    (pc : PlainComp e depth it acc env) (eq : compTurn e depth it acc env = turnC p0 tg ifs it env act (again (.compLoop e depth it acc env))) (J : Nat → Shared → Prop)
    (turn : ∀ n s, J n s → wpAny (model prog w) A (pyNext it) (fun r s1 => match r with
      | none => R (.ok .next) s1
      | some v => wpAny (model prog w) A (letOwnedTupleGo tg it v) (fun _ s2 => wpAny (model prog w) A (assign tg env v) (fun _ s3 =>
          wpAny (model prog w) A (forIn ifs true fun c r => if r = true then isTrue c env (eval c env) >>= fun ok => pure (ForInStep.yield ok) else pure (ForInStep.yield r)) (fun ok s4 =>
            if ok = true then wpAny (model prog w) A (act (again (.compLoop e depth it acc env))) (fun f s5 => f = .again (.compLoop e depth it acc env) ∧ ∃ m, m < n ∧ J m s5) noX s4 else ∃ m, m < n ∧ J m s4) noX s3) noX s2) noX s1) noX s)
    (n : Nat) (h : J n s) : codeAny (model prog w) A (.compLoop e depth it acc env) R s := by
  refine codeAny_loop rfl J (fun n s hJ => ?_) n h
  rw [pc.un, pc.den]
  refine wpAny_noted ?_
  rw [eq]
  unfold turnC
  have no : ∀ {E : Value → Shared → Prop} (v : Value) (s : Shared), noX v s → E v s := fun _ _ z => z.elim
  refine wpAny_bind (wpAny_standAt (wpAny_bind (wpAny_mono (turn n s hJ) (fun r s1 h1 => ?_) no)))
  cases r with
  | none => exact wpAny_pure h1
  | some v =>
    refine wpAny_bind (wpAny_mono h1 (fun _ s2 h2 => wpAny_bind (wpAny_mono h2 (fun _ s3 h3 => wpAny_bind (wpAny_mono h3 (fun ok s4 h4 => ?_) no)) no)) no)
    cases ok with
    | false => exact wpAny_pure ⟨rfl, h4⟩
    | true => exact wpAny_mono h4 (fun f s5 h5 => by obtain ⟨rfl, h5⟩ := h5; exact ⟨rfl, h5⟩) no
abbrev BD := Rho → Sto → (Sto → Prop) → Prop
/-- the turns of a clause -/
def walkC (c : Src) (p : Pat) (t : WT) (body : BD) (ρ : Rho) (fin : Sto → Prop) : List D → Sto → Prop
  | [], S => c.ok S ∧ fin S
  | d :: ds, S => c.ok S ∧ oB (p.go d ρ) fun ρ1 => t ρ1 S (fun b S1 => if b = true then body ρ1 S1 (walkC c p t body ρ fin ds) else walkC c p t body ρ fin ds S1) (fun _ _ => False)
/-- what an act does, the names at vs apart -/
def ActOk (Y : Cx) (pins : List (Addr × Obj)) (vs : List Nat) (n : Nat) (D : Addr) (act : Sem PySem.Fin → Sem PySem.Fin) (body : BD) : Prop :=
  ∀ (q : List (Addr × Obj)) (s : Shared) (H : Hp) (σ : L2.St) (ρ : Rho) (ι : List Addr) (S : Sto) (k : Sto → Prop) (nxt : Sem PySem.Fin) (Q : PySem.Fin → Shared → Prop), Inv Y (pins ++ q) σ H s → Rl (gX Y) H ι S → Rs (gX Y) H ι ρ σ → ι[n]? = some D → body ρ S k →
    (∀ s' σ' H' ι' S', Inv Y (pins ++ q) σ' H' s' → σ'.length = σ.length → (∀ j, j ∉ vs → σ'[j]? = σ[j]?) → Ex H ι H' ι' → Rl (gX Y) H' ι' S' → k S' → wpAny (model Y.prog Y.w) Y.A nxt Q noX s') →
    wpAny (model Y.prog Y.w) Y.A (act nxt) Q noX s
theorem wipe_in {vs : List Nat} : ∀ {σ : L2.St} {i : Nat} {v : V}, (L2.wipe σ vs)[i]? = some (some v) → i ∉ vs := fun h => (wipe_some h).2
section
variable {Y : Cx} {pins : List (Addr × Obj)}
theorem level (hc : Y.calm = true) (hx : ∀ u s, Y.xe u s → False) {e : Expr} {depth : Nat} {it : Addr} {acc : Value} {p0 : Pos} {tg : Expr} {ifs : List Expr} {act : Sem PySem.Fin → Sem PySem.Fin}
    (pc : PlainComp e depth (.ref it) acc Y.env) (eq : compTurn e depth (.ref it) acc Y.env = turnC p0 tg ifs (.ref it) Y.env act (again (.compLoop e depth (.ref it) acc Y.env)))
    {J : It} {fp : List Addr} {tn : Nat → Heap → Prop} (T : Turn Y.prog Y.w Y.K tg J fp it tn) {c : Src} {p : Pat} {t : WT} (pg : PG Y tg (p.rd Y.K)) (pt : PTs Y ifs (liftT (gX Y) W0 t)) {vs : List Nat} (hv : ∀ i ∈ p.own, i ∈ vs) {body : BD} {n0 : Nat} {D0 : Addr} (ha : ActOk Y pins vs n0 D0 act body)
    {s : Shared} {H : Hp} {ι : List Addr} {S : Sto} {σ : L2.St} {ρ : Rho} {fin : Sto → Prop} {R : Result → Shared → Prop} (I : Inv Y pins σ H s) (hσ : L2.wipe σ vs = σ) (st : tn 0 s.heap) (hf : ∀ b ∈ fp, FpOk Y pins H b) (R0 : Rl (gX Y) H ι S) (r0 : Rs (gX Y) H ι ρ σ) (hD0 : ι[n0]? = some D0)
    (jok : Jok (gX Y) J c H ι) (w : walkC c p t body ρ fin c.items S)
    (hR : ∀ s' H' ι' S', Inv Y pins σ H' s' → (∀ b ∈ fp, H' b = none) → Ex H ι H' ι' → Rl (gX Y) H' ι' S' → fin S' → R (.ok .next) s') :
    codeAny (model Y.prog Y.w) Y.A (.compLoop e depth (.ref it) acc Y.env) R s := by
  have fpo : ∀ {H' : Hp}, (∀ b ∈ fp, H' b = none) → ∀ b ∈ fp, FpOk Y pins H' b := fun hn b hb => ⟨hn b hb, (hf b hb).2⟩
  have nox : ∀ {Q : Value → Shared → Prop} (u : Value) (s : Shared), Y.xe u s → Q u s := fun u s z => (hx u s z).elim
  refine loopC pc eq (fun n s' => ∃ i H' ι' S', i + n = c.items.length ∧ Inv Y pins σ H' s' ∧ tn i s'.heap ∧ (∀ b ∈ fp, H' b = none) ∧ Ex H ι H' ι' ∧ Rl (gX Y) H' ι' S' ∧ walkC c p t body ρ fin (c.items.drop i) S') ?_
    c.items.length ⟨0, H, ι, S, by simp, I, st, fun b hb => (hf b hb).1, Ex.refl _ _, R0, by simpa using w⟩
  rintro n s5 ⟨i, H5, ι5, S5, hm, I5, st5, n5, e5, R5, w5⟩
  cases hd : c.items.drop i with
  | nil =>
    rw [hd] at w5
    have hl : c.items.length ≤ i := by simpa using hd
    refine thnF (T.done Y rfl rfl rfl hc i pins s5 σ H5 noX I5 (fpo n5) st5 ((jok i H5 ι5 S5 e5 R5 w5.1).2 hl)) fun r s6 ⟨hr, I6⟩ => ?_
    subst hr
    exact hR s6 H5 ι5 S5 I6 n5 e5 R5 w5.2
  | cons d ds =>
    rw [hd] at w5
    obtain ⟨h1, h2, h3⟩ := drop_some hd
    obtain ⟨ok, w5⟩ := w5
    obtain ⟨ρ1, hρ, w5⟩ := oB_iff.mp w5
    obtain ⟨go, step⟩ := (jok i H5 ι5 S5 e5 R5 ok).1 d h1
    refine thnF (T.item Y rfl rfl rfl hc i pins s5 σ H5 noX I5 (fpo n5) st5 go) fun r s6 ⟨u, hr, h6⟩ => ?_
    subst hr
    refine thnF h6 fun _ s7 ⟨x, H7, I7, r7, y7, st7, n7⟩ => ?_
    obtain ⟨e7, R7, rx⟩ := step x H7 y7
    have e07 := e5.trans e7
    have I7' := I7.pinned (fpo n7) (T.obj _ _ st7)
    obtain ⟨σ8, q8, rs8, hw8⟩ := p.ok (r0.ex R0 e07) rx hρ
    have hw := (hw8 vs hv).trans hσ
    refine wpAny_mono (pg.run _ s7 σ H7 x u (fun σ' H' => σ' = σ8 ∧ H' = H7) I7' r7 (q8 _ ⟨rfl, rfl⟩)) (fun _ s8 h8 => ?_) nox
    obtain ⟨σz, Hz, I8, ez1, ez2⟩ := h8
    rw [ez1, ez2] at I8
    refine wpAny_mono (pt.run _ s8 σ8 H7 (fun b H' => ∃ ι' S', Ex H7 ι5 H' ι' ∧ Rl (gX Y) H' ι' S' ∧ if b = true then body ρ1 S' (walkC c p t body ρ fin ds) else walkC c p t body ρ fin ds S') I8 ⟨ι5, S5, ρ1, _, _, R7, rs8, w5, fun b S' z ι' H' ee RR => ⟨ι', S', ee, RR, z⟩, fun _ _ z => z.elim⟩) (fun b s9 h9 => ?_) nox
    obtain ⟨H9, I9, ι9, S9, e9, R9, w9⟩ := h9
    have back : ∀ {σz : L2.St} {H' : Hp} {ι' : List Addr} {S' : Sto} {s' : Shared}, Inv Y (pins ++ pinsAt fp s7.heap) σz H' s' → σz.length = σ8.length → (∀ j, j ∉ vs → σz[j]? = σ8[j]?) → Ex H ι H' ι' → Rl (gX Y) H' ι' S' → walkC c p t body ρ fin ds S' →
        ∃ m, m < n ∧ ∃ i H' ι' S', i + m = c.items.length ∧ Inv Y pins σ H' s' ∧ tn i s'.heap ∧ (∀ b ∈ fp, H' b = none) ∧ Ex H ι H' ι' ∧ Rl (gX Y) H' ι' S' ∧ walkC c p t body ρ fin (c.items.drop i) S' := fun {σz H' ι' S' s'} I' hl hk ee RR ww => by
      have pin' : ∀ b ∈ fp, ∀ o, s7.heap.get? b = some o → s'.heap.get? b = some o ∧ H' b = none := fun b hb o z =>
        let y := I'.pin (b, o) (List.mem_append_right _ (List.mem_append_right _ (mem_pinsAt hb z)))
        ⟨y.1, y.2.1⟩
      have l8 : σ.length = σ8.length := by
        have := congrArg List.length hw
        rwa [wipe_length, eq_comm] at this
      refine ⟨n - 1, by omega, i + 1, H', ι', S', by omega, I'.unpinned.weak (l8.trans hl.symm) (fun j v z => ?_), T.keep _ _ _ st7 fun b hb o z => (pin' b hb o z).1, fun b hb => ?_, ee, RR, by rw [h2]; exact ww⟩
      · have hj : j ∉ vs := by rw [← hσ] at z; exact (wipe_some z).2
        rw [hk j hj]
        rw [← hw] at z
        exact (wipe_some z).1
      · obtain ⟨o, z, _⟩ := T.obj _ _ st7 b hb
        exact (pin' b hb o z).2
    cases b with
    | false =>
      rw [if_neg Bool.false_ne_true] at w9 ⊢
      exact back I9 rfl (fun _ _ => rfl) (e07.trans e9) R9 w9
    | true =>
      rw [if_pos rfl] at w9 ⊢
      exact ha _ s9 H9 σ8 ρ1 ι9 S9 _ _ _ I9 R9 (rs8.ex R7 e9) ((e07.trans e9).get hD0) w9 fun s10 σ10 H10 ι10 S10 I10 l10 k10 e10 R10 w10 => wpAny_pure ⟨rfl, back I10 l10 k10 ((e07.trans e9).trans e10) R10 w10⟩
end
def inner (e : Expr) (i1 : Expr) (acc : Value) (env : PySem.Env) (nxt : Sem PySem.Fin) : Sem PySem.Fin :=
  eval i1 env >>= fun x => standAt i1.pos >>= fun _ => foldedSetIterable i1 env x >>= fun x => holding [x] (pyIter x) >>= fun it => runOwn (.compStart e 1 it acc env) env >>= fun _ => nxt
def actL (elt : Expr) (acc : Value) (env : PySem.Env) (nxt : Sem PySem.Fin) : Sem PySem.Fin := (eval elt env >>= fun v => call (.builtin "list.append") [acc, v] >>= fun _ => pure ()) >>= fun _ => nxt
def actD (kx vx : Expr) (D : Addr) (env : PySem.Env) (nxt : Sem PySem.Fin) : Sem PySem.Fin :=
  (eval kx env >>= fun kv => holding [kv] (eval vx env) >>= fun vv => standAt { kx.pos with endLine := vx.pos.endLine, endCol := vx.pos.endCol } >>= fun _ => holding [kv, vv] (dictSet D kv vv)) >>= fun _ => nxt
theorem eqD1 (kx vx tg iter : Expr) (ifs : List Expr) (scope : Scope) (pos : Pos) (it : Value) (D : Addr) (env : PySem.Env) : compTurn (.DictComp kx vx [⟨tg, iter, ifs, 0⟩] scope pos) 0 it (.ref D) env =
    turnC iter.pos tg ifs it env (actD kx vx D env) (again (.compLoop (.DictComp kx vx [⟨tg, iter, ifs, 0⟩] scope pos) 0 it (.ref D) env)) := by rfl
theorem eqD2o (kx vx tg iter tg1 iter1 : Expr) (ifs ifs1 : List Expr) (scope : Scope) (pos : Pos) (it : Value) (D : Addr) (env : PySem.Env) : compTurn (.DictComp kx vx [⟨tg, iter, ifs, 0⟩, ⟨tg1, iter1, ifs1, 0⟩] scope pos) 0 it (.ref D) env =
    turnC iter.pos tg ifs it env (inner (.DictComp kx vx [⟨tg, iter, ifs, 0⟩, ⟨tg1, iter1, ifs1, 0⟩] scope pos) iter1 (.ref D) env) (again (.compLoop (.DictComp kx vx [⟨tg, iter, ifs, 0⟩, ⟨tg1, iter1, ifs1, 0⟩] scope pos) 0 it (.ref D) env)) := by rfl
theorem eqD2i (kx vx tg iter tg1 iter1 : Expr) (ifs ifs1 : List Expr) (scope : Scope) (pos : Pos) (it : Value) (D : Addr) (env : PySem.Env) : compTurn (.DictComp kx vx [⟨tg, iter, ifs, 0⟩, ⟨tg1, iter1, ifs1, 0⟩] scope pos) 1 it (.ref D) env =
    turnC iter1.pos tg1 ifs1 it env (actD kx vx D env) (again (.compLoop (.DictComp kx vx [⟨tg, iter, ifs, 0⟩, ⟨tg1, iter1, ifs1, 0⟩] scope pos) 1 it (.ref D) env)) := by rfl
theorem eqL2o (elt tg iter tg1 iter1 : Expr) (ifs ifs1 : List Expr) (scope : Scope) (pos : Pos) (it acc : Value) (env : PySem.Env) : compTurn (.ListComp elt [⟨tg, iter, ifs, 0⟩, ⟨tg1, iter1, ifs1, 0⟩] scope pos) 0 it acc env =
    turnC iter.pos tg ifs it env (inner (.ListComp elt [⟨tg, iter, ifs, 0⟩, ⟨tg1, iter1, ifs1, 0⟩] scope pos) iter1 acc env) (again (.compLoop (.ListComp elt [⟨tg, iter, ifs, 0⟩, ⟨tg1, iter1, ifs1, 0⟩] scope pos) 0 it acc env)) := by rfl
theorem eqL2i (elt tg iter tg1 iter1 : Expr) (ifs ifs1 : List Expr) (scope : Scope) (pos : Pos) (it acc : Value) (env : PySem.Env) : compTurn (.ListComp elt [⟨tg, iter, ifs, 0⟩, ⟨tg1, iter1, ifs1, 0⟩] scope pos) 1 it acc env =
    turnC iter1.pos tg1 ifs1 it env (actL elt acc env) (again (.compLoop (.ListComp elt [⟨tg, iter, ifs, 0⟩, ⟨tg1, iter1, ifs1, 0⟩] scope pos) 1 it acc env)) := by rfl
theorem pcD (kx vx : Expr) (gs : List Comprehension) (scope : Scope) (pos : Pos) (k : Nat) (it acc : Value) (env : PySem.Env) : PlainComp (.DictComp kx vx gs scope pos) k it acc env := ⟨fun _ => rfl, fun _ _ => rfl⟩
structure PlainStart (e : Expr) (depth : Nat) (it acc : Value) (env : PySem.Env) : Prop where
  un : ∀ A : Around, A.under (.compStart e depth it acc env) = A
  den : ∀ (prog : Program) (w : World), (model prog w).den (.compStart e depth it acc env) = (compStart e depth it acc env).onRaise (fun x => noteFrame x env >>= fun _ => standAt theWindowsPlace)
theorem psD (kx vx : Expr) (gs : List Comprehension) (scope : Scope) (pos : Pos) (k : Nat) (it acc : Value) (env : PySem.Env) : PlainStart (.DictComp kx vx gs scope pos) k it acc env := ⟨fun _ => rfl, fun _ _ => rfl⟩
theorem psL (x : Expr) (gs : List Comprehension) (scope : Scope) (pos : Pos) (k : Nat) (it acc : Value) (env : PySem.Env) : PlainStart (.ListComp x gs scope pos) k it acc env := ⟨fun _ => rfl, fun _ _ => rfl⟩
theorem pcL (x : Expr) (gs : List Comprehension) (scope : Scope) (pos : Pos) (k : Nat) (it acc : Value) (env : PySem.Env) : PlainComp (.ListComp x gs scope pos) k it acc env := ⟨fun _ => rfl, fun _ _ => rfl⟩
theorem startC {prog : Program} {w : World} {A : Around} {R : Result → Shared → Prop} {s : Shared} {e : Expr} {depth : Nat} {it acc : Value} {env : PySem.Env} {tg i1 : Expr} {ifs : List Expr} (ps : PlainStart e depth it acc env) (hcl : (clausesOf e)[depth]? = some ⟨tg, i1, ifs, 0⟩)
    (h : codeAny (model prog w) A (.compLoop e depth it acc env) R s)
    (h2 : ∀ (Q : Value → Shared → Prop), Q it s → wpAny (model prog w) A (pyIter it) Q noX s) : codeAny (model prog w) A (.compStart e depth it acc env) R s := by
  refine codeAny_of_tree ?_
  rw [ps.un, ps.den]
  refine wpAny_notedAt ?_
  unfold compStart
  rw [hcl]
  show wpAny _ _ (ask >>= _) _ _ s
  have no : ∀ {E : Value → Shared → Prop} (v : Value) (s : Shared), noX v s → E v s := fun _ _ z => z.elim
  have q : wpAny (model prog w) A (pyIter it) (fun it' s' => it' = it ∧ s' = s) noX s := h2 _ ⟨rfl, rfl⟩
  refine wpAny_bind (wpAny_askSetting (wpAny_ite ?_))
  split
  · first
      | exact wpAny_bind (wpAny_pure (wpAny_pure ⟨rfl, h⟩))
      | exact wpAny_pure ⟨rfl, h⟩
  · refine wpAny_bind (wpAny_rule ?_)
    show wpAny _ _ (standAt i1.pos >>= _) _ _ s
    refine wpAny_bind (wpAny_standAt (wpAny_bind (wpAny_mono q (fun it' s' h' => ?_) no)))
    obtain ⟨rfl, rfl⟩ := h'
    exact wpAny_pure ⟨rfl, h⟩
section
variable {Y : Cx} {pins : List (Addr × Obj)}
theorem noxY (hx : ∀ u s, Y.xe u s → False) {Q : Value → Shared → Prop} (u : Value) (s : Shared) (z : Y.xe u s) : Q u s := (hx u s z).elim
/-- an inner clause as what is done for an item -/
def inB (wi : WI) (p : Pat) (t : WT) (body : BD) (vs : List Nat) : BD := fun ρ S k => wi ρ S (fun c S1 => walkC c p t body (wipeR ρ vs) k c.items S1) (fun _ _ => False)
theorem inner_ok (hc : Y.calm = true) (hx : ∀ u s, Y.xe u s → False) {e : Expr} {D : Addr} {tg i1 : Expr} {ifs : List Expr} {act : Sem PySem.Fin → Sem PySem.Fin} (hcl : (clausesOf e)[1]? = some ⟨tg, i1, ifs, 0⟩)
    (pc : ∀ it, PlainComp e 1 it (.ref D) Y.env) (ps : ∀ it, PlainStart e 1 it (.ref D) Y.env)
    (eq : ∀ it, compTurn e 1 it (.ref D) Y.env = turnC i1.pos tg ifs it Y.env act (again (.compLoop e 1 it (.ref D) Y.env)))
    {wi : WI} {p : Pat} {t : WT} (hs : ∀ x, foldedSetIterable i1 Y.env x = pure x) (pi : PI Y tg i1 (liftI (gX Y) W0 wi)) (pg : PG Y tg (p.rd Y.K)) (pt : PTs Y ifs (liftT (gX Y) W0 t)) {vs : List Nat} (hv : ∀ i ∈ p.own, i ∈ vs) {body : BD} {n0 : Nat}
    (ha : ∀ q, ActOk Y (pins ++ q) vs n0 D act body) : ActOk Y pins vs n0 D (inner e i1 (.ref D) Y.env) (inB wi p t body vs) := by
  intro q s H σ ρ ι S k nxt Q I R r hD w hQ
  unfold inner
  refine wpAny_bind (wpAny_mono (pi.run _ s σ H (fun J H1 => ∃ c ι1 S1, Ex H ι H1 ι1 ∧ Rl (gX Y) H1 ι1 S1 ∧ Jok (gX Y) J c H1 ι1 ∧ walkC c p t body (wipeR ρ vs) k c.items S1) I ⟨ι, S, ρ, _, _, R, r, w, fun c S1 z ι1 H1 J e1 R1 jok => ⟨c, ι1, S1, e1, R1, jok, z⟩, fun _ _ z => z.elim⟩) (fun x s1 h1 => ?_) (noxY hx))
  refine wpAny_bind (wpAny_standAt ?_)
  rw [hs x]
  refine wpAny_bind (wpAny_pure (wpAny_bind (wpAny_holding (wpAny_mono h1 (fun itv s2 h2 => ?_) (noxY hx)))))
  obtain ⟨it, fp, tn, J, H2, rfl, I2, T, st2, f2, c, ι2, S2, e2, R2, jok, w2⟩ := h2
  refine wpAny_bind (wpAny_runOwn ?_)
  rw [Around.mark_none]
  have I3 : Inv Y (pins ++ q) (L2.wipe σ vs) H2 s2 := I2.weak (wipe_length _ _) fun j v z => (wipe_some z).1
  have hww : L2.wipe (L2.wipe σ vs) vs = L2.wipe σ vs := wipe_wipe vs σ fun _ z => z
  have lp : codeAny (model Y.prog Y.w) Y.A (.compLoop e 1 (.ref it) (.ref D) Y.env) (fun r s' => match r with | .ok _ => ∃ H' ι' S', Inv Y (pins ++ q) (L2.wipe σ vs) H' s' ∧ Ex H ι H' ι' ∧ Rl (gX Y) H' ι' S' ∧ k S' | .error _ => False) s2 :=
    level hc hx (pc _) (eq _) T pg pt hv (ha q) I3 hww st2 f2 R2 ((r.ex R e2).wipe vs) (e2.get hD) jok w2 fun s' H' ι' S' I' _ e' R' w' => ⟨H', ι', S', I', e2.trans e', R', w'⟩
  refine codeAny_mono (startC (ps _) hcl lp fun Q' q' => T.self Y.A 0 s2 Q' _ st2 q') fun r s' hr => ?_
  cases r with
  | error _ => exact False.elim hr
  | ok f =>
    obtain ⟨H', ι', S', I', e', R', w'⟩ := hr
    refine hQ s' (L2.wipe σ vs) H' ι' S' I' (wipe_length _ _) (fun j hj => ?_) e' R' w'
    exact wipe_out hj
/-! what is done for an item of a dict by ints and texts -/
def putB (ek ev : WE) (n : Nat) : BD := fun ρ S k => ek ρ S (fun y S1 => ev ρ S1 (fun z S2 => atD S2 (.ref n) fun kvs => kvs.length < sizeLine ∧ oB (keyOf y) fun j => k (S2.set n (.dk (putA kvs j z)))) (fun _ _ => False)) (fun _ _ => False)
theorem actD_ok (hx : ∀ u s, Y.xe u s → False) {kx vx : Expr} {D : Addr} {ek ev : WE} {vs : List Nat} {n : Nat} (pk : PE Y kx (liftE (gX Y) W0 ek)) (pv : PE Y vx (liftE (gX Y) W0 ev)) : ActOk Y pins vs n D (actD kx vx D Y.env) (putB ek ev n) := by
  intro q s H σ ρ ι S k nxt Q I R r hD w hQ
  unfold actD
  refine wpAny_bind (wpAny_bind (wpAny_mono (pk.run _ s σ H (fun y H1 => liftE (gX Y) W0 ev σ H1 fun z H2 => ∃ ι2 S2 dy dz, Ex H ι H2 ι2 ∧ Rl (gX Y) H2 ι2 S2 ∧ Rp (gX Y) H2 ι2 dy y ∧ Rp (gX Y) H2 ι2 dz z ∧ atD S2 (.ref n) fun kvs => kvs.length < sizeLine ∧ oB (keyOf dy) fun j => k (S2.set n (.dk (putA kvs j dz)))) I
    (two R r w (fun y z S2 h ι2 H2 v u e2 R2 rv ru => ⟨ι2, S2, y, z, e2, R2, rv, ru, h⟩) fun _ _ z => z.elim)) (fun kv s1 h1 => ?_) (noxY hx)))
  obtain ⟨y, H1, I1, r1, h1⟩ := h1
  refine wpAny_bind (wpAny_holding (wpAny_mono (pv.run _ s1 σ H1 _ I1 h1) (fun vv s2 h2 => ?_) (noxY hx)))
  obtain ⟨z, H2, I2, r2, ι2, S2, dy, dz, e2, R2, ry, rz, h2⟩ := h2
  obtain ⟨n', kvs, en, hn, hz, h2⟩ := atD_iff.mp h2
  cases en
  obtain ⟨j, hj, h2⟩ := oB_iff.mp h2
  rw [keyOf_some hj] at ry
  have hy := kD_rp ry
  subst hy
  obtain ⟨a, ws, ea, e3, rr, ia⟩ := R2.dict hn (.ref (e2.get hD))
  cases ea
  refine wpAny_bind (wpAny_standAt (wpAny_holding ?_))
  refine d_dictSet (X := Y) I2 e3 (by rw [← rr.length]; exact hz) r1 r2 fun s3 I3 => ?_
  obtain ⟨e4, R4⟩ := R2.wrD hn ia e3 (rr.put j rz)
  exact hQ s3 σ _ ι2 _ I3 rfl (fun _ _ => rfl) (e2.trans e4) R4 h2
end
end Zz
set_option Elab.async false
set_option linter.all false
set_option maxRecDepth 100000
namespace Zz
open PySem PySem.Spec PyProof.Rows L2
abbrev dObj0 : Obj := { cls := .type "dict", data := .dict #[] }
def wCompG (wi : WI) (p : Pat) (t : WT) (body : Nat → BD) (vs : List Nat) (m0 : MO) : WE := fun ρ S Q E => wi ρ S (fun c S1 => walkC c p t (body S1.length) (wipeR ρ vs) (fun S2 => Q (.ref S1.length) S2) c.items (S1 ++ [m0])) E
section
variable {X : Cx} {W : WX}
theorem dc_run {kx vx tg iter : Expr} {ifs : List Expr} {gs : List Comprehension} {scope : Scope} {own : List (Str × Nat)} {pos : Pos} {wi : WI} {p : Pat} {t : WT} {body : Nat → BD} {m0 : MO} {o0 : Addr → HO} {act : Addr → PySem.Env → Sem PySem.Fin → Sem PySem.Fin}
    (hc : X.calm = true) (hN : X.N.Nodup) (hi : PI X tg iter (liftI (gX X) W wi)) (ok : BlkOk X.N X.env.scope scope own)
    (hnew : ∀ (h : Heap) (H : Hp), sysModules < h.objs.size → ObjOk X.prog X.w (upd H h.objs.size (o0 h.objs.size)) (h.push dObj0) h.objs.size (o0 h.objs.size))
    (hMR : ∀ (H : Hp) (ι : List Addr) (a : Addr), (a == sysModules) = false → MR (gX X) (upd H a (o0 a)) (ι ++ [a]) m0 a)
    (eq : ∀ it D env, compTurn (.DictComp kx vx (⟨tg, iter, ifs, 0⟩ :: gs) scope pos) 0 it (.ref D) env = turnC iter.pos tg ifs it env (act D env) (again (.compLoop (.DictComp kx vx (⟨tg, iter, ifs, 0⟩ :: gs) scope pos) 0 it (.ref D) env)))
    (hg : ∀ (s : Shared) (H : Hp) (C : Addr) (cl : List (Str × Addr)) (fp : List Addr), PG (X.blk s H scope (compEnvC scope cl C X.env) fp) tg (p.rd X.K))
    (ht : ∀ (s : Shared) (H : Hp) (C : Addr) (cl : List (Str × Addr)) (fp : List Addr), PTs (X.blk s H scope (compEnvC scope cl C X.env) fp) ifs (liftT (gX X) W0 t))
    (ha : ∀ (s : Shared) (H : Hp) (C : Addr) (cl : List (Str × Addr)) (fp : List Addr) (n : Nat) (D : Addr), ActOk (X.blk s H scope (compEnvC scope cl C X.env) fp) [] (own.map (·.2)) n D (act D (compEnvC scope cl C X.env)) (body n))
    (hv : ∀ i ∈ p.own, i ∈ own.map (·.2)) (hs : ∀ x, foldedSetIterable iter X.env x = pure x) :
    PE X (.DictComp kx vx (⟨tg, iter, ifs, 0⟩ :: gs) scope pos) (liftE (gX X) W (wCompG wi p t body (own.map (·.2)) m0)) := by
  refine ⟨fun pins s σ H Q I h => ?_⟩
  obtain ⟨ι, S, ρ, q, e, R, r, h, hq, he⟩ := h
  rw [arm_eval_DictComp]
  have hfree : ∀ y ∈ scope.names, y.2 = .free → ∃ c, X.env.cells.lookup y.1 = some c := fun y hy z => (ok.free y hy z).elim (fun k => I.ok.has _ (.inl k)) fun k => I.ok.has _ (.inr k)
  refine wpAny_comprehension_free (use := none) rfl hs (closure_ok hfree) ok.kind (fun y hy z => by rw [ok.uniq y hy, z])
    (thn (hi.run pins s σ H (fun J H1 => ∃ c ι1 S1, Ex H ι H1 ι1 ∧ Rl (gX X) H1 ι1 S1 ∧ Jok (gX X) J c H1 ι1 ∧ walkC c p t (body S1.length) (wipeR ρ (own.map (·.2))) (fun S2 => q (.ref S1.length) S2) c.items (S1 ++ [m0])) I ⟨ι, S, ρ, _, e, R, r, h, fun c S1 z ι1 H1 J e1 R1 jok => ⟨c, ι1, S1, e1, R1, jok, z⟩, he⟩) fun xv s1 hx => thn hx fun itv s2 h2 => ?_)
  obtain ⟨it, fp, tn, J, H2, rfl, I2, T, st2, f2, c, ι2, S2, e2, R2, jok, w2⟩ := h2
  refine wpAny_newObj_type (newEnv_comp ?_)
  have big : sysModules < s2.heap.objs.size := I2.big
  generalize hD : s2.heap.objs.size = D at big
  have hDn : H2 D = none := I2.hok.fresh (Nat.le_of_eq hD)
  generalize hs3 : ({ s2 with heap := s2.heap.push dObj0 } : Shared) = s3
  have h3 : s3.heap = s2.heap.push dObj0 := by rw [← hs3]
  have I3 : Inv X pins σ (upd H2 D (o0 D)) s3 := by
    rw [← hs3]
    refine I2.laid (t' := s2.toks) (fun b o z => Heap.get?_push_of_some _ z) (Nat.le_of_eq hD) ?_
    rw [← hD]
    exact hnew s2.heap H2 (by rw [hD]; exact big)
  obtain ⟨e3, R3⟩ := R2.new hDn (u := o0 D) (o := m0) (hMR H2 ι2 D (beq_eq_false_iff_ne.mpr (Nat.ne_of_gt big)))
  have f3 : ∀ b ∈ fp, FpOk X pins (upd H2 D (o0 D)) b ∧ b < s3.heap.objs.size := fun b hb => by
    obtain ⟨o, z, _⟩ := T.obj _ _ st2 b hb
    have hlt := Heap.lt_size z
    refine ⟨⟨?_, (f2 b hb).2⟩, by rw [h3, Heap.size_push]; exact Nat.lt_succ_of_lt hlt⟩
    rw [upd_ne (by rw [← hD]; exact Nat.ne_of_lt hlt)]
    exact (f2 b hb).1
  have st3 : tn 0 s3.heap := T.keep _ _ _ st2 fun b _ o z => by rw [h3]; exact Heap.get?_push_of_some _ z
  have I4 := block_start I3 ok hN f3
  show codeAny _ _ (.compStart _ 0 (.ref it) (.ref D) (compEnvC scope (cellsFrom (s3.heap.objs.size + 1) scope.names (cloFrom X.env.cells scope.names [])) s3.heap.objs.size X.env)) (compPost (model X.prog X.w) X.A X.xe none (EP X pins σ Q) (.ref D) s3.heap.objs.size) { s3 with heap := pushCells (s3.heap.push { cls := .type "dict", data := .dict #[] }) scope.names }
  have pg := hg s3 (upd H2 D (o0 D)) s3.heap.objs.size (cellsFrom (s3.heap.objs.size + 1) scope.names (cloFrom X.env.cells scope.names [])) fp
  have pt := ht s3 (upd H2 D (o0 D)) s3.heap.objs.size (cellsFrom (s3.heap.objs.size + 1) scope.names (cloFrom X.env.cells scope.names [])) fp
  have pa := ha s3 (upd H2 D (o0 D)) s3.heap.objs.size (cellsFrom (s3.heap.objs.size + 1) scope.names (cloFrom X.env.cells scope.names [])) fp S2.length D
  have cL : (compEnvC scope (cellsFrom (s3.heap.objs.size + 1) scope.names (cloFrom X.env.cells scope.names [])) s3.heap.objs.size X.env).locals = s3.heap.objs.size := rfl
  generalize hce : compEnvC scope (cellsFrom (s3.heap.objs.size + 1) scope.names (cloFrom X.env.cells scope.names [])) s3.heap.objs.size X.env = ce at I4 pg pt pa cL ⊢
  have st4 : tn 0 (pushCells (s3.heap.push { cls := .type "dict", data := .dict #[] }) scope.names) := T.keep _ _ _ st3 fun b _ o z => pushCells_keeps _ _ _ _ (Heap.get?_push_of_some _ z)
  have fb : ∀ b ∈ fp, FpOk (X.blk s3 (upd H2 D (o0 D)) scope ce fp) [] (upd H2 D (o0 D)) b := fun b hb =>
    ⟨(f3 b hb).1.1, (I4.ok.exf b hb).1, I4.ok.exfs b hb, .inl hb, fun x c z => (I4.ok.exf b hb).2 x c z, fun p hp => absurd (show p ∈ ([] : List (Addr × Obj)) ++ [] from hp) (by simp)⟩
  have hww : L2.wipe (L2.wipe σ (own.map (·.2))) (own.map (·.2)) = L2.wipe σ (own.map (·.2)) := wipe_wipe _ σ fun _ z => z
  have hDat : (ι2 ++ [D])[S2.length]? = some D := by rw [← R2.len]; simp
  have loop : codeAny (model X.prog X.w) X.A (.compLoop (.DictComp kx vx (⟨tg, iter, ifs, 0⟩ :: gs) scope pos) 0 (.ref it) (.ref D) ce) (compPost (model X.prog X.w) X.A X.xe none (EP X pins σ Q) (.ref D) s3.heap.objs.size) { s3 with heap := pushCells (s3.heap.push { cls := .type "dict", data := .dict #[] }) scope.names } := by
    refine level (Y := X.blk s3 (upd H2 D (o0 D)) scope ce fp) (pins := []) hc (fun _ _ z => z) (pcD _ _ _ _ _ _ _ _ _) (eq _ _ _) T pg pt hv pa I4 hww st4 fb R3 (((r.ex R e2).wipe _).ex R2 e3) hDat ?_ w2 fun s' H' ι' S' I' n' e' R' w' => ?_
    · -- the iterator goes on as ahead of the new dict
      intro i H' ι' S' ee RR okk
      exact jok i H' ι' S' (e3.trans ee) RR okk
    · have I7 : Inv X pins σ H' s' := I3.call' (ch := fp) I'.os I'.base I'.hok I'.bare fun b hb => ⟨(f3 b hb).1.2.2.2.1, (f3 b hb).1.2.1, (f3 b hb).1.2.2.2.2.1, (f3 b hb).1.2.2.2.2.2⟩
      have nC : H' s3.heap.objs.size = none := by
        have z : H' ce.locals = none := I'.free
        rw [cL] at z
        exact z
      obtain ⟨m, hn, _⟩ := I'.loc
      have hn : s'.heap.Ns ce.locals m := hn
      rw [cL] at hn
      obtain ⟨f0, f1, _, f4, f5, f6⟩ := I3.fpOk (Nat.le_refl _) nC
      refine ⟨m, hn, fun h'' sb => ?_⟩
      exact ⟨.ref D, H', I7.turned (t' := s'.toks) (fun b o hb z => (sb.2 b hb).trans z) f0 f1 f4 f5 f6, rfl, hq _ _ w' ι' H' _ ((e2.trans e3).trans e') R' (.ref (e'.get hDat))⟩
  exact startC (psD _ _ _ _ _ _ _ _ _) rfl loop fun Q' q' => T.self X.A 0 _ Q' _ st4 q'
end
theorem ActOk.mono {Y : Cx} {pins : List (Addr × Obj)} {vs us : List Nat} {n : Nat} {D : Addr} {act : Sem PySem.Fin → Sem PySem.Fin} {body : BD} (h : ActOk Y pins vs n D act body) (hs : ∀ i ∈ vs, i ∈ us) : ActOk Y pins us n D act body :=
  fun q s H σ ρ ι S k nxt Q I R r hD w hQ => h q s H σ ρ ι S k nxt Q I R r hD w fun s' σ' H' ι' S' I' l kk => hQ s' σ' H' ι' S' I' l fun j hj => kk j fun z => hj (hs j z)
abbrev wDCK (wi : WI) (p : Pat) (t : WT) (ek ev : WE) (vs : List Nat) : WE := wCompG wi p t (putB ek ev) vs (.dk [])
abbrev wDC2 (wi : WI) (p : Pat) (t : WT) (wi2 : WI) (p2 : Pat) (t2 : WT) (ek ev : WE) (vs : List Nat) : WE := wCompG wi p t (fun n => inB wi2 p2 t2 (putB ek ev n) p2.own) vs (.dk [])
section
variable {X : Cx} {W : WX}
theorem e_dcK {kx vx tg iter : Expr} {ifs : List Expr} {scope : Scope} {own : List (Str × Nat)} {pos : Pos} {wi : WI} {p : Pat} {t : WT} {ek ev : WE} (hc : X.calm = true) (hN : X.N.Nodup) (hi : PI X tg iter (liftI (gX X) W wi)) (ok : BlkOk X.N X.env.scope scope own)
    (hg : ∀ (s : Shared) (H : Hp) (C : Addr) (cl : List (Str × Addr)) (fp : List Addr), PG (X.blk s H scope (compEnvC scope cl C X.env) fp) tg (p.rd X.K))
    (ht : ∀ (s : Shared) (H : Hp) (C : Addr) (cl : List (Str × Addr)) (fp : List Addr), PTs (X.blk s H scope (compEnvC scope cl C X.env) fp) ifs (liftT (gX X) W0 t))
    (hk : ∀ (s : Shared) (H : Hp) (C : Addr) (cl : List (Str × Addr)) (fp : List Addr), PE (X.blk s H scope (compEnvC scope cl C X.env) fp) kx (liftE (gX X) W0 ek))
    (he : ∀ (s : Shared) (H : Hp) (C : Addr) (cl : List (Str × Addr)) (fp : List Addr), PE (X.blk s H scope (compEnvC scope cl C X.env) fp) vx (liftE (gX X) W0 ev))
    (hv : ∀ i ∈ p.own, i ∈ own.map (·.2) := by decide) (hs : ∀ x, foldedSetIterable iter X.env x = pure x := by intro _; rfl) :
    PE X (.DictComp kx vx [⟨tg, iter, ifs, 0⟩] scope pos) (liftE (gX X) W (wDCK wi p t ek ev (own.map (·.2)))) :=
  dc_run (o0 := fun _ => .dK []) (act := actD kx vx) hc hN hi ok (fun h H hb => dk_empty h hb) (fun H ι a _ => ⟨[], upd_same, .nil⟩) (fun it D env => eqD1 _ _ _ _ _ _ _ _ _ _) hg ht
    (fun s H C cl fp n D => actD_ok (Y := X.blk s H scope (compEnvC scope cl C X.env) fp) (fun _ _ z => z) (hk s H C cl fp) (he s H C cl fp)) hv hs
theorem e_dc2 {kx vx tg iter tg1 iter1 : Expr} {ifs ifs1 : List Expr} {scope : Scope} {own : List (Str × Nat)} {pos : Pos} {wi wi1 : WI} {p p1 : Pat} {t t1 : WT} {ek ev : WE} (hc : X.calm = true) (hN : X.N.Nodup) (hi : PI X tg iter (liftI (gX X) W wi)) (ok : BlkOk X.N X.env.scope scope own)
    (hg : ∀ (s : Shared) (H : Hp) (C : Addr) (cl : List (Str × Addr)) (fp : List Addr), PG (X.blk s H scope (compEnvC scope cl C X.env) fp) tg (p.rd X.K))
    (ht : ∀ (s : Shared) (H : Hp) (C : Addr) (cl : List (Str × Addr)) (fp : List Addr), PTs (X.blk s H scope (compEnvC scope cl C X.env) fp) ifs (liftT (gX X) W0 t))
    (hi1 : ∀ (s : Shared) (H : Hp) (C : Addr) (cl : List (Str × Addr)) (fp : List Addr), PI (X.blk s H scope (compEnvC scope cl C X.env) fp) tg1 iter1 (liftI (gX X) W0 wi1))
    (hg1 : ∀ (s : Shared) (H : Hp) (C : Addr) (cl : List (Str × Addr)) (fp : List Addr), PG (X.blk s H scope (compEnvC scope cl C X.env) fp) tg1 (p1.rd X.K))
    (ht1 : ∀ (s : Shared) (H : Hp) (C : Addr) (cl : List (Str × Addr)) (fp : List Addr), PTs (X.blk s H scope (compEnvC scope cl C X.env) fp) ifs1 (liftT (gX X) W0 t1))
    (hk : ∀ (s : Shared) (H : Hp) (C : Addr) (cl : List (Str × Addr)) (fp : List Addr), PE (X.blk s H scope (compEnvC scope cl C X.env) fp) kx (liftE (gX X) W0 ek))
    (he : ∀ (s : Shared) (H : Hp) (C : Addr) (cl : List (Str × Addr)) (fp : List Addr), PE (X.blk s H scope (compEnvC scope cl C X.env) fp) vx (liftE (gX X) W0 ev))
    (hv : ∀ i ∈ p.own, i ∈ own.map (·.2) := by decide) (hv1 : ∀ i ∈ p1.own, i ∈ own.map (·.2) := by decide) (hs : ∀ x, foldedSetIterable iter X.env x = pure x := by intro _; rfl) (hs1 : ∀ env x, foldedSetIterable iter1 env x = pure x := by intro _ _; rfl) :
    PE X (.DictComp kx vx [⟨tg, iter, ifs, 0⟩, ⟨tg1, iter1, ifs1, 0⟩] scope pos) (liftE (gX X) W (wDC2 wi p t wi1 p1 t1 ek ev (own.map (·.2)))) :=
  dc_run (o0 := fun _ => .dK []) (act := fun D env => inner (.DictComp kx vx [⟨tg, iter, ifs, 0⟩, ⟨tg1, iter1, ifs1, 0⟩] scope pos) iter1 (.ref D) env) hc hN hi ok (fun h H hb => dk_empty h hb) (fun H ι a _ => ⟨[], upd_same, .nil⟩) (fun it D env => eqD2o _ _ _ _ _ _ _ _ _ _ _ _ _) hg ht
    (fun s H C cl fp n D => ActOk.mono (inner_ok (Y := X.blk s H scope (compEnvC scope cl C X.env) fp) hc (fun _ _ z => z) rfl (fun _ => pcD _ _ _ _ _ _ _ _ _) (fun _ => psD _ _ _ _ _ _ _ _ _) (fun it => eqD2i _ _ _ _ _ _ _ _ _ _ _ _ _) (hs1 _) (hi1 s H C cl fp) (hg1 s H C cl fp) (ht1 s H C cl fp) (fun _ z => z)
      fun q => actD_ok (Y := X.blk s H scope (compEnvC scope cl C X.env) fp) (fun _ _ z => z) (hk s H C cl fp) (he s H C cl fp)) hv1) hv hs
end
/-! ### dicts by tuples -/
section
variable {X : Cx} {pins : List (Addr × Obj)} {σ : L2.St} {H : Hp} {s : Shared}
mutual
theorem nk_of (I : Inv X pins σ H s) {ι : List Addr} : ∀ (k : NestedKey) (v : V) (u : Value), Rp (gX X) H ι (keyD k) v → RelV v u → NestedIs s.heap k u
  | .none, _, _, r, rv => by cases r; cases rv; exact .none
  | .num i, _, _, r, rv => by cases r; obtain ⟨t, rfl⟩ := rv; exact .int i t
  | .text x, _, _, r, rv => by cases r; obtain ⟨t, rfl⟩ := rv; exact .text x t
  | .tup ks, _, _, r, rv => by
    cases r with
    | tup s0 r =>
      cases rv
      obtain ⟨its, rr, ⟨o, e, c, n, d⟩, _⟩ := I.tuple s0.sq
      exact .tup e c d (nks_of I ks _ _ r rr)
theorem nks_of (I : Inv X pins σ H s) {ι : List Addr} : ∀ (ks : List NestedKey) (vs : List V) (us : List Value), Rps (gX X) H ι (keyDs ks) vs → Vals vs us → NestedAll s.heap ks us
  | [], _, _, r, rv => by cases r; cases rv; exact .nil
  | k :: ks, _, _, r, rv => by
    cases r with
    | cons r1 r2 =>
      cases rv with
      | cons v1 v2 => exact .cons (nk_of I k _ _ r1 v1) (nks_of I ks _ _ r2 v2)
end
theorem Rl.dt (I : Inv X pins σ H s) {ι : List Addr} {S : Sto} (R : Rl (gX X) H ι S) {n : Nat} {kvs : List (NestedKey × D)} {v : V} (h : S[n]? = some (.dt kvs)) (r : Rp (gX X) H ι (.ref n) v) :
    ∃ a o xs, v = .ref a ∧ H a = some (atO a o) ∧ DtObj (gX X) o xs ∧ (a == sysModules) = false ∧ Paired (EntR (gX X) H ι) kvs xs ∧ ι[n]? = some a ∧ s.heap.DictOfH (nestedKind X.prog X.w) a xs := by
  cases r with
  | @ref n a e0 =>
    obtain ⟨a', e1, o, xs, h1, h2, h3, h4⟩ := R.get h
    rw [e0] at e1; cases e1
    obtain ⟨f1, _⟩ := I.hok a _ h1
    obtain ⟨d1, ⟨es, ep, d2, d3⟩, d4, d5⟩ := h2
    refine ⟨a, o, xs, rfl, h1, ⟨d1, ⟨es, ep, d2, d3⟩, d4, d5⟩, h3, h4, e0, o, es, ep, f1, d1, d2, d3, fun x hx => ?_, d4⟩
    obtain ⟨p, hp, q⟩ : ∃ p ∈ kvs, EntR (gX X) H ι p x := by
      clear h d3 d4 d5
      induction h4 with
      | nil => cases hx
      | @cons p q ps qs z t ih =>
        rcases List.mem_cons.mp hx with rfl | hx
        · exact ⟨p, List.mem_cons_self, z⟩
        · obtain ⟨p', hp', z'⟩ := ih hx
          exact ⟨p', List.mem_cons_of_mem _ hp', z'⟩
    obtain ⟨q1, q2, q3, _⟩ := q
    rw [q1]
    exact ⟨nk_of I p.1 _ _ q3 rfl, q2⟩
end
section
variable {g : G} {H : Hp} {ι : List Addr}
theorem ent_at {kvs : List (NestedKey × D)} {xs : List Ent} (r : Paired (EntR g H ι) kvs xs) (k : NestedKey) : (kvs.any fun kv => decide (kv.1 = k)) = (atKey xs k).isSome := by
  induction r with
  | nil => rfl
  | @cons p q ps qs h t ih =>
    have e := h.1
    by_cases hk : p.1 = k
    · have : q.1 = k := e.trans hk
      simp [atKey, hk, this]
    · have : ¬ q.1 = k := fun z => hk (e.symm.trans z)
      simp only [List.any_cons, decide_eq_false hk, Bool.false_or, ih]
      simp [atKey, this]
theorem ent_put {kvs : List (NestedKey × D)} {xs : List Ent} (r : Paired (EntR g H ι) kvs xs) {k : NestedKey} {b : Addr} {dz : D} {z : V} {u : Value} (hd : k.depth ≤ 8) (rk : Rp g H ι (keyD k) (.ref b)) (rz : Rp g H ι dz z) (ru : RelV z u) : Paired (EntR g H ι) (putA kvs k dz) (storedH xs k b u) := by
  unfold putA storedH
  rw [ent_at r k]
  by_cases h : (atKey xs k).isSome = true
  · rw [if_pos h, if_pos h]
    clear h
    induction r with
    | nil => exact .nil
    | @cons p q ps qs h t ih =>
      refine .cons ?_ ih
      have e := h.1
      dsimp only
      by_cases hk : p.1 = k
      · have hq : q.1 = k := e.trans hk
        unfold putAt
        rw [if_pos hk, if_pos hq]
        exact ⟨h.1, h.2.1, h.2.2.1, z, ru, rz⟩
      · have hq : ¬ q.1 = k := fun z => hk (e.symm.trans z)
        unfold putAt
        rw [if_neg hk, if_neg hq]
        exact h
  · rw [if_neg h, if_neg h]
    exact Paired.snoc r ⟨rfl, hd, rk, z, ru, rz⟩
theorem ent_len {kvs : List (NestedKey × D)} {xs : List Ent} (r : Paired (EntR g H ι) kvs xs) : kvs.length = xs.length := Paired.length r
theorem storedH_len (xs : List Ent) (k : NestedKey) (b : Addr) (u : Value) : (storedH xs k b u).length ≤ xs.length + 1 := by
  unfold storedH
  split <;> simp
end
def putT (ek ev : WE) (n : Nat) : BD := fun ρ S k => ek ρ S (fun y S1 => ev ρ S1 (fun z S2 => ∃ j kvs, y = keyD (.tup j) ∧ (NestedKey.tup j).depth ≤ 8 ∧ S2[n]? = some (.dt kvs) ∧ kvs.length < sizeLine ∧ k (S2.set n (.dt (putA kvs (.tup j) z)))) (fun _ _ => False)) (fun _ _ => False)
section
variable {Y : Cx} {pins : List (Addr × Obj)} {k : Nat}
theorem dt_write {σ : L2.St} {H : Hp} {s : Shared} {ι : List Addr} {S : Sto} {n : Nat} {kvs : List (NestedKey × D)} {j : List NestedKey} {b : Addr} {dz : D} {z : V} {u : Value} {A : Around} {Q : Unit → Shared → Prop} {E : Value → Shared → Prop} (I : Inv Y pins σ H s) (R : Rl (gX Y) H ι S) (hn : S[n]? = some (.dt kvs)) {a : Addr} (ha : ι[n]? = some a)
    (hu : A.units + 8 < cLine) (hd : (NestedKey.tup j).depth ≤ 8) (rk : Rp (gX Y) H ι (keyD (.tup j)) (.ref b)) (rz : Rp (gX Y) H ι dz z) (ru : RelV z u) (hz : kvs.length < sizeLine)
    (hQ : ∀ s' H', Inv Y pins σ H' s' → Ex H ι H' ι → Rl (gX Y) H' ι (S.set n (.dt (putA kvs (.tup j) dz))) → Q () s') : wpAny (model Y.prog Y.w) A (dictSet a (.ref b) u) Q E s := by
  obtain ⟨a', o, xs, e1, h1, h2, h3, h4, h5, h6⟩ := R.dt I hn (.ref ha)
  cases e1
  have lx := ent_len h4
  refine wpAny_dictSet_heap (knd := nestedKind Y.prog Y.w) hu ⟨nk_of I _ _ _ rk rfl, hd⟩ h6 (fun h' hm' hs' => ?_) (by omega)
  obtain ⟨o', es, ep, g1, g2, g3, g4, g5, g6⟩ := hm'
  have kp : ∀ c u, H c = some u → Imm u → upd H a (atO a o') c = some u := fun c u hc hi => by
    rw [upd_ne]
    · exact hc
    · rintro rfl; exact R.noImm (List.mem_of_getElem? ha) _ hc hi
  have hl := storedH_len xs (.tup j) b u
  obtain ⟨e2, R2⟩ := R.put (u := atO a o') (o' := .dt (putA kvs (.tup j) dz)) hn ha ⟨o', storedH xs (.tup j) b u, upd_same, ⟨g2, ⟨es, ep, g3, g4⟩, g6, by omega⟩, h3, Paired.mapP (ent_put h4 hd rk rz ru) fun p q ⟨q1, q2, q3, v, q4, q5⟩ => ⟨q1, q2, q3.mono kp fun _ _ z => z, v, q4, q5.mono kp fun _ _ z => z⟩⟩
  refine hQ _ _ (I.write (x := a) (e := a) (t' := s.toks + (nestedKind Y.prog Y.w).draws (.tup j)) (by rw [h1]; trivial) (.inl rfl) (fun c w hc hw => (hs'.2 c hc).trans hw) ⟨o', g1⟩ ?_) e2 R2
  exact ⟨g1, ⟨o', g1⟩, fun x1 x2 p kk => kk _ p⟩
theorem actT_ok (hr : Room k Y.A) (hx : ∀ u s, Y.xe u s → False) {kx vx : Expr} {D : Addr} {ek ev : WE} {vs : List Nat} {n : Nat} (pk : PE Y kx (liftE (gX Y) W0 ek)) (pv : PE Y vx (liftE (gX Y) W0 ev)) : ActOk Y pins vs n D (actD kx vx D Y.env) (putT ek ev n) := by
  intro q s H σ ρ ι S k nxt Q I R r hD w hQ
  unfold actD
  refine wpAny_bind (wpAny_bind (wpAny_mono (pk.run _ s σ H (fun y H1 => liftE (gX Y) W0 ev σ H1 fun z H2 => ∃ ι2 S2 dy dz, Ex H ι H2 ι2 ∧ Rl (gX Y) H2 ι2 S2 ∧ Rp (gX Y) H2 ι2 dy y ∧ Rp (gX Y) H2 ι2 dz z ∧ ∃ j kvs, dy = keyD (.tup j) ∧ (NestedKey.tup j).depth ≤ 8 ∧ S2[n]? = some (.dt kvs) ∧ kvs.length < sizeLine ∧ k (S2.set n (.dt (putA kvs (.tup j) dz)))) I
    (two R r w (fun y z S2 h ι2 H2 v u e2 R2 rv ru => ⟨ι2, S2, y, z, e2, R2, rv, ru, h⟩) fun _ _ z => z.elim)) (fun kv s1 h1 => ?_) (noxY hx)))
  obtain ⟨y, H1, I1, r1, h1⟩ := h1
  refine wpAny_bind (wpAny_holding (wpAny_mono (pv.run _ s1 σ H1 _ I1 h1) (fun vv s2 h2 => ?_) (noxY hx)))
  obtain ⟨z, H2, I2, r2, ι2, S2, dy, dz, e2, R2, ry, rz, j, kvs, rfl, hd, hn, hz, h2⟩ := h2
  have ry' := ry
  cases ry' with
  | tup s0 rr =>
    cases r1
    refine wpAny_bind (wpAny_standAt (wpAny_holding ?_))
    exact dt_write I2 R2 hn (e2.get hD) (by have := hr.un; omega) hd ry rz r2 hz fun s3 H3 I3 e3 R3 => hQ s3 σ H3 ι2 _ I3 rfl (fun _ _ => rfl) (e2.trans e3) R3 h2
end
abbrev wDCT (wi : WI) (p : Pat) (t : WT) (ek ev : WE) (vs : List Nat) : WE := wCompG wi p t (putT ek ev) vs (.dt [])
theorem e_dcT {X : Cx} {W : WX} {k : Nat} {kx vx tg iter : Expr} {ifs : List Expr} {scope : Scope} {own : List (Str × Nat)} {pos : Pos} {wi : WI} {p : Pat} {t : WT} {ek ev : WE} (hr : Room k X.A) (hc : X.calm = true) (hN : X.N.Nodup) (hi : PI X tg iter (liftI (gX X) W wi)) (ok : BlkOk X.N X.env.scope scope own)
    (hg : ∀ (s : Shared) (H : Hp) (C : Addr) (cl : List (Str × Addr)) (fp : List Addr), PG (X.blk s H scope (compEnvC scope cl C X.env) fp) tg (p.rd X.K))
    (ht : ∀ (s : Shared) (H : Hp) (C : Addr) (cl : List (Str × Addr)) (fp : List Addr), PTs (X.blk s H scope (compEnvC scope cl C X.env) fp) ifs (liftT (gX X) W0 t))
    (hk : ∀ (s : Shared) (H : Hp) (C : Addr) (cl : List (Str × Addr)) (fp : List Addr), PE (X.blk s H scope (compEnvC scope cl C X.env) fp) kx (liftE (gX X) W0 ek))
    (he : ∀ (s : Shared) (H : Hp) (C : Addr) (cl : List (Str × Addr)) (fp : List Addr), PE (X.blk s H scope (compEnvC scope cl C X.env) fp) vx (liftE (gX X) W0 ev))
    (hv : ∀ i ∈ p.own, i ∈ own.map (·.2) := by decide) (hs : ∀ x, foldedSetIterable iter X.env x = pure x := by intro _; rfl) :
    PE X (.DictComp kx vx [⟨tg, iter, ifs, 0⟩] scope pos) (liftE (gX X) W (wDCT wi p t ek ev (own.map (·.2)))) :=
  dc_run (o0 := fun a => atO a dObj0) (act := actD kx vx) hc hN hi ok
    (fun h H hb => ⟨Heap.get?_push_size _ rfl, ⟨_, Heap.get?_push_size _ rfl⟩, fun h1 h2 p kk => kk _ p⟩)
    (fun H ι a ha => ⟨dObj0, [], upd_same, ⟨⟨rfl, rfl, rfl⟩, ⟨#[], 0, rfl, rfl⟩, List.nodup_nil, Nat.zero_le _⟩, ha, .nil⟩) (fun it D env => eqD1 _ _ _ _ _ _ _ _ _ _) hg ht
    (fun s H C cl fp n D => actT_ok (Y := X.blk s H scope (compEnvC scope cl C X.env) fp) hr (fun _ _ z => z) (hk s H C cl fp) (he s H C cl fp)) hv hs
end Zz
set_option Elab.async false
set_option linter.all false
set_option maxRecDepth 100000
namespace Zz
open PySem PySem.Spec PyProof.Rows L2
open PySem.W (alike alikeAll dataLt AllAlike Sortable SortsAt dataKind dataType EachIs dataLe)
/-! ### data that can be sorted -/
section
variable {prog : Program} {w : World} {A : Around} {E : Value → Shared → Prop} {s : Shared}
theorem oneLt_tup {xs ys : List PyData} {a b : Value} {as bs : List Addr} {Q : Bool → Shared → Prop} (ra : Reads s.heap a (.tuple xs) as) (rb : Reads s.heap b (.tuple ys) bs) (h : alikeAll xs ys = true)
    (hu : A.units + min (PyData.tuple xs).depth (PyData.tuple ys).depth < cLine) (hq : Q (dataLt (.tuple xs) (.tuple ys)) s) : wpAny (model prog w) A (oneLt' true a b) Q E s := by
  cases ra with
  | @tuple l o vs n _ as1 h1 h2 h3 h4 =>
    cases rb with
    | @tuple l' o' vs' n' _ bs1 k1 k2 k3 k4 =>
      obtain ⟨c1, dd1, dt1, sl1⟩ := o
      obtain ⟨c2, dd2, dt2, sl2⟩ := o'
      simp only at h2 h3 k2 k3
      subst h2 h3 k2 k3
      have n1 : vs.size = xs.length := by simpa using SeqAt.ReadsAll.length _ _ _ h4
      have n2 : vs'.size = ys.length := by simpa using SeqAt.ReadsAll.length _ _ _ k4
      rw [PySem.W.dataLt_tuple, ← PySem.W.firstLt_toks xs ys h, ← n1, ← n2] at hq
      rw [oneLt'_eq]
      simp only [if_true]
      refine wpAny_bind (wpAny_cRoomFor (SeqAt.room_here hu) ?_)
      refine wpAny_bind (wpAny_callSpecialIfBound?_slot (T := "tuple") ⟨_, h1, rfl⟩ PySem.F.slot_tuple_lt (call_meets PySem.F.slot_tuple_lt ⟨_, h1, rfl⟩ PySem.F.entry_tuple_lt (PySem.F.args_tuple_lt_2 _ _)
        (SeqAt.tuple_ltAt l l' vs vs' n n' dd1 dd2 sl1 sl2 (SeqAt.pairEq xs ys) (fun j => dataLt (xs.getD j .none) (ys.getD j .none))) ⟨h1, k1, fun j j1 j2 => ?_, fun j j1 j2 hj => ?_, ?_⟩))
      · have := PySem.W.eqAt_alikeAll xs ys A.in1 s vs.toList vs'.toList _ _ h4 k4 h (SeqAt.room_in hu) j (by simpa using j1) (by simpa using j2)
        simpa using this
      · have := PySem.W.rcLt_alikeAll xs ys A.in1 s vs.toList vs'.toList _ _ h4 k4 h (SeqAt.room_in hu) j (by simpa using j1) (by simpa using j2) hj
        simpa using this
      · exact wpAny_truthy_bool hq
/-- the first items of tuples -/
def firstD (ds : List PyData) : List Bool := ds.map fun d => match d with | .tuple (_ :: _) => true | _ => false
theorem firsts_tup : ∀ {vs : List Value} {ds : List PyData} {Q : List (Option Value) → Shared → Prop}, EachIs (fun v d => ∃ as, Reads s.heap v d as) vs ds → (∀ d ∈ ds, ∃ xs, d = .tuple xs) →
    (∀ fs : List (Option Value), fs.map (·.isSome) = firstD ds → Q fs s) → wpAny (model prog w) A (vs.mapM firstOfTuple') Q E s
  | _, _, Q, .nil, _, h => by rw [List.mapM_nil]; exact wpAny_pure (h [] rfl)
  | _, _, Q, .cons (b := d) ⟨as, r⟩ t, ht, h => by
    obtain ⟨xs, rfl⟩ := ht d List.mem_cons_self
    rw [List.mapM_cons]
    refine wpAny_bind ?_
    rw [PySem.W.kas_first_eq]
    cases r with
    | @tuple a o vs n _ _ ho hc hd hr =>
      refine wpAny_bind (PySem.W.Looks.here (show PySem.W.Looks (model prog w) s.heap (typeOf (.ref a)) o.cls from (PySem.W.Looks.ld ho).andThen .now) ?_)
      rw [hc, if_neg (by first | decide | simp)]
      refine wpAny_bind (listItems_at ho hd (wpAny_pure (wpAny_bind ?_)))
      refine firsts_tup (Q := fun bs s' => wpAny (model prog w) A (pure (vs[0]? :: bs)) Q E s') t (fun d hd => ht d (List.mem_cons_of_mem _ hd)) fun fs hf => wpAny_pure (h _ ?_)
      have e : vs[0]?.isSome = (match PyData.tuple xs with | .tuple (_ :: _) => true | _ => false) := by
        have hl : vs.toList.length = xs.length := SeqAt.ReadsAll.length _ _ _ hr
        cases xs with
        | nil =>
          have : vs.size = 0 := by simpa using hl
          simp [this]
        | cons x r =>
          have : 0 < vs.size := by
            have h2 : vs.size = r.length + 1 := by simpa using hl
            omega
          simp [this]
      simp only [List.map_cons, firstD, hf, e]
theorem all_of_isSome {α : Type} : ∀ (fs : List (Option α)), fs.all (·.isSome) = (fs.map (·.isSome)).all id
  | [] => rfl
  | f :: fs => by rw [List.all_cons, List.map_cons, List.all_cons, all_of_isSome fs]; rfl
/-- alike data, none of them None: they can be sorted -/
theorem sorts_any {vs : List Value} {ds : List PyData} (e : EachIs (fun v d => ∃ as, Reads s.heap v d as) vs ds) (hal : AllAlike ds) (hn : ∀ d ∈ ds, d ≠ .none) (hu : ∀ d ∈ ds, A.units + d.depth < cLine) : SortsAt prog w A s (dataKind s.heap ds) vs := by
  by_cases ht : ∀ d ∈ ds, ∃ xs, d = .tuple xs
  · by_cases hne : ∀ d ∈ ds, ∃ x r, d = .tuple (x :: r)
    · exact SortsAt.data e hal (.inl hne) hu
    · have room : ∀ {d d' : PyData}, d ∈ ds → A.units + min d.depth d'.depth < cLine := fun {d d'} hd => Nat.lt_of_le_of_lt (Nat.add_le_add_left (Nat.min_le_left _ _) _) (hu d hd)
      have hfa : (firstD ds).all id = false := by
        rw [Bool.eq_false_iff]
        intro z
        refine hne fun d hd => ?_
        have q := List.all_eq_true.mp z
        obtain ⟨xs, rfl⟩ := ht d hd
        have := q _ (List.mem_map.mpr ⟨_, hd, rfl⟩)
        cases xs with
        | nil => exact absurd this (by decide)
        | cons x r => exact ⟨x, r, rfl⟩
      refine ⟨fun v hv => ?_, if (firstD ds)[0]?.getD false = true then general' else oneType', ?_, fun h2 E Q hq => ?_⟩
      · obtain ⟨d, hd, as, r⟩ := e.left v hv
        exact ⟨_, PySem.W.dataKind_some hal hd r⟩
      · intro E x y a b Q ha hb hq
        obtain ⟨d, as, hd, ra, rfl⟩ := PySem.W.dataKind_inv ha
        obtain ⟨d', as', hd', rb, rfl⟩ := PySem.W.dataKind_inv hb
        split
        · show wpAny (model prog w) A (oneLt' false x y) Q E s
          exact PySem.W.oneLt_alike (fun z => absurd z (by simp)) ra rb (hal d hd d' hd') (hn d hd) (room hd) hq
        · rw [keyLt'_oneType]
          obtain ⟨xs, rfl⟩ := ht d hd
          obtain ⟨ys, rfl⟩ := ht d' hd'
          exact oneLt_tup ra rb (by have := hal _ hd _ hd'; simpa [alike] using this) (room hd) hq
      · rw [keyKind'_eq, List.mapM_toArray, map_eq_pure_bind]
        refine wpAny_bind (wpAny_bind (firsts_tup e ht fun fs hf => wpAny_pure ?_))
        have h1 : (fs.toArray.all fun x => x.isSome) = false := by rw [List.all_toArray, all_of_isSome, hf]; exact hfa
        rw [h1, if_neg Bool.false_ne_true]
        have h0 : (fs.toArray[0]?.bind id).isSome = (firstD ds)[0]?.getD false := by
          rw [← hf]
          cases fs with
          | nil => rfl
          | cons f r => cases f <;> rfl
        rw [h0]
        split
        · rename_i hc
          rw [if_pos hc] at hq
          exact wpAny_pure hq
        · rename_i hc
          rw [if_neg hc] at hq
          cases ds with
          | nil => cases e; exact absurd h2 (by simp)
          | cons d0 ds0 =>
            rw [oneTypeOnly'_eq, List.mapM_toArray, map_eq_pure_bind]
            refine wpAny_bind (wpAny_bind (wpAny_bind (PySem.W.kas_mapM (r := Value.type "tuple") _ (fun v hv Q' hq' => ?_) (wpAny_pure ?_))))
            · obtain ⟨d, hd, as, r⟩ := e.left v hv
              obtain ⟨xs, rfl⟩ := ht d hd
              exact PySem.W.Looks.here (PySem.W.looks_reads r) hq'
            · have hall2 : ((List.map (fun _ => Value.type "tuple") vs).toArray.all fun x => x == Value.type "tuple") = true := by
                simp only [List.all_toArray, List.all_map, List.all_eq_true]
                intro _ _
                rfl
              have hv0 : (List.map (fun _ => Value.type "tuple") vs).toArray[0]? = some (Value.type "tuple") := by
                cases vs with
                | nil => exact absurd h2 (by simp)
                | cons v r => simp
              rw [hv0]
              simp only [hall2, if_true]
              exact wpAny_pure (wpAny_pure hq)
  · have hnt : ∀ d ∈ ds, d ≠ .none ∧ ∀ xs, d ≠ .tuple xs := fun d hd => ⟨hn d hd, fun xs z => ht fun d' hd' => by
      have q := hal d hd d' hd'
      subst z
      cases d' with
      | tuple ys => exact ⟨ys, rfl⟩
      | _ => exact absurd q (by simp [alike])⟩
    exact SortsAt.data e hal (.inr hnt) hu
end
/-! ### what an iterable gives -/
/-- collecting x's items gives vs, where P vs -/
def ColOk (prog : Program) (w : World) (A : Around) (x : Value) (s : Shared) (P : List Value → Prop) : Prop := ∀ (E : Value → Shared → Prop) (Q : List Value → Shared → Prop),
  (∀ (s' : Shared) (vs : List Value), P vs → (∀ b o, s.heap.get? b = some o → s'.heap.get? b = some o) → s'.os = s.os → s'.gens = s.gens → Q vs s') → wpAny (model prog w) A (collect x) Q E s
section
variable {prog : Program} {w : World} {A : Around} {s : Shared}
theorem col_list {l : Addr} {vs : List Value} (hl : s.heap.IsList l vs.toArray) (hz : vs.length ≤ sizeLine) : ColOk prog w A (.ref l) s (· = vs) := fun E Q h => by
  have hlt : ∀ b o, s.heap.get? b = some o → b ≠ s.heap.objs.size := fun b o e => Nat.ne_of_lt (Heap.lt_size e)
  refine collect_list hl (h _ vs rfl (fun b o e => ?_) rfl rfl) hz
  exact (Heap.get?_update_other _ _ (Ne.symm (hlt b o e))).trans (Heap.get?_push_of_some _ e)
theorem col_tuple {l : Addr} {vs : List Value} (ht : IsTup s.heap l vs.toArray) (hz : vs.length ≤ sizeLine) : ColOk prog w A (.ref l) s (· = vs) := fun E Q h => by
  obtain ⟨o, ho, hc, n, hd⟩ := id ht
  have hlt : ∀ b o, s.heap.get? b = some o → b ≠ s.heap.objs.size := fun b o e => Nat.ne_of_lt (Heap.lt_size e)
  unfold collect
  refine wpAny_bind (wpAny_runValue (codeAny_builtin entry_proto_collect' ?_))
  show wpAny _ _ (PySem.newList [] >>= fun l' => again (.builtin "list.__iadd__" ⟨[l', .ref l], []⟩)) _ _ s
  refine wpAny_bind (wpAny_newList (wpAny_pure ⟨Code.quiet_builtin _ (by decide +kernel), codeAny_builtin entry_list_iadd' ?_⟩))
  have ho' : (s.heap.push (seqObj "list" #[] 0)).get? l = some o := Heap.get?_push_of_some _ ho
  have hS : (s.heap.push (seqObj "list" #[] 0)).get? s.heap.objs.size = some (seqObj "list" #[] 0) := Heap.get?_push_size _ rfl
  show wpAny _ _ (Builtin.List.listExtendWith (.ref s.heap.objs.size) (.ref l) (.ref s.heap.objs.size)) _ _ { s with heap := s.heap.push (seqObj "list" #[] 0) }
  unfold Builtin.List.listExtendWith
  refine wpAny_bind (wpAny_typeOf (T := "tuple") ⟨o, ho', hc⟩ ?_)
  rw [if_pos (by have e : (Value.type "tuple" == Value.type "tuple") = true := rfl
                 rw [e, Bool.or_true])]
  refine wpAny_bind (listItems_at ho' hd ?_)
  refine wpAny_bind (listItems_at hS rfl ?_)
  rw [if_neg (by simp)]
  refine wpAny_bind (listUpdate_at hS rfl ?_ (Nat.zero_le _) (by show (#[] ++ vs.toArray).size ≤ sizeLine + 1; simp only [Array.size_append, List.size_toArray, List.length_nil]; omega))
  refine wpAny_pure ?_
  refine wpAny_bind (wpAny_load (get?_update_seq hS _) ?_)
  show wpAny _ _ (pure ((#[] : Array Value) ++ vs.toArray).toList) Q E _
  have e : ((#[] : Array Value) ++ vs.toArray).toList = vs := by simp
  rw [e]
  refine wpAny_pure (h _ vs rfl (fun b o' e' => ?_) rfl rfl)
  exact (Heap.get?_update_other _ _ (Ne.symm (hlt b o' e'))).trans (Heap.get?_push_of_some _ e')
theorem kdl_raw {d : Addr} {es : Array DictEntry} {ep : Nat} (lo : (d == sysModules) = false) : PySem.W.KdlSrc prog w "dict" d d es.size (fun i v => ∃ hi : i < es.size, v = es[i].key) (fun h => h.DictRaw d es ep) where
  type := fun _ hm => hm.typeIs
  there := fun h hm => let ⟨o, ho, _⟩ := hm; ⟨Heap.lt_size ho, Heap.lt_size ho⟩
  keep := fun _ _ hm hk => hm.at fun o e => hk d (.inl rfl) o e
  notList := by decide
  notTuple := by decide
  hint := fun _ _ _ _ hm hq => PySem.W.kdl_hint_dict hm.typeIs hq
  iter := fun A s hh hm => ⟨_, _, (fun _ _ hq => wpAny_pyIter_dict_raw lo hm hq), Walks.rawKeys hh _ d (Nat.ne_of_lt (let ⟨o, ho, _⟩ := hm; Heap.lt_size ho)) es ep, ⟨⟨_, Heap.get?_push_size _ rfl, rfl, rfl⟩, hm.at fun o e => Heap.get?_push_of_some _ e⟩⟩
theorem col_dict {d : Addr} {es : Array DictEntry} {ep : Nat} (hh : A.handled = none) (lo : (d == sysModules) = false) (hm : s.heap.DictRaw d es ep) (hz : es.size ≤ sizeLine) : ColOk prog w A (.ref d) s (· = es.toList.map (·.key)) := fun E Q h => by
  refine PySem.W.kdu_collect (kdl_raw lo) hh hm hz fun h' tk acc kp ha => ?_
  refine h _ _ ?_ kp rfl rfl
  apply List.ext_getElem
  · rw [List.length_map, Array.length_toList, Array.length_toList]; exact ha.1
  · intro i h1 h2
    obtain ⟨hi, q⟩ := ha.2 i _ (Array.getElem?_eq_getElem (by rw [Array.length_toList] at h1; exact h1))
    rw [Array.getElem_toList, q, List.getElem_map, Array.getElem_toList]
end
/-! ### sorted(x) -/
section
variable {prog : Program} {w : World} {A : Around} {E : Value → Shared → Prop} {s : Shared}
theorem sorted_rawP {β : Type} {R : Value → β → Prop} {enc : β → PyData} {x : Value} {Pb : List β → Prop} {P : List Value → Prop} {Q : Value → Shared → Prop} (hcol : ColOk prog w A.in1 x s P) (hP : ∀ us, P us → ∃ bs, Pb bs ∧ (EachIs R us bs ∧ EachIs (fun v b => ∃ as, Reads s.heap v (enc b) as) us bs) ∧ AllAlike (bs.map enc) ∧ (∀ b ∈ bs, enc b ≠ .none ∧ (enc b).depth ≤ 64) ∧ bs.length ≤ sizeLine)
    (hu : A.units + 70 < cLine)
    (hQ : ∀ (bs : List β) (s1 : Shared) (out : List Value) (c : Nat) (h2 : Heap), Pb bs → (∀ b o, s.heap.get? b = some o → s1.heap.get? b = some o) → s1.os = s.os → s1.gens = s.gens → (∀ b o, s1.heap.get? b = some o → h2.get? b = some o) →
      h2.get? s1.heap.objs.size = some (seqObj "list" out.toArray c) → EachIs R out (bs.mergeSort (dataLe false enc)) → Q (.ref s1.heap.objs.size) { s1 with heap := h2 }) :
    wpAny (model prog w) A (call (.builtin "sorted") [x]) Q E s := by
  refine Calls.call_function_entry PyProof.Rows.kind_sorted PyProof.Rows.plain_sorted PyProof.Rows.entry_sorted (PyProof.Rows.args_sorted1 _) ?_
  unfold Builtin.«sorted»
  refine wpAny_bind (m := checkCount "sorted" 1 1 _) (wpAny_pure ?_)
  refine wpAny_bind (hcol _ _ fun s1 us hp kp os gn => ?_)
  obtain ⟨bs, hpb, ⟨e1, e2⟩, hal, hn, hL⟩ := hP us hp
  have hl : us.length = bs.length := e1.length
  refine wpAny_bind (wpAny_newList ?_ (by rw [hl]; exact hL))
  have hoL : (s1.heap.push (seqObj "list" us.toArray 0)).get? s1.heap.objs.size = some (seqObj "list" us.toArray 0) := Heap.get?_push_size _ rfl
  show wpAny _ _ _ _ _ { s1 with heap := s1.heap.push (seqObj "list" us.toArray 0) }
  have kq : ∀ b o, s.heap.get? b = some o → (PySem.W.sortingHeap (s1.heap.push (seqObj "list" us.toArray 0)) s1.heap.objs.size us).get? b = some o := fun b o e => by
    have q := kp b o e
    exact PySem.W.sortingHeap_old (Nat.ne_of_lt (Heap.lt_size q)) (Heap.get?_push_of_some _ q)
  have er : EachIs (fun v b => ∃ as, Reads (PySem.W.sortingHeap (s1.heap.push (seqObj "list" us.toArray 0)) s1.heap.objs.size us) v (enc b) as) us bs := e2.mono fun _ _ ⟨as, r⟩ => ⟨as, PyProof.Rows.Reads.keeps kq r⟩
  have So := sorts_any (prog := prog) (w := w) (A := A.in1.in1) (s := { s1 with heap := PySem.W.sortingHeap (s1.heap.push (seqObj "list" us.toArray 0)) s1.heap.objs.size us }) (PySem.W.each_map (R := fun v d => ∃ as, Reads (PySem.W.sortingHeap (s1.heap.push (seqObj "list" us.toArray 0)) s1.heap.objs.size us) v d as) enc er) hal
    (fun d hd => by obtain ⟨b, hb, rfl⟩ := List.mem_map.mp hd; exact (hn b hb).1)
    (fun d hd => by obtain ⟨b, hb, rfl⟩ := List.mem_map.mp hd; have := (hn b hb).2; show A.units + 1 + 1 + _ < _; omega)
  refine wpAny_bind (wpAny_holding (wpAny_call_entry PyProof.Rows.slot_list_sort ⟨_, hoL, rfl⟩ PyProof.Rows.entry_list_sort
    (PySem.W.list_sort_vals (s := { s1 with heap := s1.heap.push (seqObj "list" us.toArray 0) }) hoL So (by rw [hl]; exact hL) ⟨_, rfl, ?_⟩) (PyProof.Rows.args_list_sort _)))
  obtain ⟨c, hc⟩ := PyProof.Rows.sortedHeap_at (vs := us) (out := (PySem.W.sortVals (dataKind (PySem.W.sortingHeap (s1.heap.push (seqObj "list" us.toArray 0)) s1.heap.objs.size us) (bs.map enc)) false us us).toArray) hoL
  refine wpAny_pure ⟨_, rfl, hQ bs s1 _ c _ hpb kp os gn (fun b o e => ?_) hc (PySem.W.sortVals_data false e1 er hal)⟩
  have hb : b < s1.heap.objs.size := Heap.lt_size e
  rw [PyProof.Rows.sortedHeap_old (Nat.ne_of_lt hb) (by rw [size_push']; exact Nat.lt_succ_of_lt hb)]
  exact Heap.get?_push_of_some _ e
theorem sorted_raw {β : Type} {R : Value → β → Prop} {enc : β → PyData} {x : Value} {bs : List β} {P : List Value → Prop} {Q : Value → Shared → Prop} (hcol : ColOk prog w A.in1 x s P) (hP : ∀ us, P us → EachIs R us bs ∧ EachIs (fun v b => ∃ as, Reads s.heap v (enc b) as) us bs)
    (hal : AllAlike (bs.map enc)) (hn : ∀ b ∈ bs, enc b ≠ .none ∧ (enc b).depth ≤ 64) (hL : bs.length ≤ sizeLine) (hu : A.units + 70 < cLine)
    (hQ : ∀ (s1 : Shared) (out : List Value) (c : Nat) (h2 : Heap), (∀ b o, s.heap.get? b = some o → s1.heap.get? b = some o) → s1.os = s.os → s1.gens = s.gens → (∀ b o, s1.heap.get? b = some o → h2.get? b = some o) →
      h2.get? s1.heap.objs.size = some (seqObj "list" out.toArray c) → EachIs R out (bs.mergeSort (dataLe false enc)) → Q (.ref s1.heap.objs.size) { s1 with heap := h2 }) :
    wpAny (model prog w) A (call (.builtin "sorted") [x]) Q E s :=
  sorted_rawP (Pb := (· = bs)) hcol (fun us h => ⟨bs, rfl, hP us h, hal, hn, hL⟩) hu fun b s1 out c h2 e => by subst e; exact hQ s1 out c h2
end
/-- what x's items are -/
def ItsV (g : G) (H : Hp) (x : V) (vs : List V) : Prop := ∃ a, x = .ref a ∧ ((SqL g.K H a vs ∨ SqT g.K H a vs) ∨ (∃ kvs : List (Key × V), H a = some (.dK kvs) ∧ vs = kvs.map fun p => kV p.1) ∨
  ∃ o xs, H a = some (atO a o) ∧ DtObj g o xs ∧ (a == sysModules) = false ∧ vs = xs.map fun q => V.ref q.2.1)
section
variable {X : Cx} {k : Nat} {pins : List (Addr × Obj)} {σ : L2.St} {H : Hp} {s : Shared} {A : Around}
theorem vals_at {vs : List V} {us : List Value} (hl : vs.length = us.length) (h : ∀ (i : Nat) (v : V) (u : Value), vs[i]? = some v → us[i]? = some u → RelV v u) : Vals vs us := by
  induction vs generalizing us with
  | nil => cases us with
    | nil => exact .nil
    | cons _ _ => simp at hl
  | cons v vs ih => cases us with
    | nil => simp at hl
    | cons u us => exact .cons (h 0 v u rfl rfl) (ih (by simpa using hl) fun i v u e1 e2 => h (i + 1) v u (by simpa using e1) (by simpa using e2))
theorem col_of (hh : A.handled = none) (I : Inv X pins σ H s) {x : V} {u : Value} {vs : List V} (h : ItsV (gX X) H x vs) (r : RelV x u) : ColOk X.prog X.w A u s (Vals vs) := by
  obtain ⟨a, rfl, h⟩ := h
  cases r
  have weak : ∀ {us : List Value}, ColOk X.prog X.w A (.ref a) s (· = us) → Vals vs us → ColOk X.prog X.w A (.ref a) s (Vals vs) := fun c v E Q hq => c E Q fun s' us' e => by subst e; exact hq s' _ v
  rcases h with (h | h) | ⟨kvs, h, rfl⟩ | ⟨o, xs, h, hd, hs, rfl⟩
  · obtain ⟨its, rv, pl, hz⟩ := I.list h
    exact weak (col_list pl.isList (by rw [← rv.length]; exact hz)) rv
  · obtain ⟨its, rv, pl, hz⟩ := I.tuple h
    exact weak (col_tuple pl (by rw [← rv.length]; exact hz)) rv
  · obtain ⟨z, lo, ws, rel, dd⟩ := dk_of I.hok h
    obtain ⟨es, ep, hr, hsz, he⟩ := dd.raw
    have hl : kvs.length = es.size := by rw [hsz, rel.length]
    refine weak (col_dict hh lo hr (by rw [← hl]; exact z)) (vals_at (by simp [hl]) fun i v u e1 e2 => ?_)
    rw [List.getElem?_map] at e1 e2
    obtain ⟨p, hp, rfl⟩ := Option.map_eq_some_iff.mp e1
    obtain ⟨q, hq, rfl⟩ := Option.map_eq_some_iff.mp e2
    have hi : i < es.size := by
      have := (List.getElem?_eq_some_iff.mp hq).1
      simpa using this
    have e3 : es[i] = q := by
      rw [Array.getElem?_toList, Array.getElem?_eq_getElem hi] at hq
      exact Option.some.inj hq
    have hiw : i < ws.length := by rw [← hsz]; exact hi
    have hy : ws[i]? = some (ws[i].1, ws[i].2) := List.getElem?_eq_getElem hiw
    obtain ⟨h1, _⟩ := he i hi _ _ hy
    have hk := congrArg (·[i]?) rel.keys
    simp only [List.getElem?_map, hp, hy, Option.map_some] at hk
    rw [Option.some.inj hk]
    rw [e3] at h1
    rcases keyIs_shape h1 with ⟨j, t, e4, e5⟩ | ⟨j, t, e4, e5⟩
    · rw [e4, e5]; exact ⟨t, rfl⟩
    · rw [e4, e5]; exact ⟨t, rfl⟩
  · obtain ⟨f1, _⟩ := I.hok a _ h
    obtain ⟨d1, ⟨es, ep, d2, d3⟩, _, hz⟩ := hd
    have hl : es.size = xs.length := by
      have := congrArg List.length d3
      simpa using this
    refine weak (col_dict hh hs ⟨o, f1, d1, d2⟩ (by rw [hl]; exact hz)) ?_
    rw [d3, List.map_map]
    refine vals_at (by simp) fun i v u e1 e2 => ?_
    rw [List.getElem?_map] at e1 e2
    obtain ⟨p, hp, rfl⟩ := Option.map_eq_some_iff.mp e1
    rw [hp] at e2
    cases e2
    rfl
end
def rSortD (g : G) : List V → Hp → VK → Prop := fun xs H Q => ∃ (ι : List Addr) (x : V) (ds : List D) (kf : D → PyData) (vs : List V), xs = [x] ∧ ItsV g H x vs ∧ Rps g H ι ds vs ∧ (∀ (i : Nat) d v, ds[i]? = some d → vs[i]? = some v → Dp g.K H v (kf d)) ∧
  AllAlike (ds.map kf) ∧ (∀ d ∈ ds, kf d ≠ .none ∧ (kf d).depth ≤ 64) ∧ ds.length ≤ sizeLine ∧ ∀ p out, H p = none → Rps g H ι (ds.mergeSort (dataLe false kf)) out → Q (.ref p) (upd H p (.lst out))
theorem each_rps {g : G} {H : Hp} {ι : List Addr} : ∀ {us : List Value} {ds : List D}, EachIs (fun u d => ∃ x, RelV x u ∧ Rp g H ι d x) us ds → ∃ vs, Vals vs us ∧ Rps g H ι ds vs
  | _, _, .nil => ⟨[], .nil, .nil⟩
  | _, _, .cons ⟨x, h1, h2⟩ t => by
    obtain ⟨vs, h3, h4⟩ := each_rps t
    exact ⟨x :: vs, .cons h1 h3, .cons h2 h4⟩
theorem rps_each {g : G} {H : Hp} {ι : List Addr} : ∀ {us : List Value} {vs : List V} {ds : List D}, Vals vs us → Rps g H ι ds vs → EachIs (fun u d => ∃ x, RelV x u ∧ Rp g H ι d x) us ds
  | _, _, _, .nil, r => by cases r; exact .nil
  | _, _, _, .cons h t, r => by
    cases r with
    | cons r1 r2 => exact .cons ⟨_, h, r1⟩ (rps_each t r2)
theorem each_at {α β : Type} {F : α → β → Prop} : ∀ {us : List α} {ds : List β}, us.length = ds.length → (∀ (i : Nat) u d, us[i]? = some u → ds[i]? = some d → F u d) → EachIs F us ds
  | [], [], _, _ => .nil
  | [], _ :: _, h, _ => by simp at h
  | _ :: _, [], h, _ => by simp at h
  | u :: us, d :: ds, h, f => .cons (f 0 u d rfl rfl) (each_at (by simpa using h) fun i u d e1 e2 => f (i + 1) u d (by simpa using e1) (by simpa using e2))
theorem cr_srt {X : Cx} {k : Nat} (hr : Room k X.A) : CallR X (.builtin "sorted") (rSortD (gX X)) := by
  intro pins s σ H xs us Q I r h
  obtain ⟨ι, x, ds, kf, vs, rfl, hi, rd, hdp, hal, hn, hz, q⟩ := h
  obtain ⟨u, rfl, rx⟩ := vals1 r
  have hu := hr.un
  refine sorted_raw (R := fun u d => ∃ x, RelV x u ∧ Rp (gX X) H ι d x) (enc := kf) (bs := ds) (col_of (A := X.A.in1) hr.hd I hi rx) (fun us hv => ⟨rps_each hv rd, each_at (by rw [← hv.length, ← rd.length]) fun i u d e1 e2 => ?_⟩) hal hn hz (by omega)
    fun s1 out c h2 kp os gn kp2 hp he => ?_
  · obtain ⟨v, hv1, hv2⟩ := rd.get e2
    obtain ⟨u', hu1, hu2⟩ := hv.get hv1
    rw [e1] at hu1; cases hu1
    exact Dp.reads I (kf d) v u (hdp i d v e2 hv1) hu2
  · obtain ⟨vo, hvo, hro⟩ := each_rps he
    obtain ⟨hh1, g1, d1, t1, os1⟩ := s1
    simp only at kp os gn kp2 hp ⊢
    subst os gn
    have I1 : Inv X pins σ H { s with heap := hh1, gens := s.gens, drawn := d1, toks := t1 } := I.call (ch := []) (Un.kept kp) (I.hok.kept kp) I.bare (fun b z => absurd z (by simp))
    have hlen : vo.length ≤ sizeLine := by rw [← hro.length, (List.mergeSort_perm _ _).length_eq]; exact hz
    have hfr : H hh1.objs.size = none := I1.hok.fresh (Nat.le_refl _)
    exact ⟨.ref hh1.objs.size, upd H hh1.objs.size (.lst vo), I1.laid (t' := t1) (h' := h2) kp2 (Nat.le_refl _) (show ObjOk X.prog X.w _ h2 _ (.lst vo) from ⟨hlen, out, c, hvo, hp⟩), rfl, q _ vo hfr hro⟩
/-- x's items -/
def itsD (S : Sto) (x : D) : Option (List D) := match x with
  | .tup xs => some xs
  | .rol xs => some xs
  | .ref n => (match S[n]? with | some (.lst xs) => some xs | some (.dk kvs) => some (kvs.map fun p => kD p.1) | some (.dt kvs) => some (kvs.map fun p => keyD p.1) | _ => none)
  | _ => none
def fSorted : FA := fun S xs Q => match xs with
  | [x] => ∃ ds kf, itsD S x = some ds ∧ (∀ d ∈ ds, Sn S d (kf d)) ∧ AllAlike (ds.map kf) ∧ (∀ d ∈ ds, kf d ≠ .none ∧ (kf d).depth ≤ 64) ∧ ds.length ≤ sizeLine ∧ Q (.ref S.length) (S ++ [.lst (ds.mergeSort (dataLe false kf))])
  | _ => False
theorem its_rp {g : G} {H : Hp} {ι : List Addr} {S : Sto} {x : D} {v : V} {ds : List D} (R : Rl g H ι S) (r : Rp g H ι x v) (h : itsD S x = some ds) : ∃ vs, ItsV g H v vs ∧ Rps g H ι ds vs := by
  cases r with
  | tup s r => cases h; exact ⟨_, ⟨_, rfl, .inl (.inr s.sq)⟩, r⟩
  | rol s r => cases h; exact ⟨_, ⟨_, rfl, .inl (.inl s.sq)⟩, r⟩
  | @ref n a e0 =>
    simp only [itsD] at h
    cases ho : S[n]? with
    | none => rw [ho] at h; cases h
    | some o =>
      rw [ho] at h
      cases o with
      | lst xs =>
        cases h
        obtain ⟨a', vs, e1, e2, r, _⟩ := R.list ho (.ref e0)
        cases e1
        exact ⟨vs, ⟨a, rfl, .inl (.inl (.inl (.inl e2)))⟩, r⟩
      | dk kvs =>
        cases h
        obtain ⟨a', vs, e1, e2, r, _⟩ := R.dict ho (.ref e0)
        cases e1
        refine ⟨_, ⟨a, rfl, .inr (.inl ⟨vs, e2, rfl⟩)⟩, ?_⟩
        clear e2 ho
        unfold RelKV at r
        induction r with
        | nil => exact .nil
        | @cons p q ps qs h t ih =>
          refine .cons ?_ ih
          dsimp only
          rw [h.1]
          cases p.1 with
          | inl i => exact .int i
          | inr x => exact .str x
      | dt kvs =>
        cases h
        obtain ⟨a', e1, o, xs, h1, h2, h3, h4⟩ := R.get ho
        rw [e0] at e1; cases e1
        refine ⟨_, ⟨a, rfl, .inr (.inr ⟨o, xs, h1, h2, h3, rfl⟩)⟩, ?_⟩
        clear h1 h2 ho
        induction h4 with
        | nil => exact .nil
        | @cons p q ps qs h t ih => exact .cons h.2.2.1 ih
      | st _ => cases h
      | tab _ _ => cases h
      | off => cases h
  | _ => cases h
theorem ok_srt {g : G} : OkA g (rSortD g) fSorted := by
  intro H ι S xs vs Q q R r hf hq
  match xs, r, hf with
  | [x], r, hf =>
    obtain ⟨v, rfl, r1⟩ := r.one
    obtain ⟨ds, kf, hi, hs, hal, hn, hz, z⟩ := hf
    obtain ⟨us, hi', rd⟩ := its_rp R r1 hi
    refine ⟨ι, v, ds, kf, us, rfl, hi', rd, fun i d u e1 e2 => ?_, hal, hn, hz, fun p out hp ro => ?_⟩
    · obtain ⟨u', e3, ru⟩ := rd.get e1
      rw [e2] at e3; cases e3
      exact (hs d (List.mem_of_getElem? e1)).dp R ru
    · obtain ⟨e3, R3, rp⟩ := newList R hp ro
      exact hq _ _ z _ _ _ e3 R3 rp
end Zz
set_option Elab.async false
set_option linter.all false
set_option maxRecDepth 100000
namespace Zz
open PySem PySem.Spec PyProof.Rows L2
open PySem.W (alike alikeAll dataLt AllAlike Sortable SortsAt dataKind dataType EachIs dataLe KeepsBut KeyedOut)
/-! ### things that are tuples through and through -/
mutual
def pureD : D → Bool
  | .non => true
  | .bl _ => true
  | .int _ => true
  | .str _ => true
  | .tup xs => pureDs xs
  | .glo _ => true
  | .ty _ => true
  | .rol _ => false
  | .tpz _ => false
  | .ref _ => false
  | .clo _ _ _ _ _ => false
def pureDs : List D → Bool
  | [] => true
  | d :: ds => pureD d && pureDs ds
end
mutual
/-- data as a value -/
def dP : PyData → D
  | .none => .non
  | .bool b => .bl b
  | .int i => .int i
  | .str x => .str x
  | .tuple xs => .tup (dPs xs)
  | .list xs => .rol (dPs xs)
  | .dict _ => .non
def dPs : List PyData → List D
  | [] => []
  | p :: ps => dP p :: dPs ps
end
mutual
/-- tuples, numbers, texts, truth values, None -/
def flatP : PyData → Bool
  | .none => true
  | .bool _ => true
  | .int _ => true
  | .str _ => true
  | .tuple xs => flatPs xs
  | .list _ => false
  | .dict _ => false
def flatPs : List PyData → Bool
  | [] => true
  | p :: ps => flatP p && flatPs ps
end
def immH (H : Hp) : Hp := fun b => match H b with
  | some (.frz o (.tup xs)) => some (.frz o (.tup xs))
  | _ => none
theorem immH_some {H : Hp} {b : Addr} {u : HO} (h : immH H b = some u) : ∃ o xs, u = .frz o (.tup xs) ∧ H b = some (.frz o (.tup xs)) := by
  unfold immH at h
  split at h
  · cases h; exact ⟨_, _, rfl, by assumption⟩
  · cases h
theorem immH_of {H : Hp} {b : Addr} {o : Obj} {xs : List V} (h : H b = some (.frz o (.tup xs))) : immH H b = some (.frz o (.tup xs)) := by
  unfold immH; rw [h]
theorem immH_none {H : Hp} {b : Addr} (h : H b = none) : immH H b = none := by
  unfold immH; rw [h]
mutual
theorem Rp.imm {g : G} {H : Hp} {ι ι' : List Addr} : ∀ {d : D} {v : V}, pureD d = true → Rp g H ι d v → Rp g (immH H) ι' d v
  | _, _, _, .non => .non
  | _, _, _, .bl b => .bl b
  | _, _, _, .int i => .int i
  | _, _, _, .str x => .str x
  | _, _, p, .tup s r => .tup (s.imp (fun ⟨o, h, d⟩ => ⟨o, immH_of h, d⟩) id) (Rps.imm (by rw [pureD] at p; exact p) r)
  | _, _, p, .tpz s r => absurd p (by rw [pureD]; exact Bool.false_ne_true)
  | _, _, p, .rol s r => absurd p (by rw [pureD]; exact Bool.false_ne_true)
  | _, _, p, .ref e => absurd p (by rw [pureD]; exact Bool.false_ne_true)
  | _, _, _, .glo e => .glo e
  | _, _, _, .ty n => .ty n
  | _, _, p, .clo _ _ => absurd p (by rw [pureD]; exact Bool.false_ne_true)
theorem Rps.imm {g : G} {H : Hp} {ι ι' : List Addr} : ∀ {ds : List D} {vs : List V}, pureDs ds = true → Rps g H ι ds vs → Rps g (immH H) ι' ds vs
  | _, _, _, .nil => .nil
  | _, _, p, .cons r t => by
    rw [pureDs, Bool.and_eq_true] at p
    exact .cons (Rp.imm p.1 r) (Rps.imm p.2 t)
end
theorem hok_imm {P : Program} {w : World} {H : Hp} {h : Heap} (x : HOk P w H h) : HOk P w (immH H) h := fun b u e => by
  obtain ⟨o, xs, rfl, e2⟩ := immH_some e
  exact x b _ e2
mutual
theorem pure_dP : ∀ p : PyData, flatP p = true → pureD (dP p) = true
  | .none, _ => rfl
  | .bool _, _ => rfl
  | .int _, _ => rfl
  | .str _, _ => rfl
  | .tuple xs, h => by rw [flatP] at h; rw [dP, pureD]; exact pure_dPs xs h
  | .list _, h => by rw [flatP] at h; cases h
  | .dict _, h => by rw [flatP] at h; cases h
theorem pure_dPs : ∀ ps : List PyData, flatPs ps = true → pureDs (dPs ps) = true
  | [], _ => rfl
  | p :: ps, h => by
    rw [flatPs, Bool.and_eq_true] at h
    rw [dPs, pureDs, pure_dP p h.1, pure_dPs ps h.2]; rfl
end
mutual
/-- what such a value reads as -/
theorem reads_dP {g : G} {H : Hp} {h : Heap} {ι : List Addr} (hok : HOk g.P g.w H h) (kin : g.K.In h) : ∀ (p : PyData) {v : V} {u : Value}, flatP p = true → Rp g H ι (dP p) v → RelV v u → Reads h u p []
  | .none, _, _, _, r, q => by rw [dP] at r; cases r; cases q; exact .none
  | .bool b, _, _, _, r, q => by rw [dP] at r; cases r; cases q; exact .bool b
  | .int i, _, _, _, r, q => by rw [dP] at r; cases r; obtain ⟨t, rfl⟩ := q; exact .int i t
  | .str x, _, _, _, r, q => by rw [dP] at r; cases r; obtain ⟨t, rfl⟩ := q; exact .str x t
  | .tuple xs, _, _, f, r, q => by
    rw [dP] at r
    rw [flatP] at f
    cases r with
    | tup s r =>
      cases q
      rcases s with ⟨o, e, hd⟩ | ⟨o, its, n, e, hc, hd, hdt, hz, rv⟩
      · obtain ⟨e1, z, its, rv, o', e2, hc, n, hdt⟩ := hok _ _ e
        exact .tuple e2 hc hdt (by simpa using reads_dPs hok kin xs f r rv)
      · exact .tuple (kin _ o e) hc hdt (reads_dPs hok kin xs f r rv)
  | .list _, _, _, f, _, _ => by rw [flatP] at f; cases f
  | .dict _, _, _, f, _, _ => by rw [flatP] at f; cases f
theorem reads_dPs {g : G} {H : Hp} {h : Heap} {ι : List Addr} (hok : HOk g.P g.w H h) (kin : g.K.In h) : ∀ (ps : List PyData) {vs : List V} {us : List Value}, flatPs ps = true → Rps g H ι (dPs ps) vs → Vals vs us → ReadsAll h us ps []
  | [], _, _, _, r, q => by rw [dPs] at r; cases r; cases q; exact .nil
  | p :: ps, _, _, f, r, q => by
    rw [dPs] at r
    rw [flatPs, Bool.and_eq_true] at f
    cases r with
    | cons r1 r2 =>
      cases q with
      | cons q1 q2 => exact .cons (reads_dP hok kin p f.1 r1 q1) (reads_dPs hok kin ps f.2 r2 q2)
end
/-! ### a call that keeps all -/
/-- all kept, but the slots of frames -/
structure KF (fs : List Addr) (s s' : Shared) : Prop where
  keep : ∀ b o, b ∉ fs → s.heap.get? b = some o → s'.heap.get? b = some o
  slot : ∀ b o, b ∈ fs → s.heap.get? b = some o → ∃ sl, s'.heap.get? b = some { o with slots := sl }
  os : s'.os = s.os
  bare : AllBare s'.gens
theorem KF.un {fs : List Addr} {s s' : Shared} (k : KF fs s s') (H : Hp) (hf : ∀ b ∈ fs, H b = none) : Un fs [] H H s.heap s'.heap :=
  ⟨fun b o e _ hb _ => k.keep b o hb e, fun b o e _ hb _ => k.slot b o hb e, fun _ _ _ n _ => n, fun b o e _ => by
    by_cases hb : b ∈ fs
    · obtain ⟨sl, q⟩ := k.slot b o hb e
      exact ⟨_, q⟩
    · exact ⟨o, k.keep b o hb e⟩, fun _ _ q => q, fun _ _ _ q => q, fun _ ps q => ⟨#[], by rw [q]; simp⟩⟩
theorem KF.hok {fs : List Addr} {s s' : Shared} (k : KF fs s s') {P : Program} {w : World} {H : Hp} (hf : ∀ b ∈ fs, H b = none) (x : HOk P w H s.heap) : HOk P w H s'.heap := fun b u e =>
  (x b u e).stay (fun c v hc q => k.keep c v (fun hm => by
    have n := hf c hm
    rcases hc with rfl | hc
    · rw [n] at e; cases e
    · rw [n] at hc; cases hc) q) (fun _ q => q) fun _ _ q => q
theorem KF.inv {X : Cx} {pins : List (Addr × Obj)} {σ : L2.St} {H : Hp} {s s' : Shared} (k : KF (frs X.stack) s s') (I : Inv X pins σ H s) : Inv X pins σ H s' := by
  have u := k.un H I.stkFree
  have hk := k.hok I.stkFree I.hok
  obtain ⟨hh, gg, dd, tt, oo⟩ := s'
  obtain rfl : oo = s.os := k.os
  exact I.call (h' := hh) (g' := gg) (d' := dd) (t' := tt) (ch := []) u hk k.bare (fun b z => absurd z (by simp))
/-- what can be called with one thing: f does what γ says, at states of which C is true -/
structure KeyFn (X : Cx) (k : Nat) (f : Addr) (γ : Ga) (Fs : List Addr) (C : Shared → Prop) : Prop where
  run : ∀ (A : Around) (s : Shared) (H : Hp) (u : Value) (v : V) (d : D) (q : QD) (e : QX) (Q : VK) (E : XK), Room k A → A.guards = some [] → Env0 X.prog X.w X.K X.mg X.base A X.stack s H → C s → RelV v u → Rl (gX X) H [] [] → Rp (gX X) H [] d v →
    γ [d] [] q e → (∀ d S', q d S' → upE (gX X) H [] Q d S') → (∀ x S', e x S' → ∀ ι' H' cls d, Ex H [] H' ι' → Rl (gX X) H' ι' S' → Rx (gX X) H' ι' x cls d → E cls d H') →
    codeAny (model X.prog X.w) A (.call (.ref f) ⟨[u], []⟩) (CR (L2.CX X.prog X.w) X.stack X.prog X.w H s Q E) s
  keep : ∀ s s' : Shared, C s → (∀ b o, b ∈ Fs → s.heap.get? b = some o → s'.heap.get? b = some o) → C s'
theorem keyFn_def {X : Cx} {k : Nat} {f : Addr} {fd : FuncData} {ps : List Str} {γ : Ga} (F : FnG (gX X) X.base k f fd ps γ) (hb : Binds X.K fd ps []) : KeyFn X k f γ [] (fun _ => True) :=
  ⟨fun A s H u v d q e Q E hr hgd e1 _ ru R rx hγ hq he => by
    have hl : ([u] ++ [] : List Value).length = ps.length := by rw [List.append_nil]; exact F.len _ _ _ _ hγ
    have hB := hb s [u] (e1.mod.kin.keeps fun b o z => (e1.bs b o z).1) hl
    rw [List.append_nil] at hB
    exact F.run A X.stack s H ⟨[u], []⟩ [u] [v] [] [] [d] q e Q E hr hgd e1 hB (.cons ru .nil) R (.cons rx .nil) hγ hq he, fun _ _ _ _ => True.intro⟩
/-- the key of one item -/
theorem key_call {X : Cx} {pins : List (Addr × Obj)} {σ : L2.St} {H Hk : Hp} {s : Shared} {A : Around} {k : Nat} {f : Addr} {γ : Ga} {Fs : List Addr} {C : Shared → Prop} {d : D} {x : V} {u : Value} {p : PyData} (F : KeyFn X k f γ Fs C) (hc : C s)
    (hr : Room k A) (hgd : A.guards = some []) (hfr : A.frames = X.A.frames) (I : Inv X pins σ H s) (hok : HOk X.prog X.w Hk s.heap) (him : ∀ b v, Hk b = some v → ∃ o xs, v = .frz o (.tup xs)) (hf : ∀ b ∈ frs X.stack, Hk b = none) (hbs : ∀ b o, X.base.get? b = some o → Hk b = none)
    (rx : Rp (gX X) Hk [] d x) (ru : RelV x u) (hp : flatP p = true) (hγ : γ [d] [] (fun r _ => r = dP p) (fun _ _ => False)) {Q : Value → Shared → Prop}
    (hQ : ∀ r s' Hk' v, KF (frs X.stack) s s' → HOk X.prog X.w Hk' s'.heap → (∀ b v, Hk' b = some v → ∃ o xs, v = .frz o (.tup xs)) → (∀ b o, s.heap.get? b = some o → Hk b = none → Hk' b = none) → (∀ b v, Hk b = some v → Hk' b = some v) → RelV v r → Rp (gX X) Hk' [] (dP p) v → Q r s') :
    wpAny (model X.prog X.w) A (call (.ref f) [u]) Q noX s := by
  have R0 : Rl (gX X) Hk [] [] := ⟨rfl, List.nodup_nil, fun n o b h _ => by simp at h⟩
  have e0 := I.env0
  have e1 : Env0 X.prog X.w X.K X.mg X.base A X.stack s Hk := ⟨hfr.trans e0.frames, e0.mod, fun b o e => ⟨(e0.bs b o e).1, hbs b o e⟩, e0.bsz, e0.funs, hf, hok, e0.bare⟩
  refine wpAny_call (codeAny_mono (F.run A s Hk u x d _ _ (fun v H' => ∃ ι', Ex Hk [] H' ι' ∧ Rp (gX X) H' ι' (dP p) v) (fun _ _ _ => False) hr hgd e1 hc ru R0 rx hγ
    (fun r S' hr' ι' H' v ee RR rv => by subst hr'; exact ⟨ι', ee, rv⟩) fun _ _ z => z.elim) fun res s' h => ?_)
  cases res with
  | error e =>
    obtain ⟨_, _, _, _, _, _, _, _, _, _, _, _, z⟩ := h
    exact z.elim
  | ok fl =>
    cases fl with
    | next => exact False.elim h
    | brk => exact False.elim h
    | cont => exact False.elim h
    | ret r =>
      obtain ⟨v, H', os, bare, un, hok', rv, ι', ee, rp⟩ := h
      have kp : ∀ b o, b ∉ frs X.stack → s.heap.get? b = some o → s'.heap.get? b = some o := fun b o hb e => by
        cases q : Hk b with
        | none => exact un.keep b o e q hb List.not_mem_nil
        | some v =>
          obtain ⟨o', xs, rfl⟩ := him b v q
          obtain ⟨e2, _⟩ := hok b _ q
          rw [e] at e2; cases e2
          obtain ⟨e3, _⟩ := hok' b _ (un.frzs b _ _ q)
          exact e3
      refine hQ r s' (immH H') v ⟨kp, fun b o hb e => un.slot b o e (hf b hb) hb List.not_mem_nil, os, bare⟩ (hok_imm hok') (fun b v e => ?_) (fun b o e n => immH_none (un.free b o e n List.not_mem_nil)) (fun b v e => ?_) rv (rp.imm (pure_dP p hp))
      · obtain ⟨o, xs, h1, _⟩ := immH_some e
        exact ⟨o, xs, h1⟩
      · obtain ⟨o, xs, rfl⟩ := him b v e
        exact immH_of (un.frzs b _ _ e)
/-- all kept but the object at a and frames' slots -/
structure KB (a : Addr) (fs : List Addr) (s s' : Shared) : Prop where
  keep : ∀ b o, b ≠ a → b ∉ fs → s.heap.get? b = some o → s'.heap.get? b = some o
  slot : ∀ b o, b ∈ fs → s.heap.get? b = some o → ∃ sl, s'.heap.get? b = some { o with slots := sl }
  os : s'.os = s.os
  bare : AllBare s'.gens
theorem KB.kf {a : Addr} {fs : List Addr} {s s1 s2 : Shared} (k : KB a fs s s1) (k2 : KF fs s1 s2) : KB a fs s s2 :=
  ⟨fun b o h1 h2 e => k2.keep b o h2 (k.keep b o h1 h2 e), fun b o h e => by
    obtain ⟨sl, q⟩ := k.slot b o h e
    obtain ⟨sl', q'⟩ := k2.slot b _ h q
    exact ⟨sl', q'⟩, k2.os.trans k.os, k2.bare⟩
theorem KB.but {a c : Addr} {fs : List Addr} {s s1 : Shared} {h2 : Heap} {tk : Nat} (k : KB a fs s s1) (kp : ∀ b o, b ≠ c → b ≠ a → s1.heap.get? b = some o → h2.get? b = some o) (hc : s.heap.get? c = none) (hcf : c ∉ fs) (haf : a ∉ fs) : KB a fs s { s1 with heap := h2, toks := tk } :=
  ⟨fun b o h1 hb e => kp b o (fun z => by rw [z, hc] at e; cases e) h1 (k.keep b o h1 hb e), fun b o h e => by
    obtain ⟨sl, q⟩ := k.slot b o h e
    exact ⟨sl, kp b _ (fun z => hcf (z ▸ h)) (fun z => haf (z ▸ h)) q⟩, k.os, k.bare⟩
theorem hok_but {P : Program} {w : World} {H : Hp} {h h' : Heap} {c : Addr} (x : HOk P w H h) (kp : ∀ b o, b ≠ c → h.get? b = some o → h'.get? b = some o) (hc : H c = none) (hown : ∀ b v, H b = some v → ∃ o xs, v = .frz o (.tup xs)) : HOk P w H h' := fun b u e =>
  (x b u e).stay (fun d v hd q => kp d v (fun z => by
    subst z
    rcases hd with rfl | hd
    · rw [hc] at e; cases e
    · rw [hc] at hd; cases hd) q) (fun _ q => q) fun _ _ q => q
theorem pure_mem {ds : List D} (h : pureDs ds = true) : ∀ d ∈ ds, pureD d = true := by
  induction ds with
  | nil => intro d hd; cases hd
  | cons d ds ih =>
    rw [pureDs, Bool.and_eq_true] at h
    intro e he
    rcases List.mem_cons.mp he with rfl | he
    · exact h.1
    · exact ih h.2 e he
theorem dPs_snoc : ∀ (ps : List PyData) (p : PyData), dPs (ps ++ [p]) = dPs ps ++ [dP p]
  | [], _ => rfl
  | q :: ps, p => by rw [List.cons_append, dPs, dPs, dPs_snoc ps p]; rfl
theorem flatPs_mem : ∀ {ps : List PyData}, (∀ p ∈ ps, flatP p = true) → flatPs ps = true
  | [], _ => rfl
  | p :: ps, h => by rw [flatPs, h p List.mem_cons_self, flatPs_mem fun q hq => h q (List.mem_cons_of_mem _ hq)]; rfl
theorem frame_out {X : Cx} {pins : List (Addr × Obj)} {σ : L2.St} {H : Hp} {s : Shared} {a : Addr} (I : Inv X pins σ H s) (f : FpOk X pins H a) : a ∉ frs X.stack := fun h => by
  rcases List.mem_cons.mp (I.stkSub a h) with z | z
  · exact f.2.1 z
  · exact f.2.2.1 z
set_option maxHeartbeats 1000000 in
theorem keyed_tree {X : Cx} {pins : List (Addr × Obj)} {σ : L2.St} {H : Hp} {s : Shared} {A : Around} {k : Nat} {f : Addr} {γ : Ga} {Fs : List Addr} {C : Shared → Prop} {a : Addr} {vs : List Value} {xs : List V} {ds : List D} {kf : D → PyData} {ι : List Addr} {n : Nat} {P : PySem.Fin → Shared → Prop} {E : Value → Shared → Prop}
    (F : KeyFn X k f γ Fs C) (hc : C s) (hFs : ∀ b ∈ Fs, b ∉ frs X.stack ∧ b ≠ a) (hr : Room k A) (hgd : A.guards = some []) (hfr : A.frames = X.A.frames) (I : Inv X pins σ H s) (hfp : FpOk X pins H a) (ho : s.heap.get? a = some (seqObj "list" vs.toArray n)) (rv : Vals xs vs) (rd : Rps (gX X) H ι ds xs)
    (hp : pureDs ds = true) (hk : ∀ d ∈ ds, flatP (kf d) = true ∧ kf d ≠ .none ∧ (kf d).depth ≤ 64 ∧ γ [d] [] (fun r _ => r = dP (kf d)) (fun _ _ => False)) (hal : AllAlike (ds.map kf)) (hz : ds.length ≤ sizeLine)
    (hP : ∀ s' out c, KB a (frs X.stack) s s' → s'.heap.get? a = some (seqObj "list" (List.toArray out) c) → EachIs (fun u d => ∃ x, RelV x u ∧ Rp (gX X) H ι d x) out (ds.mergeSort (dataLe false kf)) → P (.done (.ret .none)) s') :
    wpAny (model X.prog X.w) A (ksk_tree a (.ref f) false) P E s := by
  have lx := rv.length
  have ld := rd.length
  have haf := frame_out I hfp
  have ha : a < s.heap.objs.size := Heap.lt_size ho
  obtain ⟨e1, ho1⟩ : ∃ e1, (s.heap.update a (Obj.mapSeq fun _ => (#[] : Array Value))).get? a = some (seqObj "list" #[] e1) := ⟨_, get?_update_seq ho fun _ => #[]⟩
  have hkS : ((s.heap.update a (Obj.mapSeq fun _ => (#[] : Array Value))).push (seqObj "tuple" vs.toArray 0)).objs.size = s.heap.objs.size + 1 := by rw [size_push', Heap.size_update]
  unfold ksk_tree
  refine wpAny_bind (listItems_at ho rfl ?_)
  refine wpAny_bind (listUpdate_at ho rfl ?_ (by rw [List.size_toArray]; omega) (Nat.zero_le _))
  refine wpAny_bind (seqEpoch_at ho1 rfl ?_)
  refine wpAny_bind (wpAny_newTuple ?_ (by show vs.length ≤ _; omega))
  refine wpAny_bind (wpAny_newList ?_ (Nat.zero_le _))
  refine wpAny_holding ?_
  rw [hkS]
  show wpAny _ A (ksk_rest a (.ref f) false vs.toArray e1 (.ref (s.heap.objs.size + 1))) P E { s with heap := ((s.heap.update a (Obj.mapSeq fun _ => (#[] : Array Value))).push (seqObj "tuple" vs.toArray 0)).push (seqObj "list" #[] 0) }
  generalize hkSe : s.heap.objs.size + 1 = kS at hkS ⊢
  have hkn : s.heap.get? kS = none := Heap.get?_none_of_le (by rw [← hkSe]; exact Nat.le_succ _)
  have hka : kS ≠ a := by rw [← hkSe]; exact Nat.ne_of_gt (Nat.lt_succ_of_lt ha)
  have hkH : H kS = none := I.hok.fresh (by rw [← hkSe]; exact Nat.le_succ _)
  have fk : FpOk X pins H kS := I.fpOk (by rw [← hkSe]; exact Nat.le_succ _) hkH
  have hkf := frame_out I fk
  have hkB : X.base.get? kS = none := by
    cases q : X.base.get? kS with
    | none => rfl
    | some o => have := I.bk kS o q; rw [hkn] at this; cases this
  generalize hh1 : ((s.heap.update a (Obj.mapSeq fun _ => (#[] : Array Value))).push (seqObj "tuple" vs.toArray 0)).push (seqObj "list" #[] 0) = h1
  have k1 : ∀ b o, b ≠ a → s.heap.get? b = some o → h1.get? b = some o := fun b o hb e => by
    rw [← hh1]
    exact Heap.get?_push_of_some _ (Heap.get?_push_of_some _ ((Heap.get?_update_other _ _ (Ne.symm hb)).trans e))
  have nk1 : h1.get? kS = some (seqObj "list" #[] 0) := by
    rw [← hh1, ← hkS]
    exact Heap.get?_push_size _ rfl
  have na1 : h1.get? a = some (seqObj "list" #[] e1) := by
    rw [← hh1]
    exact Heap.get?_push_of_some _ (Heap.get?_push_of_some _ ho1)
  have I1 : Inv X pins σ H { s with heap := h1 } := I.turned (t' := s.toks) k1 hfp.1 hfp.2.1 hfp.2.2.2.1 hfp.2.2.2.2.1 hfp.2.2.2.2.2
  have B1 : KB a (frs X.stack) s { s with heap := h1 } := ⟨fun b o hb _ e => k1 b o hb e, fun b o hb e => ⟨o.slots, k1 b o (fun z => haf (z ▸ hb)) e⟩, rfl, I.bare⟩
  have im0 : ∀ b v, immH H b = some v → ∃ o xs, v = .frz o (.tup xs) := fun b v e => by
    obtain ⟨o, xs, z, _⟩ := immH_some e
    exact ⟨o, xs, z⟩
  let Jn : Nat → Shared → Prop := fun i s' => ∃ (Hk : Hp) (xk : List V) (kA : Array Value) (e : Nat), Inv X pins σ H s' ∧ KB a (frs X.stack) s s' ∧ HOk X.prog X.w Hk s'.heap ∧ (∀ b v, Hk b = some v → ∃ o xs, v = .frz o (.tup xs)) ∧ (∀ b ∈ frs X.stack, Hk b = none) ∧
    (∀ b o, X.base.get? b = some o → Hk b = none) ∧ Hk kS = none ∧ (∀ b v, immH H b = some v → Hk b = some v) ∧ s'.heap.get? kS = some (seqObj "list" kA e) ∧ s'.heap.get? a = some (seqObj "list" #[] e1) ∧ Vals xk kA.toList ∧ Rps (gX X) Hk [] (dPs ((ds.map kf).take i)) xk
  unfold ksk_rest
  refine wpAny_bind (wpAny_rule ?_)
  first
    | rw [List.forIn_toArray]
    | (rw [← Array.forIn_toList]; simp only [List.toList_toArray])
    | rw [← Array.forIn_toList]
  refine wpAny_bind (ksk_fold Jn vs 0 { s with heap := h1 } ⟨immH H, [], #[], 0, I1, B1, hok_imm I1.hok, im0, fun b hb => immH_none (I.stkFree b hb), fun b o e => immH_none (I.bs b o e).2, immH_none hkH, fun _ _ e => e, nk1, na1, .nil, by rw [List.take_zero]; exact .nil⟩ ?step ?done)
  case step =>
    rintro j u s' hx ⟨Hk, xk, kA, e, I', B', ok', im', hf', hbs', hkS', ext', nk', na', rvk, rdk⟩
    simp only [Nat.zero_add] at rdk ⊢
    have hj : j < vs.length := (List.getElem?_eq_some_iff.mp hx).1
    have hjd : j < ds.length := by omega
    obtain ⟨x, hxv, rp⟩ := rd.get (List.getElem?_eq_getElem hjd)
    obtain ⟨u', hu', ru⟩ := rv.get hxv
    rw [hx] at hu'; cases hu'
    have hd := hk ds[j] (List.getElem_mem hjd)
    have rp0 : Rp (gX X) (immH H) [] ds[j] x := rp.imm (pure_mem hp _ (List.getElem_mem hjd))
    have rpk : Rp (gX X) Hk [] ds[j] x := rp0.mono (fun b o e _ => ext' b o e) fun _ _ z => z
    have hkz : kA.size = xk.length := by rw [rvk.length]; simp
    have hkl : xk.length = j := by
      rw [← rdk.length]
      have : ∀ ps : List PyData, (dPs ps).length = ps.length := fun ps => by induction ps with
        | nil => rfl
        | cons p ps ih => rw [dPs, List.length_cons, ih, List.length_cons]
      rw [this, List.length_take, List.length_map]
      omega
    have hcall : wpAny (model X.prog X.w) A (call (.ref f) [u]) (fun r s2 => ∃ Hk2 v2, KF (frs X.stack) s' s2 ∧ HOk X.prog X.w Hk2 s2.heap ∧ (∀ b v, Hk2 b = some v → ∃ o xs, v = .frz o (.tup xs)) ∧ (∀ b o, s'.heap.get? b = some o → Hk b = none → Hk2 b = none) ∧ (∀ b v, Hk b = some v → Hk2 b = some v) ∧ RelV v2 r ∧ Rp (gX X) Hk2 [] (dP (kf ds[j])) v2) noX s' :=
      key_call F (F.keep s s' hc fun b o hb e => B'.keep b o (hFs b hb).2 (hFs b hb).1 e) hr hgd hfr I' ok' im' hf' hbs' rpk ru hd.1 hd.2.2.2 fun r s2 Hk2 v2 z1 z2 z3 z4 z5 z6 z7 => ⟨Hk2, v2, z1, z2, z3, z4, z5, z6, z7⟩
    refine wpAny_bind (wpAny_attempt (wpAny_mono hcall (fun r s2 h2 => ?_) fun _ _ hF => hF.elim))
    obtain ⟨Hk2, v2, kf2, ok2, im2, fr2, ex2, rv2, rp2⟩ := h2
    try dsimp only
    have nk2 := kf2.keep kS _ hkf nk'
    have na2 := kf2.keep a _ haf na'
    have I2 := kf2.inv I'
    have s1 := Heap.SameBut.update s2.heap kS (Obj.mapSeq (·.push r))
    obtain ⟨c2, hc2⟩ : ∃ c2, (s2.heap.update kS (Obj.mapSeq (·.push r))).get? kS = some (seqObj "list" (kA.push r) c2) := ⟨_, get?_update_seq nk2 (·.push r)⟩
    have kp2 : ∀ b o, b ≠ kS → s2.heap.get? b = some o → (s2.heap.update kS (Obj.mapSeq (·.push r))).get? b = some o := fun b o hb e => (s1.2 b hb).trans e
    have hkS2 : Hk2 kS = none := fr2 kS _ nk' hkS'
    have ek : (ds.map kf).take (j + 1) = (ds.map kf).take j ++ [kf ds[j]] := by
      rw [List.take_add_one, List.getElem?_map, List.getElem?_eq_getElem hjd]; rfl
    refine wpAny_bind (listUpdate_at nk2 rfl ?_ (by omega) (by rw [Array.size_push]; omega))
    refine wpAny_pure ⟨rfl, Hk2, xk ++ [v2], kA.push r, c2, I2.turned (t' := s2.toks) kp2 fk.1 fk.2.1 fk.2.2.2.1 fk.2.2.2.2.1 fk.2.2.2.2.2, (B'.kf kf2).but (tk := s2.toks) (fun b o h1 _ e => kp2 b o h1 e) hkn hkf haf, hok_but ok2 kp2 hkS2 im2, im2,
      fun b hb => ?_, fun b o e => fr2 b o (I'.bk b o e) (hbs' b o e), hkS2, fun b v e => ex2 b v (ext' b v e), hc2, (s1.2 a hka.symm).trans na2, ?_, ?_⟩
    · obtain ⟨_, o, q, _⟩ := I'.stack.mem hb
      exact fr2 b o q (hf' b hb)
    · rw [Array.toList_push]; exact rvk.append (.cons rv2 .nil)
    · rw [ek, dPs_snoc]
      exact (rdk.mono (fun b o e _ => ex2 b o e) fun _ _ z => z).app (.cons rp2 .nil)
  case done =>
    rintro s' ⟨Hk, xk, kA, e, I', B', ok', im', hf', hbs', hkS', ext', nk', na', rvk, rdk⟩
    have e3 : (ds.map kf).take (0 + vs.length) = ds.map kf := List.take_of_length_le (by rw [List.length_map]; omega)
    rw [e3] at rdk
    have ldP : ∀ ps : List PyData, (dPs ps).length = ps.length := fun ps => by induction ps with
      | nil => rfl
      | cons p ps ih => rw [dPs, List.length_cons, ih, List.length_cons]
    have hkz : kA.toList.length = ds.length := by rw [← rvk.length, ← rdk.length, ldP, List.length_map]
    have hsz : kA.size = vs.length := by rw [← Array.length_toList, hkz]; omega
    have rds := reads_dPs (g := gX X) (ι := []) ok' I'.kIn (ds.map kf) (flatPs_mem fun p hp' => by obtain ⟨d, hd, rfl⟩ := List.mem_map.mp hp'; exact (hk d hd).1) rdk rvk
    have hke : ∀ {us : List Value} {ps : List PyData}, ReadsAll s'.heap us ps [] → EachIs (fun v d => ∃ as, Reads s'.heap v d as) us ps := fun {us ps} r => by
      generalize has : ([] : List Addr) = as at r
      clear has
      induction ps generalizing us as with
      | nil => cases r; exact .nil
      | cons p ps ih => cases r with
        | cons r1 r2 => exact .cons ⟨_, r1⟩ (ih _ r2)
    have hkk := hke rds
    have So := sorts_any (prog := X.prog) (w := X.w) (A := A) (s := s') hkk hal (fun d hd => by obtain ⟨b, hb', rfl⟩ := List.mem_map.mp hd; exact (hk b hb').2.1)
      (fun d hd => by obtain ⟨b, hb', rfl⟩ := List.mem_map.mp hd; have := (hk b hb').2.2.1; have := hr.un; omega)
    try dsimp only
    refine wpAny_bind (listItems_at nk' rfl ?_)
    refine PySem.W.keyH_end (b := false) (κ := dataKind s'.heap (ds.map kf)) (h₁ := PySem.W.hideAll s'.heap [kS]) (fun b o _ q => PySem.W.of_hideAll _ q) (PySem.W.hideAll_none _ (by simp)) nk' na' hka So hsz (by omega) fun h3 tk3 c k3 n3 => ?_
    have kp3 : ∀ b o, b ≠ kS → b ≠ a → s'.heap.get? b = some o → h3.get? b = some o := fun b o h1 h2 q => k3 b o h2 (PySem.W.hideAll_get _ q (by simpa using h1))
    refine hP _ _ c (B'.but (tk := tk3) kp3 hkn hkf haf) n3 ?_
    have ko : KeyedOut false (ds.map kf) vs (PySem.W.sortVals (dataKind s'.heap (ds.map kf)) false kA.toList vs) := ⟨s'.heap, kA.toList, hal, rfl, hkk⟩
    exact PySem.W.keyedOut_each kf ko (rps_each rv rd)
def rSortK (X : Cx) (γ : Ga) (fa : Addr) : List V → List V → Hp → VK → Prop := fun xs zs H Q => ∃ (ι : List Addr) (x : V) (ds : List D) (kf : D → PyData) (vs : List V), xs = [x] ∧ zs = [.ref fa] ∧ ItsV (gX X) H x vs ∧ Rps (gX X) H ι ds vs ∧ pureDs ds = true ∧
  (∀ d ∈ ds, flatP (kf d) = true ∧ kf d ≠ .none ∧ (kf d).depth ≤ 64 ∧ γ [d] [] (fun r _ => r = dP (kf d)) (fun _ _ => False)) ∧ AllAlike (ds.map kf) ∧ ds.length ≤ sizeLine ∧ ∀ p out, H p = none → Rps (gX X) H ι (ds.mergeSort (dataLe false kf)) out → Q (.ref p) (upd H p (.lst out))
theorem srtK_run {X : Cx} {k : Nat} {fa : Addr} {γ : Ga} {Fs : List Addr} {C : Shared → Prop} {pins : List (Addr × Obj)} {σ : L2.St} {H : Hp} {s : Shared} {xs zs : List V} {us ws : List Value} {Q : VK} (F : KeyFn X k fa γ Fs C) (hc : C s) (hFs : ∀ b ∈ Fs, b ∉ frs X.stack ∧ ∃ o, s.heap.get? b = some o) (hr : Room k X.A.in1.in1) (hgd : X.A.guards = some []) (I : Inv X pins σ H s) (r : Vals xs us) (rz : Vals zs ws) (h : rSortK X γ fa xs zs H Q) : wpAny (model X.prog X.w) X.A (call (.builtin "sorted") us ([Str.ofString "key"].zip ws)) (EP X pins σ Q) X.xe s := by
  obtain ⟨ι, x, ds, kf, vs, rfl, rfl, hi, rd, hp, hk, hal, hz, q⟩ := h
  obtain ⟨u, rfl, rx⟩ := vals1 r
  rw [Vals.ref1 rz]
  have hh : X.A.handled = none := hr.hd
  show wpAny _ _ (call (.builtin "sorted") [u] [(Str.ofString "key", .ref fa)]) _ _ _
  refine PyProof.Rows.call_function_entry_kw PyProof.Rows.kind_sorted PyProof.Rows.plain_sorted PyProof.Rows.entry_sorted (PyProof.Rows.ksk_s1 _ _) ?_
  unfold Builtin.«sorted»
  refine wpAny_bind (m := checkCount "sorted" 1 1 _) (wpAny_pure ?_)
  refine wpAny_bind (col_of (A := X.A.in1) hh I hi rx _ _ fun s1 is hv kp os gn => ?_)
  have hl : is.length = ds.length := by rw [← hv.length, ← rd.length]
  refine wpAny_bind (wpAny_newList ?_ (by rw [hl]; exact hz))
  have hoL : (s1.heap.push (seqObj "list" is.toArray 0)).get? s1.heap.objs.size = some (seqObj "list" is.toArray 0) := Heap.get?_push_size _ rfl
  obtain ⟨hh1, g1, d1, t1, os1⟩ := s1
  simp only at kp os gn hoL ⊢
  subst os gn
  have I1 : Inv X pins σ H { s with heap := hh1, gens := s.gens, drawn := d1, toks := t1 } := I.call (ch := []) (Un.kept kp) (I.hok.kept kp) I.bare (fun b z => absurd z (by simp))
  have k2 : ∀ b o, hh1.get? b = some o → (hh1.push (seqObj "list" is.toArray 0)).get? b = some o := fun b o e => Heap.get?_push_of_some _ e
  have I2 : Inv X pins σ H { s with heap := hh1.push (seqObj "list" is.toArray 0), gens := s.gens, drawn := d1, toks := t1 } := I1.kept (t' := t1) k2
  have hfr : H hh1.objs.size = none := I1.hok.fresh (Nat.le_refl _)
  have hfp : FpOk X pins H hh1.objs.size := I1.fpOk (Nat.le_refl _) hfr
  show wpAny _ _ _ _ _ { s with heap := hh1.push (seqObj "list" is.toArray 0), gens := s.gens, drawn := d1, toks := t1 }
  refine wpAny_bind (wpAny_holding (wpAny_call_entry_kw PyProof.Rows.slot_list_sort ⟨_, hoL, rfl⟩ PyProof.Rows.entry_list_sort ?_ (PyProof.Rows.ksk_l1 _ _)))
  rw [PyProof.Rows.ksk_t1]
  refine keyed_tree (A := X.A.in1.in1) F (F.keep s _ hc fun b o _ e => k2 b o (kp b o e)) (fun b hb => ⟨(hFs b hb).1, by obtain ⟨o, e⟩ := (hFs b hb).2; exact Nat.ne_of_lt (Heap.lt_size (kp b o e))⟩) hr hgd rfl I2 hfp hoL hv rd hp hk hal hz fun s' out c kb hp' he => ⟨_, rfl, wpAny_pure ⟨_, rfl, ?_⟩⟩
  obtain ⟨vo, hvo, hro⟩ := each_rps he
  have hlen : vo.length ≤ sizeLine := by rw [← hro.length, (List.mergeSort_perm _ _).length_eq]; exact hz
  obtain ⟨h3, g3, d3, t3, os3⟩ := s'
  obtain ⟨kb1, kb2, kb3, kb4⟩ := kb
  simp only at kb1 kb2 kb3 kb4 hp' ⊢
  subst kb3
  have ne1 : ∀ b o, hh1.get? b = some o → b ≠ hh1.objs.size := fun b o e => Nat.ne_of_lt (Heap.lt_size e)
  have un : Un (frs X.stack) [] H (upd H hh1.objs.size (.lst vo)) hh1 h3 :=
    ⟨fun b o e n hb _ => kb1 b o (ne1 b o e) hb (k2 b o e), fun b o e n hb _ => kb2 b o hb (k2 b o e), fun b o e n _ => by rw [upd_ne (ne1 b o e)]; exact n, fun b o e _ => by
      by_cases hb : b ∈ frs X.stack
      · obtain ⟨sl, q⟩ := kb2 b o hb (k2 b o e)
        exact ⟨_, q⟩
      · exact ⟨o, kb1 b o (ne1 b o e) hb (k2 b o e)⟩, fun b xs e => by rw [upd_ne (ne_of_none e hfr)]; exact e, fun b o xs e => by rw [upd_ne (ne_of_none e hfr)]; exact e, fun b ps e => ⟨#[], by rw [upd_ne (ne_of_none e hfr), e]; simp⟩⟩
  have hok : HOk X.prog X.w (upd H hh1.objs.size (.lst vo)) h3 := fun b v e => by
    by_cases hb : b = hh1.objs.size
    · subst hb
      rw [upd_same] at e; cases e
      exact ⟨hlen, out, c, hvo, hp'⟩
    · rw [upd_ne hb] at e
      refine (I1.hok b v e).stay (fun d w hd q => kb1 d w (ne1 d w q) (fun hm => ?_) (k2 d w q)) (fun d z => by rw [upd_ne (ne_of_none z hfr)]; exact z) fun d xs z => by rw [upd_ne (ne_of_none z hfr)]; exact z
      have n := I1.stkFree d hm
      rcases hd with rfl | hd
      · rw [n] at e; cases e
      · rw [n] at hd; cases hd
  have I3 := I1.call (h' := h3) (g' := g3) (d' := d3) (t' := t3) (ch := []) un hok kb4 (fun b z => absurd z (by simp))
  exact ⟨.ref hh1.objs.size, upd H hh1.objs.size (.lst vo), I3, rfl, q _ vo hfr hro⟩
theorem cr_srtK {X : Cx} {k : Nat} {fa : Addr} {fd : FuncData} {pn : List Str} {γ : Ga} (F : FnG (gX X) X.base k fa fd pn γ) (hb : Binds X.K fd pn []) (hr : Room k X.A.in1.in1) (hgd : X.A.guards = some []) : CallRK X (.builtin "sorted") [Str.ofString "key"] (rSortK X γ fa) :=
  fun pins s σ H xs zs us ws Q I r rz h => srtK_run (keyFn_def F hb) True.intro (fun b hb => absurd hb (by simp)) hr hgd I r rz h
/-- sorted(x, key=f), by what f does -/
def fSortK (γ : Ga) (S : Sto) (x : D) (Q : QD) : Prop := ∃ ds kf, itsD S x = some ds ∧ pureDs ds = true ∧ (∀ d ∈ ds, flatP (kf d) = true ∧ kf d ≠ .none ∧ (kf d).depth ≤ 64 ∧ γ [d] [] (fun r _ => r = dP (kf d)) (fun _ _ => False)) ∧ AllAlike (ds.map kf) ∧ ds.length ≤ sizeLine ∧
  Q (.ref S.length) (S ++ [.lst (ds.mergeSort (dataLe false kf))])
def wSortK (γ : Ga) (w : WE) : WE := fun ρ S Q E => w ρ S (fun x S1 => fSortK γ S1 x Q) E
theorem e_sortK {X : Cx} {W : WX} {k : Nat} {fa : Addr} {fd : FuncData} {pn : List Str} {γ : Ga} {fx : Str} {a : Expr} {w : WE} {p pf kp pos : Pos} (F : FnG (gX X) X.base k fa fd pn γ) (hr : Room k X.A.in1.in1) (hgd : X.A.guards = some []) (hg : Gl X "sorted") (hm : X.mg "sorted" = none) (hgf : Gl X fx) (hmf : X.mg fx = some (.ref fa)) (hb : Binds X.K fd pn [])
    (ha : PE X a (liftE (gX X) W w)) (hdf : (fx == ("__debug__" : Str)) = false := by decide)
    (hs : starEach [a] X.env = (false, eval a X.env) :: starEach [] X.env := by rfl)
    (he : backTo pos (starEach [a] X.env) = (false, eval a X.env) :: backTo pos (starEach [] X.env) := by rfl) (hpl : (backTo pos (starEach [a] X.env)).any (·.1) = false := by rfl)
    (hall : (backToKw pos (keywordEach [⟨some "key", .Name fx pf, kp⟩] X.env)).all (·.1.isSome) = true := by rfl) (hnone : (backToKw pos (keywordEach [⟨some "key", .Name fx pf, kp⟩] X.env)).any (·.1.isNone) = false := by rfl) (hks : (backToKw pos (keywordEach [⟨some "key", .Name fx pf, kp⟩] X.env)).filterMap (·.1) = [Str.ofString "key"] := by rfl) :
    PE X (.Call (.Name "sorted" p) [a] [⟨some "key", .Name fx pf, kp⟩] pos) (liftE (gX X) W (wSortK γ w)) := by
  refine PE.mono (pe_callBK (cr_srtK F hb hr hgd) hg hm boot_sorted (pa_cons ha pa_nil hs) (pk_cons (pe_glob (v := .ref fa) hgf hmf rfl hdf) pk_nil) (by decide) (by decide) he hpl hall hnone hks) fun σ H Q h => ?_
  obtain ⟨ι, S, ρ, q, e, R, r, h, hq, he⟩ := h
  refine ⟨ι, S, ρ, _, e, R, r, h, fun x S1 h1 ι1 H1 v e1 R1 rv => ?_, he⟩
  obtain ⟨ds, kf, hi, hp, hk, hal, hz, z⟩ := h1
  obtain ⟨us, hi', rd⟩ := its_rp R1 rv hi
  refine ⟨ι1, v, ds, kf, us, rfl, rfl, hi', rd, hp, hk, hal, hz, fun p out hp ro => ?_⟩
  obtain ⟨e3, R3, rp⟩ := newList R1 hp ro
  exact hq _ _ z _ _ _ (e1.trans e3) R3 rp
end Zz
set_option Elab.async false
set_option linter.all false
set_option maxRecDepth 100000
namespace Zz
open PySem PySem.Spec PyProof.Rows L2
open PySem.W (alike alikeAll dataLt AllAlike EachIs dataLe dataKind)
/-! ### set(x), sorted(set) -/
def rSetD (g : G) : List V → Hp → VK → Prop := fun xs H Q => ∃ (a : Addr) (ks : List Key), xs = [V.ref a] ∧ (SqL g.K H a (ks.map kV) ∨ SqT g.K H a (ks.map kV)) ∧ ks.length + 1 < scanBound ∧ ∀ p, H p = none → ¬ Imm (setO g.w p ks) → Q (.ref p) (upd H p (setO g.w p ks))
theorem key_items {ks : List Key} {its : List Value} (rv : Vals (ks.map kV) its) : its.toArray.size = ks.length ∧ ∀ (i : Nat) (v : Value), its.toArray[i]? = some v → ∃ k, ks[i]? = some k ∧ keyIs k v = true := by
  refine ⟨by simpa using rv.length.symm, fun i v h => ?_⟩
  have hl : its.length = ks.length := by simpa using rv.length.symm
  have hi : i < its.length := by
    have := (Array.getElem?_eq_some_iff.mp h).1
    simpa using this
  have e1 : (ks.map kV)[i]? = some (kV (ks[i]'(by omega))) := by rw [List.getElem?_map, List.getElem?_eq_getElem (by omega)]; rfl
  obtain ⟨u, hu, ru⟩ := rv.get e1
  have h' : its[i]? = some v := by simpa using h
  rw [hu] at h'; cases h'
  refine ⟨_, List.getElem?_eq_getElem (by omega), ?_⟩
  cases hk : ks[i]'(by omega) with
  | inl j => rw [hk] at ru; obtain ⟨t, rfl⟩ := ru; exact keyIs_int j t
  | inr x => rw [hk] at ru; obtain ⟨t, rfl⟩ := ru; exact keyIs_str x t
theorem setO_new {P : Program} {w : World} {H : Hp} {h : Heap} {a : Addr} {ks : List Key} {n : Nat} (R : SetM w h a (inK ks) n) : ObjOk P w H h a (setO w a ks) :=
  ⟨⟨n, R⟩, R.there, fun _ _ ⟨m, r⟩ k => ⟨m, r.at k⟩⟩
theorem cr_set {X : Cx} {k : Nat} (hr : Room k X.A) : CallR X (.type "set") (rSetD (gX X)) := by
  intro pins s σ H xs us Q I r h
  obtain ⟨a, ks, rfl, hs, hb, q⟩ := h
  obtain ⟨u, rfl, rx⟩ := vals1 r
  cases rx
  have fin : ∀ (h' : Heap) (tk c : Nat), SetM X.w h' s.heap.objs.size (inK ks) c → (∀ b o, s.heap.get? b = some o → h'.get? b = some o) → EP X pins σ Q (.ref s.heap.objs.size) { s with heap := h', toks := tk } := fun h' tk c hS kp =>
    ⟨.ref _, upd H s.heap.objs.size (setO X.w s.heap.objs.size ks), I.laid (t' := tk) kp (Nat.le_refl _) (setO_new hS), rfl, q _ (I.hok.fresh (Nat.le_refl _)) (setO_noImm hS)⟩
  rcases hs with h | h
  · obtain ⟨its, rv, pl, hz⟩ := I.list h
    exact call_set_list ks hr.hd pl.isList (key_items rv).1 hb (key_items rv).2 fin
  · obtain ⟨its, rv, pl, hz⟩ := I.tuple h
    exact call_set_tuple ks hr.hd pl (key_items rv).1 hb (key_items rv).2 fin
/-- one of each -/
def uq : List Key → List Key
  | [] => []
  | k :: r => k :: (uq r).filter fun x => !decide (x = k)
theorem mem_uq {k : Key} : ∀ {ks : List Key}, k ∈ uq ks ↔ k ∈ ks
  | [] => Iff.rfl
  | j :: r => by
    rw [uq, List.mem_cons, List.mem_cons, List.mem_filter, mem_uq (ks := r)]
    by_cases h : k = j <;> simp [h]
theorem len_uq : ∀ ks : List Key, (uq ks).length ≤ ks.length
  | [] => Nat.le_refl _
  | k :: r => by
    rw [uq, List.length_cons, List.length_cons]
    exact Nat.succ_le_succ (Nat.le_trans (List.length_filter_le _ _) (len_uq r))
theorem nodup_uq : ∀ ks : List Key, (uq ks).Nodup
  | [] => List.nodup_nil
  | j :: r => by
    rw [uq, List.nodup_cons]
    refine ⟨fun h => ?_, (nodup_uq r).sublist List.filter_sublist⟩
    have := (List.mem_filter.mp h).2
    simp at this
def kP : Key → PyData
  | .inl i => .int i
  | .inr x => .str x
theorem kP_depth (k : Key) : (kP k).depth ≤ 64 := by cases k <;> simp [kP, PyData.depth]
theorem kP_some (k : Key) : kP k ≠ .none := by cases k <;> simp [kP]
theorem kP_reads {k : Key} {v : Value} {h : Heap} (e : keyIs k v = true) : ∃ as, Reads h v (kP k) as := by
  rcases keyIs_shape e with ⟨i, t, rfl, rfl⟩ | ⟨x, t, rfl, rfl⟩
  · exact ⟨[], .int i t⟩
  · exact ⟨[], .str x t⟩
theorem toks_kP {a b : Key} (h : PySem.W.keyToks (kP a) = PySem.W.keyToks (kP b)) : a = b := by
  cases a <;> cases b <;> simp [kP, PySem.W.keyToks] at h
  · rw [h]
  · exact congrArg Sum.inr (PySem.W.str_of_cps (congrArg Array.toList h))
/-! ### orders of data -/
abbrev TO : KeyOrd := listOrd itemOrd
theorem dle_iff {β : Type} {kf : β → PyData} {a b : β} : dataLe false kf a b = true ↔ TO.kle (PySem.W.keyToks (kf a)) (PySem.W.keyToks (kf b)) := by
  show (!_) = true ↔ _
  rw [Bool.not_eq_true']
  exact Iff.rfl
theorem dle_total {β : Type} (kf : β → PyData) (a b : β) : (dataLe false kf a b || dataLe false kf b a) = true := by
  rw [Bool.or_eq_true, dle_iff, dle_iff]
  by_cases h : TO.klt (PySem.W.keyToks (kf a)) (PySem.W.keyToks (kf b))
  · exact .inl (KeyOrd.klt_asymm h)
  · exact .inr (KeyOrd.kle_of_not_klt h)
theorem dle_trans {β : Type} (kf : β → PyData) (a b c : β) (h1 : dataLe false kf a b = true) (h2 : dataLe false kf b c = true) : dataLe false kf a c = true := by
  rw [dle_iff] at *
  exact KeyOrd.kle_trans h1 h2
theorem dle_anti {β : Type} {kf : β → PyData} {a b : β} (h1 : dataLe false kf a b = true) (h2 : dataLe false kf b a = true) : PySem.W.keyToks (kf a) = PySem.W.keyToks (kf b) := by
  rw [dle_iff] at *
  exact KeyOrd.kle_antisymm h1 h2
/-- sorted lists of the same things are one, where the key tells things apart -/
theorem sort_one {β : Type} {kf : β → PyData} {l m : List β} (p : l.Perm m) (hi : ∀ a ∈ l, ∀ b ∈ l, PySem.W.keyToks (kf a) = PySem.W.keyToks (kf b) → a = b) : l.mergeSort (dataLe false kf) = m.mergeSort (dataLe false kf) := by
  have q1 := List.mergeSort_perm l (dataLe false kf)
  have q2 := List.mergeSort_perm m (dataLe false kf)
  refine List.Perm.eq_of_pairwise (le := fun a b => dataLe false kf a b = true) (fun a b ha hb h1 h2 => hi a (q1.mem_iff.mp ha) b (p.symm.mem_iff.mp (q2.mem_iff.mp hb)) (dle_anti h1 h2)) (List.pairwise_mergeSort (dle_trans kf) (dle_total kf) l) (List.pairwise_mergeSort (dle_trans kf) (dle_total kf) m) (q1.trans (p.trans q2.symm))
/-- sorted(a set) -/
def rSortS (g : G) : List V → Hp → VK → Prop := fun xs H Q => ∃ (a : Addr) (ks : List Key), xs = [V.ref a] ∧ H a = some (setO g.w a ks) ∧ AllAlike (ks.map kP) ∧ ks.length ≤ sizeLine ∧ ∀ p, H p = none → Q (.ref p) (upd H p (.lst (((uq ks).mergeSort (dataLe false kP)).map kV)))
theorem key_vals {ks : List Key} : ∀ {out : List Value}, EachIs (fun v k => keyIs k v = true) out ks → Vals (ks.map kV) out := by
  induction ks with
  | nil => intro out h; cases h; exact .nil
  | cons k ks ih =>
    intro out h
    cases h with
    | cons h t =>
      refine .cons ?_ (ih t)
      rcases keyIs_shape h with ⟨i, u, rfl, rfl⟩ | ⟨x, u, rfl, rfl⟩
      · exact ⟨u, rfl⟩
      · exact ⟨u, rfl⟩
def kyV : Value → Key
  | .int i _ => .inl i
  | .str x _ => .inr x
  | _ => .inl 0
theorem each_kyV : ∀ {vs : List Value}, (∀ v ∈ vs, keyIs (kyV v) v = true) → EachIs (fun v k => keyIs k v = true) vs (vs.map kyV)
  | [], _ => .nil
  | v :: vs, h => .cons (h v List.mem_cons_self) (each_kyV fun x hx => h x (List.mem_cons_of_mem _ hx))
theorem cr_srtS {X : Cx} {k : Nat} (hr : Room k X.A) : CallR X (.builtin "sorted") (rSortS (gX X)) := by
  intro pins s σ H xs us Q I r h
  obtain ⟨a, ks, rfl, ha, hal, hz, q⟩ := h
  obtain ⟨u, rfl, rx⟩ := vals1 r
  cases rx
  have hu := hr.un
  obtain ⟨⟨n, o, es, ep, t, ho, hex, hd, g, nd, hm, ⟨hb, hf, hn⟩, hris, hl⟩, _⟩ := I.hok a _ ha
  have pks : (es.toList.map kyE).Perm (uq ks) := (List.perm_ext_iff_of_nodup nd (nodup_uq ks)).mpr fun k => by rw [← hm k, inK_iff, mem_uq]
  have hlen := len_uq ks
  refine sorted_rawP (R := fun v k => keyIs k v = true) (enc := kP) (Pb := fun bs => bs.Perm (uq ks)) (x := .ref a) (P := fun vs => vs.Perm (es.toList.map (·.2))) (fun E' Q' hq' => ?_) (fun vs pv => ?_) (by omega) fun bs s1 out c h2 pb kp os gn kp2 hp he => ?_
  · exact collect_set (A := X.A.in1) hr.hd ⟨o, ho, hex.1, hd⟩ hf hb hris hl fun s' out kp _ gn os pm => hq' s' out pm kp os gn
  · have pf : (vs.map kyV).Perm (uq ks) := by
      have z := pv.map kyV
      rw [List.map_map] at z
      exact z.trans pks
    have e1 : EachIs (fun v k => keyIs k v = true) vs (vs.map kyV) := each_kyV fun v hv => by
      obtain ⟨e, he, rfl⟩ := List.mem_map.mp (pv.mem_iff.mp hv)
      exact (g e he).1
    refine ⟨vs.map kyV, pf, ⟨e1, e1.mono fun _ _ h => kP_reads h⟩, ?_, fun b _ => ⟨kP_some b, kP_depth b⟩, by rw [pf.length_eq]; omega⟩
    intro d hd d' hd'
    obtain ⟨k1, h1, rfl⟩ := List.mem_map.mp hd
    obtain ⟨k2, h2, rfl⟩ := List.mem_map.mp hd'
    exact hal _ (List.mem_map.mpr ⟨k1, mem_uq.mp (pf.mem_iff.mp h1), rfl⟩) _ (List.mem_map.mpr ⟨k2, mem_uq.mp (pf.mem_iff.mp h2), rfl⟩)
  · rw [sort_one pb (fun a _ b _ h => toks_kP h)] at he
    have hv := key_vals he
    obtain ⟨hh1, g1, d1, t1, os1⟩ := s1
    simp only at kp os gn kp2 hp ⊢
    subst os gn
    have I1 : Inv X pins σ H { s with heap := hh1, gens := s.gens, drawn := d1, toks := t1 } := I.call (ch := []) (Un.kept kp) (I.hok.kept kp) I.bare (fun b z => absurd z (by simp))
    have hz2 : (((uq ks).mergeSort (dataLe false kP)).map kV).length ≤ sizeLine := by rw [List.length_map, (List.mergeSort_perm _ _).length_eq]; omega
    have hfr : H hh1.objs.size = none := I1.hok.fresh (Nat.le_refl _)
    exact ⟨.ref hh1.objs.size, upd H hh1.objs.size (.lst _), I1.laid (t' := t1) (h' := h2) kp2 (Nat.le_refl _) (show ObjOk X.prog X.w _ h2 _ (.lst _) from ⟨hz2, out, c, hv, hp⟩), rfl, q _ hfr⟩
def fSet : FA := fun S xs Q => match xs with
  | [x] => ∃ ks : List Key, atSq S x (fun ds => ds = ks.map kD) ∧ ks.length + 1 < scanBound ∧ Q (.ref S.length) (S ++ [.st ks])
  | _ => False
def fSortS : FA := fun S xs Q => match xs with
  | [.ref n] => ∃ ks : List Key, S[n]? = some (.st ks) ∧ AllAlike (ks.map kP) ∧ ks.length ≤ sizeLine ∧ Q (.ref S.length) (S ++ [.lst (((uq ks).mergeSort (dataLe false kP)).map kD)])
  | _ => False
theorem Rps.kD {g : G} {H : Hp} {ι : List Addr} : ∀ ks : List Key, Rps g H ι (ks.map kD) (ks.map kV)
  | [] => .nil
  | .inl i :: ks => .cons (.int i) (Rps.kD ks)
  | .inr x :: ks => .cons (.str x) (Rps.kD ks)
theorem rps_kV {g : G} {H : Hp} {ι : List Addr} : ∀ {ks : List Key} {vs : List V}, Rps g H ι (ks.map kD) vs → vs = ks.map kV
  | [], _, .nil => rfl
  | k :: ks, _, .cons r t => by rw [kD_rp r, rps_kV t]; rfl
theorem ok_set {g : G} : OkA g (rSetD g) fSet := by
  intro H ι S xs vs Q q R r hf hq
  match xs, r, hf with
  | [x], r, hf =>
    obtain ⟨v, rfl, r1⟩ := r.one
    obtain ⟨ks, hi, hb, z⟩ := hf
    have key : ∃ a, v = V.ref a ∧ (SqL g.K H a (ks.map kV) ∨ SqT g.K H a (ks.map kV)) := by
      cases r1 with
      | tup s rr => simp only [atSq] at hi; subst hi; rw [← rps_kV rr]; exact ⟨_, rfl, .inr s.sq⟩
      | rol s rr => simp only [atSq] at hi; subst hi; rw [← rps_kV rr]; exact ⟨_, rfl, .inl s.sq⟩
      | @ref n a e0 =>
        simp only [atSq] at hi
        cases ho : S[n]? with
        | none => rw [ho] at hi; exact hi.elim
        | some o =>
          rw [ho] at hi
          cases o with
          | lst xs =>
            simp only at hi
            subst hi
            obtain ⟨a', us, e1, e2, r, _⟩ := R.list ho (.ref e0)
            cases e1
            rw [← rps_kV r]
            exact ⟨a, rfl, .inl (.inl (.inl e2))⟩
          | _ => exact hi.elim
      | _ => exact hi.elim
    obtain ⟨a, rfl, hs⟩ := key
    refine ⟨a, ks, rfl, hs, hb, fun p hp ni => ?_⟩
    obtain ⟨e3, R3⟩ := R.new (u := setO g.w p ks) (o := .st ks) hp ⟨upd_same, ni⟩
    exact hq _ _ z _ _ _ e3 R3 (.ref (by rw [← R.len, List.getElem?_append_right (Nat.le_refl _)]; simp))
theorem ok_srtS {g : G} : OkA g (rSortS g) fSortS := by
  intro H ι S xs vs Q q R r hf hq
  match xs, r, hf with
  | [.ref n], r, hf =>
    obtain ⟨v, rfl, r1⟩ := r.one
    obtain ⟨ks, hi, hal, hz, z⟩ := hf
    cases r1 with
    | @ref n a e0 =>
      obtain ⟨a', e1, h1⟩ := R.get hi
      rw [e0] at e1; cases e1
      refine ⟨a, ks, rfl, h1.1, hal, hz, fun p hp => ?_⟩
      obtain ⟨e3, R3, rp⟩ := newList R hp (Rps.kD ((uq ks).mergeSort (dataLe false kP)))
      exact hq _ _ z _ _ _ e3 R3 rp
end Zz
set_option Elab.async false
set_option linter.all false
set_option maxRecDepth 100000
namespace Zz
open PySem PySem.Spec PyProof.Rows L2
open LamX (TabB TabS Tabs CodeO ExtN)
open PySem.W (dataLe AllAlike)
/-! ### a lambda made -/
section
variable {X : Cx} {pins : List (Addr × Obj)} {σ : L2.St} {H : Hp} {s : Shared}
/-- what is known when a lambda is made -/
structure Made (H : Hp) (P : Addr) (q : Str) (H1 : Hp) : Prop where
  it : H1 = H ∨ ∃ (ps more : Array Value) (c : Addr), H P = some (.tbl ps) ∧ H c = none ∧ H1 = upd (upd H P (.tbl (ps ++ more))) c (CodeO c q)
  tab : TabS H1 P q
theorem lam_make3 {c P : Addr} {params : Arguments} {body : Expr} {scope : Scope} {pos : Pos} {E : Value → Shared → Prop} {Q : Value → Shared → Prop} (I : Inv X pins σ H s) (TB : TabB X.base X.mg c P) (hcode : X.env.code = .ref c)
    (hT : TabS H P (X.env.qual ++ "<lambda>")) (hdef : defaultsOf params X.env = ([], [])) (hfree : ∀ y ∈ scope.names, y.2 = .free → ∃ c, X.env.cells.lookup y.1 = some c)
    (h : ∀ (f c' : Addr) (pm ctv : Value) (H1 : Hp) (s' : Shared), Inv X pins σ H1 s' → Made H P (X.env.qual ++ "<lambda>") H1 →
      s'.heap.get? f = some (PySem.W.kla_obj "<lambda>" (X.env.qual ++ "<lambda>") params body scope (cloFrom X.env.cells scope.names []) pm c' ctv) → H1 f = none → f ∉ frs X.stack → H1 c' = some (CodeO c' (X.env.qual ++ "<lambda>")) → Q (.ref f) s') :
    wpAny (model X.prog X.w) X.A (eval (.Lambda params body scope pos) X.env) Q E s := by
  obtain ⟨ps, hP, ht, ha⟩ := id hT
  refine PySem.W.kla_eval hdef ?_
  have bP : s.heap.BuiltinsAt X.mg P := TB.bm.keeps I.bk
  have hP' : s.heap.get? P = some { cls := .none, data := .fields ps } := I.hok P _ hP
  have nofr : ∀ f, s.heap.objs.size ≤ f → f ∉ frs X.stack := fun f hf z => by
    rcases List.mem_cons.mp (I.stkSub _ z) with e | e
    · have h1 := I.lt
      rw [← e] at h1
      exact absurd h1 (Nat.not_lt_of_le hf)
    · exact I.nofs hf e
  cases hc : codeAmong pos ps.toList with
  | none =>
    refine PySem.W.kla_makeFunction (mg := X.mg) (c := c) (P := P) (ps := ps) (closure_ok hfree) I.ok.glob (I.mod.glob.keeps I.bk) hcode (TB.code.keeps I.bk) hP' ht hc TB.gP bP fun c' ctv h' tk hx hge hlt hrec htb => ?_
    obtain ⟨c2, oc, vs, t, e2, hoc, hd, hv⟩ := hrec
    cases e2
    have hsz : s.heap.objs.size ≤ h'.objs.size := Nat.le_trans hge (Nat.le_of_lt hlt)
    have nC : H c' = none := I.hok.fresh hge
    have I1 := LamX.inv_table (t' := tk) (more := #[rawInt pos.line, rawInt pos.col, .ref c']) (h' := h'.push (PySem.W.kla_obj "<lambda>" (X.env.qual ++ "<lambda>") params body scope (cloFrom X.env.cells scope.names []) ((X.mg "__name__").getD .none) c' ctv)) I hP
      (fun b o hb e => Heap.get?_push_of_some _ (hx b o hb e)) (Heap.get?_push_of_some _ htb) hge ⟨oc, vs, t, Heap.get?_push_of_some _ hoc, hd, hv⟩
    have keepC : ∀ b q, H b = some (CodeO b q) → upd (upd H P (.tbl (ps ++ #[rawInt pos.line, rawInt pos.col, .ref c']))) c' (CodeO c' (X.env.qual ++ "<lambda>")) b = some (CodeO b q) := fun b q e => by
      rw [upd_ne (ne_of_none e nC), upd_ne (fun z => by rw [z, hP] at e; exact LamX.codeO_ne ps (Option.some.inj e).symm)]
      exact e
    have eL : (ps ++ #[rawInt pos.line, rawInt pos.col, .ref c']).toList = ps.toList ++ [rawInt pos.line, rawInt pos.col, .ref c'] := by simp
    refine h h'.objs.size c' ((X.mg "__name__").getD .none) ctv _ _ I1 ⟨.inr ⟨ps, _, c', hP, nC, rfl⟩, _, by rw [upd_ne (ne_of_none hP nC), upd_same], by rw [eL]; exact PySem.TriplesOk_snoc _ _ _ _ ht, fun p' cv hcv => ?_⟩ (Heap.get?_push_size _ rfl) ?_ (nofr _ hsz) upd_same
    · rw [eL] at hcv
      rcases LamX.among_app _ ht hcv with z | z
      · obtain ⟨c0, e1, e2⟩ := ha p' cv z
        exact ⟨c0, e1, keepC _ _ e2⟩
      · exact ⟨c', z, upd_same⟩
    · have n1 : h'.objs.size ≠ c' := Nat.ne_of_gt hlt
      have n2 : h'.objs.size ≠ P := Nat.ne_of_gt (Nat.lt_of_lt_of_le (Heap.lt_size hP') hsz)
      rw [upd_ne n1, upd_ne n2]
      exact I.hok.fresh hsz
  | some cv =>
    obtain ⟨c', e, hco⟩ := ha pos cv hc
    subst e
    refine PySem.W.kla_makeFunctionHit (mg := X.mg) (c := c) (P := P) (ps := ps) (closure_ok hfree) I.ok.glob (I.mod.glob.keeps I.bk) hcode (TB.code.keeps I.bk) hP' ht hc bP fun ctv h' tk hx hsz => ?_
    have I1 : Inv X pins σ H { s with heap := h'.push (PySem.W.kla_obj "<lambda>" (X.env.qual ++ "<lambda>") params body scope (cloFrom X.env.cells scope.names []) ((X.mg "__name__").getD .none) c' ctv), toks := tk } := I.kept fun b o e => Heap.get?_push_of_some _ (hx b o e)
    exact h h'.objs.size c' ((X.mg "__name__").getD .none) ctv H _ I1 ⟨.inl rfl, hT⟩ (Heap.get?_push_size _ rfl) (I.hok.fresh hsz) (nofr _ hsz) hco
end
theorem Rl.made {g : G} {H H1 : Hp} {ι : List Addr} {S : Sto} {n : Nat} {P : Addr} {q : Str} (R : Rl g H ι S) (hs : S[n]? = some (.tab P q)) (m : Made H P q H1) : Ex H ι H1 ι ∧ Rl g H1 ι S := by
  obtain ⟨a, ha, rfl, _⟩ := R.get hs
  rcases m.it with rfl | ⟨ps, more, c, h1, h2, rfl⟩
  · exact ⟨.refl _ _, R⟩
  · have hne : a ≠ c := ne_of_none h1 h2
    have e : upd (upd H a (.tbl (ps ++ more))) c (CodeO c q) = upd (upd H c (CodeO c q)) a (.tbl (ps ++ more)) := by
      funext b
      by_cases hb : b = c
      · subst hb; rw [upd_same, upd_ne hne.symm, upd_same]
      · rw [upd_ne hb]
        by_cases hb2 : b = a
        · subst hb2; rw [upd_same, upd_same]
        · rw [upd_ne hb2, upd_ne hb2, upd_ne hb]
    obtain ⟨e1, R1⟩ := R.beside h2 (CodeO c q)
    have mt := m.tab
    rw [e] at mt ⊢
    obtain ⟨e2, R2⟩ := R1.put (u := .tbl (ps ++ more)) (o' := .tab a q) hs ha ⟨rfl, mt⟩
    refine ⟨e1.trans e2, ?_⟩
    have : S.set n (.tab a q) = S := by
      apply List.ext_getElem?
      intro i
      by_cases hi : n = i
      · subst hi
        rw [List.getElem?_set_self (List.getElem?_eq_some_iff.mp hs).1, hs]
      · rw [List.getElem?_set_ne hi]
    rw [this] at R2
    exact R2
/-! ### a lambda of one parameter, without names from around -/
/-- what a lambda's body is worth -/
def exprG (n p : Nat) (b : WE) : Ga := fun ds S q e => ds.length = p ∧ b (startR n ds) S q e
abbrev cxL (X : Cx) (N : List Str) (scope : Scope) (f c' : Addr) (A : Around) (s : Shared) (H : Hp) (E : XK) : Cx :=
  cxOf (L2.CX X.prog X.w) X.prog X.w X.K X.mg X.base N (X.env.qual ++ "<lambda>") scope f (.ref c') A X.stack s H E
theorem keyFn_lam {X : Cx} {k : Nat} {f c' : Addr} {params : Arguments} {body : Expr} {scope : Scope} {pm ctv : Value} {N : List Str} {x : Str} {wb : WE} (Sc : FnScope N [x] scope)
    (hbind : ∀ u : Value, bindArgs (PySem.W.kla_fn "<lambda>" (X.env.qual ++ "<lambda>") params body scope [] pm (.ref c') ctv) ⟨[u], []⟩ = pure [(x, u)])
    (hbody : ∀ (A : Around) (s : Shared) (H : Hp) (E : XK), Room k (A.deeper (envOfC (X.env.qual ++ "<lambda>") scope s.heap.objs.size f (.ref c'))) → (A.deeper (envOfC (X.env.qual ++ "<lambda>") scope s.heap.objs.size f (.ref c'))).guards = some [] →
      PE (cxL X N scope f c' A s H E) body (liftE (gX (cxL X N scope f c' A s H E)) (fun cls d _ H => E cls d H) wb)) :
    KeyFn X (k + 1) f (exprG N.length 1 wb) [f, c'] (fun s => s.heap.get? f = some (PySem.W.kla_obj "<lambda>" (X.env.qual ++ "<lambda>") params body scope [] pm c' ctv) ∧ ∃ (oc : Obj) (vs : Array Value) (t : Tok), s.heap.get? c' = some oc ∧ oc.data = .fields vs ∧ vs[1]? = some (.str (X.env.qual ++ "<lambda>") t)) := by
  refine ⟨fun A s H u v d q e Q E hr hgd e0 hc ru R rx hγ hq he => ?_, fun s s' ⟨h1, oc, vs, t, h2, h3, h4⟩ k => ⟨k _ _ (by simp) h1, oc, vs, t, k _ _ (by simp) h2, h3, h4⟩⟩
  obtain ⟨h1, oc, vs, t, h2, h3, h4⟩ := hc
  have lim : s.heap.NoLimit := e0.mod.nolimit.keeps fun b o z => (e0.bs b o z).1
  have hkind : ∀ y ∈ [(x, u)], scope.names.lookup y.1 = some .local ∨ (scope.names.lookup y.1 = some .cell ∧ ((cellsFrom (s.heap.objs.size + 1) scope.names []).lookup y.1).isSome = true) := by
    intro y hy
    obtain rfl := List.mem_singleton.mp hy
    rcases Sc.par x List.mem_cons_self with z | z
    · exact .inl z
    · exact .inr ⟨z, PySem.W.cellsFrom_some _ _ _ (.inl z)⟩
  refine PySem.W.kla_callFunE hr.depth h1 rfl Sc.co Sc.gen rfl ⟨c', oc, vs, t, rfl, h2, h3, h4⟩ ?_
  rw [hbind]
  refine wpAny_pure (wpAny_newFunctionEnv_cells Sc.kind hkind fun env he1 s1 y => ?_)
  subst he1
  refine ⟨lim.keeps y.toInCall.keep, PySem.W.kla_codeExpr ?_⟩
  have I : Inv (cxL X N scope f c' A s H E) [] (L2.start N [v]) H s1 := inv_start (ps := [x]) (us := [u]) Sc hr.hd e0 rfl (.cons ru .nil) y
  have hrun := (hbody A s H E (hr.deeper _) hgd).run [] s1 (L2.start N [v]) H Q I ⟨[], [], _, q, e, R, rs_start (.cons rx .nil), hγ.2, hq, fun x' S' z ι' H' σ' cls d ee RR rr rx => he x' S' z ι' H' cls d ee RR rx⟩
  exact wpAny_mono hrun (fun r s' ⟨v', H', J, rv, z⟩ => ⟨v', H', J.os, J.bare, J.base, J.hok, rv, z⟩) fun _ _ z => z
/-- sorted(x, key=lambda), by what the lambda does; its maker's table is the store's n-th -/
def wSortKL (n : Nat) (o : MO) (γ : Ga) (w : WE) : WE := fun ρ S Q E => w ρ S (fun x S1 => S1[n]? = some o ∧ fSortK γ S1 x Q) E
theorem e_sortKL {X : Cx} {W : WX} {k n : Nat} {c P : Addr} {params : Arguments} {body a : Expr} {scope : Scope} {N : List Str} {x : Str} {wb w : WE} {p lpos kp pos : Pos} {o : MO} (ho : o = .tab P (X.env.qual ++ "<lambda>")) (hr : Room (k + 1) X.A.in1.in1) (hgd : X.A.guards = some []) (hg : Gl X "sorted") (hm : X.mg "sorted" = none)
    (TB : TabB X.base X.mg c P) (hcode : X.env.code = .ref c) (Sc : FnScope N [x] scope) (hclo : cloFrom X.env.cells scope.names [] = []) (hdef : defaultsOf params X.env = ([], []))
    (hbind : ∀ (pm cv ctv u : Value), bindArgs (PySem.W.kla_fn "<lambda>" (X.env.qual ++ "<lambda>") params body scope [] pm cv ctv) ⟨[u], []⟩ = pure [(x, u)])
    (hbody : ∀ (f c' : Addr) (A : Around) (s : Shared) (H : Hp) (E : XK), Room k (A.deeper (envOfC (X.env.qual ++ "<lambda>") scope s.heap.objs.size f (.ref c'))) → (A.deeper (envOfC (X.env.qual ++ "<lambda>") scope s.heap.objs.size f (.ref c'))).guards = some [] →
      PE (cxL X N scope f c' A s H E) body (liftE (gX (cxL X N scope f c' A s H E)) (fun cls d _ H => E cls d H) wb))
    (ha : PE X a (liftE (gX X) W w))
    (hs : starEach [a] X.env = (false, eval a X.env) :: starEach [] X.env := by rfl)
    (he : backTo pos (starEach [a] X.env) = (false, eval a X.env) :: backTo pos (starEach [] X.env) := by rfl) (hpl : (backTo pos (starEach [a] X.env)).any (·.1) = false := by rfl)
    (hall : (backToKw pos (keywordEach [⟨some "key", .Lambda params body scope lpos, kp⟩] X.env)).all (·.1.isSome) = true := by rfl) (hnone : (backToKw pos (keywordEach [⟨some "key", .Lambda params body scope lpos, kp⟩] X.env)).any (·.1.isNone) = false := by rfl)
    (hks : (backToKw pos (keywordEach [⟨some "key", .Lambda params body scope lpos, kp⟩] X.env)).filterMap (·.1) = [Str.ofString "key"] := by rfl) :
    PE X (.Call (.Name "sorted" p) [a] [⟨some "key", .Lambda params body scope lpos, kp⟩] pos) (liftE (gX X) W (wSortKL n o (exprG N.length 1 wb) w)) := by
  subst ho
  refine ⟨fun pins s σ H Q I h => ?_⟩
  obtain ⟨ι, S, ρ, q, e, R, r, h, hq, hx⟩ := h
  refine wpAny_Call_Name_kw (ld_blt I hg hm boot_sorted ?_ (by decide) (by decide))
  refine PyProof.Rows.callWith_kw (thn ((pa_cons ha pa_nil hs).run pos pins s σ H (fun vs H1 => ∃ (ι1 : List Addr) (S1 : Sto) (x : D) (v : V), vs = [v] ∧ Ex H ι H1 ι1 ∧ Rl (gX X) H1 ι1 S1 ∧ Rp (gX X) H1 ι1 x v ∧ S1[n]? = some (.tab P (X.env.qual ++ "<lambda>")) ∧ fSortK (exprG N.length 1 wb) S1 x q) I ?_) fun us s1 ⟨vs, H1, I1, r1, q1⟩ => ?_) he hpl hall hnone
  · exact ⟨ι, S, ρ, _, e, R, r, h, fun x S1 h1 ι1 H1 v e1 R1 rv => ⟨ι1, S1, x, v, rfl, e1, R1, rv, h1⟩, hx⟩
  · obtain ⟨ι1, S1, x, v, rfl, e1, R1, rv, ht, ds, kf, hi, hp, hk, hal, hz, z⟩ := q1
    rw [hks]
    obtain ⟨a', ha', rfl, htS⟩ := R1.get ht
    have hfree : ∀ y ∈ scope.names, y.2 = .free → ∃ c, X.env.cells.lookup y.1 = some c := fun y hy hf => absurd hf (Sc.nofree y hy)
    refine wpAny_evalAll_cons (wpAny_bind (lam_make3 I1 TB hcode htS hdef hfree fun f c' pm ctv H2 s2 I2 md hf hfn hfr hco => ?_))
    refine wpAny_bind (wpAny_standAt (wpAny_pure (wpAny_evalAll_nil ?_)))
    rw [hclo] at hf
    obtain ⟨e2, R2⟩ := R1.made ht md
    have rv2 := rv.ex R1 e2
    obtain ⟨us', hi', rd⟩ := its_rp R2 rv2 hi
    obtain ⟨⟨oc, vs', t, c1, c2, c3⟩, _⟩ := I2.hok c' _ hco
    have hc'f : c' ∉ frs X.stack := fun hm => by
      have := I2.stkFree c' hm
      rw [hco] at this; cases this
    refine srtK_run (zs := [.ref f]) (keyFn_lam (k := k) (f := f) (c' := c') (pm := pm) (ctv := ctv) Sc (fun u => hbind pm _ ctv u) (hbody f c')) ⟨hf, oc, vs', t, c1, c2, c3⟩ (fun b hb => ?_) hr hgd I2 r1 (.cons rfl .nil) ⟨ι1, v, ds, kf, us', rfl, rfl, hi', rd, hp, hk, hal, hz, fun p out hp ro => ?_⟩
    · rcases List.mem_cons.mp hb with rfl | hb
      · exact ⟨hfr, _, hf⟩
      · obtain rfl := List.mem_singleton.mp hb
        exact ⟨hc'f, _, c1⟩
    · obtain ⟨e3, R3, rp⟩ := newList R2 hp ro
      exact hq _ _ z _ _ _ (e1.trans (e2.trans e3)) R3 rp
/-- a def that makes lambdas: its code stands at c -/
theorem fun_GT {g : G} {base : Heap} {x qual : Str} {st : Stmt} {f c : Addr} {fd : FuncData} {N ps : List Str} {k : Nat} {wb : WS} (F : Fun g.K x qual st f fd) (hc : fd.code = .ref c) (Sc : FnScope N ps (defScope st))
    (hbody : ∀ (A : Around) (outer : List PySem.Env) (s : Shared) (H : Hp) (E : XK), Room k (A.deeper (envOfC qual (defScope st) s.heap.objs.size f (.ref c))) → (A.deeper (envOfC qual (defScope st) s.heap.objs.size f (.ref c))).guards = some [] → Room k (A.deeper (envOfC qual (defScope st) s.heap.objs.size f (.ref c))).in1.in1 →
      PSs (cxOf (L2.CX g.P g.w) g.P g.w g.K g.mg base N qual (defScope st) f (.ref c) A outer s H E) (defBody st) (liftS (gX (cxOf (L2.CX g.P g.w) g.P g.w g.K g.mg base N qual (defScope st) f (.ref c) A outer s H E)) (fun cls d _ H => E cls d H) wb)) :
    FnG g base (k + 1) f fd ps (bodyG N.length ps.length wb) := by
  obtain ⟨oc, od, kV, doc, pm, an, cdv, ct, osl, rfl, lk, hcd⟩ := F.ex
  obtain rfl : cdv = .ref c := hc
  exact fng_of lk hcd Sc hbody
end Zz
set_option Elab.async false
set_option linter.all false
set_option maxRecDepth 100000
set_option maxHeartbeats 2000000
namespace Zz
open PySem PySem.Spec PyProof.Rows L2
/-- the store at the law's call: the tables -/
def tabMs : List (Addr × Addr) → List Str → List MO
  | p :: cs, q :: qs => .tab p.2 q :: tabMs cs qs
  | _, _ => []
theorem tabMs_len : ∀ {cs : List (Addr × Addr)} {qs : List Str}, qs.length = cs.length → (tabMs cs qs).length = cs.length
  | [], [], _ => rfl
  | _ :: cs, _ :: qs, h => by rw [tabMs, List.length_cons, List.length_cons, tabMs_len (by simpa using h)]
  | [], _ :: _, h => by simp at h
  | _ :: _, [], h => by simp at h
theorem tabMs_at : ∀ {cs : List (Addr × Addr)} {qs : List Str} {n : Nat} {o : MO}, (tabMs cs qs)[n]? = some o → ∃ p q, cs[n]? = some p ∧ o = .tab p.2 q
  | p :: cs, q :: qs, 0, o, h => by
    rw [tabMs] at h
    simp only [List.getElem?_cons_zero, Option.some.injEq] at h
    exact ⟨p, q, rfl, h.symm⟩
  | p :: cs, q :: qs, n + 1, o, h => by
    rw [tabMs, List.getElem?_cons_succ] at h
    rw [List.getElem?_cons_succ]
    exact tabMs_at h
  | [], _, n, o, h => by
    rw [tabMs] at h
    · simp at h
    · intro _ _ _ _ z; cases z
  | _ :: _, [], n, o, h => by
    rw [tabMs] at h
    · simp at h
    · intro _ _ _ _ _ z; cases z
theorem rl_tabs {g : G} {H : Hp} {cs : List (Addr × Addr)} {qs : List Str} (hnd : (cs.map (·.2)).Nodup) (hql : qs.length = cs.length) (hH : ∀ p ∈ cs, H p.2 = some (.tbl #[])) : Rl g H (cs.map (·.2)) (tabMs cs qs) := by
  refine ⟨by rw [List.length_map, tabMs_len hql], hnd, fun n o b h1 h2 => ?_⟩
  obtain ⟨p, q, hp, rfl⟩ := tabMs_at h1
  rw [List.getElem?_map, hp] at h2
  cases h2
  exact ⟨rfl, LamX.TabS.nil (hH p (List.mem_of_getElem? hp))⟩
theorem law_callGT {g : G} {mb : Str → Option Value} {k : Nat} {fa a : Addr} {cs : List (Addr × Addr)} {qs : List Str} {fd : FuncData} {x : Str} {γ : Ga} {s₁ : Shared} {vs : List Value} {ns : List Int}
    (KX : g.K.In s₁.heap) (hns : s₁.heap.Ns mainGlobals g.mg) (hb : s₁.heap.Ns builtinsNs mb) (hbb : ∀ x : Str, x ≠ "__name__" → mb x = bootBuiltins x) (hlim : s₁.heap.NoLimit) (hg : s₁.gens = #[])
    (hT : ∀ p ∈ cs, s₁.heap.get? p.2 = some { cls := .none, data := .fields #[] }) (nT : ∀ p ∈ cs, g.K.lookup p.2 = none) (C : ∀ p ∈ cs, PySem.W.CodeHd s₁.heap p.1 p.2) (hnd : (cs.map (·.2)).Nodup) (hql : qs.length = cs.length)
    (hbm : ∃ (bm : Addr) (ob : Obj), g.mg "__builtins__" = some (.ref bm) ∧ bm ≠ builtinsNs ∧ s₁.heap.get? bm = some ob ∧ ob.cls = .type "module" ∧ ob.dict = some builtinsNs ∧ ob.data = .plain)
    (ha : s₁.heap.get? a = some { cls := .type "list", data := .seq vs.toArray }) (hi : IntsAre vs ns) (hl : ns.length ≤ sizeLine) (hr : Room k callerA)
    (F : ∀ base : Heap, g.K.In base → base.Ns mainGlobals g.mg → (∀ p ∈ cs, LamX.TabB base g.mg p.1 p.2) → FnG g base k fa fd [x] γ) (hbind : ∀ (s : Shared) (u : Value), BindsTo s fd ⟨[u], []⟩ [(x, u)])
    (hγ : γ [.rol (ns.map D.int)] (tabMs cs qs) (fun d _ => d = .bl true) (fun _ _ => False)) :
    codeAny (model g.P g.w) callerA (.call (.ref fa) ⟨[.ref a], []⟩) (fun r s' => r = .ok (.ret (.bool true)) ∧ OldK s₁.heap s'.heap ∧ s'.os = s₁.os ∧ AllBare s'.gens) s₁ := by
  have rv := vals_ints hi
  have lenV := hi.length
  have isT : ∀ b : Addr, b ∈ cs.map (·.2) → s₁.heap.get? b = some { cls := .none, data := .fields #[] } := fun b hb => by
    obtain ⟨p, hp, e⟩ := List.mem_map.mp hb
    rw [← e]
    exact hT p hp
  have aT : a ∉ cs.map (·.2) := fun z => by
    have q := isT a z
    rw [ha] at q
    have z' : Data.seq vs.toArray _ = Data.fields #[] := congrArg Obj.data (Option.some.inj q)
    cases z'
  have memT : ∀ p ∈ cs, p.2 ∈ cs.map (·.2) := fun p hp => List.mem_map.mpr ⟨p, hp, rfl⟩
  -- from an abstract heap in which nothing but the script and the tables may be tracked
  have core : ∀ H : Hp, (∀ p ∈ cs, H p.2 = some (.tbl #[])) → (∀ b, H b = none ∨ b ∈ cs.map (·.2) ∨ ∃ o xs, H b = some (.frz o (.lst xs))) → RoL g.K H a (ns.map V.int) → HOk g.P g.w H s₁.heap → (∀ b, H b ≠ none → b = a ∨ b ∈ cs.map (·.2)) → (H a ≠ none → g.K.lookup a = none) →
      codeAny (model g.P g.w) callerA (.call (.ref fa) ⟨[.ref a], []⟩) (fun r s' => r = .ok (.ret (.bool true)) ∧ OldK s₁.heap s'.heap ∧ s'.os = s₁.os ∧ AllBare s'.gens) s₁ := by
    intro H hH hO hS hok hA hK
    have base_of : ∀ {b : Addr} {o : Obj}, s₁.heap.get? b = some o → H b = none → (hidT s₁.heap H).get? b = some o := fun e n => hidT_get e n
    have noD : ∀ {b : Addr} {o : Obj}, s₁.heap.get? b = some o → (∀ vs n, o.data ≠ .seq vs n) → o.data ≠ .fields #[] → H b = none := fun {b o} e h1 h2 => by
      cases q : H b with
      | none => rfl
      | some u =>
        rcases hA b (by rw [q]; simp) with e' | e'
        · rw [e', ha] at e
          cases e
          exact (h1 _ _ rfl).elim
        · rw [isT b e'] at e
          cases e
          exact (h2 rfl).elim
    have noA : ∀ {b : Addr} {o : Obj} {es : Array DictEntry} {ep : Nat}, s₁.heap.get? b = some o → o.data = .dict es ep → H b = none := fun {b o es ep} e d => by
      refine noD e (fun vs n z => ?_) fun z => ?_
      · rw [d] at z
        cases z
      · rw [d] at z
        cases z
    have nsK : ∀ {b : Addr} {m : Str → Option Value}, s₁.heap.Ns b m → (hidT s₁.heap H).Ns b m := fun {b m} ⟨o, es, ep, e, d, r⟩ => ⟨o, es, ep, base_of e (noA e d), d, r⟩
    have hKb : g.K.In (hidT s₁.heap H) := fun b o e => base_of (KX b o e) (by
      cases q : H b with
      | none => rfl
      | some u =>
        rcases hA b (by rw [q]; simp) with e' | e'
        · rw [e'] at e q
          rw [hK (by rw [q]; simp)] at e
          cases e
        · obtain ⟨p, hp, ep⟩ := List.mem_map.mp e'
          rw [← ep, nT p hp] at e
          cases e)
    have hM : L2.Mod g.K g.mg (hidT s₁.heap H) := ⟨hKb, nsK hns, ⟨mb, nsK hb, hbb⟩, let ⟨mc, h1, h2⟩ := hlim; ⟨mc, nsK h1, h2⟩⟩
    have TB : ∀ p ∈ cs, LamX.TabB (hidT s₁.heap H) g.mg p.1 p.2 := fun p hp => by
      have hTp := hT p hp
      refine ⟨?_, ?_, fun z => ?_⟩
      · obtain ⟨o, us, file, tf, flags, tg, inF, text, tt, e1, r1, r2, r3, r4, r5, r6, r7, r8, hne⟩ := C p hp
        refine ⟨o, us, file, tf, flags, tg, inF, text, tt, base_of e1 (noD e1 (fun vs n z => ?_) fun z => ?_), r1, r2, r3, r4, r5, r6, r7, r8, hne⟩
        · rw [r2] at z
          cases z
        · rw [r2] at z
          cases z
          simp at r3
      · obtain ⟨bm, ob, b1, b2, b3, b4, b5, b6⟩ := hbm
        have nG : bm ≠ mainGlobals := fun q => by
          obtain ⟨o, es, ep, e, hd, _⟩ := hns
          rw [q, e] at b3
          cases b3
          rw [hd] at b6
          cases b6
        have nP : bm ≠ p.2 := fun q => by
          rw [q, hTp] at b3
          cases b3
          cases b6
        refine ⟨bm, ob, b1, b2, nG, nP, base_of b3 (noD b3 (fun vs n z => ?_) fun z => ?_), b4, b5, b6⟩
        · rw [b6] at z
          cases z
        · rw [b6] at z
          cases z
      · obtain ⟨o, es, ep, e, hd, _⟩ := hns
        rw [z, hTp] at e
        cases e
        cases hd
    have e0 : Env0 g.P g.w g.K g.mg (hidT s₁.heap H) callerA [] s₁ H := ⟨rfl, hM, fun b o e => of_hidT e, Nat.le_of_eq (hidT_size _ _), trivial, fun b hb => absurd (show b ∈ ([] : List Addr) from hb) (by simp), hok, .of_eq hg⟩
    have R0 : Rl g H (cs.map (·.2)) (tabMs cs qs) := rl_tabs hnd hql hH
    refine codeAny_mono ((F _ hKb (nsK hns) TB).run callerA [] s₁ H ⟨[.ref a], []⟩ [.ref a] [.ref a] (cs.map (·.2)) (tabMs cs qs) [.rol (ns.map D.int)] _ _ (fun v _ => v = .bl true) (fun _ _ _ => False) hr rfl e0 (hbind s₁ (.ref a)) (.cons rfl .nil) R0
      (.cons (.rol hS (rps_ints ns)) .nil) hγ (fun d S' hd ι' H' v _ _ rv => by subst hd; cases rv; rfl) fun _ _ z => z.elim) fun r s' h => ?_
    cases r with
    | error e =>
      obtain ⟨_, _, _, _, _, _, _, _, _, _, _, _, z⟩ := h
      exact z.elim
    | ok fl =>
      cases fl with
      | next => exact False.elim h
      | brk => exact False.elim h
      | cont => exact False.elim h
      | ret u =>
        obtain ⟨v, H', os, bare, un, hok', r', q⟩ := h
        have q' : v = .bl true := q
        subst q'
        obtain rfl : u = Value.bool true := r'
        have key : ∀ b o, b ∉ cs.map (·.2) → s₁.heap.get? b = some o → s'.heap.get? b = some o := fun b o nb e => by
          cases q : H b with
          | none => exact un.keep b o e q (by intro z; exact absurd (show b ∈ ([] : List Addr) from z) (by simp)) (by simp)
          | some u =>
            rcases hO b with z | z | ⟨ob, xs, z⟩
            · rw [q] at z; cases z
            · exact absurd z nb
            · have z2 := un.frzs b ob _ z
              obtain ⟨e1, _⟩ := hok b _ z
              obtain ⟨e2, _⟩ := hok' b _ z2
              rw [e] at e1; cases e1
              exact e2
        have grown : ∀ p ∈ cs, ∃ more : Array Value, s'.heap.get? p.2 = some { cls := .none, data := .fields more } := fun p hp => by
          obtain ⟨more, z⟩ := un.tbls p.2 #[] (hH p hp)
          exact ⟨_, hok' p.2 _ z⟩
        refine ⟨rfl, ⟨fun b o e => ?_, fun b o e => ?_⟩, os, bare⟩
        · by_cases hb : b ∈ cs.map (·.2)
          · obtain ⟨p, hp, ep⟩ := List.mem_map.mp hb
            obtain ⟨more, hm⟩ := grown p hp
            rw [← ep] at e ⊢
            rw [hT p hp] at e
            cases e
            exact .inr (.inl ⟨((C p hp).tab (hT p hp)).isCodeTable, rfl, #[], more, rfl, by rw [Array.empty_append]; exact hm⟩)
          · exact .inl (key b o hb e)
        · by_cases hb : b ∈ cs.map (·.2)
          · obtain ⟨p, hp, ep⟩ := List.mem_map.mp hb
            obtain ⟨more, hm⟩ := grown p hp
            rw [← ep]
            exact ⟨_, hm⟩
          · exact ⟨o, key b o hb e⟩
  cases hk : g.K.lookup a with
  | some o =>
    have e := KX a o hk
    rw [ha] at e
    cases e
    refine core (fun b => if b ∈ cs.map (·.2) then some (.tbl #[]) else none) (fun p hp => if_pos (memT p hp)) (fun b => ?_) (.inr ⟨_, vs.toArray, _, hk, rfl, rfl, rfl, by rw [List.size_toArray, lenV]; exact hl, by simpa using rv⟩) (fun b u z => ?_) (fun b z => ?_) fun z => absurd (show (if a ∈ cs.map (·.2) then some (HO.tbl #[]) else none) = none from if_neg aT) z
    · by_cases hb : b ∈ cs.map (·.2)
      · exact .inr (.inl hb)
      · exact .inl (if_neg hb)
    · by_cases hb : b ∈ cs.map (·.2)
      · have z' := (if_pos hb).symm.trans z
        cases z'
        exact isT b hb
      · have z' := (if_neg hb).symm.trans z
        cases z'
    · by_cases hb : b ∈ cs.map (·.2)
      · exact .inr hb
      · exact absurd (if_neg hb) z
  | none =>
    refine core (fun b => if b = a then some (.frz { cls := .type "list", data := .seq vs.toArray } (.lst (ns.map V.int))) else if b ∈ cs.map (·.2) then some (.tbl #[]) else none) (fun p hp => (if_neg (show ¬ p.2 = a from fun z => aT (by rw [← z]; exact memT p hp))).trans (if_pos (memT p hp))) (fun b => ?_)
      (.inl ⟨{ cls := .type "list", data := .seq vs.toArray }, if_pos rfl⟩) (fun b u z => ?_) (fun b z => ?_) fun _ => hk
    · by_cases hb : b = a
      · exact .inr (.inr ⟨_, _, if_pos hb⟩)
      · by_cases hb2 : b ∈ cs.map (·.2)
        · exact .inr (.inl hb2)
        · exact .inl ((if_neg hb).trans (if_neg hb2))
    · by_cases hb : b = a
      · have z' := (if_pos hb).symm.trans z
        cases z'
        rw [hb]
        exact ⟨ha, by rw [List.length_map]; exact hl, vs, _, rv, ha⟩
      · have z1 := (if_neg hb).symm.trans z
        by_cases hb2 : b ∈ cs.map (·.2)
        · have z' := (if_pos hb2).symm.trans z1
          cases z'
          exact isT b hb2
        · have z' := (if_neg hb2).symm.trans z1
          cases z'
    · by_cases hb : b = a
      · exact .inl hb
      · by_cases hb2 : b ∈ cs.map (·.2)
        · exact .inr hb2
        · exact absurd ((if_neg hb).trans (if_neg hb2)) z
/-- the goal that the head leaves, from the law's γ -/
theorem walk_GT {l : PySem.W.OpenLaw} {n k : Nat} {q : Program} {loose : List Str} {XP : (Str → Option Value) → Heap → Prop} {YP : World → Heap → Prop} {d : DefRec} {x : Str} {γ : List MO → Ga} {qs : List Str}
    (hn : l.most = some n) (hn2 : n ≤ sizeLine) (hdf : d.params.defaults = []) (hr : Room k callerA)
    (F : ∀ (w : World) (mg : Str → Option Value) (fa : Addr) (h : Heap), YP w h → h.Ns mainGlobals mg → mg d.name = some (.ref fa) →
      ∃ (K : PySem.W.Frag) (fd : FuncData) (cs : List (Addr × Addr)), K.In h ∧ (∀ p ∈ cs, h.get? p.2 = some { cls := .none, data := .fields #[] }) ∧ (∀ p ∈ cs, K.lookup p.2 = none) ∧ (∀ p ∈ cs, PySem.W.CodeHd h p.1 p.2) ∧ (cs.map (·.2)).Nodup ∧ qs.length = cs.length ∧
        (∀ (s : Shared) (u : Value), BindsTo s fd ⟨[u], []⟩ [(x, u)]) ∧ ∀ base : Heap, K.In base → base.Ns mainGlobals mg → (∀ p ∈ cs, LamX.TabB base mg p.1 p.2) → FnG ⟨l.prog, w, K, mg⟩ base k fa fd [x] (γ (tabMs cs qs)))
    (hγ : ∀ (ns : List Int) (T : List MO), T.length = qs.length → ns.length ≤ n → (∀ z ∈ ns, Builtin.Int.intBits z ≤ 1048576) → γ T [.rol (ns.map D.int)] T (fun d _ => d = .bl true) (fun _ _ => False)) :
    PySem.W.WalkO q loose XP YP l.row.toRowW d [] (fun f vs => PySem.call f vs) := by
  refine Att.attach_callB hn hdf fun w s₀ s₁ mg mb fa o pm cd doc a vs ns Gr Y ho hd hcd hmg hobj hints hlen hbits hg => ?_
  obtain ⟨K, fd, cs, KX, hT, nT, C, hnd, hql, hb, hF⟩ := F w mg fa _ Y Gr.T.g hmg
  exact law_callGT (g := ⟨l.prog, w, K, mg⟩) KX Gr.T.g Gr.T.b Gr.T.builtins Gr.T.nolimit hg hT nT C hnd hql Gr.T.bmain hobj hints (Nat.le_trans hlen hn2) hr hF hb (hγ ns _ (by rw [tabMs_len hql, hql]) hlen hbits)
end Zz
set_option Elab.async false
set_option linter.all false
set_option maxRecDepth 100000
namespace Zz
open PySem PySem.Spec PyProof.Rows L2
abbrev Cs := Nat → Ga
theorem e_cstE {X : Cx} {W : WX} {x : Str} {d : D} {pos : Pos} (hg : Gl X x) (c : ∃ u v, CstG (gX X) x d u v) (hd : (x == ("__debug__" : Str)) = false := by decide) : PE X (.Name x pos) (liftE (gX X) W (wC d)) := by
  obtain ⟨u, v, c⟩ := c
  exact e_cst hg c hd
/-- a written tuple of plain things -/
def tupZ (K : PySem.W.Frag) (x : Str) (vs : List He.Dv) : Bool := match K.lookup (He.ga K x) with
  | some ⟨.type c, none, .seq its _, _⟩ => decide (c = "tuple") && (decide (its.size ≤ sizeLine) && He.relAll (vs.map (He.Dv.v K)) its.toList)
  | _ => false
theorem tupZ_ok {K : PySem.W.Frag} {x : Str} {vs : List He.Dv} (h : tupZ K x vs = true) (H : Hp) : TupO K H (He.ga K x) (vs.map (He.Dv.v K)) := by
  unfold tupZ at h
  cases q : K.lookup (He.ga K x) with
  | none => rw [q] at h; cases h
  | some o =>
    obtain ⟨oc, od, dt, osl⟩ := o
    rw [q] at h
    cases oc with
    | type c =>
      cases od with
      | none =>
        cases dt with
        | seq its n =>
          obtain ⟨h1, h2⟩ := He.ba (show (decide (c = "tuple") && (decide (its.size ≤ sizeLine) && He.relAll (vs.map (He.Dv.v K)) its.toList)) = true from h)
          obtain ⟨h3, h4⟩ := He.ba h2
          exact .inr ⟨_, its, n, q, congrArg Value.type (of_decide_eq_true h1), rfl, rfl, of_decide_eq_true h3, He.relAll_ok h4⟩
        | _ => cases h
      | some d => cases dt <;> cases h
    | _ => cases od <;> cases dt <;> cases h
/-- texts as a written tuple's items -/
theorem rps_strs {g : G} {K : PySem.W.Frag} {H : Hp} {ι : List Addr} : ∀ xs : List Str, Rps g H ι (xs.map D.str) ((xs.map He.Dv.str).map (He.Dv.v K))
  | [] => .nil
  | x :: xs => .cons (.str x) (rps_strs xs)
theorem cst_strs {g : G} {x : Str} {xs : List Str} (hm : g.mg x = some (.ref (He.ga g.K x))) (h : tupZ g.K x (xs.map He.Dv.str) = true) : ∃ u v, CstG g x (.tup (xs.map D.str)) u v :=
  ⟨_, .ref (He.ga g.K x), hm, rfl, fun H ι => .tup (tupZ_ok h H) (rps_strs xs)⟩
theorem cst_str {g : G} {x z : Str} (h : ∃ t, g.mg x = some (.str z t)) : ∃ u v, CstG g x (.str z) u v := by
  obtain ⟨t, h⟩ := h
  exact ⟨_, .str z, h, ⟨t, rfl⟩, fun _ _ => .str z⟩
theorem cst_int {g : G} {x : Str} {i : Int} (h : ∃ t, g.mg x = some (.int i t)) : ∃ u v, CstG g x (.int i) u v := by
  obtain ⟨t, h⟩ := h
  exact ⟨_, .int i, h, ⟨t, rfl⟩, fun _ _ => .int i⟩
theorem fun_bindsTo {K : PySem.W.Frag} {x qual : Str} {st : Stmt} {f : Addr} {fd : FuncData} {ps : List Str} (F : Fun K x qual st f fd)
    (h : ∀ (kV doc pm : Value) (an : Option Addr) (cdv ct : Value) (us : List Value), us.length = ps.length → bindArgs (PySem.W.fnOf x qual (defArgs st) (defBody st) (defScope st) .none kV doc pm an cdv ct) ⟨us, []⟩ = pure (ps.zip us)) (s : Shared) (us : List Value) (hl : us.length = ps.length) :
    BindsTo s fd ⟨us, []⟩ (ps.zip us) := by
  obtain ⟨oc, od, kV, doc, pm, an, cdv, ct, osl, rfl, lk, hcd⟩ := F.ex
  exact .of_eq (h kV doc pm an cdv ct us hl)
theorem tab_hyps {K : PySem.W.Frag} {base : Heap} {mg : Str → Option Value} {fs : List He.Defn} {qs : List Str} (TB : ∀ p ∈ fs.map (He.cT K), LamX.TabB base mg p.1 p.2) (hq : qs.length = fs.length) :
    (∀ m, m < fs.length → LamX.TabB base mg (He.cT K (fs.getD m ("", none))).1 (He.cT K (fs.getD m ("", none))).2) ∧
    ∀ m, m < fs.length → (tabMs (fs.map (He.cT K)) qs).getD m .off = .tab (He.cT K (fs.getD m ("", none))).2 (qs.getD m "") := by
  refine ⟨fun m hm => ?_, fun m hm => ?_⟩
  · rw [List.getD_eq_getElem?_getD, List.getElem?_eq_getElem hm]
    exact TB _ (List.mem_map.mpr ⟨_, List.getElem_mem hm, rfl⟩)
  · induction fs generalizing qs m with
    | nil => exact absurd hm (Nat.not_lt_zero m)
    | cons f fs ih =>
      cases qs with
      | nil => simp at hq
      | cons q qs =>
        cases m with
        | zero => rfl
        | succ m => exact ih (fun p hp => TB p (List.mem_cons_of_mem _ hp)) (by simpa using hq) m (by simpa using hm)
theorem code_at {K : PySem.W.Frag} {x q : Str} {st : Stmt} {p : Str × Option Str} {fd : FuncData} (F : Fun K x q st (He.fAd K p) fd) : fd.code = .ref (He.cT K p).1 := by
  obtain ⟨oc, od, kV, doc, pm, an, cdv, ct, osl, rfl, lk, hcd⟩ := F.ex
  obtain ⟨c, rfl⟩ := He.codeIn_ref hcd
  exact congrArg Value.ref (He.codeOf_eq lk rfl).symm
end Zz
set_option Elab.async false
set_option linter.all false
set_option maxRecDepth 100000
namespace Zz
open PySem PySem.Spec PyProof.Rows L2
/-! ### own exceptions -/
/-- x is an own class of exceptions without an __init__ of its own -/
def ExcC (g : G) (x : Str) : Prop := ∃ C, g.mg x = some (.ref C) ∧ PySem.W.excIn g.K C He.veBase "ValueError.__new__" = true ∧ PySem.W.keepIn g.K (.ref C) = true ∧ PySem.W.subIn g.K (.ref C) (.type "BaseException") = some true ∧ PySem.W.typeIn g.K (.ref C) = some (.type "type")
/-- except y takes what is raised by x: b -/
def Cat (g : G) (x y : Str) (b : Bool) : Prop := ∃ C D, g.mg x = some (.ref C) ∧ g.mg y = some (.ref D) ∧ PySem.W.exmOne g.K (.ref C) (.ref D) = some b
/-- raise X() -/
def sRaise (x : Str) : WS := fun k ρ S => k.ex ⟨x, []⟩ ρ S
/-- try: w / except: ws -/
def sTry (cat : Str → Option Bool) (w ws : WS) : WS := fun k ρ S => w { k with ex := fun x ρ' S' => match cat x.cls with
  | some true => ws { k with ex := fun _ _ _ => False } ρ' S'
  | some false => k.ex x ρ' S'
  | none => False } ρ S
section
variable {X : Cx} {W : WX}
theorem mk_none {x : Str} {C : Addr} {p pos : Pos} (q : PySem.W.excIn X.K C He.veBase "ValueError.__new__" = true) (gC : X.mg x = some (.ref C)) (kC : PySem.W.keepIn X.K (.ref C) = true) (r : Raises X (.ref C)) (hg : Gl X x) (hdb : (x == ("__debug__" : Str)) = false := by decide) :
    PMk X (.Call (.Name x p) [] [] pos) (fun _ H Q => Q (.ref C) none H) := by
  intro pins s σ H Q I z
  refine wpAny_Call_Name_kw (ld_glob I hg gC (PySem.W.callWith_K0 I.kIn kC ?_) hdb)
  obtain ⟨bm, N, nm, qn, bs, hdct, sn, sub, ab, col, dd, k0, k1, k2, k3, k5, mN, hC, hN, hni, T⟩ := exc_obj I.kIn q
  exact wpAny_call_exc_subT PySem.F.excBase_ValueError T hC hN hni (fun _ _ m => mk_of I m r z (I.hok.gone m.new)) (by show 0 ≤ sizeLine; omega)
theorem s_raise {x : Str} {p pos pos' : Pos} (h : ExcC (gX X) x) (tk : Takes X W) (hc : X.calm = true) (hg : Gl X x) (hdb : (x == ("__debug__" : Str)) = false := by decide) :
    PS X (.Raise (some (.Call (.Name x p) [] [] pos)) none pos') (liftS (gX X) W (sRaise x)) := by
  obtain ⟨C, h1, h2, h3, h4, h5⟩ := h
  refine PS.mono (ps_raise hc tk (mk_none h2 h1 h3 (raises_own h4 h5) hg hdb)) fun D σ H z => ?_
  obtain ⟨ι, S, ρ, k, R, r, z, ki⟩ := z
  exact ki.ex _ _ _ z ι H σ (.ref C) none (.refl _ _) R r ⟨C, h1, rfl, True.intro⟩
theorem s_try {y : Str} {body suite : List Stmt} {b₀ : Stmt} {np pos pos' : Pos} {cat : Str → Option Bool} {w ws : WS} (hs : X.stack = X.env :: X.outer) (hf : X.env.frame = some X.env.locals) (tk : Takes X W) (hg : Gl X y) (hy : ∃ D, X.mg y = some (.ref D))
    (hcat : ∀ x b, cat x = some b → Cat (gX X) x y b)
    (hb : ∀ (W' : WX) (pn : List (Addr × Obj)) (xe : Value → Shared → Prop), Takes (X.tr pn xe) W' → PassesOwn (model X.prog X.w) X.A X.env xe → PSs (X.tr pn xe) body (liftS (gX X) W' w))
    (hsu : ∀ (a : Addr) (pn : List (Addr × Obj)), PSs (X.suite a pn) (b₀ :: suite) (liftS (gX X) W0 ws)) (hdb : (y == ("__debug__" : Str)) = false := by decide) :
    PS X (.Try body [.ExceptHandler (some (.Name y np)) none (b₀ :: suite) pos'] [] [] pos) (liftS (gX X) W (sTry cat w ws)) := by
  obtain ⟨D0, hD0⟩ := hy
  refine PS.mono (ps_try_only (c := .ref D0) (ts := fun _ _ _ => liftS (gX X) W0 ws) (tb := fun W' => liftS (gX X) W' w) hs hf ⟨hg, hdb, .inl hD0⟩ tk hb fun a oe cls d pn _ _ => hsu a _) fun D σ H z => ?_
  obtain ⟨ι, S, ρ, k, R, r, z, ki⟩ := z
  refine ⟨ι, S, ρ, _, R, r, z, ki.nx, ki.rt, ki.bk, ki.ct, fun x ρ' S' q ι' H' σ' cls d e' R' r' rx => ?_⟩
  dsimp only at q
  obtain ⟨C, hC, rfl, hfs⟩ := id rx
  cases hx : cat x.cls with
  | none => rw [hx] at q; exact q.elim
  | some b =>
    rw [hx] at q
    obtain ⟨C', D', c1, c2, c3⟩ := hcat _ _ hx
    rw [hC] at c1; cases c1
    have c2' : X.mg y = some (.ref D') := c2
    rw [hD0] at c2'; cases c2'
    cases b with
    | true =>
      have ki' := ki.on e'
      exact ⟨true, c3, fun _ a na => ⟨ι', S', ρ', _, R', r', q, ki'.nx, ki'.rt, ki'.bk, ki'.ct, fun _ _ _ f => f.elim⟩, fun f => by cases f⟩
    | false => exact ⟨false, c3, (fun f => by cases f), fun _ => ki.ex x ρ' S' q ι' H' σ' _ d e' R' r' rx⟩
end
theorem tk_tr {X : Cx} {W : WX} {pn : List (Addr × Obj)} {xe : Value → Shared → Prop} (h : Takes (X.tr pn xe) W) : Takes (X.tr pn xe) W := h
/-! ### a def that a local name holds -/
def wCallV (γs : Str → Option Ga) (i : Nat) (a : WA) : WE := fun ρ S Q E => oB ρ[i]?.join fun d => match d with
  | .glo x => oB (γs x) fun γ => a ρ S (fun ds S1 => γ ds S1 Q E) E
  | _ => False
/-- γs tells what these defs do -/
def HasG (X : Cx) (γs : Str → Option Ga) : Prop := ∀ x γ, γs x = some γ → ∃ k f fd ps, FnG (gX X) X.base k f fd ps γ ∧ Room k X.A ∧ X.mg x = some (.ref f) ∧ PySem.W.keepIn X.K (.ref f) = true ∧ Binds X.K fd ps []
theorem HasG.nil {X : Cx} : HasG X (fun _ => none) := fun _ _ h => by cases h
def addG (x : Str) (γ : Ga) (γs : Str → Option Ga) : Str → Option Ga := fun y => if y = x then some γ else γs y
theorem HasG.add {X : Cx} {γs : Str → Option Ga} {x : Str} {γ : Ga} {k : Nat} {f : Addr} {fd : FuncData} {ps : List Str} (F : FnG (gX X) X.base k f fd ps γ) (hr : Room k X.A) (hm : X.mg x = some (.ref f)) (hk : PySem.W.keepIn X.K (.ref f) = true) (hb : Binds X.K fd ps []) (h : HasG X γs) : HasG X (addG x γ γs) := by
  intro y γ' hy
  unfold addG at hy
  split at hy
  · rename_i e
    subst e
    cases hy
    exact ⟨k, f, fd, ps, F, hr, hm, hk, hb⟩
  · exact h y γ' hy
theorem e_callV {X : Cx} {W : WX} {i : Nat} {x : Str} {p pos : Pos} {e : Expr} {es : List Expr} {wa : WA} {γs : Str → Option Ga} (hγ : HasG X γs) (hgd : X.A.guards = some []) (tk : Takes X W)
    (ha : PA X (e :: es) (liftA (gX X) W wa)) (hN : X.N[i]? = some x := by rfl) (hv : Vis X.env.scope x := by first | exact .inl rfl | exact .inr (.inl rfl) | exact .inr (.inr rfl)) (hdb : (x == ("__debug__" : Str)) = false := by decide) (hcd : (x == ("__classdict__" : Str)) = false := by decide)
    (he : starEach (e :: es) X.env = (false, eval e X.env) :: starEach es X.env := by rfl) (hpl : (backTo pos (starEach es X.env)).any (·.1) = false := by rfl) :
    PE X (.Call (.Name x p) (e :: es) [] pos) (liftE (gX X) W (wCallV γs i wa)) := by
  refine ⟨fun pins s σ H Q I h => ?_⟩
  obtain ⟨ι, S, ρ, q, e0, R, r, h, hq, hx⟩ := h
  obtain ⟨d, hd, h⟩ := oB_iff.mp h
  have hd' : ρ[i]? = some (some d) := by
    cases z : ρ[i]? with
    | none => rw [z] at hd; cases hd
    | some o => rw [z] at hd; exact congrArg some hd
  obtain ⟨v, hv1, rv⟩ := r.2 i d hd'
  cases d <;> first | exact h.elim | skip
  obtain ⟨γ, hg1, h⟩ := oB_iff.mp h
  obtain ⟨k, f, fd, ps, F, hr, hm, hk, hb⟩ := hγ _ _ hg1
  cases rv with
  | glo em =>
    have em' : X.mg _ = some (.ref _) := em
    rw [hm] at em'
    cases em'
    refine wpAny_Call_Name_kw (thn ((pe_var (pos := p) hN hv hdb hcd).run pins s σ H (fun v H1 => v = .ref f ∧ H1 = H) I ⟨.ref f, hv1, rfl, rfl⟩) fun u s1 ⟨v, H1, I1, r1, q1⟩ => ?_)
    obtain ⟨rfl, rfl⟩ := q1
    cases r1
    refine PySem.W.callWith_K (h₀ := X.base) I.ok.mod.kin hk (thn (ha.run pos pins s1 σ _ _ I1 (ahead_of ⟨ι, S, ρ, q, e0, R, r, h, hq, hx⟩)) fun us s2 ⟨vs, H2, I2, r2, q2⟩ => ⟨I2.kIn, ?_⟩) he hpl
    exact run_fnG F hr hgd hb tk I2 r2 q2
/-! ### xs.insert(i, y) -/
def fIns : FM := fun S x ys Q => match x, ys with
  | .ref n, [.int i, y] => atN S n fun xs => xs.length < sizeLine ∧ 0 ≤ i ∧ i < 2 ^ 63 ∧ Q .non (S.set n (.lst (xs.take i.toNat ++ [y] ++ xs.drop i.toNat)))
  | _, _ => False
section
variable {X : Cx} {W : WX} {g : G}
theorem ok_insert : OkM g (fun x vs H Q => ∃ (l : Addr) (xs : List V) (i : Int) (y : V), x = .ref l ∧ vs = [.int i, y] ∧ H l = some (.lst xs) ∧ xs.length < sizeLine ∧ 0 ≤ i ∧ i < 2 ^ 63 ∧ Q .non (upd H l (.lst (xs.take i.toNat ++ [y] ++ xs.drop i.toNat)))) fIns := by
  intro H ι S x v ys us Q q R rx ry hf hq
  cases rx <;> first | exact False.elim hf | skip
  rename_i n a e0
  match ys, ry, hf with
  | [.int i, y], ry, hf =>
    obtain ⟨u1, u2, rfl, r1, ru⟩ := ry.two'
    cases r1
    obtain ⟨xs, h1, h2, h3, h4, h5⟩ := atN_iff.mp hf
    obtain ⟨a', vs, e1, e2, r, ea⟩ := R.list h1 (.ref e0)
    cases e1
    obtain ⟨e3, R3⟩ := R.wr h1 ea e2 (((r.take i.toNat).app (.cons ru .nil)).app (r.drop i.toNat))
    exact ⟨_, vs, i, u2, rfl, rfl, e2, by rw [← r.length]; exact h2, h3, h4, hq _ _ h5 _ _ _ e3 R3 .non⟩
variable {o e : Expr} {es : List Expr} {wo : WE} {wa : WA} {apos cpos : Pos}
theorem e_mt_insert (ho : PE X o (liftE (gX X) W wo)) (ha : PA X (e :: es) (liftA (gX X) W wa))
    (hbase : attributeBase o "insert" X.env (eval o X.env) = eval o X.env := by rfl)
    (hfew : ((backTo cpos (starEach (e :: es) X.env)).all (fun x => !x.1) && (backToKw cpos (keywordEach [] X.env)).all (fun x => x.1.isSome) && decide ((e :: es).length + ([] : List Keyword).length + (if ([] : List Keyword).isEmpty then 0 else 1) < 30)) = true := by rfl)
    (hline : (apos.endLine == cpos.line) = true := by rfl) (hs : starEach (e :: es) X.env = (false, eval e X.env) :: starEach es X.env := by rfl) (hplain : (backTo cpos (starEach es X.env)).any (·.1) = false := by rfl) :
    PE X (.Call (.Attribute o "insert" apos) (e :: es) [] cpos) (liftE (gX X) W (wMt isLst fIns wo wa)) :=
  PE.mono (pe_bm PySem.F.plainAttrs_list PySem.F.slot_list_insert PySem.F.type_list_insert mt_insert ho ha hbase hfew hline hs hplain) (lift_mt (g := gX X) ty_lst ok_insert)
/-! ### a list times an int -/
def fRepL : F2 := fun S x y Q => match y with
  | .int k => atL S x fun xs => -(2 ^ 63) ≤ k ∧ k < 2 ^ 63 ∧ xs.length * k.toNat ≤ sizeLine ∧ Q (.ref S.length) (S ++ [.lst (List.replicate k.toNat xs).flatten])
  | _ => False
theorem Rps.reps {H : Hp} {ι : List Addr} {ds : List D} {vs : List V} (r : Rps g H ι ds vs) : ∀ k : Nat, Rps g H ι (List.replicate k ds).flatten (List.replicate k vs).flatten
  | 0 => .nil
  | k + 1 => by
    rw [List.replicate_succ, List.replicate_succ, List.flatten_cons, List.flatten_cons]
    exact r.app (Rps.reps r k)
theorem ok_rep : Ok2 g rRep fRepL := by
  intro H ι S x y v u Q q R rx ry hf hq
  cases y <;> first | exact False.elim hf | skip
  rename_i k
  cases ry
  obtain ⟨n, xs, rfl, h1, h2, h3, h4, h5⟩ := atL_iff.mp hf
  obtain ⟨a, vs, rfl, e1, r1, _⟩ := R.list h1 rx
  refine ⟨a, k, vs, rfl, rfl, e1, h2, h3, by rw [← r1.length]; exact h4, fun p hp => ?_⟩
  obtain ⟨e3, R3, rp⟩ := newList R hp (r1.reps k.toNat)
  exact (hq _ _ h5) _ _ _ e3 R3 rp
end
end Zz
set_option Elab.async false
set_option linter.all false
set_option maxRecDepth 100000
namespace Zz
open PySem PySem.Spec PyProof.Rows L2
open LamX (TabB TabS CodeO LamS lamCx lamEnv)
/-! ### what a lambda without parameters takes along -/
abbrev Thk := Sto → QD → QX → Prop
def kn : Rho → List D
  | [] => []
  | some d :: ρ => d :: kn ρ
  | none :: ρ => kn ρ
def kv : Rho → L2.St → List V
  | some _ :: ρ, some v :: σ => v :: kv ρ σ
  | _ :: ρ, _ :: σ => kv ρ σ
  | _, _ => []
inductive Fit : Rho → L2.St → Prop
  | nil : Fit [] []
  | some {d : D} {v : V} {ρ : Rho} {σ : L2.St} : Fit ρ σ → Fit (some d :: ρ) (some v :: σ)
  | none {x : Option V} {ρ : Rho} {σ : L2.St} : Fit ρ σ → Fit (none :: ρ) (x :: σ)
section
variable {g : G} {H : Hp} {ι : List Addr}
theorem Rs.tail {x : Option D} {y : Option V} {ρ : Rho} {σ : L2.St} (h : Rs g H ι (x :: ρ) (y :: σ)) : Rs g H ι ρ σ :=
  ⟨by have := h.1; simpa using this, fun i d hi => h.2 (i + 1) d (by simpa using hi)⟩
theorem Rs.fit : ∀ {ρ : Rho} {σ : L2.St}, Rs g H ι ρ σ → Fit ρ σ
  | [], [], _ => .nil
  | [], _ :: _, h => by have := h.1; simp at this
  | _ :: _, [], h => by have := h.1; simp at this
  | none :: ρ, y :: σ, h => .none (Rs.fit h.tail)
  | some d :: ρ, y :: σ, h => by
    obtain ⟨v, h1, _⟩ := h.2 0 d rfl
    simp at h1
    subst h1
    exact .some (Rs.fit h.tail)
theorem Rs.known : ∀ {ρ : Rho} {σ : L2.St}, Rs g H ι ρ σ → Rps g H ι (kn ρ) (kv ρ σ)
  | [], [], _ => .nil
  | [], _ :: _, h => .nil
  | _ :: _, [], h => by have := h.1; simp at this
  | none :: ρ, none :: σ, h => by have t := Rs.known h.tail; simpa [kn, kv] using t
  | none :: ρ, some _ :: σ, h => by have t := Rs.known h.tail; simpa [kn, kv] using t
  | some d :: ρ, y :: σ, h => by
    obtain ⟨v, h1, h2⟩ := h.2 0 d rfl
    simp at h1
    subst h1
    exact .cons h2 (Rs.known h.tail)
theorem Fit.rs : ∀ {ρ : Rho} {σ : L2.St}, Fit ρ σ → Rps g H ι (kn ρ) (kv ρ σ) → Rs g H ι ρ σ
  | _, _, .nil, _ => ⟨rfl, fun i d h => by simp at h⟩
  | _, _, .none f, h => by
    have t := Fit.rs f h
    exact ⟨by simp [t.1], fun i d hi => by
      cases i with
      | zero => simp at hi
      | succ i => simpa using t.2 i d (by simpa using hi)⟩
  | _, _, .some f, h => by
    cases h with
    | cons h1 h2 =>
      have t := Fit.rs f h2
      exact ⟨by simp [t.1], fun i d hi => by
        cases i with
        | zero => simp at hi; subst hi; exact ⟨_, rfl, h1⟩
        | succ i => simpa using t.2 i d (by simpa using hi)⟩
end
/-- the closure is called -/
def wThk (i : Nat) (cl : D) (th : Thk) : WE := fun ρ S Q E => ρ[i]? = some (some cl) ∧ th S Q E
section
variable {X : Cx} {pins : List (Addr × Obj)} {σ : L2.St} {H : Hp} {s : Shared}
theorem e_act {Ng : List Str} {qg : Str} {sg : Scope} {fg f c' : Addr} {cdg pm ctv : Value} {params : Arguments} {body : Expr} {scope : Scope} {k i : Nat} {a : Str} {pn : List (Addr × Obj)} {xe : Value → Shared → Prop} {W : WX} {Eg : XK} {w : WE} {ρ : Rho} {p1 p2 : Pos}
    (I : Inv X pins σ H s) (L : LamS X.env.scope scope) (hf : s.heap.get? f = some (PySem.W.kla_obj "<lambda>" (X.env.qual ++ "<lambda>") params body scope (cloFrom X.env.cells scope.names []) pm c' ctv)) (hfn : H f = none) (hfr : f ∉ frs X.stack) (fit : Fit ρ σ)
    (hbind : bindArgs (PySem.W.kla_fn "<lambda>" (X.env.qual ++ "<lambda>") params body scope (cloFrom X.env.cells scope.names []) pm (.ref c') ctv) ⟨[], []⟩ = pure [])
    (tk : Takes ((cxOf (L2.CX X.prog X.w) X.prog X.w X.K X.mg X.base Ng qg sg fg cdg X.A X.stack s H Eg).tr pn xe) W) (hr : Room (k + 1) (X.A.deeper (envOfC qg sg s.heap.objs.size fg cdg))) (hgd : X.A.guards = some [])
    (hbody : ∀ (A : Around) (outer : List PySem.Env) (s : Shared) (H : Hp) (E : XK), Room k (A.deeper (lamEnv X scope s.heap.objs.size f c')) → (A.deeper (lamEnv X scope s.heap.objs.size f c')).guards = some [] → PE (lamCx X A outer s H E scope f c') body (liftE (gX X) (fun cls d _ H => E cls d H) w))
    (hN : Ng[i]? = some a) (hv : Vis sg a) (hd : (a == ("__debug__" : Str)) = false) (hcd : (a == ("__classdict__" : Str)) = false) :
    PE ((cxOf (L2.CX X.prog X.w) X.prog X.w X.K X.mg X.base Ng qg sg fg cdg X.A X.stack s H Eg).tr pn xe) (.Call (.Name a p1) [] [] p2) (liftE (gX X) W (wThk i (.clo f c' (X.env.qual ++ "<lambda>") (kn ρ) (kv ρ σ)) fun S q e => w ρ S q e)) := by
  refine ⟨fun pinsZ sZ σZ HZ Q IZ h => ?_⟩
  obtain ⟨ι, S, ρZ, q, e, R, r, ⟨h1, h2⟩, hq, he⟩ := h
  obtain ⟨vv, hs, rc⟩ := r.2 _ _ h1
  obtain ⟨rfl, hc, rk⟩ : vv = V.ref f ∧ HZ c' = some (CodeO c' (X.env.qual ++ "<lambda>")) ∧ Rps (gX X) HZ ι (kn ρ) (kv ρ σ) := by
    cases rc with
    | clo a b => exact ⟨rfl, a, b⟩
  refine wpAny_Call_Name_kw (thn ((pe_var (pos := p1) (i := i) hN hv hd hcd).run pinsZ sZ σZ HZ (fun v H1 => v = .ref f ∧ H1 = HZ) IZ ⟨.ref f, hs, rfl, rfl⟩) fun u s1 ⟨v, H1, I1, r1, q1⟩ => ?_)
  obtain ⟨rfl, rfl⟩ := q1
  obtain rfl : u = Value.ref f := r1
  have at1 := I1.base.keep f _ hf hfn hfr (fun z => nomatch (show f ∈ ([] : List Addr) from z))
  refine PySem.W.callWith_F0 ⟨_, _, _, _, at1⟩ ?_
  obtain ⟨⟨oc, vs, t, hoc, hdc, hvc⟩, _, _⟩ := I1.hok c' _ hc
  have rc : codeAny (model X.prog X.w) (X.A.deeper (envOfC qg sg s.heap.objs.size fg cdg)) (.call (.ref f) ⟨[], []⟩) (CR (L2.CX X.prog X.w) (envOfC qg sg s.heap.objs.size fg cdg :: X.stack) X.prog X.w H1 s1 Q (fun cls d H' => W cls d σZ H')) s1 := by
    refine PySem.W.kla_callFunE hr.depth at1 rfl L.co L.gen rfl ⟨c', oc, vs, t, rfl, hoc, hdc, hvc⟩ ?_
    rw [hbind]
    refine wpAny_pure (wpAny_newFunctionEnv (fun y hy => (L.own y hy).2) (fun y hy => absurd hy (by simp)) (fun h₁ hns hsb => ⟨I1.nolimit.fresh _ hsb, ?_⟩) L.kind)
    have kp : ∀ b o, s1.heap.get? b = some o → h₁.get? b = some o := fun b o z => hsb.extBut b o (Nat.ne_of_lt (Heap.lt_size z)) (Heap.get?_push_of_some _ z)
    have J : Inv (lamCx X (X.A.deeper (envOfC qg sg s.heap.objs.size fg cdg)) (envOfC qg sg s.heap.objs.size fg cdg :: X.stack) s1 H1 (fun cls d H' => W cls d σZ H') scope f c') [] σ H1 { s1 with heap := h₁, toks := s1.toks + ([] : List (Str × Value)).length } :=
      LamX.lam_start2 I L I1.env0 hr.hd I1.base hns kp
    have run := (hbody _ _ s1 H1 (fun cls d H' => W cls d σZ H') (hr.deeper _) hgd).run [] _ _ H1 Q J ⟨ι, S, ρ, q, e, R, fit.rs rk, h2, hq, fun x S' z ι' H' σ' cls d ee RR _ rx => he x S' z ι' H' σZ cls d ee RR (r.ex R ee) rx⟩
    exact PySem.W.kla_codeExpr (wpAny_mono run (fun v s' ⟨w', H', J', rv, z⟩ => ⟨w', H', J'.os, J'.bare, J'.base, J'.hok, rv, z⟩) fun _ _ z => z)
  refine wpAny_call (codeAny_mono rc fun res s' hq' => ?_)
  cases res with
  | error x => exact passAt tk σZ pinsZ H1 s1 x s' I1 hq'
  | ok fl =>
    cases fl with
    | ret u => exact I1.after hq'
    | next => exact False.elim hq'
    | brk => exact False.elim hq'
    | cont => exact False.elim hq'
end
/-- the def at f, handed a closure that it may call -/
structure FnT (g : G) (base : Heap) (k : Nat) (f : Addr) (γ : Thk → D → Sto → QD → QX → Prop) : Prop where
  run : ∀ (A : Around) (outer : List PySem.Env) (s : Shared) (H : Hp) (fl : Addr) (cl : D) (th : Thk) (ι : List Addr) (S : Sto) (q : QD) (e : QX) (Q : VK) (E : XK),
    Room k A → A.guards = some [] → Env0 g.P g.w g.K g.mg base A outer s H → Rl g H ι S → Rp g H ι cl (.ref fl) →
    (∀ (Ng : List Str) (qg : Str) (sg : Scope) (cdg : Value) (pn : List (Addr × Obj)) (xe : Value → Shared → Prop) (W : WX) (i : Nat) (x : Str) (p1 p2 : Pos), Takes ((cxOf (L2.CX g.P g.w) g.P g.w g.K g.mg base Ng qg sg f cdg A outer s H E).tr pn xe) W →
      Ng[i]? = some x → Vis sg x → (x == ("__debug__" : Str)) = false → (x == ("__classdict__" : Str)) = false →
      PE ((cxOf (L2.CX g.P g.w) g.P g.w g.K g.mg base Ng qg sg f cdg A outer s H E).tr pn xe) (.Call (.Name x p1) [] [] p2) (liftE g W (wThk i cl th))) →
    γ th cl S q e → (∀ d S', q d S' → upE g H ι Q d S') → (∀ x S', e x S' → ∀ ι' H' cls d, Ex H ι H' ι' → Rl g H' ι' S' → Rx g H' ι' x cls d → E cls d H') →
    codeAny (model g.P g.w) A (.call (.ref f) ⟨[.ref fl], []⟩) (CR (L2.CX g.P g.w) outer g.P g.w H s Q E) s
theorem FnT.mono {g : G} {base : Heap} {j k : Nat} {f : Addr} {γ : Thk → D → Sto → QD → QX → Prop} (F : FnT g base j f γ) (h : j ≤ k) : FnT g base k f γ :=
  ⟨fun A outer s H fl cl th ι S q e Q E hr => F.run A outer s H fl cl th ι S q e Q E (hr.mono h)⟩
theorem FnT.never {g : G} {base : Heap} {k : Nat} {f : Addr} : FnT g base k f (fun _ _ _ _ _ => False) := ⟨fun _ _ _ _ _ _ _ _ _ _ _ _ _ _ _ _ _ _ _ h => h.elim⟩
theorem fun_T {g : G} {base : Heap} {x qual a : Str} {st : Stmt} {f : Addr} {fd : FuncData} {N : List Str} {k : Nat} {wb : D → Thk → WS} (F : Fun g.K x qual st f fd) (Sc : FnScope N [a] (defScope st)) (hN : N[0]? = some a) (hv : Vis (defScope st) a) (hB : Binds g.K fd [a] [])
    (hbody : ∀ (cdv : Value) (A : Around) (outer : List PySem.Env) (s : Shared) (H : Hp) (E : XK) (cl : D) (th : Thk), Room k (A.deeper (envOfC qual (defScope st) s.heap.objs.size f cdv)) → (A.deeper (envOfC qual (defScope st) s.heap.objs.size f cdv)).guards = some [] → Room k (A.deeper (envOfC qual (defScope st) s.heap.objs.size f cdv)).in1.in1 →
      (∀ (W : WX) (pn : List (Addr × Obj)) (xe : Value → Shared → Prop) (p1 p2 : Pos), Takes ((cxOf (L2.CX g.P g.w) g.P g.w g.K g.mg base N qual (defScope st) f cdv A outer s H E).tr pn xe) W →
        PE ((cxOf (L2.CX g.P g.w) g.P g.w g.K g.mg base N qual (defScope st) f cdv A outer s H E).tr pn xe) (.Call (.Name a p1) [] [] p2) (liftE g W (wThk 0 cl th))) →
      PSs (cxOf (L2.CX g.P g.w) g.P g.w g.K g.mg base N qual (defScope st) f cdv A outer s H E) (defBody st) (liftS (gX (cxOf (L2.CX g.P g.w) g.P g.w g.K g.mg base N qual (defScope st) f cdv A outer s H E)) (fun cls d _ H => E cls d H) (wb cl th)))
    (hda : (a == ("__debug__" : Str)) = false := by decide) (hca : (a == ("__classdict__" : Str)) = false := by decide) :
    FnT g base (k + 1) f (fun th cl S q e => bodyG N.length 1 (wb cl th) [cl] S q e) := by
  obtain ⟨oc, od, kV, doc, pm, an, cdv, ct, osl, rfl, lk, hcd⟩ := F.ex
  refine ⟨fun A outer s H fl cl th ι S q e Q E hr hgd e0 R rcl act hγ hq he => ?_⟩
  have KX : g.K.In s.heap := e0.mod.kin.keeps fun b o z => (e0.bs b o z).1
  have lim : s.heap.NoLimit := e0.mod.nolimit.keeps fun b o z => (e0.bs b o z).1
  have kinds : ∀ y ∈ [a].zip [Value.ref fl], (defScope st).names.lookup y.1 = some .local ∨ ((defScope st).names.lookup y.1 = some .cell ∧ ((cellsFrom (s.heap.objs.size + 1) (defScope st).names []).lookup y.1).isSome = true) := by
    rintro ⟨n, v⟩ hy
    rcases Sc.par n (List.of_mem_zip hy).1 with z | z
    · exact .inl z
    · exact .inr ⟨z, PySem.W.cellsFrom_some _ _ _ (.inl z)⟩
  refine codeAny_call_function hr.depth (KX _ _ lk) rfl Sc.co Sc.gen rfl (PySem.W.codeRec_of KX hcd) (hB s [.ref fl] KX rfl _ _ _ _ ?_)
  refine wpAny_newFunctionEnv_cells Sc.kind kinds fun env he1 s1 x => ?_
  subst he1
  refine ⟨lim.keeps x.toInCall.keep, codeAny_func ?_⟩
  have J : Inv (cxOf (L2.CX g.P g.w) g.P g.w g.K g.mg base N qual (defScope st) f cdv A outer s H E) [] (L2.start N [.ref fl]) H s1 := inv_start Sc hr.hd e0 rfl (.cons rfl .nil) x
  have run := (hbody cdv A outer s H E cl th (hr.deeper _) hgd (room_in2 hr _) fun W pn xe p1 p2 tk => act N qual (defScope st) cdv pn xe W 0 a p1 p2 tk hN hv hda hca).run [] s1 (L2.start N [.ref fl]) H { nx := fun _ H' => Q .non H', rt := Q } J
    ⟨ι, S, _, endK q e, R, rs_start (.cons rcl .nil), hγ.2, ⟨fun ρ' S' z ι' H' σ' ee RR rr => hq _ _ z ι' H' _ ee RR .non, fun d S' z => hq d S' z, fun _ _ z => z.elim, fun _ _ z => z.elim, fun x' ρ' S' z ι' H' σ' cls d ee RR rr rx => he x' S' z ι' H' cls d ee RR rx⟩⟩
  refine wpAny_mono run (fun fw s' hs => ?_) fun _ _ z => z
  cases fw with
  | ret u => obtain ⟨v, σ', H', J, rv, z⟩ := hs; exact ⟨_, _, J.os, J.bare, J.base, J.hok, rv, z⟩
  | next => obtain ⟨σ', H', J, z⟩ := hs; exact ⟨.non, H', J.os, J.bare, J.base, J.hok, rfl, z⟩
  | brk => obtain ⟨_, _, _, z⟩ := hs; exact z.elim
  | cont => obtain ⟨_, _, _, z⟩ := hs; exact z.elim
/-- x(lambda: w); the maker's table is the store's n-th -/
def wThunk (n : Nat) (o : MO) (γ : Thk → D → Sto → QD → QX → Prop) (w : WE) : WE := fun ρ S Q E => S[n]? = some o ∧ ∀ cl, γ (fun S' q e => w ρ S' q e) cl S Q E
theorem e_thunk {X : Cx} {W : WX} {k n : Nat} {c P fg : Addr} {x : Str} {params : Arguments} {body : Expr} {scope : Scope} {w : WE} {γ : Thk → D → Sto → QD → QX → Prop} {p lpos pos : Pos} {o : MO} (ho : o = .tab P (X.env.qual ++ "<lambda>")) (FT : FnT (gX X) X.base k fg γ) (hr : Room (k + 2) X.A) (hgd : X.A.guards = some [])
    (hg : Gl X x) (hm : X.mg x = some (.ref fg)) (hk : PySem.W.keepIn X.K (.ref fg) = true) (tk : Takes X W) (TB : TabB X.base X.mg c P) (hcode : X.env.code = .ref c) (L : LamS X.env.scope scope) (hdef : defaultsOf params X.env = ([], []))
    (hbind : ∀ (q : Str) (cl : List (Str × Addr)) (pm cv ctv : Value), bindArgs (PySem.W.kla_fn "<lambda>" q params body scope cl pm cv ctv) ⟨[], []⟩ = pure [])
    (hbody : ∀ (f c' : Addr) (A : Around) (outer : List PySem.Env) (s : Shared) (H : Hp) (E : XK), Room k (A.deeper (lamEnv X scope s.heap.objs.size f c')) → (A.deeper (lamEnv X scope s.heap.objs.size f c')).guards = some [] → PE (lamCx X A outer s H E scope f c') body (liftE (gX X) (fun cls d _ H => E cls d H) w))
    (hdb : (x == ("__debug__" : Str)) = false := by decide) :
    PE X (.Call (.Name x p) [.Lambda params body scope lpos] [] pos) (liftE (gX X) W (wThunk n o γ w)) := by
  subst ho
  refine ⟨fun pins s σ H Q I h => ?_⟩
  obtain ⟨ι, S, ρ, q, e, R, r, ⟨ht, hγ⟩, hq, he⟩ := h
  obtain ⟨a', ha', rfl, htS⟩ := R.get ht
  refine wpAny_Call_Name_kw (ld_glob I hg hm ?_ hdb)
  refine PySem.W.callWith_K (h₀ := X.base) I.ok.mod.kin hk ?_ (by rfl) (by rfl)
  refine Calls.spliced_cons (lam_make3 I TB hcode htS hdef (L.has I.ok) fun f c' pm ctv H2 s2 I2 md hf hfn hfr hco => ?_)
  refine Calls.spliced_nil ⟨I2.kIn, ?_⟩
  obtain ⟨e2, R2⟩ := R.made ht md
  have r2 := r.ex R e2
  have act : ∀ (Ng : List Str) (qg : Str) (sg : Scope) (cdg : Value) (pn : List (Addr × Obj)) (xe : Value → Shared → Prop) (W' : WX) (i : Nat) (y : Str) (p1 p2 : Pos), Takes ((cxOf (L2.CX X.prog X.w) X.prog X.w X.K X.mg X.base Ng qg sg fg cdg X.A X.stack s2 H2 (fun cls d H' => W cls d σ H')).tr pn xe) W' →
      Ng[i]? = some y → Vis sg y → (y == ("__debug__" : Str)) = false → (y == ("__classdict__" : Str)) = false →
      PE ((cxOf (L2.CX X.prog X.w) X.prog X.w X.K X.mg X.base Ng qg sg fg cdg X.A X.stack s2 H2 (fun cls d H' => W cls d σ H')).tr pn xe) (.Call (.Name y p1) [] [] p2) (liftE (gX X) W' (wThk i (.clo f c' (X.env.qual ++ "<lambda>") (kn ρ) (kv ρ σ)) fun S' q e => w ρ S' q e)) :=
    fun Ng qg sg cdg pn xe W' i y p1 p2 tk' hN hv hd hcd => e_act (k := k) I2 L hf hfn hfr r.fit (hbind _ _ _ _ _) tk' (hr.deeper _) hgd (hbody f c') hN hv hd hcd
  have run := FT.run X.A X.stack s2 H2 f (.clo f c' (X.env.qual ++ "<lambda>") (kn ρ) (kv ρ σ)) (fun S' q e => w ρ S' q e) ι S q e Q (fun cls d H' => W cls d σ H') (hr.mono (by omega)) hgd I2.env0 R2 (.clo hco r2.known) act (hγ _)
    (fun d S' z => (hq d S' z).on e2) fun x' S' z ι' H' cls d ee RR rx => he x' S' z ι' H' σ cls d (e2.trans ee) RR (r2.ex R2 ee) rx
  refine wpAny_call (codeAny_mono run fun res s' hq' => ?_)
  cases res with
  | error u => exact tk u s' (XE.of_call I2 (fun cls d H' z => z) hq')
  | ok fl =>
    cases fl with
    | ret u => exact I2.after hq'
    | next => exact False.elim hq'
    | brk => exact False.elim hq'
    | cont => exact False.elim hq'
end Zz
set_option Elab.async false
set_option linter.all false
set_option maxRecDepth 100000
namespace PySem
open Sem (wp)
open AutoSeq1 (wpAny_loadPart')
set_option maxHeartbeats 1000000 in
theorem zz_meets_enum1 {v : Value} {o : Obj} {T : Heap → Prop} (B : Begins v o T) :
    Meets (Builtin.«enumerate.__new__» ⟨[.type "enumerate", v], []⟩) (fun _ R s => T s.heap ∧
      R (.ok (.ret (.ref (s.heap.push o).objs.size))) { s with heap := (s.heap.push o).push { cls := .type "enumerate", data := .fields #[.none, .bool false, .ref s.heap.objs.size, rawInt 0, .none, .none] } }) :=
  .of_wp fun prog w A R s z => by
    obtain ⟨hp, gn, dr, tk, os⟩ := s; obtain ⟨z1, z⟩ := z
    have hsub := sub_enumerate
    have qi : ∀ {A' : Around} {E : Value → Shared → Prop} {Q : Value → Shared → Prop}, Q (.ref hp.objs.size) ⟨hp.push o, gn, dr, tk, os⟩ → wpAny (model prog w) A' (pyIter v) Q E ⟨hp, gn, dr, tk, os⟩ := fun y => B.iter prog w _ _ ⟨hp, gn, dr, tk, os⟩ _ z1 y
    wp_walk using qi
    refine wpAny_stack_any fun st => wpAny_pure ?_
    split
    · rename_i c _ _ _ _ _
      cases (c == Value.type "enumerate")
      · wp_walk using qi
        exact ⟨_, rfl, z⟩
      · wp_walk using qi
        exact ⟨_, rfl, z⟩
    · wp_walk using qi
      exact ⟨_, rfl, z⟩
theorem zz_call_enum1 {prog : Program} {w : World} {A : Around} {E : Value → Shared → Prop} {s : Shared} {v : Value} {o : Obj} {T : Heap → Prop} {Q : Value → Shared → Prop} (B : Begins v o T) (h1 : T s.heap)
    (h : ∀ h', IsEnum h' (s.heap.objs.size + 1) s.heap.objs.size 0 .none → h'.get? s.heap.objs.size = some o → (∀ b o, s.heap.get? b = some o → h'.get? b = some o) → Q (.ref (s.heap.objs.size + 1)) { s with heap := h' }) :
    wpAny (model prog w) A (call (.type "enumerate") [v]) Q E s := by
  refine callType_new F.called_enumerate (by decide) (F.typeCall_enumerate_1 _) (F.newCall_enumerate_1 _) (fun obj => F.args_object_init_2 obj _) F.entry_enumerate_new (zz_meets_enum1 B) ⟨h1, ?_⟩
  have hz : (s.heap.push o).objs.size = s.heap.objs.size + 1 := Heap.size_push ..
  show _ ∧ _
  rw [hz]
  have he := Heap.get?_push_size (s.heap.push o) (o := { cls := .type "enumerate", data := .fields #[.none, .bool false, .ref s.heap.objs.size, rawInt 0, .none, .none] }) rfl
  rw [hz] at he
  exact ⟨⟨_, he, rfl⟩, h _ he (Heap.get?_push_of_some _ (Heap.get?_push_size _ B.free)) fun b o x => Heap.get?_push_of_some _ (Heap.get?_push_of_some _ x)⟩
end PySem
namespace Zz
open PySem PySem.Spec PyProof.Rows L2
/-! ### enumerate(tuple) -/
def IteT (K : PySem.W.Frag) (a : Addr) : It :=
  ⟨fun i H => ∃ (ys : List V) (y : V), SqT K H a ys ∧ ys[i]? = some y, fun i H v H' => ∃ T y, v = .ref T ∧ H T = none ∧ H' = upd H T (.tup [.int (i : Nat), y]) ∧ ∀ ys, SqT K H a ys → ys[i]? = some y, fun i H => ∃ ys : List V, SqT K H a ys ∧ ys.length ≤ i⟩
theorem draws_end {prog : Program} {w : World} {A : Around} (hh : A.handled = none) {it t : Addr} {items : Array Value} {i : Nat} (hi : items[i]? = none) :
    Draws prog w A it [it, t] i (fun _ _ => False) (fun j h => j = i ∧ h.IsTupleIter it t i ∧ h.IsTuple t items) where
  live := fun _ _ ⟨_, ⟨o, ho, _⟩, _⟩ => ⟨o, ho⟩
  frame := fun _ _ _ ⟨e, a, b⟩ hk => ⟨e, a.at fun o z => hk it (by simp) o z, b.at fun o z => hk t (by simp) o z⟩
  item := fun j s Q E hj ⟨e, _⟩ _ => absurd hj (by omega)
  done := fun s Q E ⟨_, a, b⟩ hE => wpAny_nextOf_tuple_end hh a b hi hE
theorem turn_enumT {P : Program} {w : World} {K : PySem.W.Frag} {elts : List Expr} {kk : Nat} {tpos : Pos} (a e it : Addr) :
    Turn P w K (.Tuple elts kk tpos) (IteT K a) [e, it] e (fun i h => (∃ old, IsEnum h e it ((i : Nat) : Int) old) ∧ h.IsTupleIter it a i ∧ e ≠ it) where
  mem := List.mem_cons_self
  obj := fun i h st b hb => by
    obtain ⟨⟨old, he⟩, ⟨oi, ho, hc, hd⟩, _⟩ := st
    rcases List.mem_cons.mp hb with rfl | hb
    · exact ⟨_, he, fun v q => nomatch q⟩
    · obtain rfl := List.mem_singleton.mp hb
      exact ⟨oi, ho, fun v q => by rw [hd] at q; cases q⟩
  keep := fun i h h' ⟨⟨old, he⟩, hi, hne⟩ k => ⟨⟨old, k e List.mem_cons_self _ he⟩, hi.at fun o q => k it (List.mem_cons_of_mem _ List.mem_cons_self) o q, hne⟩
  item := by
    intro X hP hw hK hc i pins s σ H E I hf st hg
    subst hP hw hK
    obtain ⟨⟨old, he⟩, hit, hne⟩ := st
    obtain ⟨ys, y, hq, hy⟩ := hg
    obtain ⟨its, rv, pt, _⟩ := I.tuple hq
    obtain ⟨u, hu, ru⟩ := rv.get hy
    have hel : e < s.heap.objs.size := Heap.lt_size he
    have hil : it < s.heap.objs.size := by obtain ⟨_, q, _⟩ := hit; exact Heap.lt_size q
    have hea : e ≠ a := by
      rintro rfl
      obtain ⟨o1, q1, q2, _⟩ := id pt
      rw [he] at q1; cases q1
      exact absurd (Value.type.inj q2) (by decide)
    have hai : a ≠ it := by
      rintro rfl
      obtain ⟨o1, q1, q2, _⟩ := id pt
      obtain ⟨o2, q3, q4, _⟩ := id hit
      rw [q3] at q1; cases q1
      rw [q4] at q2
      exact absurd (Value.type.inj q2) (by decide)
    have hlt : i < its.toArray.size := by
      have := (List.getElem?_eq_some_iff.mp hu).1
      simpa using this
    refine wpAny_pyNext_enum_itemD (Draws.tuple (A := X.A.in1) (I.ok.hd hc) it a hai its.toArray) he ⟨hit, pt⟩ hlt hne (by simp [hne, hea]) fun x h' tk hx he1 st1 hT hsz hk => ?_
    obtain rfl : u = x := by
      have : its[i]? = some x := by simpa using hx
      rw [hu] at this; cases this; rfl
    refine ⟨_, rfl, wpAny_letOwnedTupleGo_enum (s := { s with heap := h', toks := tk + 1 }) he1 fun h2 he2 sb => ?_⟩
    have hT2 : h2.get? s.heap.objs.size = some { cls := .type "tuple", data := .seq #[.int i tk, u] } := (sb.2 _ (Nat.ne_of_gt hel)).trans hT
    have new : ObjOk X.prog X.w (upd H s.heap.objs.size (.tup [.int (i : Nat), y])) h2 s.heap.objs.size (.tup [.int (i : Nat), y]) := ⟨by show 2 ≤ sizeLine; decide, [.int i tk, u], .cons ⟨_, rfl⟩ (.cons ru .nil), ⟨_, hT2, rfl, _, rfl⟩⟩
    have I1 : Inv X pins σ (upd H s.heap.objs.size (.tup [.int (i : Nat), y])) { s with heap := h2, toks := tk + 1 } :=
      I.turnedNew (ch := [e, it]) (fun b ob hb q => (sb.2 b (fun z => hb (z ▸ List.mem_cons_self))).trans (hk b ob (fun z => hb (z ▸ List.mem_cons_self)) (fun z => hb (z ▸ List.mem_cons_of_mem _ List.mem_cons_self)) q)) hf (Nat.le_refl _) new
    refine ⟨.ref s.heap.objs.size, _, I1, rfl, ⟨_, y, rfl, I.hok.fresh (Nat.le_refl _), rfl, fun zs hz => by rw [I.tuple_inj hz hq]; exact hy⟩, ⟨⟨u, ?_⟩, st1.1.at fun o q => (sb.2 it (Ne.symm hne)).trans q, hne⟩, fun b hb => ?_⟩
    · have e1 : ((i + 1 : Nat) : Int) = (i : Int) + 1 := by omega
      rw [e1]; exact he2
    · have hb' : b < s.heap.objs.size := by
        rcases List.mem_cons.mp hb with rfl | hb
        · exact hel
        · obtain rfl := List.mem_singleton.mp hb
          exact hil
      rw [upd_ne (Nat.ne_of_lt hb')]
      exact (hf b hb).1
  done := by
    intro X hP hw hK hc i pins s σ H E I hf st hg
    subst hP hw hK
    obtain ⟨⟨old, he⟩, hit, hne⟩ := st
    obtain ⟨ys, hq, hy⟩ := hg
    obtain ⟨its, rv, pt, _⟩ := I.tuple hq
    have hl := rv.length
    obtain ⟨f0, f1, f2, f3, f4, f5⟩ := hf it (List.mem_cons_of_mem _ List.mem_cons_self)
    exact wpAny_pyNext_enum_endD (draws_end (A := X.A.in1) (I.ok.hd hc) (i := i) (by simp; omega)) he ⟨rfl, hit, pt⟩ fun h' eb => ⟨rfl, I.turned (t' := s.toks) (fun b o hb q => eb b o hb q) f0 f1 f3 f4 f5⟩
  self := fun A i s Q E st h => let ⟨⟨_, he⟩, _⟩ := st; wpAny_pyIter_enum he h
def iEnumA (K : PySem.W.Frag) (ta : TA) : TI := fun σ H R => ta σ H fun vs H1 => ∃ a xs, vs = [.ref a] ∧ ((SqL K H1 a xs ∧ R (Ite K a) H1) ∨ (SqT K H1 a xs ∧ R (IteT K a) H1))
theorem pi_enumA {X : Cx} {e : Expr} {ta : TA} {p pos tpos : Pos} {elts : List Expr} {kk : Nat} (hg : Gl X "enumerate") (hm : X.mg "enumerate" = none) (ha : PA X [e] ta) (hs : starEach [e] X.env = [(false, eval e X.env)] := by rfl) :
    PI X (.Tuple elts kk tpos) (.Call (.Name "enumerate" p) [e] [] pos) (iEnumA X.K ta) := by
  refine ⟨fun pins s σ H R I h => Call_ (ld_blt I hg hm boot_enumerate (PyProof.Rows.callWith_type1 (thn (ha.run pos pins s σ H _ I h) fun us s1 ⟨vs, H1, I1, r1, q1⟩ => ?_) hs rfl))⟩
  obtain ⟨a, xs, rfl, hq⟩ := q1
  obtain ⟨u, rfl, ru⟩ : ∃ u, us = [u] ∧ L2.RelV (V.ref a) u := by
    cases r1 with
    | cons r rr => cases rr; exact ⟨_, rfl, r⟩
  cases ru
  have fr : ∀ b, b ∈ [s1.heap.objs.size + 1, s1.heap.objs.size] → FpOk X pins H1 b := fun b hb => by
    have hle : s1.heap.objs.size ≤ b := by
      rcases List.mem_cons.mp hb with rfl | hb
      · exact Nat.le_add_right _ _
      · obtain rfl := List.mem_singleton.mp hb
        exact Nat.le_refl _
    exact I1.fpOk hle (I1.hok.fresh hle)
  rcases hq with ⟨hq, q⟩ | ⟨hq, q⟩
  · obtain ⟨its, rv, pl, _⟩ := I1.list hq
    refine call_enumerate_list pl.isList fun h' he hit hsz hk => wpAny_pyIter_enum he ?_
    exact ⟨s1.heap.objs.size + 1, [s1.heap.objs.size + 1, s1.heap.objs.size], _, _, H1, rfl, I1.kept (t' := s1.toks) hk, turn_enum a _ _, ⟨⟨.none, he⟩, hit, Nat.succ_ne_self _⟩, fr, q⟩
  · obtain ⟨its, rv, pt, _⟩ := I1.tuple hq
    refine zz_call_enum1 (begins_tuple a its.toArray) (show s1.heap.IsTuple a its.toArray from pt) fun h' he hit hk => wpAny_pyIter_enum he ?_
    exact ⟨s1.heap.objs.size + 1, [s1.heap.objs.size + 1, s1.heap.objs.size], _, _, H1, rfl, I1.kept (t' := s1.toks) hk, turn_enumT a _ _, ⟨⟨.none, he⟩, ⟨_, hit, rfl, rfl⟩, Nat.succ_ne_self _⟩, fr, q⟩
def enumD : Nat → List D → List D
  | _, [] => []
  | n, x :: xs => .tpz [.int n, x] :: enumD (n + 1) xs
theorem enumD_get : ∀ {xs : List D} {n i : Nat} {d : D}, (enumD n xs)[i]? = some d → ∃ x, xs[i]? = some x ∧ d = .tpz [.int ((n + i : Nat) : Int), x]
  | [], n, i, d, h => by simp [enumD] at h
  | x :: xs, n, 0, d, h => by simp [enumD] at h; exact ⟨x, rfl, h.symm⟩
  | x :: xs, n, i + 1, d, h => by
    obtain ⟨y, h1, h2⟩ := enumD_get (xs := xs) (n := n + 1) (i := i) (by simpa [enumD] using h)
    exact ⟨y, by simpa using h1, by rw [h2, show n + 1 + i = n + (i + 1) by omega]⟩
theorem enumD_len : ∀ (xs : List D) (n : Nat), (enumD n xs).length = xs.length
  | [], _ => rfl
  | x :: xs, n => by rw [enumD, List.length_cons, List.length_cons, enumD_len xs]
def iEnu (w : WE) : WI := fun ρ S Q E => w ρ S (fun x S1 => oB (sqItems S1 x) fun xs => Q ⟨enumD 0 xs, fun S' => sqKeeps x xs S'⟩ S1) E
section
variable {g : G} {X : Cx} {W : WX}
theorem jok_enumL {H : Hp} {ι : List Addr} {S : Sto} {x : D} {xs : List D} {a : Addr} (R : Rl g H ι S) (rx : Rp g H ι x (.ref a)) (hx : sqItems S x = some xs) (tx : isTp x = false) : Jok g (Ite g.K a) ⟨enumD 0 xs, fun S' => sqKeeps x xs S'⟩ H ι := by
  intro i H' ι' S' e R' ok
  obtain ⟨vs, s1, r1⟩ := sq_again R rx hx e R' ok
  rw [tx, if_neg Bool.false_ne_true] at s1
  refine ⟨fun d hd => ?_, fun hl => ⟨vs, s1, by rw [← r1.length]; rw [enumD_len] at hl; exact hl⟩⟩
  obtain ⟨dx, h1, rfl⟩ := enumD_get hd
  obtain ⟨v, hv, rv⟩ := r1.get h1
  refine ⟨⟨vs, v, s1, hv⟩, fun t H2 yl => ?_⟩
  obtain ⟨T, v', rfl, hT, rfl, f1⟩ := yl
  have e1 := f1 vs s1
  rw [hv] at e1; cases e1
  obtain ⟨e3, R3⟩ := R'.beside hT (.tup [.int (i : Nat), v])
  rw [Nat.zero_add]
  exact ⟨e3, R3, .tpz (.inl (.inl upd_same)) (.cons (.int _) (.cons (rv.ex R' e3) .nil))⟩
theorem jok_enumT {H : Hp} {ι : List Addr} {S : Sto} {x : D} {xs : List D} {a : Addr} (R : Rl g H ι S) (rx : Rp g H ι x (.ref a)) (hx : sqItems S x = some xs) (tx : isTp x = true) : Jok g (IteT g.K a) ⟨enumD 0 xs, fun S' => sqKeeps x xs S'⟩ H ι := by
  intro i H' ι' S' e R' ok
  obtain ⟨vs, s1, r1⟩ := sq_again R rx hx e R' ok
  rw [tx, if_pos rfl] at s1
  refine ⟨fun d hd => ?_, fun hl => ⟨vs, s1, by rw [← r1.length]; rw [enumD_len] at hl; exact hl⟩⟩
  obtain ⟨dx, h1, rfl⟩ := enumD_get hd
  obtain ⟨v, hv, rv⟩ := r1.get h1
  refine ⟨⟨vs, v, s1, hv⟩, fun t H2 yl => ?_⟩
  obtain ⟨T, v', rfl, hT, rfl, f1⟩ := yl
  have e1 := f1 vs s1
  rw [hv] at e1; cases e1
  obtain ⟨e3, R3⟩ := R'.beside hT (.tup [.int (i : Nat), v])
  rw [Nat.zero_add]
  exact ⟨e3, R3, .tpz (.inl (.inl upd_same)) (.cons (.int _) (.cons (rv.ex R' e3) .nil))⟩
theorem i_enum {elts : List Expr} {kk : Nat} {tpos : Pos} {a : Expr} {wa : WE} {p pos : Pos} (hg : Gl X "enumerate") (hm : X.mg "enumerate" = none) (ha : PE X a (liftE (gX X) W wa)) (hs : starEach [a] X.env = [(false, eval a X.env)] := by rfl) :
    PI X (.Tuple elts kk tpos) (.Call (.Name "enumerate" p) [a] [] pos) (liftI (gX X) W (iEnu wa)) := by
  refine PI.mono (pi_enumA hg hm (pa_cons ha pa_nil hs) hs) fun σ H Q h => ?_
  obtain ⟨ι, S, ρ, q, e, R, r, h, hq, he⟩ := h
  refine ⟨ι, S, ρ, _, e, R, r, h, fun x S1 z ι1 H1 v e1 R1 rv => ?_, he⟩
  obtain ⟨xs, hx, z⟩ := oB_iff.mp z
  obtain ⟨a', vs, rfl, s1, r1, _⟩ := sq_here R1 rv hx
  refine ⟨a', vs, rfl, ?_⟩
  cases tx : isTp x with
  | false =>
    rw [tx, if_neg Bool.false_ne_true] at s1
    exact .inl ⟨s1, hq _ _ z ι1 H1 _ e1 R1 (jok_enumL (g := gX X) R1 rv hx tx)⟩
  | true =>
    rw [tx, if_pos rfl] at s1
    exact .inr ⟨s1, hq _ _ z ι1 H1 _ e1 R1 (jok_enumT (g := gX X) R1 rv hx tx)⟩
end
/-! ### xs[::-1], a list -/
def fRev : F1 := fun S x Q => match x with
  | .rol xs => Q (.ref S.length) (S ++ [.lst xs.reverse])
  | .ref n => (match S[n]? with | some (.lst xs) => Q (.ref S.length) (S ++ [.lst xs.reverse]) | _ => False)
  | _ => False
theorem e_rev {X : Cx} {W : WX} {e : Expr} {w : WE} {k : Nat} {p1 p2 p3 pos : Pos} (he : PE X e (liftE (gX X) W w)) : PE X (.Subscript e (.Slice none none (some (.UnaryOp .USub (.Constant (.int 1) k p1) p2)) p3) pos) (liftE (gX X) W (wUn fRev w)) := by
  refine PE.mono (pe_revL he) fun σ H Q h => ?_
  obtain ⟨ι, S, ρ, q, e0, R, r, h, hq, hx⟩ := h
  refine ⟨ι, S, ρ, _, e0, R, r, h, fun x S1 z ι1 H1 v e1 R1 rv => ?_, hx⟩
  have fin : ∀ {ds : List D} {vs : List V}, Rps (gX X) H1 ι1 ds vs → q (.ref S1.length) (S1 ++ [.lst ds.reverse]) → ∀ p, H1 p = none → Q (.ref p) (upd H1 p (.lst vs.reverse)) := fun {ds vs} rr hz p hp => by
    obtain ⟨e3, R3, rp⟩ := newList R1 hp rr.rev
    exact hq _ _ hz _ _ _ (e1.trans e3) R3 rp
  cases rv with
  | rol s r => exact ⟨_, _, rfl, s.sq, fin r z⟩
  | @ref n a e4 =>
    obtain ⟨n', xs, e5, e6, z⟩ := atL_iff.mp (show atL S1 (.ref n) fun xs => q (.ref S1.length) (S1 ++ [.lst xs.reverse]) from z)
    cases e5
    obtain ⟨a', vs, e7, e8, r8, _⟩ := R1.list e6 (.ref e4)
    cases e7
    exact ⟨_, _, rfl, .inl (.inl e8), fin r8 z⟩
  | _ => exact z.elim
theorem tk_lam {X : Cx} {A : Around} {outer : List PySem.Env} {s : Shared} {H : Hp} {E : XK} {scope : Scope} {f c' : Addr} : Takes (LamX.lamCx X A outer s H E scope f c') (fun cls d _ H => E cls d H) := takes_of rfl rfl rfl rfl
theorem exc_fact {g : G} {x : Str} (h : g.mg x = some (.ref (He.ga g.K x))) (c : PySem.W.excIn g.K (He.ga g.K x) He.veBase "ValueError.__new__" = true ∧ PySem.W.keepIn g.K (.ref (He.ga g.K x)) = true ∧ PySem.W.subIn g.K (.ref (He.ga g.K x)) (.type "BaseException") = some true ∧
    PySem.W.typeIn g.K (.ref (He.ga g.K x)) = some (.type "type")) : ExcC g x := ⟨_, h, c.1, c.2.1, c.2.2.1, c.2.2.2⟩
/-! ### repr of plain things too -/
def rReprB (K : PySem.W.Frag) : List V → Hp → VK → Prop := fun xs H Q => rReprD K xs H Q ∨ (∃ i, xs = [.int i] ∧ i.natAbs.log2 < 1920 ∧ Q (.str (toString i)) H) ∨ (∃ b : Bool, xs = [.bl b] ∧ Q (.str (if b then "True" else "False")) H) ∨ (xs = [.non] ∧ Q (.str "None") H) ∨
  ∃ x, xs = [.str x] ∧ (reprText x).length ≤ sizeLine ∧ Q (.str (reprText x)) H
def fReprB : FA := fun S xs Q => match xs with
  | [.int i] => i.natAbs.log2 < 1920 ∧ Q (.str (toString i)) S
  | [.bl b] => Q (.str (if b then "True" else "False")) S
  | [.non] => Q (.str "None") S
  | [.str x] => (reprText x).length ≤ sizeLine ∧ Q (.str (reprText x)) S
  | xs => fReprA S xs Q
theorem cr_reprB {X : Cx} {k : Nat} (hr : Room k X.A) (hgd : X.A.guards = some []) : CallR X (.builtin "repr") (rReprB X.K) := by
  intro pins s σ H xs us Q I r h
  rcases h with h | ⟨i, rfl, hz, q⟩ | ⟨b, rfl, q⟩ | ⟨rfl, q⟩ | ⟨x, rfl, hz, q⟩
  · exact cr_repr hr hgd pins s σ H xs us Q I r h
  · obtain ⟨u, rfl, t, rfl⟩ := vals1 r
    exact PySem.P.repr_of_int hz ⟨.str _, H, I.tok _, ⟨_, rfl⟩, q⟩
  · obtain ⟨u, rfl, ru⟩ := vals1 r
    cases ru
    exact PySem.P.repr_of_bool ⟨.str _, H, I.tok _, ⟨_, rfl⟩, q⟩
  · obtain ⟨u, rfl, ru⟩ := vals1 r
    cases ru
    exact PySem.P.repr_of_none ⟨.str _, H, I.tok _, ⟨_, rfl⟩, q⟩
  · obtain ⟨u, rfl, t, rfl⟩ := vals1 r
    exact PySem.P.repr_of_str ⟨.str _, H, I.tok _, ⟨_, rfl⟩, q⟩ hz
theorem ok_reprB {g : G} : OkA g (rReprB g.K) fReprB := by
  intro H ι S xs vs Q q R r hf hq
  match xs, r, hf with
  | [.int i], r, hf => obtain ⟨v, rfl, r1⟩ := r.one; cases r1; exact .inr (.inl ⟨i, rfl, hf.1, (hq _ _ hf.2).here R (.str _)⟩)
  | [.bl b], r, hf => obtain ⟨v, rfl, r1⟩ := r.one; cases r1; exact .inr (.inr (.inl ⟨b, rfl, (hq _ _ hf).here R (.str _)⟩))
  | [.non], r, hf => obtain ⟨v, rfl, r1⟩ := r.one; cases r1; exact .inr (.inr (.inr (.inl ⟨rfl, (hq _ _ hf).here R (.str _)⟩)))
  | [.str x], r, hf => obtain ⟨v, rfl, r1⟩ := r.one; cases r1; exact .inr (.inr (.inr (.inr ⟨x, rfl, hf.1, (hq _ _ hf.2).here R (.str _)⟩)))
  | [], r, hf => exact .inl (ok_repr R r hf hq)
  | [.tup x], r, hf => exact .inl (ok_repr R r hf hq)
  | [.rol x], r, hf => exact .inl (ok_repr R r hf hq)
  | [.tpz x], r, hf => exact .inl (ok_repr R r hf hq)
  | [.ref x], r, hf => exact .inl (ok_repr R r hf hq)
  | [.glo x], r, hf => exact .inl (ok_repr R r hf hq)
  | [.ty x], r, hf => exact .inl (ok_repr R r hf hq)
  | [.clo _ _ _ _ _], r, hf => exact .inl (ok_repr R r hf hq)
  | x :: y :: zs, r, hf => exact .inl (ok_repr R r (by cases x <;> exact hf) hq)
end Zz
set_option Elab.async false
set_option linter.all false
set_option maxRecDepth 100000
set_option maxHeartbeats 0
namespace Zz
open PySem PySem.Spec PyProof.Rows L2
def topS (i : Nat) : Stmt := PySem.Challenge.pw_maybeparts_k26_words_of_trees.main.body.getD i (.Pass ⟨0, 0, 0, 0⟩)
abbrev s0 : Stmt := topS 9
theorem sc0 : FnScope ["thing"] ["thing"] (defScope s0) := ⟨rfl, rfl, rfl, by decide +kernel, rfl, by decide +kernel, by decide +kernel⟩
abbrev s1 : Stmt := topS 10
theorem sc1 : FnScope ["thing"] ["thing"] (defScope s1) := ⟨rfl, rfl, rfl, by decide +kernel, rfl, by decide +kernel, by decide +kernel⟩
abbrev s2 : Stmt := topS 11
theorem sc2 : FnScope ["thing", "sign"] ["thing"] (defScope s2) := ⟨rfl, rfl, rfl, by decide +kernel, rfl, by decide +kernel, by decide +kernel⟩
abbrev s3 : Stmt := topS 12
theorem sc3 : FnScope ["thing", "many"] ["thing", "many"] (defScope s3) := ⟨rfl, rfl, rfl, by decide +kernel, rfl, by decide +kernel, by decide +kernel⟩
abbrev s4 : Stmt := topS 13
theorem sc4 : FnScope ["thing"] ["thing"] (defScope s4) := ⟨rfl, rfl, rfl, by decide +kernel, rfl, by decide +kernel, by decide +kernel⟩
abbrev s5 : Stmt := topS 15
theorem sc5 : FnScope ["facts", "term", "link", "terms"] ["facts"] (defScope s5) := ⟨rfl, rfl, rfl, by decide +kernel, rfl, by decide +kernel, by decide +kernel⟩
abbrev s6 : Stmt := topS 17
theorem sc6 : FnScope ["tree", "parent", "facts"] ["tree"] (defScope s6) := ⟨rfl, rfl, rfl, by decide +kernel, rfl, by decide +kernel, by decide +kernel⟩
abbrev s7 : Stmt := topS 18
theorem sc7 : FnScope ["tree", "node"] ["tree", "node"] (defScope s7) := ⟨rfl, rfl, rfl, by decide +kernel, rfl, by decide +kernel, by decide +kernel⟩
abbrev s8 : Stmt := topS 19
theorem sc8 : FnScope ["tree", "node"] ["tree", "node"] (defScope s8) := ⟨rfl, rfl, rfl, by decide +kernel, rfl, by decide +kernel, by decide +kernel⟩
abbrev s9 : Stmt := topS 20
theorem sc9 : FnScope ["tree", "node", "above", "told", "parent", "name"] ["tree", "node"] (defScope s9) := ⟨rfl, rfl, rfl, by decide +kernel, rfl, by decide +kernel, by decide +kernel⟩
abbrev s10 : Stmt := topS 21
theorem sc10 : FnScope ["tree", "variable", "found", "number", "told"] ["tree", "variable"] (defScope s10) := ⟨rfl, rfl, rfl, by decide +kernel, rfl, by decide +kernel, by decide +kernel⟩
abbrev s11 : Stmt := topS 22
theorem sc11 : FnScope ["tree", "node"] ["tree"] (defScope s11) := ⟨rfl, rfl, rfl, by decide +kernel, rfl, by decide +kernel, by decide +kernel⟩
abbrev s12 : Stmt := topS 23
theorem sc12 : FnScope ["tree"] ["tree"] (defScope s12) := ⟨rfl, rfl, rfl, by decide +kernel, rfl, by decide +kernel, by decide +kernel⟩
abbrev s13 : Stmt := topS 24
theorem sc13 : FnScope ["tree", "node", "found"] ["tree", "node"] (defScope s13) := ⟨rfl, rfl, rfl, by decide +kernel, rfl, by decide +kernel, by decide +kernel⟩
abbrev s14 : Stmt := topS 25
theorem sc14 : FnScope ["tree", "node", "number", "parent", "facts"] ["tree", "node"] (defScope s14) := ⟨rfl, rfl, rfl, by decide +kernel, rfl, by decide +kernel, by decide +kernel⟩
abbrev s15 : Stmt := topS 26
theorem sc15 : FnScope ["tree", "node", "number"] ["tree", "node"] (defScope s15) := ⟨rfl, rfl, rfl, by decide +kernel, rfl, by decide +kernel, by decide +kernel⟩
abbrev s16 : Stmt := topS 28
theorem sc16 : FnScope ["script", "cell"] ["script"] (defScope s16) := ⟨rfl, rfl, rfl, by decide +kernel, rfl, by decide +kernel, by decide +kernel⟩
abbrev s17 : Stmt := topS 29
theorem sc17 : FnScope ["bag", "many", "begin", "second", "cell", "stirred", "value"] ["bag", "many"] (defScope s17) := ⟨rfl, rfl, rfl, by decide +kernel, rfl, by decide +kernel, by decide +kernel⟩
abbrev s18 : Stmt := topS 30
theorem sc18 : FnScope ["bag", "things"] ["bag", "things"] (defScope s18) := ⟨rfl, rfl, rfl, by decide +kernel, rfl, by decide +kernel, by decide +kernel⟩
abbrev s19 : Stmt := topS 31
theorem sc19 : FnScope ["found", "due"] ["found", "due"] (defScope s19) := ⟨rfl, rfl, rfl, by decide +kernel, rfl, by decide +kernel, by decide +kernel⟩
abbrev s20 : Stmt := topS 32
theorem sc20 : FnScope ["things", "face", "order", "its", "k", "thing"] ["things", "face"] (defScope s20) := ⟨rfl, rfl, rfl, by decide +kernel, rfl, by decide +kernel, by decide +kernel⟩
abbrev s21 : Stmt := topS 33
theorem sc21 : FnScope ["value"] ["value"] (defScope s21) := ⟨rfl, rfl, rfl, by decide +kernel, rfl, by decide +kernel, by decide +kernel⟩
abbrev s22 : Stmt := topS 34
theorem sc22 : FnScope ["fact", "terms", "term"] ["fact"] (defScope s22) := ⟨rfl, rfl, rfl, by decide +kernel, rfl, by decide +kernel, by decide +kernel⟩
abbrev s23 : Stmt := topS 35
theorem sc23 : FnScope ["bag", "names", "most", "found", "k", "link", "terms", "n", "fact"] ["bag", "names", "most"] (defScope s23) := ⟨rfl, rfl, rfl, by decide +kernel, rfl, by decide +kernel, by decide +kernel⟩
abbrev s24 : Stmt := topS 36
theorem sc24 : FnScope ["facts", "found", "link", "terms", "term"] ["facts"] (defScope s24) := ⟨rfl, rfl, rfl, by decide +kernel, rfl, by decide +kernel, by decide +kernel⟩
abbrev s25 : Stmt := topS 37
theorem sc25 : FnScope ["bag", "most", "free", "k", "names", "nodes", "parent", "facts", "name", "own", "old"] ["bag", "most"] (defScope s25) := ⟨rfl, rfl, rfl, by decide +kernel, rfl, by decide +kernel, by decide +kernel⟩
abbrev s26 : Stmt := topS 38
theorem sc26 : FnScope ["bag", "tree", "parent", "old", "facts"] ["bag"] (defScope s26) := ⟨rfl, rfl, rfl, by decide +kernel, rfl, by decide +kernel, by decide +kernel⟩
abbrev s27 : Stmt := topS 39
theorem sc27 : FnScope ["tree", "k", "mine", "name"] ["tree", "k"] (defScope s27) := ⟨rfl, rfl, rfl, by decide +kernel, rfl, by decide +kernel, by decide +kernel⟩
abbrev s28 : Stmt := topS 40
theorem sc28 : FnScope ["tree", "k"] ["tree"] (defScope s28) := ⟨rfl, rfl, rfl, by decide +kernel, rfl, by decide +kernel, by decide +kernel⟩
abbrev s29 : Stmt := topS 41
theorem sc29 : FnScope ["tree", "k", "found"] ["tree", "k"] (defScope s29) := ⟨rfl, rfl, rfl, by decide +kernel, rfl, by decide +kernel, by decide +kernel⟩
abbrev s30 : Stmt := topS 42
theorem sc30 : FnScope ["act"] ["act"] (defScope s30) := ⟨rfl, rfl, rfl, by decide +kernel, rfl, by decide +kernel, by decide +kernel⟩
abbrev s31 : Stmt := topS 43
theorem sc31 : FnScope ["script", "bag", "lap", "tree", "k", "truth", "told", "odd", "heard", "act", "its", "under", "found", "name", "mine", "way", "tops", "n"] ["script"] (defScope s31) := ⟨rfl, rfl, rfl, by decide +kernel, rfl, by decide +kernel, by decide +kernel⟩
def catF_Nothing (x : Str) : Option Bool := if x = "Nothing" then some true else none
/-- _law_heard(act): 0 act -/
def b_law_heard (Γ : Cs) (cl : D) (th : Thk) : WS :=
    sTry (catF_Nothing) (sRet (wTup (aCons (wC (.str "told")) (aCons (wThk 0 cl th) (aNil))))) (sRet (wTup (aCons (wC (.str "nothing")) (aNil))))
def TG (Γ : Cs) : Nat → Thk → D → Sto → QD → QX → Prop
  | 30 => fun th cl S q e => bodyG 1 1 (b_law_heard Γ cl th) [cl] S q e
  | _ => fun _ _ _ _ _ => False
/-- is_number(thing): 0 thing -/
def b_is_number (Γ : Cs) : WS :=
    sRet (wAnd (wFn (fIsiA "int") (aCons (wVar 0) (aCons (wC (.ty "int")) (aNil)))) (wNot (wFn (fIsiA "bool") (aCons (wVar 0) (aCons (wC (.ty "bool")) (aNil))))))
/-- is_index(thing): 0 thing -/
def b_is_index (Γ : Cs) : WS :=
    sRet (wAnd (wCall (Γ 0) (aCons (wVar 0) (aNil))) (wOp (fIB fun i j => decide (j ≤ i)) (wVar 0) (wC (.int 0))))
/-- is_name(thing): 0 thing 1 sign -/
def b_is_name (Γ : Cs) : WS :=
    sSeq (sIf (tOr (tNot (tVal (wFn (fIsiA "str") (aCons (wVar 0) (aCons (wC (.ty "str")) (aNil)))))) (tNot (tVal (wChain (fIB fun i j => decide (i ≤ j)) (fIB fun i j => decide (i ≤ j)) (wC (.int 1)) (wFn (fA1 fLen) (aCons (wVar 0) (aNil))) (wC (.int 8)))))) (sRet (wC (.bl false))) (sNext))
    (sSeq (sIf (tOr (tVal (wOp fNotInA (wOp fIx (wVar 0) (wC (.int 0))) (wC (.str "abcdefghijklmnopqrstuvwxyz")))) (tVal (wOp fInA (wVar 0) (wC (.tup [(.str "and"), (.str "answer"), (.str "data"), (.str "fact"), (.str "if"), (.str "in"), (.str "is"), (.str "maybe"), (.str "no"), (.str "node"), (.str "of"), (.str "question"), (.str "rule"), (.str "some"), (.str "the"), (.str "there"), (.str "var"), (.str "with")]))))) (sRet (wC (.bl false))) (sNext))
    (sRet (wFn fAllA (aCons (wComp (iSigns (wVar 0)) (.nm 1) (tYesD) (wOp fInA (wVar 1) (wOp fAdd (wC (.str "abcdefghijklmnopqrstuvwxyz")) (wC (.str "0123456789")))) [1]) (aNil)))))
/-- is_sized(thing, many): 0 thing 1 many -/
def b_is_sized (Γ : Cs) : WS :=
    sRet (wAnd (wFn (fIsiA "tuple") (aCons (wVar 0) (aCons (wC (.ty "tuple")) (aNil)))) (wOp (fEq true) (wFn (fA1 fLen) (aCons (wVar 0) (aNil))) (wVar 1)))
/-- is_var(thing): 0 thing -/
def b_is_var (Γ : Cs) : WS :=
    sRet (wAnd (wCall (Γ 3) (aCons (wVar 0) (aCons (wC (.int 2)) (aNil)))) (wAnd (wFn (fIsiA "str") (aCons (wOp fIx (wVar 0) (wC (.int 0))) (aCons (wC (.ty "str")) (aNil)))) (wAnd (wOp (fEq true) (wOp fIx (wVar 0) (wC (.int 0))) (wC (.str "var"))) (wCall (Γ 2) (aCons (wOp fIx (wVar 0) (wC (.int 1))) (aNil))))))
/-- variables(facts): 0 facts 1 term 2 link 3 terms -/
def b_variables (Γ : Cs) : WS :=
    sRet (wFn (fA1 fTuple) (aCons (wFn fSorted (aCons (wDC2 (wSeq (wVar 0)) (.tp [(.nm 2), (.nm 3)]) (tYesD) (wSeq (wVar 3)) (.nm 1) (tVal (wCall (Γ 4) (aCons (wVar 1) (aNil)))) (wOp fIx (wVar 1) (wC (.int 1))) (wC (.bl true)) [2, 3, 1]) aNil)) (aNil)))
/-- variables_by_node(tree): 0 tree 1 parent 2 facts -/
def b_variables_by_node (Γ : Cs) : WS :=
    sRet (wComp (wSeq (wVar 0)) (.tp [(.nm 1), (.nm 2)]) (tYesD) (wCall (Γ 5) (aCons (wVar 2) (aNil))) [1, 2])
/-- check_node(tree, node): 0 tree 1 node -/
def b_check_node (Γ : Cs) : WS :=
    sIf (tOr (tNot (tVal (wCall (Γ 1) (aCons (wVar 1) (aNil))))) (tVal (wOp (fIB fun i j => decide (j ≤ i)) (wVar 1) (wFn (fA1 fLen) (aCons (wVar 0) (aNil)))))) (sRaise "Nothing") (sNext)
/-- node_variables(tree, node): 0 tree 1 node -/
def b_node_variables (Γ : Cs) : WS :=
    sSeq (sDrop (wCall (Γ 7) (aCons (wVar 0) (aCons (wVar 1) (aNil)))))
    (sRet (wCall (Γ 5) (aCons (wOp fIx (wOp fIx (wVar 0) (wVar 1)) (wC (.int 1))) (aNil))))
/-- own_variables(tree, node): 0 tree 1 node 2 above 3 told 4 parent 5 name -/
def b_own_variables (Γ : Cs) : WS :=
    sSeq (sPar 3 4 (aCons (wCall (Γ 8) (aCons (wVar 0) (aCons (wVar 1) (aNil)))) (aCons (wOp fIx (wOp fIx (wVar 0) (wVar 1)) (wC (.int 0))) (aNil))))
    (sSeq (sAsg (wIf (tVal (wOp (fIB fun i j => decide (j ≤ i)) (wVar 4) (wC (.int 0)))) (wCall (Γ 5) (aCons (wOp fIx (wOp fIx (wVar 0) (wVar 4)) (wC (.int 1))) (aNil))) (wTup (aNil))) (.nm 2))
    (sRet (wFn (fA1 fTuple) (aCons (wComp (wSeq (wVar 3)) (.nm 5) (tVal (wOp fNotInA (wVar 5) (wVar 2))) (wVar 5) [5]) (aNil)))))
/-- first_node(tree, variable): 0 tree 1 variable 2 found 3 number 4 told -/
def b_first_node (Γ : Cs) : WS :=
    sSeq (sAsg (wComp (iEnu (wCall (Γ 6) (aCons (wVar 0) (aNil)))) (.tp [(.nm 3), (.nm 4)]) (tVal (wOp fInA (wVar 1) (wVar 4))) (wVar 3) [3, 4]) (.nm 2))
    (sSeq (sIf (tVal (wOp (fEq true) (wVar 2) (wLst (aNil)))) (sRaise "Nothing") (sNext))
    (sRet (wOp fIx (wVar 2) (wC (.int 0)))))
/-- is_plain(tree): 0 tree 1 node -/
def b_is_plain (Γ : Cs) : WS :=
    sRet (wFn fAllA (aCons (wComp (iRange2 (wC (.int 1)) (wFn (fA1 fLen) (aCons (wVar 0) (aNil)))) (.nm 1) (tYesD) (wOp (fEq false) (wCall (Γ 9) (aCons (wVar 0) (aCons (wVar 1) (aNil)))) (wTup (aNil))) [1]) (aNil)))
/-- check_plain(tree): 0 tree -/
def b_check_plain (Γ : Cs) : WS :=
    sIf (tNot (tVal (wCall (Γ 11) (aCons (wVar 0) (aNil))))) (sRaise "Nothing") (sNext)
/-- way_to(tree, node): 0 tree 1 node 2 found -/
def b_way_to (Γ : Cs) : WS :=
    sSeq (sDrop (wCall (Γ 7) (aCons (wVar 0) (aCons (wVar 1) (aNil)))))
    (sSeq (sAsg (wLst (aNil)) (.nm 2))
    (sSeq (sWhile (tVal (wOp (fIB fun i j => decide (j ≤ i)) (wVar 1) (wC (.int 0)))) (sSeq (sDrop (wMt isLst fApp (wVar 2) (aCons (wVar 1) (aNil))))
    (sAsg (wOp fIx (wOp fIx (wVar 0) (wVar 1)) (wC (.int 0))) (.nm 1))))
    (sRet (wFn (fA1 fTuple) (aCons (wUn fRev (wVar 2)) (aNil))))))
/-- inner_nodes(tree, node): 0 tree 1 node 2 number 3 parent 4 facts -/
def b_inner_nodes (Γ : Cs) : WS :=
    sSeq (sDrop (wCall (Γ 7) (aCons (wVar 0) (aCons (wVar 1) (aNil)))))
    (sRet (wFn (fA1 fTuple) (aCons (wComp (iEnu (wVar 0)) (.tp [(.nm 2), (.tp [(.nm 3), (.nm 4)])]) (tVal (wOp (fEq true) (wVar 3) (wVar 1))) (wVar 2) [2, 3, 4]) (aNil))))
/-- below(tree, node): 0 tree 1 node 2 number -/
def b_below (Γ : Cs) : WS :=
    sSeq (sDrop (wCall (Γ 7) (aCons (wVar 0) (aCons (wVar 1) (aNil)))))
    (sRet (wFn (fA1 fTuple) (aCons (wComp (iRange1 (wFn (fA1 fLen) (aCons (wVar 0) (aNil)))) (.nm 2) (tVal (wOp fInA (wVar 1) (wCall (Γ 13) (aCons (wVar 0) (aCons (wVar 2) (aNil)))))) (wVar 2) [2]) (aNil))))
/-- _law_bag(script): 0 script 1 cell -/
def b_law_bag (Γ : Cs) : WS :=
    sRet (wLst (aCons (wC (.int 0)) (aCons (wC (.int 1234567891)) (aCons (wC (.int 0)) (aCons (wComp (wSeq (wSl (wVar 0) (oNo) (oAt (wC (.int 63))))) (.nm 1) (tYesD) (wFn (fA1 fAbs) (aCons (wVar 1) (aNil))) [1]) (aNil))))))
/-- _law_take(bag, many): 0 bag 1 many 2 begin 3 second 4 cell 5 stirred 6 value -/
def b_law_take (Γ : Cs) : WS :=
    sSeq (sIf (tVal (wOp (fEq true) (wOp fIx (wVar 0) (wC (.int 0))) (wC (.int 0)))) (sSeq (sAsg (wOp fIx (wOp fAdd (wSl (wOp fIx (wVar 0) (wC (.int 3))) (oAt (wOp fIx (wVar 0) (wC (.int 2)))) (oNo)) (wLst (aCons (wC (.int 0)) (aNil)))) (wC (.int 0))) (.nm 4))
    (sSeq (sAugS fIAdd (wVar 0) (wC (.int 2)) (wC (.int 1)))
    (sSeq (sIf (tVal (wOp (fIB fun i j => decide (j ≤ i)) (wVar 4) (wOp fPow (wC (.int 10)) (wC (.int 18))))) (sPut (wVar 0) (wC (.int 0)) (wVar 4)) (sNext))
    (sSeq (sAsg (wOp fAdd (wOp fAdd (wOp fMul (wOp fIx (wVar 0) (wC (.int 1))) (wC (.int 48271))) (wOp fMod (wFn (fA1 fInt) (aCons (wVar 4) (aNil))) (wC (.int 2147483647)))) (wOp fMul (wC (.int 7919)) (wOp fIx (wVar 0) (wC (.int 2))))) (.nm 5))
    (sPut (wVar 0) (wC (.int 1)) (wOp fMod (wFn (fA1 fInt) (aCons (wVar 5) (aNil))) (wC (.int 2147483647)))))))) (sNext))
    (sSeq (sIf (tVal (wOp (fIB fun i j => decide (j < i)) (wOp fIx (wVar 0) (wC (.int 0))) (wC (.int 0)))) (sSeq (sAsg (wOp fMod (wFn (fA1 fInt) (aCons (wOp fIx (wVar 0) (wC (.int 0))) (aNil))) (wVar 1)) (.nm 6))
    (sSeq (sPut (wVar 0) (wC (.int 0)) (wOp fDiv (wFn (fA1 fInt) (aCons (wOp fIx (wVar 0) (wC (.int 0))) (aNil))) (wVar 1)))
    (sRet (wVar 6)))) (sNext))
    (sSeq (sAsg (wOp fMod (wFn (fA1 fInt) (aCons (wOp fMul (wOp fAdd (wOp fIx (wVar 0) (wC (.int 1))) (wC (.int 1))) (wC (.int 39373))) (aNil))) (wC (.int 1000000007))) (.nm 2))
    (sSeq (sAsg (wOp fMod (wFn (fA1 fInt) (aCons (wOp fMul (wOp fMod (wFn (fA1 fInt) (aCons (wOp fMul (wVar 2) (wVar 2)) (aNil))) (wC (.int 998244353))) (wC (.int 30011))) (aNil))) (wC (.int 998244353))) (.nm 3))
    (sRet (wOp fMod (wFn (fA1 fInt) (aCons (wOp fDiv (wVar 3) (wC (.int 7))) (aNil))) (wVar 1))))))
/-- _law_some(bag, things): 0 bag 1 things -/
def b_law_some (Γ : Cs) : WS :=
    sRet (wOp fIx (wVar 1) (wCall (Γ 17) (aCons (wVar 0) (aCons (wFn (fA1 fLen) (aCons (wVar 1) (aNil))) (aNil)))))
/-- _law_alike(found, due): 0 found 1 due -/
def b_law_alike (Γ : Cs) : WS :=
    sRet (wAnd (wOp (fEq true) (wFn fReprB (aCons (wVar 0) (aNil))) (wFn fReprB (aCons (wVar 1) (aNil)))) (wOp (fEq true) (wVar 0) (wVar 1)))
/-- _law_by(things, face): 0 things 1 face 2 order 3 its 4 k 5 thing -/
def b_law_by (Γ : Cs) : WS :=
    sSeq (sAsg (wFn fSorted (aCons (wComp (iEnu (wVar 0)) (.tp [(.nm 4), (.nm 5)]) (tYesD) (wTup (aCons (wCallV (addG "node_variables" (Γ 8) (addG "own_variables" (Γ 9) (addG "way_to" (Γ 13) (addG "inner_nodes" (Γ 14) (addG "below" (Γ 15) (addG "_law_facts_key" (Γ 22) (fun _ => none))))))) 1 (aCons (wVar 5) (aNil))) (aCons (wVar 4) (aNil)))) [4, 5]) aNil)) (.nm 2))
    (sRet (wComp (wSeq (wVar 2)) (.tp [(.nm 3), (.nm 4)]) (tYesD) (wOp fIx (wVar 0) (wVar 4)) [3, 4]))
/-- _law_value_key(value): 0 value -/
def b_law_value_key (Γ : Cs) : WS :=
    sRet (wIf (tNot (tVal (wFn (fIsiA "str") (aCons (wVar 0) (aCons (wC (.ty "str")) (aNil)))))) (wTup (aCons (wC (.int 0)) (aCons (wVar 0) (aCons (wC (.str "")) (aNil))))) (wTup (aCons (wC (.int 1)) (aCons (wC (.int 0)) (aCons (wVar 0) (aNil))))))
/-- _law_facts_key(fact): 0 fact 1 terms 2 term -/
def b_law_facts_key (Γ : Cs) : WS :=
    sSeq (sAsg (wComp (wSeq (wOp fIx (wVar 0) (wC (.int 1)))) (.nm 2) (tYesD) (wIf (tVal (wFn (fIsiA "tuple") (aCons (wVar 2) (aCons (wC (.ty "tuple")) (aNil))))) (wTup (aCons (wC (.int 2)) (aCons (wC (.int 0)) (aCons (wOp fIx (wVar 2) (wC (.int 1))) (aNil))))) (wCall (Γ 21) (aCons (wVar 2) (aNil)))) [2]) (.nm 1))
    (sRet (wTup (aCons (wOp fIx (wVar 0) (wC (.int 0))) (aCons (wFn (fA1 fTuple) (aCons (wVar 1) (aNil))) (aNil)))))
/-- _law_facts(bag, names, most): 0 bag 1 names 2 most 3 found 4 k 5 link 6 terms 7 n 8 fact -/
def b_law_facts (Γ : Cs) : WS :=
    sSeq (sAsg (wLst (aNil)) (.nm 3))
    (sSeq (sFor (iRange1 (wOp fAdd (wC (.int 1)) (wCall (Γ 17) (aCons (wVar 0) (aCons (wVar 2) (aNil)))))) (.nm 4) (sSeq (sAsg (wCall (Γ 18) (aCons (wVar 0) (aCons (wLst (aCons (wC (.str "p")) (aCons (wC (.str "p")) (aCons (wC (.str "q")) (aCons (wC (.str "r")) (aNil)))))) (aNil)))) (.nm 5))
    (sSeq (sAsg (wLst (aNil)) (.nm 6))
    (sSeq (sFor (iRange1 (wIf (tVal (wOp (fEq true) (wVar 5) (wC (.str "p")))) (wC (.int 2)) (wC (.int 1)))) (.nm 7) (sDrop (wMt isLst fApp (wVar 6) (aCons (wIf (tVal (wOp (fIB fun i j => decide (j < i)) (wCall (Γ 17) (aCons (wVar 0) (aCons (wC (.int 6)) (aNil)))) (wC (.int 0)))) (wTup (aCons (wC (.str "var")) (aCons (wCall (Γ 18) (aCons (wVar 0) (aCons (wVar 1) (aNil)))) (aNil)))) (wCall (Γ 18) (aCons (wVar 0) (aCons (wLst (aCons (wC (.str "u")) (aCons (wC (.int 0)) (aCons (wC (.int 1)) (aNil))))) (aNil))))) (aNil)))))
    (sDrop (wMt isLst fApp (wVar 3) (aCons (wTup (aCons (wVar 5) (aCons (wFn (fA1 fTuple) (aCons (wVar 6) (aNil))) (aNil)))) (aNil))))))))
    (sRet (wFn (fA1 fTuple) (aCons (wCall (Γ 20) (aCons (wComp (iEnu (wVar 3)) (.tp [(.nm 4), (.nm 8)]) (tVal (wOp fNotInA (wVar 8) (wSl (wVar 3) (oNo) (oAt (wVar 4))))) (wVar 8) [4, 8]) (aCons (wC (.glo "_law_facts_key")) (aNil)))) (aNil)))))
/-- _law_variables(facts): 0 facts 1 found 2 link 3 terms 4 term -/
def b_law_variables (Γ : Cs) : WS :=
    sSeq (sAsg (wLst (aNil)) (.nm 1))
    (sSeq (sFor (wSeq (wVar 0)) (.tp [(.nm 2), (.nm 3)]) (sDrop (wMt isLst fExt (wVar 1) (aCons (wComp (wSeq (wVar 3)) (.nm 4) (tVal (wFn (fIsiA "tuple") (aCons (wVar 4) (aCons (wC (.ty "tuple")) (aNil))))) (wOp fIx (wVar 4) (wC (.int 1))) [4]) (aNil)))))
    (sRet (wFn fSortS (aCons (wFn fSet (aCons (wVar 1) (aNil))) aNil))))
/-- _law_tree(bag, most): 0 bag 1 most 2 free 3 k 4 names 5 nodes 6 parent 7 facts 8 name 9 own 10 old -/
def b_law_tree (Γ : Cs) : WS :=
    sSeq (sAsg (wTup (aCons (wLst (aCons (wC (.str "x")) (aCons (wC (.str "y")) (aCons (wC (.str "z")) (aCons (wC (.str "w")) (aCons (wC (.str "t")) (aCons (wC (.str "s")) (aNil)))))))) (aCons (wLst (aNil)) (aNil)))) (.tp [(.nm 4), (.nm 5)]))
    (sSeq (sDrop (wMt isLst fApp (wVar 5) (aCons (wTup (aCons (wUn fNeg (wC (.int 1))) (aCons (wCall (Γ 23) (aCons (wVar 0) (aCons (wSl (wVar 4) (oNo) (oAt (wOp fAdd (wC (.int 1)) (wCall (Γ 17) (aCons (wVar 0) (aCons (wC (.int 2)) (aNil))))))) (aCons (wC (.int 1)) (aNil))))) (aNil)))) (aNil))))
    (sSeq (sAsg (wComp (wSeq (wVar 4)) (.nm 8) (tVal (wOp fNotInA (wVar 8) (wCall (Γ 24) (aCons (wOp fIx (wOp fIx (wVar 5) (wC (.int 0))) (wC (.int 1))) (aNil))))) (wVar 8) [8]) (.nm 2))
    (sSeq (sFor (iRange1 (wCall (Γ 17) (aCons (wVar 0) (aCons (wVar 1) (aNil))))) (.nm 3) (sSeq (sAsg (wCall (Γ 17) (aCons (wVar 0) (aCons (wFn (fA1 fLen) (aCons (wVar 5) (aNil))) (aNil)))) (.nm 6))
    (sSeq (sPar 9 10 (aCons (wOp fIx (wVar 2) (wC (.int 0))) (aCons (wCall (Γ 24) (aCons (wOp fIx (wOp fIx (wVar 5) (wVar 6)) (wC (.int 1))) (aNil))) (aNil))))
    (sSeq (sAsg (wSl (wVar 2) (oAt (wC (.int 1))) (oNo)) (.nm 2))
    (sSeq (sAsg (wCall (Γ 23) (aCons (wVar 0) (aCons (wOp fAdd (wLst (aCons (wVar 9) (aNil))) (wIf (tVal (wOp (fEq false) (wVar 10) (wLst (aNil)))) (wSl (wVar 10) (oNo) (oAt (wC (.int 1)))) (wLst (aCons (wVar 9) (aNil))))) (aCons (wC (.int 1)) (aNil))))) (.nm 7))
    (sSeq (sIf (tVal (wOp fNotInA (wVar 9) (wCall (Γ 24) (aCons (wVar 7) (aNil))))) (sAsg (wFn (fA1 fTuple) (aCons (wCall (Γ 20) (aCons (wOp fAdd (wVar 7) (wTup (aCons (wTup (aCons (wC (.str "q")) (aCons (wTup (aCons (wTup (aCons (wC (.str "var")) (aCons (wVar 9) (aNil)))) (aNil))) (aNil)))) (aNil)))) (aCons (wC (.glo "_law_facts_key")) (aNil)))) (aNil))) (.nm 7)) (sNext))
    (sDrop (wMt isLst fApp (wVar 5) (aCons (wTup (aCons (wVar 6) (aCons (wVar 7) (aNil)))) (aNil))))))))))
    (sRet (wFn (fA1 fTuple) (aCons (wVar 5) (aNil)))))))
/-- _law_any_tree(bag): 0 bag 1 tree 2 parent 3 old 4 facts -/
def b_law_any_tree (Γ : Cs) : WS :=
    sSeq (sAsg (wFn (fA1 fList) (aCons (wCall (Γ 25) (aCons (wVar 0) (aCons (wC (.int 3)) (aNil)))) (aNil))) (.nm 1))
    (sSeq (sIf (tVal (wOp (fEq true) (wCall (Γ 17) (aCons (wVar 0) (aCons (wC (.int 2)) (aNil)))) (wC (.int 0)))) (sSeq (sAsg (wCall (Γ 17) (aCons (wVar 0) (aCons (wFn (fA1 fLen) (aCons (wVar 1) (aNil))) (aNil)))) (.nm 2))
    (sSeq (sAsg (wCall (Γ 24) (aCons (wOp fIx (wOp fIx (wVar 1) (wVar 2)) (wC (.int 1))) (aNil))) (.nm 3))
    (sSeq (sAsg (wIf (tVal (wOp (fIB fun i j => decide (j < i)) (wCall (Γ 17) (aCons (wVar 0) (aCons (wC (.int 4)) (aNil)))) (wC (.int 0)))) (wCall (Γ 23) (aCons (wVar 0) (aCons (wIf (tVal (wOp (fEq false) (wVar 3) (wLst (aNil)))) (wVar 3) (wLst (aCons (wC (.str "q1")) (aNil)))) (aCons (wC (.int 2)) (aNil))))) (wTup (aNil))) (.nm 4))
    (sSeq (sDrop (wMt isLst fApp (wVar 1) (aCons (wTup (aCons (wVar 2) (aCons (wVar 4) (aNil)))) (aNil))))
    (sIf (tVal (wOp (fEq true) (wCall (Γ 17) (aCons (wVar 0) (aCons (wC (.int 2)) (aNil)))) (wC (.int 0)))) (sDrop (wMt isLst fApp (wVar 1) (aCons (wTup (aCons (wOp fSub (wFn (fA1 fLen) (aCons (wVar 1) (aNil))) (wC (.int 1))) (aCons (wTup (aCons (wTup (aCons (wC (.str "r")) (aCons (wTup (aCons (wTup (aCons (wC (.str "var")) (aCons (wC (.str "k")) (aNil)))) (aNil))) (aNil)))) (aNil))) (aNil)))) (aNil)))) (sNext)))))) (sNext))
    (sRet (wFn (fA1 fTuple) (aCons (wVar 1) (aNil)))))
/-- _law_own(tree, k): 0 tree 1 k 2 mine 3 name -/
def b_law_own (Γ : Cs) : WS :=
    sSeq (sAsg (wCall (Γ 24) (aCons (wOp fIx (wOp fIx (wVar 0) (wVar 1)) (wC (.int 1))) (aNil))) (.nm 2))
    (sRet (wIf (tVal (wOp (fEq true) (wVar 1) (wC (.int 0)))) (wVar 2) (wComp (wSeq (wVar 2)) (.nm 3) (tVal (wOp fNotInA (wVar 3) (wCall (Γ 24) (aCons (wOp fIx (wOp fIx (wVar 0) (wOp fIx (wOp fIx (wVar 0) (wVar 1)) (wC (.int 0)))) (wC (.int 1))) (aNil))))) (wVar 3) [3])))
/-- _law_is_plain(tree): 0 tree 1 k -/
def b_law_is_plain (Γ : Cs) : WS :=
    sRet (wOp (fEq true) (wComp (iRange2 (wC (.int 1)) (wFn (fA1 fLen) (aCons (wVar 0) (aNil)))) (.nm 1) (tVal (wOp (fEq true) (wCall (Γ 27) (aCons (wVar 0) (aCons (wVar 1) (aNil)))) (wLst (aNil)))) (wVar 1) [1]) (wLst (aNil)))
/-- _law_way(tree, k): 0 tree 1 k 2 found -/
def b_law_way (Γ : Cs) : WS :=
    sSeq (sAsg (wLst (aCons (wVar 1) (aNil))) (.nm 2))
    (sSeq (sWhile (tVal (wOp (fEq false) (wOp fIx (wVar 2) (wC (.int 0))) (wC (.int 0)))) (sDrop (wMt isLst fIns (wVar 2) (aCons (wC (.int 0)) (aCons (wOp fIx (wOp fIx (wVar 0) (wOp fIx (wVar 2) (wC (.int 0)))) (wC (.int 0))) (aNil))))))
    (sRet (wFn (fA1 fTuple) (aCons (wVar 2) (aNil)))))
/-- law(script): 0 script 1 bag 2 lap 3 tree 4 k 5 truth 6 told 7 odd 8 heard 9 act 10 its 11 under 12 found 13 name 14 mine 15 way 16 tops 17 n -/
def b_law (Γ : Cs) (tb : List MO) : WS :=
    sSeq (sAsg (wCall (Γ 16) (aCons (wVar 0) (aNil))) (.nm 1))
    (sSeq (sFor (iRange1 (wC (.int 6))) (.nm 2) (sSeq (sAsg (wCall (Γ 26) (aCons (wVar 1) (aNil))) (.nm 3))
    (sSeq (sFor (iRange1 (wFn (fA1 fLen) (aCons (wVar 3) (aNil)))) (.nm 4) (sSeq (sPar 14 15 (aCons (wCall (Γ 24) (aCons (wOp fIx (wOp fIx (wVar 3) (wVar 4)) (wC (.int 1))) (aNil))) (aCons (wCall (Γ 29) (aCons (wVar 3) (aCons (wVar 4) (aNil)))) (aNil))))
    (sSeq (sAsg (wFn (fA1 fTuple) (aCons (wComp (iRange1 (wFn (fA1 fLen) (aCons (wVar 3) (aNil)))) (.nm 17) (tAnd (tVal (wOp (fIB fun i j => decide (j < i)) (wVar 17) (wC (.int 0)))) (tVal (wOp (fEq true) (wOp fIx (wOp fIx (wVar 3) (wVar 17)) (wC (.int 0))) (wVar 4)))) (wVar 17) [17]) (aNil))) (.nm 10))
    (sSeq (sAsg (wFn (fA1 fTuple) (aCons (wComp (iRange1 (wFn (fA1 fLen) (aCons (wVar 3) (aNil)))) (.nm 17) (tVal (wOp fInA (wVar 4) (wCall (Γ 29) (aCons (wVar 3) (aCons (wVar 17) (aNil)))))) (wVar 17) [17]) (aNil))) (.nm 11))
    (sSeq (sAsg (wLst (aCons (wCall (Γ 8) (aCons (wVar 3) (aCons (wVar 4) (aNil)))) (aCons (wCall (Γ 9) (aCons (wVar 3) (aCons (wVar 4) (aNil)))) (aCons (wCall (Γ 13) (aCons (wVar 3) (aCons (wVar 4) (aNil)))) (aCons (wCall (Γ 14) (aCons (wVar 3) (aCons (wVar 4) (aNil)))) (aCons (wCall (Γ 15) (aCons (wVar 3) (aCons (wVar 4) (aNil)))) (aNil))))))) (.nm 12))
    (sSeq (sIf (tNot (tVal (wCall (Γ 19) (aCons (wVar 12) (aCons (wLst (aCons (wFn (fA1 fTuple) (aCons (wVar 14) (aNil))) (aCons (wFn (fA1 fTuple) (aCons (wCall (Γ 27) (aCons (wVar 3) (aCons (wVar 4) (aNil)))) (aNil))) (aCons (wVar 15) (aCons (wVar 10) (aCons (wVar 11) (aNil))))))) (aNil)))))) (sRet (wC (.bl false))) (sNext))
    (sFor (wSeq (wVar 14)) (.nm 13) (sSeq (sAsg (wFn fSorted (aCons (wComp (iRange1 (wFn (fA1 fLen) (aCons (wVar 3) (aNil)))) (.nm 17) (tVal (wOp fInA (wVar 13) (wCall (Γ 24) (aCons (wOp fIx (wOp fIx (wVar 3) (wVar 17)) (wC (.int 1))) (aNil))))) (wTup (aCons (wFn (fA1 fLen) (aCons (wCall (Γ 29) (aCons (wVar 3) (aCons (wVar 17) (aNil)))) (aNil))) (aCons (wVar 17) (aNil)))) [17]) aNil)) (.nm 16))
    (sIf (tNot (tVal (wCall (Γ 19) (aCons (wCall (Γ 10) (aCons (wVar 3) (aCons (wVar 13) (aNil)))) (aCons (wOp fIx (wOp fIx (wVar 16) (wC (.int 0))) (wC (.int 1))) (aNil)))))) (sRet (wC (.bl false))) (sNext))))))))))
    (sSeq (sAsg (wCall (Γ 28) (aCons (wVar 3) (aNil))) (.nm 5))
    (sSeq (sAsg (wThunk 0 (tb.getD 0 .off) (TG Γ 30) (wCall (Γ 12) (aCons (wVar 3) (aNil)))) (.nm 6))
    (sSeq (sIf (tOr (tNot (tVal (wCall (Γ 19) (aCons (wCall (Γ 11) (aCons (wVar 3) (aNil))) (aCons (wVar 5) (aNil)))))) (tVal (wOp (fEq false) (wOp (fEq true) (wVar 6) (wTup (aCons (wC (.str "nothing")) (aNil)))) (wNot (wVar 5))))) (sRet (wC (.bl false))) (sNext))
    (sSeq (sAsg (wCall (Γ 18) (aCons (wVar 1) (aCons (wLst (aCons (wUn fNeg (wC (.int 1))) (aCons (wFn (fA1 fLen) (aCons (wVar 3) (aNil))) (aCons (wC (.bl true)) (aCons (wC .non) (aCons (wC (.str "0")) (aNil))))))) (aNil)))) (.nm 7))
    (sSeq (sAsg (wLst (aNil)) (.nm 8))
    (sSeq (sFor (wSeq (wTup (aCons (wC (.glo "node_variables")) (aCons (wC (.glo "own_variables")) (aCons (wC (.glo "way_to")) (aCons (wC (.glo "inner_nodes")) (aCons (wC (.glo "below")) (aNil)))))))) (.nm 9) (sDrop (wMt isLst fApp (wVar 8) (aCons (wThunk 0 (tb.getD 0 .off) (TG Γ 30) (wCallV (addG "node_variables" (Γ 8) (addG "own_variables" (Γ 9) (addG "way_to" (Γ 13) (addG "inner_nodes" (Γ 14) (addG "below" (Γ 15) (addG "_law_facts_key" (Γ 22) (fun _ => none))))))) 9 (aCons (wVar 3) (aCons (wVar 7) (aNil))))) (aNil)))))
    (sSeq (sDrop (wMt isLst fApp (wVar 8) (aCons (wThunk 0 (tb.getD 0 .off) (TG Γ 30) (wCall (Γ 10) (aCons (wVar 3) (aCons (wCall (Γ 18) (aCons (wVar 1) (aCons (wLst (aCons (wC (.str "zz")) (aCons (wC .non) (aCons (wC (.int 0)) (aCons (wC (.str "A")) (aNil)))))) (aNil)))) (aNil))))) (aNil))))
    (sIf (tVal (wOp (fEq false) (wVar 8) (wOp fRepL (wLst (aCons (wTup (aCons (wC (.str "nothing")) (aNil))) (aNil))) (wC (.int 6))))) (sRet (wC (.bl false))) (sNext))))))))))))
    (sRet (wC (.bl true))))
def psOf : Nat → List Str
  | 0 => ["thing"]
  | 1 => ["thing"]
  | 2 => ["thing"]
  | 3 => ["thing", "many"]
  | 4 => ["thing"]
  | 5 => ["facts"]
  | 6 => ["tree"]
  | 7 => ["tree", "node"]
  | 8 => ["tree", "node"]
  | 9 => ["tree", "node"]
  | 10 => ["tree", "variable"]
  | 11 => ["tree"]
  | 12 => ["tree"]
  | 13 => ["tree", "node"]
  | 14 => ["tree", "node"]
  | 15 => ["tree", "node"]
  | 16 => ["script"]
  | 17 => ["bag", "many"]
  | 18 => ["bag", "things"]
  | 19 => ["found", "due"]
  | 20 => ["things", "face"]
  | 21 => ["value"]
  | 22 => ["fact"]
  | 23 => ["bag", "names", "most"]
  | 24 => ["facts"]
  | 25 => ["bag", "most"]
  | 26 => ["bag"]
  | 27 => ["tree", "k"]
  | 28 => ["tree"]
  | 29 => ["tree", "k"]
  | 30 => ["act"]
  | 31 => ["script"]
  | _ => []
def Gm (tb : List MO) : Nat → Cs
  | 0, _ => fun _ _ _ _ => False
  | k + 1, 0 => bodyG 1 1 (b_is_number (Gm tb k))
  | k + 1, 1 => bodyG 1 1 (b_is_index (Gm tb k))
  | k + 1, 2 => bodyG 2 1 (b_is_name (Gm tb k))
  | k + 1, 3 => bodyG 2 2 (b_is_sized (Gm tb k))
  | k + 1, 4 => bodyG 1 1 (b_is_var (Gm tb k))
  | k + 1, 5 => bodyG 4 1 (b_variables (Gm tb k))
  | k + 1, 6 => bodyG 3 1 (b_variables_by_node (Gm tb k))
  | k + 1, 7 => bodyG 2 2 (b_check_node (Gm tb k))
  | k + 1, 8 => bodyG 2 2 (b_node_variables (Gm tb k))
  | k + 1, 9 => bodyG 6 2 (b_own_variables (Gm tb k))
  | k + 1, 10 => bodyG 5 2 (b_first_node (Gm tb k))
  | k + 1, 11 => bodyG 2 1 (b_is_plain (Gm tb k))
  | k + 1, 12 => bodyG 1 1 (b_check_plain (Gm tb k))
  | k + 1, 13 => bodyG 3 2 (b_way_to (Gm tb k))
  | k + 1, 14 => bodyG 5 2 (b_inner_nodes (Gm tb k))
  | k + 1, 15 => bodyG 3 2 (b_below (Gm tb k))
  | k + 1, 16 => bodyG 2 1 (b_law_bag (Gm tb k))
  | k + 1, 17 => bodyG 7 2 (b_law_take (Gm tb k))
  | k + 1, 18 => bodyG 2 2 (b_law_some (Gm tb k))
  | k + 1, 19 => bodyG 2 2 (b_law_alike (Gm tb k))
  | k + 1, 20 => bodyG 6 2 (b_law_by (Gm tb k))
  | k + 1, 21 => bodyG 1 1 (b_law_value_key (Gm tb k))
  | k + 1, 22 => bodyG 3 1 (b_law_facts_key (Gm tb k))
  | k + 1, 23 => bodyG 9 3 (b_law_facts (Gm tb k))
  | k + 1, 24 => bodyG 5 1 (b_law_variables (Gm tb k))
  | k + 1, 25 => bodyG 11 2 (b_law_tree (Gm tb k))
  | k + 1, 26 => bodyG 5 1 (b_law_any_tree (Gm tb k))
  | k + 1, 27 => bodyG 4 2 (b_law_own (Gm tb k))
  | k + 1, 28 => bodyG 2 1 (b_law_is_plain (Gm tb k))
  | k + 1, 29 => bodyG 3 2 (b_law_way (Gm tb k))
  | k + 1, 31 => bodyG 18 1 (b_law (Gm tb k) tb)
  | _ + 1, _ => fun _ _ _ _ => False
structure Fx (g : G) (fa : Nat → Addr) (fd : Nat → FuncData) (cc : Nat → Addr) : Prop where
  F0 : Fun g.K "is_number" "is_number" s0 (fa 0) (fd 0)
  m0 : g.mg "is_number" = some (.ref (fa 0))
  b0 : Binds g.K (fd 0) ["thing"] []
  F1 : Fun g.K "is_index" "is_index" s1 (fa 1) (fd 1)
  m1 : g.mg "is_index" = some (.ref (fa 1))
  b1 : Binds g.K (fd 1) ["thing"] []
  F2 : Fun g.K "is_name" "is_name" s2 (fa 2) (fd 2)
  m2 : g.mg "is_name" = some (.ref (fa 2))
  b2 : Binds g.K (fd 2) ["thing"] []
  F3 : Fun g.K "is_sized" "is_sized" s3 (fa 3) (fd 3)
  m3 : g.mg "is_sized" = some (.ref (fa 3))
  b3 : Binds g.K (fd 3) ["thing", "many"] []
  F4 : Fun g.K "is_var" "is_var" s4 (fa 4) (fd 4)
  m4 : g.mg "is_var" = some (.ref (fa 4))
  b4 : Binds g.K (fd 4) ["thing"] []
  F5 : Fun g.K "variables" "variables" s5 (fa 5) (fd 5)
  m5 : g.mg "variables" = some (.ref (fa 5))
  b5 : Binds g.K (fd 5) ["facts"] []
  F6 : Fun g.K "variables_by_node" "variables_by_node" s6 (fa 6) (fd 6)
  m6 : g.mg "variables_by_node" = some (.ref (fa 6))
  b6 : Binds g.K (fd 6) ["tree"] []
  F7 : Fun g.K "check_node" "check_node" s7 (fa 7) (fd 7)
  m7 : g.mg "check_node" = some (.ref (fa 7))
  b7 : Binds g.K (fd 7) ["tree", "node"] []
  F8 : Fun g.K "node_variables" "node_variables" s8 (fa 8) (fd 8)
  m8 : g.mg "node_variables" = some (.ref (fa 8))
  b8 : Binds g.K (fd 8) ["tree", "node"] []
  F9 : Fun g.K "own_variables" "own_variables" s9 (fa 9) (fd 9)
  m9 : g.mg "own_variables" = some (.ref (fa 9))
  b9 : Binds g.K (fd 9) ["tree", "node"] []
  F10 : Fun g.K "first_node" "first_node" s10 (fa 10) (fd 10)
  m10 : g.mg "first_node" = some (.ref (fa 10))
  b10 : Binds g.K (fd 10) ["tree", "variable"] []
  F11 : Fun g.K "is_plain" "is_plain" s11 (fa 11) (fd 11)
  m11 : g.mg "is_plain" = some (.ref (fa 11))
  b11 : Binds g.K (fd 11) ["tree"] []
  F12 : Fun g.K "check_plain" "check_plain" s12 (fa 12) (fd 12)
  m12 : g.mg "check_plain" = some (.ref (fa 12))
  b12 : Binds g.K (fd 12) ["tree"] []
  F13 : Fun g.K "way_to" "way_to" s13 (fa 13) (fd 13)
  m13 : g.mg "way_to" = some (.ref (fa 13))
  b13 : Binds g.K (fd 13) ["tree", "node"] []
  F14 : Fun g.K "inner_nodes" "inner_nodes" s14 (fa 14) (fd 14)
  m14 : g.mg "inner_nodes" = some (.ref (fa 14))
  b14 : Binds g.K (fd 14) ["tree", "node"] []
  F15 : Fun g.K "below" "below" s15 (fa 15) (fd 15)
  m15 : g.mg "below" = some (.ref (fa 15))
  b15 : Binds g.K (fd 15) ["tree", "node"] []
  F16 : Fun g.K "_law_bag" "_law_bag" s16 (fa 16) (fd 16)
  m16 : g.mg "_law_bag" = some (.ref (fa 16))
  b16 : Binds g.K (fd 16) ["script"] []
  F17 : Fun g.K "_law_take" "_law_take" s17 (fa 17) (fd 17)
  m17 : g.mg "_law_take" = some (.ref (fa 17))
  b17 : Binds g.K (fd 17) ["bag", "many"] []
  F18 : Fun g.K "_law_some" "_law_some" s18 (fa 18) (fd 18)
  m18 : g.mg "_law_some" = some (.ref (fa 18))
  b18 : Binds g.K (fd 18) ["bag", "things"] []
  F19 : Fun g.K "_law_alike" "_law_alike" s19 (fa 19) (fd 19)
  m19 : g.mg "_law_alike" = some (.ref (fa 19))
  b19 : Binds g.K (fd 19) ["found", "due"] []
  F20 : Fun g.K "_law_by" "_law_by" s20 (fa 20) (fd 20)
  m20 : g.mg "_law_by" = some (.ref (fa 20))
  b20 : Binds g.K (fd 20) ["things", "face"] []
  F21 : Fun g.K "_law_value_key" "_law_value_key" s21 (fa 21) (fd 21)
  m21 : g.mg "_law_value_key" = some (.ref (fa 21))
  b21 : Binds g.K (fd 21) ["value"] []
  F22 : Fun g.K "_law_facts_key" "_law_facts_key" s22 (fa 22) (fd 22)
  m22 : g.mg "_law_facts_key" = some (.ref (fa 22))
  b22 : Binds g.K (fd 22) ["fact"] []
  F23 : Fun g.K "_law_facts" "_law_facts" s23 (fa 23) (fd 23)
  m23 : g.mg "_law_facts" = some (.ref (fa 23))
  b23 : Binds g.K (fd 23) ["bag", "names", "most"] []
  F24 : Fun g.K "_law_variables" "_law_variables" s24 (fa 24) (fd 24)
  m24 : g.mg "_law_variables" = some (.ref (fa 24))
  b24 : Binds g.K (fd 24) ["facts"] []
  F25 : Fun g.K "_law_tree" "_law_tree" s25 (fa 25) (fd 25)
  m25 : g.mg "_law_tree" = some (.ref (fa 25))
  b25 : Binds g.K (fd 25) ["bag", "most"] []
  F26 : Fun g.K "_law_any_tree" "_law_any_tree" s26 (fa 26) (fd 26)
  m26 : g.mg "_law_any_tree" = some (.ref (fa 26))
  b26 : Binds g.K (fd 26) ["bag"] []
  F27 : Fun g.K "_law_own" "_law_own" s27 (fa 27) (fd 27)
  m27 : g.mg "_law_own" = some (.ref (fa 27))
  b27 : Binds g.K (fd 27) ["tree", "k"] []
  F28 : Fun g.K "_law_is_plain" "_law_is_plain" s28 (fa 28) (fd 28)
  m28 : g.mg "_law_is_plain" = some (.ref (fa 28))
  b28 : Binds g.K (fd 28) ["tree"] []
  F29 : Fun g.K "_law_way" "_law_way" s29 (fa 29) (fd 29)
  m29 : g.mg "_law_way" = some (.ref (fa 29))
  b29 : Binds g.K (fd 29) ["tree", "k"] []
  F30 : Fun g.K "_law_heard" "_law_heard" s30 (fa 30) (fd 30)
  m30 : g.mg "_law_heard" = some (.ref (fa 30))
  b30 : Binds g.K (fd 30) ["act"] []
  F31 : Fun g.K "law" "law" s31 (fa 31) (fd 31)
  m31 : g.mg "law" = some (.ref (fa 31))
  b31 : Binds g.K (fd 31) ["script"] []
  k0 : (fd 31).code = .ref (cc 0)
  z_abs : g.mg "abs" = none
  z_all : g.mg "all" = none
  z_bool : g.mg "bool" = none
  z_enumerate : g.mg "enumerate" = none
  z_int : g.mg "int" = none
  z_isinstance : g.mg "isinstance" = none
  z_len : g.mg "len" = none
  z_list : g.mg "list" = none
  z_range : g.mg "range" = none
  z_repr : g.mg "repr" = none
  z_set : g.mg "set" = none
  z_sorted : g.mg "sorted" = none
  z_str : g.mg "str" = none
  z_tuple : g.mg "tuple" = none
  x_Nothing : ExcC g "Nothing"
  cat_Nothing : ∀ x b, catF_Nothing x = some b → Cat g x "Nothing" b
  v_DIGITS : ∃ u v, CstG g "DIGITS" (.str "0123456789") u v
  v_LETTERS : ∃ u v, CstG g "LETTERS" (.str "abcdefghijklmnopqrstuvwxyz") u v
  v_MOST_LETTERS : ∃ u v, CstG g "MOST_LETTERS" (.int 8) u v
  v_RESERVED : ∃ u v, CstG g "RESERVED" (.tup [(.str "and"), (.str "answer"), (.str "data"), (.str "fact"), (.str "if"), (.str "in"), (.str "is"), (.str "maybe"), (.str "no"), (.str "node"), (.str "of"), (.str "question"), (.str "rule"), (.str "some"), (.str "the"), (.str "there"), (.str "var"), (.str "with")]) u v
variable {g : G} {base : Heap} {k : Nat} {fa cc pp : Nat → Addr} {fd : Nat → FuncData} {Γ : Cs} {tb : List MO}
end Zz
set_option Elab.async false
set_option linter.all false
set_option maxRecDepth 100000
set_option maxHeartbeats 0
namespace Zz
open PySem PySem.Spec PyProof.Rows L2
variable {g : G} {base : Heap} {k : Nat} {fa cc pp : Nat → Addr} {fd : Nat → FuncData} {Γ : Cs} {tb : List MO}
theorem d0 (T : Fx g fa fd cc) (G : ∀ i, FnG g base k (fa i) (fd i) (psOf i) (Γ i)) : FnG g base (k + 4) (fa 0) (fd 0) (psOf 0) (bodyG 1 1 (b_is_number Γ)) :=
  FnG.mono (fun_G (k := k) (N := ["thing"]) (ps := ["thing"]) T.F0 sc0 fun cdv A outer s H E hr hgd hr2 =>
    (ss_one (s_ret (e_and (e_callB (f := fIsiA "int") call_isi ok_isi (by rfl) T.z_isinstance boot_isinstance (a_cons (ev 0) (a_cons (e_bltn (v := .ty "int") (by rfl) T.z_int (boot_ty_int) rfl (fun _ _ => .ty "int")) a_nil))) (e_one (e_not (e_callB (f := fIsiA "bool") call_isi ok_isi (by rfl) T.z_isinstance boot_isinstance (a_cons (ev 0) (a_cons (e_bltn (v := .ty "bool") (by rfl) T.z_bool (boot_ty_bool) rfl (fun _ _ => .ty "bool")) a_nil))))))))) (by omega)
theorem d4 (T : Fx g fa fd cc) (G : ∀ i, FnG g base k (fa i) (fd i) (psOf i) (Γ i)) : FnG g base (k + 4) (fa 4) (fd 4) (psOf 4) (bodyG 1 1 (b_is_var Γ)) :=
  FnG.mono (fun_G (k := k) (N := ["thing"]) (ps := ["thing"]) T.F4 sc4 fun cdv A outer s H E hr hgd hr2 =>
    (ss_one (s_ret (e_and (e_call (G 3) hr hgd (by rfl) T.m3 T.F3.kp T.b3 tk_fn (a_cons (ev 0) (a_cons e_int a_nil))) (e_and (e_callB (f := fIsiA "str") call_isi ok_isi (by rfl) T.z_isinstance boot_isinstance (a_cons (e_ix (ev 0) e_int) (a_cons (e_bltn (v := .ty "str") (by rfl) T.z_str (boot_ty_str) rfl (fun _ _ => .ty "str")) a_nil))) (e_and (e_cmp (f := (fEq true)) (op_eqD hr.units) ok_eq (e_ix (ev 0) e_int) e_str) (e_one (e_call (G 2) hr hgd (by rfl) T.m2 T.F2.kp T.b2 tk_fn (a_cons (e_ix (ev 0) e_int) a_nil))))))))) (by omega)
theorem d8 (T : Fx g fa fd cc) (G : ∀ i, FnG g base k (fa i) (fd i) (psOf i) (Γ i)) : FnG g base (k + 4) (fa 8) (fd 8) (psOf 8) (bodyG 2 2 (b_node_variables Γ)) :=
  FnG.mono (fun_G (k := k) (N := ["tree", "node"]) (ps := ["tree", "node"]) T.F8 sc8 fun cdv A outer s H E hr hgd hr2 =>
    (ss_cons (s_expr (e_call (G 7) hr hgd (by rfl) T.m7 T.F7.kp T.b7 tk_fn (a_cons (ev 0) (a_cons (ev 1) a_nil))))
    (ss_one (s_ret (e_call (G 5) hr hgd (by rfl) T.m5 T.F5.kp T.b5 tk_fn (a_cons (e_ix (e_ix (ev 0) (ev 1)) e_int) a_nil)))))) (by omega)
theorem d12 (T : Fx g fa fd cc) (G : ∀ i, FnG g base k (fa i) (fd i) (psOf i) (Γ i)) : FnG g base (k + 4) (fa 12) (fd 12) (psOf 12) (bodyG 1 1 (b_check_plain Γ)) :=
  FnG.mono (fun_G (k := k) (N := ["tree"]) (ps := ["tree"]) T.F12 sc12 fun cdv A outer s H E hr hgd hr2 =>
    (ss_one (s_if (t_not (t_val (e_call (G 11) hr hgd (by rfl) T.m11 T.F11.kp T.b11 tk_fn (a_cons (ev 0) a_nil)))) (ss_one (s_raise T.x_Nothing tk_fn rfl (by rfl))) ss_nil))) (by omega)
theorem d16 (T : Fx g fa fd cc) (G : ∀ i, FnG g base k (fa i) (fd i) (psOf i) (Γ i)) : FnG g base (k + 4) (fa 16) (fd 16) (psOf 16) (bodyG 2 1 (b_law_bag Γ)) :=
  FnG.mono (fun_G (k := k) (N := ["script", "cell"]) (ps := ["script"]) T.F16 sc16 fun cdv A outer s H E hr hgd hr2 =>
    (ss_one (s_ret (e_lst (a_cons e_int (a_cons e_int (a_cons e_int (a_cons (e_comp (own := [("cell", 1)]) (p := (.nm 1)) rfl sc16.nd (i_seq (e_sl (ev 0) o_none (o_some e_int))) (blkOk_by (by kernel_rfl)) (fun _ _ _ _ _ => (gn 1 sc16.nd)) (fun _ _ _ _ _ => ts_nil) (fun _ _ _ _ _ => (e_callB (f := (fA1 fAbs)) call_abs ok_abs (by rfl) T.z_abs boot_abs (a_cons (ev 1) a_nil)))) a_nil)))))))) (by omega)
theorem d20 (T : Fx g fa fd cc) (G : ∀ i, FnG g base k (fa i) (fd i) (psOf i) (Γ i)) : FnG g base (k + 4) (fa 20) (fd 20) (psOf 20) (bodyG 6 2 (b_law_by Γ)) :=
  FnG.mono (fun_G (k := k) (N := ["things", "face", "order", "its", "k", "thing"]) (ps := ["things", "face"]) T.F20 sc20 fun cdv A outer s H E hr hgd hr2 =>
    (ss_cons (s_set (i := 2) sc20.nd rfl (.inl rfl) (e_callB (f := fSorted) (cr_srt hr) ok_srt (by rfl) T.z_sorted boot_sorted (a_cons (e_comp (own := [("k", 4), ("thing", 5)]) (p := (.tp [(.nm 4), (.nm 5)])) rfl sc20.nd (i_enum (by rfl) T.z_enumerate (ev 0)) (blkOk_by (by kernel_rfl)) (fun _ _ _ _ _ => (g_tp rfl (gs_cons (gn 4 sc20.nd) (gs_cons (gn 5 sc20.nd) gs_nil)))) (fun _ _ _ _ _ => ts_nil) (fun _ _ _ _ _ => (e_tup (a_cons (e_callV (i := 1) (.add (G 8) hr T.m8 T.F8.kp T.b8 (.add (G 9) hr T.m9 T.F9.kp T.b9 (.add (G 13) hr T.m13 T.F13.kp T.b13 (.add (G 14) hr T.m14 T.F14.kp T.b14 (.add (G 15) hr T.m15 T.F15.kp T.b15 (.add (G 22) hr T.m22 T.F22.kp T.b22 .nil)))))) hgd tk0 (a_cons (ev 5) a_nil)) (a_cons (ev 4) a_nil))))) a_nil)))
    (ss_one (s_ret (e_comp (own := [("its", 3), ("k", 4)]) (p := (.tp [(.nm 3), (.nm 4)])) rfl sc20.nd (i_seq (ev 2)) (blkOk_by (by kernel_rfl)) (fun _ _ _ _ _ => (g_tp rfl (gs_cons (gn 3 sc20.nd) (gs_cons (gn 4 sc20.nd) gs_nil)))) (fun _ _ _ _ _ => ts_nil) (fun _ _ _ _ _ => (e_ix (ev 0) (ev 4)))))))) (by omega)
theorem d24 (T : Fx g fa fd cc) (G : ∀ i, FnG g base k (fa i) (fd i) (psOf i) (Γ i)) : FnG g base (k + 4) (fa 24) (fd 24) (psOf 24) (bodyG 5 1 (b_law_variables Γ)) :=
  FnG.mono (fun_G (k := k) (N := ["facts", "found", "link", "terms", "term"]) (ps := ["facts"]) T.F24 sc24 fun cdv A outer s H E hr hgd hr2 =>
    (ss_cons (s_set (i := 1) sc24.nd rfl (.inl rfl) (e_lst a_nil))
    (ss_cons (s_for (p := (.tp [(.nm 2), (.nm 3)])) po_fn rfl (i_seq (ev 0)) (g_tp rfl (gs_cons (gn 2 sc24.nd) (gs_cons (gn 3 sc24.nd) gs_nil))) (ss_one (s_expr (e_mt_extend (ev 1) (a_cons (e_comp (own := [("term", 4)]) (p := (.nm 4)) rfl sc24.nd (i_seq (ev 3)) (blkOk_by (by kernel_rfl)) (fun _ _ _ _ _ => (gn 4 sc24.nd)) (fun _ _ _ _ _ => (ts_one (t_val (e_callB (f := fIsiA "tuple") call_isi ok_isi (by rfl) T.z_isinstance boot_isinstance (a_cons (ev 4) (a_cons (e_bltn (v := .ty "tuple") (by rfl) T.z_tuple (boot_ty_tuple) rfl (fun _ _ => .ty "tuple")) a_nil)))))) (fun _ _ _ _ _ => (e_ix (ev 4) e_int))) a_nil)))))
    (ss_one (s_ret (e_callB (f := fSortS) (cr_srtS hr) ok_srtS (by rfl) T.z_sorted boot_sorted (a_cons (e_callTy (f := fSet) (cr_set hr) ok_set (by rfl) T.z_set boot_ty_set (a_cons (ev 1) a_nil)) a_nil))))))) (by omega)
theorem d28 (T : Fx g fa fd cc) (G : ∀ i, FnG g base k (fa i) (fd i) (psOf i) (Γ i)) : FnG g base (k + 4) (fa 28) (fd 28) (psOf 28) (bodyG 2 1 (b_law_is_plain Γ)) :=
  FnG.mono (fun_G (k := k) (N := ["tree", "k"]) (ps := ["tree"]) T.F28 sc28 fun cdv A outer s H E hr hgd hr2 =>
    (ss_one (s_ret (e_cmp (f := (fEq true)) (op_eqD hr.units) ok_eq (e_comp (own := [("k", 1)]) (p := (.nm 1)) rfl sc28.nd (i_range2 (by rfl) T.z_range e_int (e_callB (f := (fA1 fLen)) c_len ok_len (by rfl) T.z_len boot_len (a_cons (ev 0) a_nil))) (blkOk_by (by kernel_rfl)) (fun _ _ _ _ _ => (gn 1 sc28.nd)) (fun _ _ _ _ _ => (ts_one (t_cmp (f := (fEq true)) (op_eqD hr.units) ok_eq (e_call (G 27) hr hgd (by rfl) T.m27 T.F27.kp T.b27 tk0 (a_cons (ev 0) (a_cons (ev 1) a_nil))) (e_lst a_nil)))) (fun _ _ _ _ _ => (ev 1))) (e_lst a_nil))))) (by omega)
end Zz
set_option Elab.async false
set_option linter.all false
set_option maxRecDepth 100000
set_option maxHeartbeats 0
namespace Zz
open PySem PySem.Spec PyProof.Rows L2
variable {g : G} {base : Heap} {k : Nat} {fa cc pp : Nat → Addr} {fd : Nat → FuncData} {Γ : Cs} {tb : List MO}
theorem d1 (T : Fx g fa fd cc) (G : ∀ i, FnG g base k (fa i) (fd i) (psOf i) (Γ i)) : FnG g base (k + 4) (fa 1) (fd 1) (psOf 1) (bodyG 1 1 (b_is_index Γ)) :=
  FnG.mono (fun_G (k := k) (N := ["thing"]) (ps := ["thing"]) T.F1 sc1 fun cdv A outer s H E hr hgd hr2 =>
    (ss_one (s_ret (e_and (e_call (G 0) hr hgd (by rfl) T.m0 T.F0.kp T.b0 tk_fn (a_cons (ev 0) a_nil)) (e_one (e_cmp (f := (fIB fun i j => decide (j ≤ i))) op_ge ok_IB (ev 0) e_int)))))) (by omega)
theorem d5 (T : Fx g fa fd cc) (G : ∀ i, FnG g base k (fa i) (fd i) (psOf i) (Γ i)) : FnG g base (k + 4) (fa 5) (fd 5) (psOf 5) (bodyG 4 1 (b_variables Γ)) :=
  FnG.mono (fun_G (k := k) (N := ["facts", "term", "link", "terms"]) (ps := ["facts"]) T.F5 sc5 fun cdv A outer s H E hr hgd hr2 =>
    (ss_one (s_ret (e_callTy (f := (fA1 fTuple)) call_tupleF ok_tuple (by rfl) T.z_tuple boot_ty_tuple (a_cons (e_callB (f := fSorted) (cr_srt hr) ok_srt (by rfl) T.z_sorted boot_sorted (a_cons (e_dc2 (own := [("link", 2), ("terms", 3), ("term", 1)]) (p := (.tp [(.nm 2), (.nm 3)])) (p1 := (.nm 1)) rfl sc5.nd (i_seq (ev 0)) (blkOk_by (by kernel_rfl)) (fun _ _ _ _ _ => (g_tp rfl (gs_cons (gn 2 sc5.nd) (gs_cons (gn 3 sc5.nd) gs_nil)))) (fun _ _ _ _ _ => ts_nil) (fun _ _ _ _ _ => (i_seq (ev 3))) (fun _ _ _ _ _ => (gn 1 sc5.nd)) (fun _ _ _ _ _ => (ts_one (t_val (e_call (G 4) hr hgd (by rfl) T.m4 T.F4.kp T.b4 tk0 (a_cons (ev 1) a_nil))))) (fun _ _ _ _ _ => (e_ix (ev 1) e_int)) (fun _ _ _ _ _ => e_bl)) a_nil)) a_nil))))) (by omega)
theorem d9 (T : Fx g fa fd cc) (G : ∀ i, FnG g base k (fa i) (fd i) (psOf i) (Γ i)) : FnG g base (k + 4) (fa 9) (fd 9) (psOf 9) (bodyG 6 2 (b_own_variables Γ)) :=
  FnG.mono (fun_G (k := k) (N := ["tree", "node", "above", "told", "parent", "name"]) (ps := ["tree", "node"]) T.F9 sc9 fun cdv A outer s H E hr hgd hr2 =>
    (ss_cons (s_par (i := 3) (j := 4) rfl sc9.nd rfl rfl (by decide) rfl rfl (a_cons (e_call (G 8) hr hgd (by rfl) T.m8 T.F8.kp T.b8 tk_fn (a_cons (ev 0) (a_cons (ev 1) a_nil))) (a_cons (e_ix (e_ix (ev 0) (ev 1)) e_int) a_nil)))
    (ss_cons (s_set (i := 2) sc9.nd rfl (.inr rfl) (e_if (t_cmp (f := (fIB fun i j => decide (j ≤ i))) op_ge ok_IB (ev 4) e_int) (e_call (G 5) hr hgd (by rfl) T.m5 T.F5.kp T.b5 tk_fn (a_cons (e_ix (e_ix (ev 0) (ev 4)) e_int) a_nil)) (e_tup a_nil)))
    (ss_one (s_ret (e_callTy (f := (fA1 fTuple)) call_tupleF ok_tuple (by rfl) T.z_tuple boot_ty_tuple (a_cons (e_comp (own := [("name", 5)]) (p := (.nm 5)) rfl sc9.nd (i_seq (ev 3)) (blkOk_by (by kernel_rfl)) (fun _ _ _ _ _ => (gn 5 sc9.nd)) (fun _ _ _ _ _ => (ts_one (t_cmp (f := fNotInA) (or_notIn hr) ok_notInA (ev 5) (ev 2)))) (fun _ _ _ _ _ => (ev 5))) a_nil))))))) (by omega)
theorem d13 (T : Fx g fa fd cc) (G : ∀ i, FnG g base k (fa i) (fd i) (psOf i) (Γ i)) : FnG g base (k + 4) (fa 13) (fd 13) (psOf 13) (bodyG 3 2 (b_way_to Γ)) :=
  FnG.mono (fun_G (k := k) (N := ["tree", "node", "found"]) (ps := ["tree", "node"]) T.F13 sc13 fun cdv A outer s H E hr hgd hr2 =>
    (ss_cons (s_expr (e_call (G 7) hr hgd (by rfl) T.m7 T.F7.kp T.b7 tk_fn (a_cons (ev 0) (a_cons (ev 1) a_nil))))
    (ss_cons (s_set (i := 2) sc13.nd rfl (.inl rfl) (e_lst a_nil))
    (ss_cons (s_while po_fn (t_cmp (f := (fIB fun i j => decide (j ≤ i))) op_ge ok_IB (ev 1) e_int) (ss_cons (s_expr (e_mt_append (ev 2) (a_cons (ev 1) a_nil)))
    (ss_one (s_set (i := 1) sc13.nd rfl (.inl rfl) (e_ix (e_ix (ev 0) (ev 1)) e_int)))))
    (ss_one (s_ret (e_callTy (f := (fA1 fTuple)) call_tupleF ok_tuple (by rfl) T.z_tuple boot_ty_tuple (a_cons (e_rev (ev 2)) a_nil)))))))) (by omega)
theorem d17 (T : Fx g fa fd cc) (G : ∀ i, FnG g base k (fa i) (fd i) (psOf i) (Γ i)) : FnG g base (k + 4) (fa 17) (fd 17) (psOf 17) (bodyG 7 2 (b_law_take Γ)) :=
  FnG.mono (fun_G (k := k) (N := ["bag", "many", "begin", "second", "cell", "stirred", "value"]) (ps := ["bag", "many"]) T.F17 sc17 fun cdv A outer s H E hr hgd hr2 =>
    (ss_cons (s_if (t_cmp (f := (fEq true)) (op_eqD hr.units) ok_eq (e_ix (ev 0) e_int) e_int) (ss_cons (s_set (i := 4) sc17.nd rfl (.inl rfl) (e_ix (e_op (f := fAdd) or_add ok_add (e_sl (e_ix (ev 0) e_int) (o_some (e_ix (ev 0) e_int)) o_none) (e_lst (a_cons e_int a_nil))) e_int))
    (ss_cons (s_augS (f := fIAdd) hr (ev 0) e_int e_int iop_add ok_I0)
    (ss_cons (s_if (t_cmp (f := (fIB fun i j => decide (j ≤ i))) op_ge ok_IB (ev 4) (e_op (f := fPow) op_pow ok_I e_int e_int)) (ss_one (s_put hr (ev 0) e_int (ev 4))) ss_nil)
    (ss_cons (s_set (i := 5) sc17.nd rfl (.inl rfl) (e_op (f := fAdd) or_add ok_add (e_op (f := fAdd) or_add ok_add (e_op (f := fMul) op_mul ok_I (e_ix (ev 0) e_int) e_int) (e_op (f := fMod) op_mod ok_I (e_callTy (f := (fA1 fInt)) call_int1 ok_int (by rfl) T.z_int boot_ty_int (a_cons (ev 4) a_nil)) e_int)) (e_op (f := fMul) op_mul ok_I e_int (e_ix (ev 0) e_int))))
    (ss_one (s_put hr (ev 0) e_int (e_op (f := fMod) op_mod ok_I (e_callTy (f := (fA1 fInt)) call_int1 ok_int (by rfl) T.z_int boot_ty_int (a_cons (ev 5) a_nil)) e_int))))))) ss_nil)
    (ss_cons (s_if (t_cmp (f := (fIB fun i j => decide (j < i))) op_gt ok_IB (e_ix (ev 0) e_int) e_int) (ss_cons (s_set (i := 6) sc17.nd rfl (.inl rfl) (e_op (f := fMod) op_mod ok_I (e_callTy (f := (fA1 fInt)) call_int1 ok_int (by rfl) T.z_int boot_ty_int (a_cons (e_ix (ev 0) e_int) a_nil)) (ev 1)))
    (ss_cons (s_put hr (ev 0) e_int (e_op (f := fDiv) op_fdiv ok_I (e_callTy (f := (fA1 fInt)) call_int1 ok_int (by rfl) T.z_int boot_ty_int (a_cons (e_ix (ev 0) e_int) a_nil)) (ev 1)))
    (ss_one (s_ret (ev 6))))) ss_nil)
    (ss_cons (s_set (i := 2) sc17.nd rfl (.inl rfl) (e_op (f := fMod) op_mod ok_I (e_callTy (f := (fA1 fInt)) call_int1 ok_int (by rfl) T.z_int boot_ty_int (a_cons (e_op (f := fMul) op_mul ok_I (e_op (f := fAdd) or_add ok_add (e_ix (ev 0) e_int) e_int) e_int) a_nil)) e_int))
    (ss_cons (s_set (i := 3) sc17.nd rfl (.inl rfl) (e_op (f := fMod) op_mod ok_I (e_callTy (f := (fA1 fInt)) call_int1 ok_int (by rfl) T.z_int boot_ty_int (a_cons (e_op (f := fMul) op_mul ok_I (e_op (f := fMod) op_mod ok_I (e_callTy (f := (fA1 fInt)) call_int1 ok_int (by rfl) T.z_int boot_ty_int (a_cons (e_op (f := fMul) op_mul ok_I (ev 2) (ev 2)) a_nil)) e_int) e_int) a_nil)) e_int))
    (ss_one (s_ret (e_op (f := fMod) op_mod ok_I (e_callTy (f := (fA1 fInt)) call_int1 ok_int (by rfl) T.z_int boot_ty_int (a_cons (e_op (f := fDiv) op_fdiv ok_I (ev 3) e_int) a_nil)) (ev 1))))))))) (by omega)
theorem d21 (T : Fx g fa fd cc) (G : ∀ i, FnG g base k (fa i) (fd i) (psOf i) (Γ i)) : FnG g base (k + 4) (fa 21) (fd 21) (psOf 21) (bodyG 1 1 (b_law_value_key Γ)) :=
  FnG.mono (fun_G (k := k) (N := ["value"]) (ps := ["value"]) T.F21 sc21 fun cdv A outer s H E hr hgd hr2 =>
    (ss_one (s_ret (e_if (t_not (t_val (e_callB (f := fIsiA "str") call_isi ok_isi (by rfl) T.z_isinstance boot_isinstance (a_cons (ev 0) (a_cons (e_bltn (v := .ty "str") (by rfl) T.z_str (boot_ty_str) rfl (fun _ _ => .ty "str")) a_nil))))) (e_tup (a_cons e_int (a_cons (ev 0) (a_cons e_str a_nil)))) (e_tup (a_cons e_int (a_cons e_int (a_cons (ev 0) a_nil)))))))) (by omega)
theorem d25 (T : Fx g fa fd cc) (G : ∀ i, FnG g base k (fa i) (fd i) (psOf i) (Γ i)) : FnG g base (k + 4) (fa 25) (fd 25) (psOf 25) (bodyG 11 2 (b_law_tree Γ)) :=
  FnG.mono (fun_G (k := k) (N := ["bag", "most", "free", "k", "names", "nodes", "parent", "facts", "name", "own", "old"]) (ps := ["bag", "most"]) T.F25 sc25 fun cdv A outer s H E hr hgd hr2 =>
    (ss_cons (s_asg (p := (.tp [(.nm 4), (.nm 5)])) (e_tup (a_cons (e_lst (a_cons e_str (a_cons e_str (a_cons e_str (a_cons e_str (a_cons e_str (a_cons e_str a_nil))))))) (a_cons (e_lst a_nil) a_nil))) (g_tp rfl (gs_cons (gn 4 sc25.nd) (gs_cons (gn 5 sc25.nd) gs_nil))))
    (ss_cons (s_expr (e_mt_append (ev 5) (a_cons (e_tup (a_cons (e_un un_neg ok_neg e_int) (a_cons (e_call (G 23) hr hgd (by rfl) T.m23 T.F23.kp T.b23 tk_fn (a_cons (ev 0) (a_cons (e_sl (ev 4) o_none (o_some (e_op (f := fAdd) or_add ok_add e_int (e_call (G 17) hr hgd (by rfl) T.m17 T.F17.kp T.b17 tk_fn (a_cons (ev 0) (a_cons e_int a_nil)))))) (a_cons e_int a_nil)))) a_nil))) a_nil)))
    (ss_cons (s_setComp (i := 2) (own := [("name", 8)]) (p := (.nm 8)) rfl sc25.nd rfl rfl (sw_true rfl rfl rfl (by decide +kernel)) (i_seq (ev 4)) (blkOk_by (by kernel_rfl)) (fun _ _ _ _ _ => (gn 8 sc25.nd)) (fun _ _ _ _ _ => (ts_one (t_cmp (f := fNotInA) (or_notIn hr) ok_notInA (ev 8) (e_call (G 24) hr hgd (by rfl) T.m24 T.F24.kp T.b24 tk0 (a_cons (e_ix (e_ix (ev 5) e_int) e_int) a_nil))))) (fun _ _ _ _ _ => (ev 8)))
    (ss_cons (s_for (p := (.nm 3)) po_fn rfl (i_range1 (by rfl) T.z_range (e_call (G 17) hr hgd (by rfl) T.m17 T.F17.kp T.b17 tk_fn (a_cons (ev 0) (a_cons (ev 1) a_nil)))) (gn 3 sc25.nd) (ss_cons (s_set (i := 6) sc25.nd rfl (.inl rfl) (e_call (G 17) hr hgd (by rfl) T.m17 T.F17.kp T.b17 tk_fn (a_cons (ev 0) (a_cons (e_callB (f := (fA1 fLen)) c_len ok_len (by rfl) T.z_len boot_len (a_cons (ev 5) a_nil)) a_nil))))
    (ss_cons (s_par (i := 9) (j := 10) rfl sc25.nd rfl rfl (by decide) rfl rfl (a_cons (e_ix (ev 2) e_int) (a_cons (e_call (G 24) hr hgd (by rfl) T.m24 T.F24.kp T.b24 tk_fn (a_cons (e_ix (e_ix (ev 5) (ev 6)) e_int) a_nil)) a_nil)))
    (ss_cons (s_set (i := 2) sc25.nd rfl (.inl rfl) (e_sl (ev 2) (o_some e_int) o_none))
    (ss_cons (s_set (i := 7) sc25.nd rfl (.inl rfl) (e_call (G 23) hr hgd (by rfl) T.m23 T.F23.kp T.b23 tk_fn (a_cons (ev 0) (a_cons (e_op (f := fAdd) or_add ok_add (e_lst (a_cons (ev 9) a_nil)) (e_if (t_cmp (f := (fEq false)) (op_neD hr.units) ok_ne (ev 10) (e_lst a_nil)) (e_sl (ev 10) o_none (o_some e_int)) (e_lst (a_cons (ev 9) a_nil)))) (a_cons e_int a_nil)))))
    (ss_cons (s_if (t_cmp (f := fNotInA) (or_notIn hr) ok_notInA (ev 9) (e_call (G 24) hr hgd (by rfl) T.m24 T.F24.kp T.b24 tk_fn (a_cons (ev 7) a_nil))) (ss_one (s_set (i := 7) sc25.nd rfl (.inl rfl) (e_callTy (f := (fA1 fTuple)) call_tupleF ok_tuple (by rfl) T.z_tuple boot_ty_tuple (a_cons (e_call (G 20) hr hgd (by rfl) T.m20 T.F20.kp T.b20 tk_fn (a_cons (e_op (f := fAdd) or_add ok_add (ev 7) (e_tup (a_cons (e_tup (a_cons e_str (a_cons (e_tup (a_cons (e_tup (a_cons e_str (a_cons (ev 9) a_nil))) a_nil)) a_nil))) a_nil))) (a_cons (e_glob (v := .ref _) (d := .glo "_law_facts_key") (by rfl) T.m22 rfl (fun _ _ => .glo T.m22)) a_nil))) a_nil)))) ss_nil)
    (ss_one (s_expr (e_mt_append (ev 5) (a_cons (e_tup (a_cons (ev 6) (a_cons (ev 7) a_nil))) a_nil))))))))))
    (ss_one (s_ret (e_callTy (f := (fA1 fTuple)) call_tupleF ok_tuple (by rfl) T.z_tuple boot_ty_tuple (a_cons (ev 5) a_nil))))))))) (by omega)
theorem d29 (T : Fx g fa fd cc) (G : ∀ i, FnG g base k (fa i) (fd i) (psOf i) (Γ i)) : FnG g base (k + 4) (fa 29) (fd 29) (psOf 29) (bodyG 3 2 (b_law_way Γ)) :=
  FnG.mono (fun_G (k := k) (N := ["tree", "k", "found"]) (ps := ["tree", "k"]) T.F29 sc29 fun cdv A outer s H E hr hgd hr2 =>
    (ss_cons (s_set (i := 2) sc29.nd rfl (.inl rfl) (e_lst (a_cons (ev 1) a_nil)))
    (ss_cons (s_while po_fn (t_cmp (f := (fEq false)) (op_neD hr.units) ok_ne (e_ix (ev 2) e_int) e_int) (ss_one (s_expr (e_mt_insert (ev 2) (a_cons e_int (a_cons (e_ix (e_ix (ev 0) (e_ix (ev 2) e_int)) e_int) a_nil))))))
    (ss_one (s_ret (e_callTy (f := (fA1 fTuple)) call_tupleF ok_tuple (by rfl) T.z_tuple boot_ty_tuple (a_cons (ev 2) a_nil))))))) (by omega)
end Zz
set_option Elab.async false
set_option linter.all false
set_option maxRecDepth 100000
set_option maxHeartbeats 0
namespace Zz
open PySem PySem.Spec PyProof.Rows L2
variable {g : G} {base : Heap} {k : Nat} {fa cc pp : Nat → Addr} {fd : Nat → FuncData} {Γ : Cs} {tb : List MO}
theorem d2 (T : Fx g fa fd cc) (G : ∀ i, FnG g base k (fa i) (fd i) (psOf i) (Γ i)) : FnG g base (k + 4) (fa 2) (fd 2) (psOf 2) (bodyG 2 1 (b_is_name Γ)) :=
  FnG.mono (fun_G (k := k) (N := ["thing", "sign"]) (ps := ["thing"]) T.F2 sc2 fun cdv A outer s H E hr hgd hr2 =>
    (ss_cons (s_if (PW.pt (w_or (t_not (t_val (e_callB (f := fIsiA "str") call_isi ok_isi (by rfl) T.z_isinstance boot_isinstance (a_cons (ev 0) (a_cons (e_bltn (v := .ty "str") (by rfl) T.z_str (boot_ty_str) rfl (fun _ _ => .ty "str")) a_nil))))) (w_one (t_not (t_chain (f := (fIB fun i j => decide (i ≤ j))) (f2 := (fIB fun i j => decide (i ≤ j))) op_le ok_IB op_le ok_IB e_int (e_callB (f := (fA1 fLen)) c_len ok_len (by rfl) T.z_len boot_len (a_cons (ev 0) a_nil)) (e_cstE (by rfl) T.v_MOST_LETTERS)))))) (ss_one (s_ret e_bl)) ss_nil)
    (ss_cons (s_if (PW.pt (w_or (t_cmp (f := fNotInA) (or_notIn hr) ok_notInA (e_ix (ev 0) e_int) (e_cstE (by rfl) T.v_LETTERS)) (w_one (t_cmp (f := fInA) (or_in hr) ok_inA (ev 0) (e_cstE (by rfl) T.v_RESERVED))))) (ss_one (s_ret e_bl)) ss_nil)
    (ss_one (s_ret (e_callB (f := fAllA) (cr_all rfl) ok_all (by rfl) T.z_all boot_all (a_cons (e_comp (own := [("sign", 1)]) (p := (.nm 1)) rfl sc2.nd (i_signs (ev 0)) (blkOk_by (by kernel_rfl)) (fun _ _ _ _ _ => (gn 1 sc2.nd)) (fun _ _ _ _ _ => ts_nil) (fun _ _ _ _ _ => (e_cmp (f := fInA) (or_in hr) ok_inA (ev 1) (e_op (f := fAdd) or_add ok_add (e_cstE (by rfl) T.v_LETTERS) (e_cstE (by rfl) T.v_DIGITS))))) a_nil))))))) (by omega)
theorem d6 (T : Fx g fa fd cc) (G : ∀ i, FnG g base k (fa i) (fd i) (psOf i) (Γ i)) : FnG g base (k + 4) (fa 6) (fd 6) (psOf 6) (bodyG 3 1 (b_variables_by_node Γ)) :=
  FnG.mono (fun_G (k := k) (N := ["tree", "parent", "facts"]) (ps := ["tree"]) T.F6 sc6 fun cdv A outer s H E hr hgd hr2 =>
    (ss_one (s_ret (e_comp (own := [("parent", 1), ("facts", 2)]) (p := (.tp [(.nm 1), (.nm 2)])) rfl sc6.nd (i_seq (ev 0)) (blkOk_by (by kernel_rfl)) (fun _ _ _ _ _ => (g_tp rfl (gs_cons (gn 1 sc6.nd) (gs_cons (gn 2 sc6.nd) gs_nil)))) (fun _ _ _ _ _ => ts_nil) (fun _ _ _ _ _ => (e_call (G 5) hr hgd (by rfl) T.m5 T.F5.kp T.b5 tk0 (a_cons (ev 2) a_nil))))))) (by omega)
theorem d10 (T : Fx g fa fd cc) (G : ∀ i, FnG g base k (fa i) (fd i) (psOf i) (Γ i)) : FnG g base (k + 4) (fa 10) (fd 10) (psOf 10) (bodyG 5 2 (b_first_node Γ)) :=
  FnG.mono (fun_G (k := k) (N := ["tree", "variable", "found", "number", "told"]) (ps := ["tree", "variable"]) T.F10 sc10 fun cdv A outer s H E hr hgd hr2 =>
    (ss_cons (s_setComp (i := 2) (own := [("number", 3), ("told", 4)]) (p := (.tp [(.nm 3), (.nm 4)])) rfl sc10.nd rfl rfl (sw_true rfl rfl rfl (by decide +kernel)) (i_enum (by rfl) T.z_enumerate (e_call (G 6) hr hgd (by rfl) T.m6 T.F6.kp T.b6 tk_fn (a_cons (ev 0) a_nil))) (blkOk_by (by kernel_rfl)) (fun _ _ _ _ _ => (g_tp rfl (gs_cons (gn 3 sc10.nd) (gs_cons (gn 4 sc10.nd) gs_nil)))) (fun _ _ _ _ _ => (ts_one (t_cmp (f := fInA) (or_in hr) ok_inA (ev 1) (ev 4)))) (fun _ _ _ _ _ => (ev 3)))
    (ss_cons (s_if (t_cmp (f := (fEq true)) (op_eqD hr.units) ok_eq (ev 2) (e_lst a_nil)) (ss_one (s_raise T.x_Nothing tk_fn rfl (by rfl))) ss_nil)
    (ss_one (s_ret (e_ix (ev 2) e_int)))))) (by omega)
theorem d14 (T : Fx g fa fd cc) (G : ∀ i, FnG g base k (fa i) (fd i) (psOf i) (Γ i)) : FnG g base (k + 4) (fa 14) (fd 14) (psOf 14) (bodyG 5 2 (b_inner_nodes Γ)) :=
  FnG.mono (fun_G (k := k) (N := ["tree", "node", "number", "parent", "facts"]) (ps := ["tree", "node"]) T.F14 sc14 fun cdv A outer s H E hr hgd hr2 =>
    (ss_cons (s_expr (e_call (G 7) hr hgd (by rfl) T.m7 T.F7.kp T.b7 tk_fn (a_cons (ev 0) (a_cons (ev 1) a_nil))))
    (ss_one (s_ret (e_callTy (f := (fA1 fTuple)) call_tupleF ok_tuple (by rfl) T.z_tuple boot_ty_tuple (a_cons (e_comp (own := [("number", 2), ("parent", 3), ("facts", 4)]) (p := (.tp [(.nm 2), (.tp [(.nm 3), (.nm 4)])])) rfl sc14.nd (i_enum (by rfl) T.z_enumerate (ev 0)) (blkOk_by (by kernel_rfl)) (fun _ _ _ _ _ => (g_tp rfl (gs_cons (gn 2 sc14.nd) (gs_cons (g_tp rfl (gs_cons (gn 3 sc14.nd) (gs_cons (gn 4 sc14.nd) gs_nil))) gs_nil)))) (fun _ _ _ _ _ => (ts_one (t_cmp (f := (fEq true)) (op_eqD hr.units) ok_eq (ev 3) (ev 1)))) (fun _ _ _ _ _ => (ev 2))) a_nil)))))) (by omega)
theorem d18 (T : Fx g fa fd cc) (G : ∀ i, FnG g base k (fa i) (fd i) (psOf i) (Γ i)) : FnG g base (k + 4) (fa 18) (fd 18) (psOf 18) (bodyG 2 2 (b_law_some Γ)) :=
  FnG.mono (fun_G (k := k) (N := ["bag", "things"]) (ps := ["bag", "things"]) T.F18 sc18 fun cdv A outer s H E hr hgd hr2 =>
    (ss_one (s_ret (e_ix (ev 1) (e_call (G 17) hr hgd (by rfl) T.m17 T.F17.kp T.b17 tk_fn (a_cons (ev 0) (a_cons (e_callB (f := (fA1 fLen)) c_len ok_len (by rfl) T.z_len boot_len (a_cons (ev 1) a_nil)) a_nil))))))) (by omega)
theorem d22 (T : Fx g fa fd cc) (G : ∀ i, FnG g base k (fa i) (fd i) (psOf i) (Γ i)) : FnG g base (k + 4) (fa 22) (fd 22) (psOf 22) (bodyG 3 1 (b_law_facts_key Γ)) :=
  FnG.mono (fun_G (k := k) (N := ["fact", "terms", "term"]) (ps := ["fact"]) T.F22 sc22 fun cdv A outer s H E hr hgd hr2 =>
    (ss_cons (s_setComp (i := 1) (own := [("term", 2)]) (p := (.nm 2)) rfl sc22.nd rfl rfl (sw_true rfl rfl rfl (by decide +kernel)) (i_seq (e_ix (ev 0) e_int)) (blkOk_by (by kernel_rfl)) (fun _ _ _ _ _ => (gn 2 sc22.nd)) (fun _ _ _ _ _ => ts_nil) (fun _ _ _ _ _ => (e_if (t_val (e_callB (f := fIsiA "tuple") call_isi ok_isi (by rfl) T.z_isinstance boot_isinstance (a_cons (ev 2) (a_cons (e_bltn (v := .ty "tuple") (by rfl) T.z_tuple (boot_ty_tuple) rfl (fun _ _ => .ty "tuple")) a_nil)))) (e_tup (a_cons e_int (a_cons e_int (a_cons (e_ix (ev 2) e_int) a_nil)))) (e_call (G 21) hr hgd (by rfl) T.m21 T.F21.kp T.b21 tk0 (a_cons (ev 2) a_nil)))))
    (ss_one (s_ret (e_tup (a_cons (e_ix (ev 0) e_int) (a_cons (e_callTy (f := (fA1 fTuple)) call_tupleF ok_tuple (by rfl) T.z_tuple boot_ty_tuple (a_cons (ev 1) a_nil)) a_nil))))))) (by omega)
theorem d26 (T : Fx g fa fd cc) (G : ∀ i, FnG g base k (fa i) (fd i) (psOf i) (Γ i)) : FnG g base (k + 4) (fa 26) (fd 26) (psOf 26) (bodyG 5 1 (b_law_any_tree Γ)) :=
  FnG.mono (fun_G (k := k) (N := ["bag", "tree", "parent", "old", "facts"]) (ps := ["bag"]) T.F26 sc26 fun cdv A outer s H E hr hgd hr2 =>
    (ss_cons (s_set (i := 1) sc26.nd rfl (.inl rfl) (e_callTy (f := (fA1 fList)) call_list_of ok_list (by rfl) T.z_list boot_ty_list (a_cons (e_call (G 25) hr hgd (by rfl) T.m25 T.F25.kp T.b25 tk_fn (a_cons (ev 0) (a_cons e_int a_nil))) a_nil)))
    (ss_cons (s_if (t_cmp (f := (fEq true)) (op_eqD hr.units) ok_eq (e_call (G 17) hr hgd (by rfl) T.m17 T.F17.kp T.b17 tk_fn (a_cons (ev 0) (a_cons e_int a_nil))) e_int) (ss_cons (s_set (i := 2) sc26.nd rfl (.inl rfl) (e_call (G 17) hr hgd (by rfl) T.m17 T.F17.kp T.b17 tk_fn (a_cons (ev 0) (a_cons (e_callB (f := (fA1 fLen)) c_len ok_len (by rfl) T.z_len boot_len (a_cons (ev 1) a_nil)) a_nil))))
    (ss_cons (s_set (i := 3) sc26.nd rfl (.inl rfl) (e_call (G 24) hr hgd (by rfl) T.m24 T.F24.kp T.b24 tk_fn (a_cons (e_ix (e_ix (ev 1) (ev 2)) e_int) a_nil)))
    (ss_cons (s_set (i := 4) sc26.nd rfl (.inl rfl) (e_if (t_cmp (f := (fIB fun i j => decide (j < i))) op_gt ok_IB (e_call (G 17) hr hgd (by rfl) T.m17 T.F17.kp T.b17 tk_fn (a_cons (ev 0) (a_cons e_int a_nil))) e_int) (e_call (G 23) hr hgd (by rfl) T.m23 T.F23.kp T.b23 tk_fn (a_cons (ev 0) (a_cons (e_if (t_cmp (f := (fEq false)) (op_neD hr.units) ok_ne (ev 3) (e_lst a_nil)) (ev 3) (e_lst (a_cons e_str a_nil))) (a_cons e_int a_nil)))) (e_tup a_nil)))
    (ss_cons (s_expr (e_mt_append (ev 1) (a_cons (e_tup (a_cons (ev 2) (a_cons (ev 4) a_nil))) a_nil)))
    (ss_one (s_if (t_cmp (f := (fEq true)) (op_eqD hr.units) ok_eq (e_call (G 17) hr hgd (by rfl) T.m17 T.F17.kp T.b17 tk_fn (a_cons (ev 0) (a_cons e_int a_nil))) e_int) (ss_one (s_expr (e_mt_append (ev 1) (a_cons (e_tup (a_cons (e_op (f := fSub) op_sub ok_I0 (e_callB (f := (fA1 fLen)) c_len ok_len (by rfl) T.z_len boot_len (a_cons (ev 1) a_nil)) e_int) (a_cons (e_tup (a_cons (e_tup (a_cons e_str (a_cons (e_tup (a_cons (e_tup (a_cons e_str (a_cons e_str a_nil))) a_nil)) a_nil))) a_nil)) a_nil))) a_nil)))) ss_nil)))))) ss_nil)
    (ss_one (s_ret (e_callTy (f := (fA1 fTuple)) call_tupleF ok_tuple (by rfl) T.z_tuple boot_ty_tuple (a_cons (ev 1) a_nil))))))) (by omega)
theorem d30 (T : Fx g fa fd cc) (G : ∀ i, FnG g base k (fa i) (fd i) (psOf i) (Γ i)) : FnT g base (k + 1) (fa 30) (TG Γ 30) :=
  fun_T (k := k) (N := ["act"]) (a := "act") T.F30 sc30 rfl (by first | exact .inl rfl | exact .inr (.inl rfl)) T.b30 fun cdv A outer s H E cl th hr hgd hr2 act =>
    (ss_one (s_try (cat := catF_Nothing) rfl rfl tk_fn (by rfl) (T.x_Nothing.imp fun _ h => h.1) T.cat_Nothing (fun _ _ _ tkT poT => (ss_one (s_ret (e_tup (a_cons e_str (a_cons (act _ _ _ _ _ tkT) a_nil)))))) (fun _ _ => (ss_one (s_ret (e_tup (a_cons e_str a_nil)))))))
end Zz
set_option Elab.async false
set_option linter.all false
set_option maxRecDepth 100000
set_option maxHeartbeats 0
namespace Zz
open PySem PySem.Spec PyProof.Rows L2
variable {g : G} {base : Heap} {k : Nat} {fa cc pp : Nat → Addr} {fd : Nat → FuncData} {Γ : Cs} {tb : List MO}
theorem d3 (T : Fx g fa fd cc) (G : ∀ i, FnG g base k (fa i) (fd i) (psOf i) (Γ i)) : FnG g base (k + 4) (fa 3) (fd 3) (psOf 3) (bodyG 2 2 (b_is_sized Γ)) :=
  FnG.mono (fun_G (k := k) (N := ["thing", "many"]) (ps := ["thing", "many"]) T.F3 sc3 fun cdv A outer s H E hr hgd hr2 =>
    (ss_one (s_ret (e_and (e_callB (f := fIsiA "tuple") call_isi ok_isi (by rfl) T.z_isinstance boot_isinstance (a_cons (ev 0) (a_cons (e_bltn (v := .ty "tuple") (by rfl) T.z_tuple (boot_ty_tuple) rfl (fun _ _ => .ty "tuple")) a_nil))) (e_one (e_cmp (f := (fEq true)) (op_eqD hr.units) ok_eq (e_callB (f := (fA1 fLen)) c_len ok_len (by rfl) T.z_len boot_len (a_cons (ev 0) a_nil)) (ev 1))))))) (by omega)
theorem d7 (T : Fx g fa fd cc) (G : ∀ i, FnG g base k (fa i) (fd i) (psOf i) (Γ i)) : FnG g base (k + 4) (fa 7) (fd 7) (psOf 7) (bodyG 2 2 (b_check_node Γ)) :=
  FnG.mono (fun_G (k := k) (N := ["tree", "node"]) (ps := ["tree", "node"]) T.F7 sc7 fun cdv A outer s H E hr hgd hr2 =>
    (ss_one (s_if (PW.pt (w_or (t_not (t_val (e_call (G 1) hr hgd (by rfl) T.m1 T.F1.kp T.b1 tk_fn (a_cons (ev 1) a_nil)))) (w_one (t_cmp (f := (fIB fun i j => decide (j ≤ i))) op_ge ok_IB (ev 1) (e_callB (f := (fA1 fLen)) c_len ok_len (by rfl) T.z_len boot_len (a_cons (ev 0) a_nil)))))) (ss_one (s_raise T.x_Nothing tk_fn rfl (by rfl))) ss_nil))) (by omega)
theorem d11 (T : Fx g fa fd cc) (G : ∀ i, FnG g base k (fa i) (fd i) (psOf i) (Γ i)) : FnG g base (k + 4) (fa 11) (fd 11) (psOf 11) (bodyG 2 1 (b_is_plain Γ)) :=
  FnG.mono (fun_G (k := k) (N := ["tree", "node"]) (ps := ["tree"]) T.F11 sc11 fun cdv A outer s H E hr hgd hr2 =>
    (ss_one (s_ret (e_callB (f := fAllA) (cr_all rfl) ok_all (by rfl) T.z_all boot_all (a_cons (e_comp (own := [("node", 1)]) (p := (.nm 1)) rfl sc11.nd (i_range2 (by rfl) T.z_range e_int (e_callB (f := (fA1 fLen)) c_len ok_len (by rfl) T.z_len boot_len (a_cons (ev 0) a_nil))) (blkOk_by (by kernel_rfl)) (fun _ _ _ _ _ => (gn 1 sc11.nd)) (fun _ _ _ _ _ => ts_nil) (fun _ _ _ _ _ => (e_cmp (f := (fEq false)) (op_neD hr.units) ok_ne (e_call (G 9) hr hgd (by rfl) T.m9 T.F9.kp T.b9 tk0 (a_cons (ev 0) (a_cons (ev 1) a_nil))) (e_tup a_nil)))) a_nil))))) (by omega)
theorem d15 (T : Fx g fa fd cc) (G : ∀ i, FnG g base k (fa i) (fd i) (psOf i) (Γ i)) : FnG g base (k + 4) (fa 15) (fd 15) (psOf 15) (bodyG 3 2 (b_below Γ)) :=
  FnG.mono (fun_G (k := k) (N := ["tree", "node", "number"]) (ps := ["tree", "node"]) T.F15 sc15 fun cdv A outer s H E hr hgd hr2 =>
    (ss_cons (s_expr (e_call (G 7) hr hgd (by rfl) T.m7 T.F7.kp T.b7 tk_fn (a_cons (ev 0) (a_cons (ev 1) a_nil))))
    (ss_one (s_ret (e_callTy (f := (fA1 fTuple)) call_tupleF ok_tuple (by rfl) T.z_tuple boot_ty_tuple (a_cons (e_comp (own := [("number", 2)]) (p := (.nm 2)) rfl sc15.nd (i_range1 (by rfl) T.z_range (e_callB (f := (fA1 fLen)) c_len ok_len (by rfl) T.z_len boot_len (a_cons (ev 0) a_nil))) (blkOk_by (by kernel_rfl)) (fun _ _ _ _ _ => (gn 2 sc15.nd)) (fun _ _ _ _ _ => (ts_one (t_cmp (f := fInA) (or_in hr) ok_inA (ev 1) (e_call (G 13) hr hgd (by rfl) T.m13 T.F13.kp T.b13 tk0 (a_cons (ev 0) (a_cons (ev 2) a_nil)))))) (fun _ _ _ _ _ => (ev 2))) a_nil)))))) (by omega)
theorem d19 (T : Fx g fa fd cc) (G : ∀ i, FnG g base k (fa i) (fd i) (psOf i) (Γ i)) : FnG g base (k + 4) (fa 19) (fd 19) (psOf 19) (bodyG 2 2 (b_law_alike Γ)) :=
  FnG.mono (fun_G (k := k) (N := ["found", "due"]) (ps := ["found", "due"]) T.F19 sc19 fun cdv A outer s H E hr hgd hr2 =>
    (ss_one (s_ret (e_and (e_cmp (f := (fEq true)) (op_eqD hr.units) ok_eq (e_callB (f := fReprB) (cr_reprB hr hgd) ok_reprB (by rfl) T.z_repr boot_repr (a_cons (ev 0) a_nil)) (e_callB (f := fReprB) (cr_reprB hr hgd) ok_reprB (by rfl) T.z_repr boot_repr (a_cons (ev 1) a_nil))) (e_one (e_cmp (f := (fEq true)) (op_eqD hr.units) ok_eq (ev 0) (ev 1))))))) (by omega)
theorem d23 (T : Fx g fa fd cc) (G : ∀ i, FnG g base k (fa i) (fd i) (psOf i) (Γ i)) : FnG g base (k + 4) (fa 23) (fd 23) (psOf 23) (bodyG 9 3 (b_law_facts Γ)) :=
  FnG.mono (fun_G (k := k) (N := ["bag", "names", "most", "found", "k", "link", "terms", "n", "fact"]) (ps := ["bag", "names", "most"]) T.F23 sc23 fun cdv A outer s H E hr hgd hr2 =>
    (ss_cons (s_set (i := 3) sc23.nd rfl (.inr rfl) (e_lst a_nil))
    (ss_cons (s_for (p := (.nm 4)) po_fn rfl (i_range1 (by rfl) T.z_range (e_op (f := fAdd) or_add ok_add e_int (e_call (G 17) hr hgd (by rfl) T.m17 T.F17.kp T.b17 tk_fn (a_cons (ev 0) (a_cons (ev 2) a_nil))))) (gn 4 sc23.nd) (ss_cons (s_set (i := 5) sc23.nd rfl (.inl rfl) (e_call (G 18) hr hgd (by rfl) T.m18 T.F18.kp T.b18 tk_fn (a_cons (ev 0) (a_cons (e_lst (a_cons e_str (a_cons e_str (a_cons e_str (a_cons e_str a_nil))))) a_nil))))
    (ss_cons (s_set (i := 6) sc23.nd rfl (.inl rfl) (e_lst a_nil))
    (ss_cons (s_for (p := (.nm 7)) po_fn rfl (i_range1 (by rfl) T.z_range (e_if (t_cmp (f := (fEq true)) (op_eqD hr.units) ok_eq (ev 5) e_str) e_int e_int)) (gn 7 sc23.nd) (ss_one (s_expr (e_mt_append (ev 6) (a_cons (e_if (t_cmp (f := (fIB fun i j => decide (j < i))) op_gt ok_IB (e_call (G 17) hr hgd (by rfl) T.m17 T.F17.kp T.b17 tk_fn (a_cons (ev 0) (a_cons e_int a_nil))) e_int) (e_tup (a_cons e_str (a_cons (e_call (G 18) hr hgd (by rfl) T.m18 T.F18.kp T.b18 tk_fn (a_cons (ev 0) (a_cons (ev 1) a_nil))) a_nil))) (e_call (G 18) hr hgd (by rfl) T.m18 T.F18.kp T.b18 tk_fn (a_cons (ev 0) (a_cons (e_lst (a_cons e_str (a_cons e_int (a_cons e_int a_nil)))) a_nil)))) a_nil)))))
    (ss_one (s_expr (e_mt_append (ev 3) (a_cons (e_tup (a_cons (ev 5) (a_cons (e_callTy (f := (fA1 fTuple)) call_tupleF ok_tuple (by rfl) T.z_tuple boot_ty_tuple (a_cons (ev 6) a_nil)) a_nil))) a_nil))))))))
    (ss_one (s_ret (e_callTy (f := (fA1 fTuple)) call_tupleF ok_tuple (by rfl) T.z_tuple boot_ty_tuple (a_cons (e_call (G 20) hr hgd (by rfl) T.m20 T.F20.kp T.b20 tk_fn (a_cons (e_comp (own := [("k", 4), ("fact", 8)]) (p := (.tp [(.nm 4), (.nm 8)])) rfl sc23.nd (i_enum (by rfl) T.z_enumerate (ev 3)) (blkOk_by (by kernel_rfl)) (fun _ _ _ _ _ => (g_tp rfl (gs_cons (gn 4 sc23.nd) (gs_cons (gn 8 sc23.nd) gs_nil)))) (fun _ _ _ _ _ => (ts_one (t_cmp (f := fNotInA) (or_notIn hr) ok_notInA (ev 8) (e_sl (ev 3) o_none (o_some (ev 4)))))) (fun _ _ _ _ _ => (ev 8))) (a_cons (e_glob (v := .ref _) (d := .glo "_law_facts_key") (by rfl) T.m22 rfl (fun _ _ => .glo T.m22)) a_nil))) a_nil))))))) (by omega)
theorem d27 (T : Fx g fa fd cc) (G : ∀ i, FnG g base k (fa i) (fd i) (psOf i) (Γ i)) : FnG g base (k + 4) (fa 27) (fd 27) (psOf 27) (bodyG 4 2 (b_law_own Γ)) :=
  FnG.mono (fun_G (k := k) (N := ["tree", "k", "mine", "name"]) (ps := ["tree", "k"]) T.F27 sc27 fun cdv A outer s H E hr hgd hr2 =>
    (ss_cons (s_set (i := 2) sc27.nd rfl (.inl rfl) (e_call (G 24) hr hgd (by rfl) T.m24 T.F24.kp T.b24 tk_fn (a_cons (e_ix (e_ix (ev 0) (ev 1)) e_int) a_nil)))
    (ss_one (s_ret (e_if (t_cmp (f := (fEq true)) (op_eqD hr.units) ok_eq (ev 1) e_int) (ev 2) (e_comp (own := [("name", 3)]) (p := (.nm 3)) rfl sc27.nd (i_seq (ev 2)) (blkOk_by (by kernel_rfl)) (fun _ _ _ _ _ => (gn 3 sc27.nd)) (fun _ _ _ _ _ => (ts_one (t_cmp (f := fNotInA) (or_notIn hr) ok_notInA (ev 3) (e_call (G 24) hr hgd (by rfl) T.m24 T.F24.kp T.b24 tk0 (a_cons (e_ix (e_ix (ev 0) (e_ix (e_ix (ev 0) (ev 1)) e_int)) e_int) a_nil))))) (fun _ _ _ _ _ => (ev 3)))))))) (by omega)
theorem d31 (T : Fx g fa fd cc) (TB : LamX.TabB base g.mg (cc 0) (pp 0)) (htb : tb.getD 0 .off = .tab (pp 0) (("law" ++ ".<locals>.") ++ "<lambda>")) (G : ∀ i, FnG g base k (fa i) (fd i) (psOf i) (Γ i)) (GT : ∀ i, FnT g base (k + 1) (fa i) (TG Γ i)) : FnG g base (k + 4) (fa 31) (fd 31) (psOf 31) (bodyG 18 1 (b_law Γ tb)) :=
  fun_GT (k := k + 3) (N := ["script", "bag", "lap", "tree", "k", "truth", "told", "odd", "heard", "act", "its", "under", "found", "name", "mine", "way", "tops", "n"]) (ps := ["script"]) T.F31 T.k0 sc31 fun A outer s H E hr1 hgd hr23 =>
    have hr := hr1.mono (Nat.le_add_right k 3)
    have hr2 := hr23.mono (show k + 1 ≤ k + 3 by omega)
    have hrT : Room (k + 1 + 2) _ := hr1
    (ss_cons (s_set (i := 1) sc31.nd rfl (.inr rfl) (e_call (G 16) hr hgd (by rfl) T.m16 T.F16.kp T.b16 tk_fn (a_cons (ev 0) a_nil)))
    (ss_cons (s_for (p := (.nm 2)) po_fn rfl (i_range1 (by rfl) T.z_range e_int) (gn 2 sc31.nd) (ss_cons (s_set (i := 3) sc31.nd rfl (.inr rfl) (e_call (G 26) hr hgd (by rfl) T.m26 T.F26.kp T.b26 tk_fn (a_cons (ev 1) a_nil)))
    (ss_cons (s_for (p := (.nm 4)) po_fn rfl (i_range1 (by rfl) T.z_range (e_callB (f := (fA1 fLen)) c_len ok_len (by rfl) T.z_len boot_len (a_cons (ev 3) a_nil))) (gn 4 sc31.nd) (ss_cons (s_par (i := 14) (j := 15) rfl sc31.nd rfl rfl (by decide) rfl rfl (a_cons (e_call (G 24) hr hgd (by rfl) T.m24 T.F24.kp T.b24 tk_fn (a_cons (e_ix (e_ix (ev 3) (ev 4)) e_int) a_nil)) (a_cons (e_call (G 29) hr hgd (by rfl) T.m29 T.F29.kp T.b29 tk_fn (a_cons (ev 3) (a_cons (ev 4) a_nil))) a_nil)))
    (ss_cons (s_set (i := 10) sc31.nd rfl (.inl rfl) (e_callTy (f := (fA1 fTuple)) call_tupleF ok_tuple (by rfl) T.z_tuple boot_ty_tuple (a_cons (e_comp (own := [("n", 17)]) (p := (.nm 17)) rfl sc31.nd (i_range1 (by rfl) T.z_range (e_callB (f := (fA1 fLen)) c_len ok_len (by rfl) T.z_len boot_len (a_cons (ev 3) a_nil))) (blkOk_by (by kernel_rfl)) (fun _ _ _ _ _ => (gn 17 sc31.nd)) (fun _ _ _ _ _ => (ts_one (PW.pt (w_and (t_cmp (f := (fIB fun i j => decide (j < i))) op_gt ok_IB (ev 17) e_int) (w_one (t_cmp (f := (fEq true)) (op_eqD hr.units) ok_eq (e_ix (e_ix (ev 3) (ev 17)) e_int) (ev 4))))))) (fun _ _ _ _ _ => (ev 17))) a_nil)))
    (ss_cons (s_set (i := 11) sc31.nd rfl (.inl rfl) (e_callTy (f := (fA1 fTuple)) call_tupleF ok_tuple (by rfl) T.z_tuple boot_ty_tuple (a_cons (e_comp (own := [("n", 17)]) (p := (.nm 17)) rfl sc31.nd (i_range1 (by rfl) T.z_range (e_callB (f := (fA1 fLen)) c_len ok_len (by rfl) T.z_len boot_len (a_cons (ev 3) a_nil))) (blkOk_by (by kernel_rfl)) (fun _ _ _ _ _ => (gn 17 sc31.nd)) (fun _ _ _ _ _ => (ts_one (t_cmp (f := fInA) (or_in hr) ok_inA (ev 4) (e_call (G 29) hr hgd (by rfl) T.m29 T.F29.kp T.b29 tk0 (a_cons (ev 3) (a_cons (ev 17) a_nil)))))) (fun _ _ _ _ _ => (ev 17))) a_nil)))
    (ss_cons (s_set (i := 12) sc31.nd rfl (.inl rfl) (e_lst (a_cons (e_call (G 8) hr hgd (by rfl) T.m8 T.F8.kp T.b8 tk_fn (a_cons (ev 3) (a_cons (ev 4) a_nil))) (a_cons (e_call (G 9) hr hgd (by rfl) T.m9 T.F9.kp T.b9 tk_fn (a_cons (ev 3) (a_cons (ev 4) a_nil))) (a_cons (e_call (G 13) hr hgd (by rfl) T.m13 T.F13.kp T.b13 tk_fn (a_cons (ev 3) (a_cons (ev 4) a_nil))) (a_cons (e_call (G 14) hr hgd (by rfl) T.m14 T.F14.kp T.b14 tk_fn (a_cons (ev 3) (a_cons (ev 4) a_nil))) (a_cons (e_call (G 15) hr hgd (by rfl) T.m15 T.F15.kp T.b15 tk_fn (a_cons (ev 3) (a_cons (ev 4) a_nil))) a_nil)))))))
    (ss_cons (s_if (t_not (t_val (e_call (G 19) hr hgd (by rfl) T.m19 T.F19.kp T.b19 tk_fn (a_cons (ev 12) (a_cons (e_lst (a_cons (e_callTy (f := (fA1 fTuple)) call_tupleF ok_tuple (by rfl) T.z_tuple boot_ty_tuple (a_cons (ev 14) a_nil)) (a_cons (e_callTy (f := (fA1 fTuple)) call_tupleF ok_tuple (by rfl) T.z_tuple boot_ty_tuple (a_cons (e_call (G 27) hr hgd (by rfl) T.m27 T.F27.kp T.b27 tk_fn (a_cons (ev 3) (a_cons (ev 4) a_nil))) a_nil)) (a_cons (ev 15) (a_cons (ev 10) (a_cons (ev 11) a_nil)))))) a_nil))))) (ss_one (s_ret e_bl)) ss_nil)
    (ss_one (s_for (p := (.nm 13)) po_fn rfl (i_seq (ev 14)) (gn 13 sc31.nd) (ss_cons (s_set (i := 16) sc31.nd rfl (.inl rfl) (e_callB (f := fSorted) (cr_srt hr) ok_srt (by rfl) T.z_sorted boot_sorted (a_cons (e_comp (own := [("n", 17)]) (p := (.nm 17)) rfl sc31.nd (i_range1 (by rfl) T.z_range (e_callB (f := (fA1 fLen)) c_len ok_len (by rfl) T.z_len boot_len (a_cons (ev 3) a_nil))) (blkOk_by (by kernel_rfl)) (fun _ _ _ _ _ => (gn 17 sc31.nd)) (fun _ _ _ _ _ => (ts_one (t_cmp (f := fInA) (or_in hr) ok_inA (ev 13) (e_call (G 24) hr hgd (by rfl) T.m24 T.F24.kp T.b24 tk0 (a_cons (e_ix (e_ix (ev 3) (ev 17)) e_int) a_nil))))) (fun _ _ _ _ _ => (e_tup (a_cons (e_callB (f := (fA1 fLen)) c_len ok_len (by rfl) T.z_len boot_len (a_cons (e_call (G 29) hr hgd (by rfl) T.m29 T.F29.kp T.b29 tk0 (a_cons (ev 3) (a_cons (ev 17) a_nil))) a_nil)) (a_cons (ev 17) a_nil))))) a_nil)))
    (ss_one (s_if (t_not (t_val (e_call (G 19) hr hgd (by rfl) T.m19 T.F19.kp T.b19 tk_fn (a_cons (e_call (G 10) hr hgd (by rfl) T.m10 T.F10.kp T.b10 tk_fn (a_cons (ev 3) (a_cons (ev 13) a_nil))) (a_cons (e_ix (e_ix (ev 16) e_int) e_int) a_nil))))) (ss_one (s_ret e_bl)) ss_nil)))))))))))
    (ss_cons (s_set (i := 5) sc31.nd rfl (.inl rfl) (e_call (G 28) hr hgd (by rfl) T.m28 T.F28.kp T.b28 tk_fn (a_cons (ev 3) a_nil)))
    (ss_cons (s_set (i := 6) sc31.nd rfl (.inl rfl) (e_thunk (n := 0) (o := tb.getD 0 .off) htb (GT 30) hrT hgd (by rfl) T.m30 T.F30.kp tk_fn TB rfl (LamX.lamS_by (sc := defScope s31) (by decide +kernel)) (by rfl) (by intro _ _ _ _ _; rfl) (fun f c' A outer s H E hr9 hgd => have hr := hr9.mono (Nat.le_succ k); (e_call (G 12) hr hgd (by rfl) T.m12 T.F12.kp T.b12 tk_lam (a_cons (ev 3) a_nil)))))
    (ss_cons (s_if (PW.pt (w_or (t_not (t_val (e_call (G 19) hr hgd (by rfl) T.m19 T.F19.kp T.b19 tk_fn (a_cons (e_call (G 11) hr hgd (by rfl) T.m11 T.F11.kp T.b11 tk_fn (a_cons (ev 3) a_nil)) (a_cons (ev 5) a_nil))))) (w_one (t_cmp (f := (fEq false)) (op_neD hr.units) ok_ne (e_cmp (f := (fEq true)) (op_eqD hr.units) ok_eq (ev 6) (e_tup (a_cons e_str a_nil))) (e_not (ev 5)))))) (ss_one (s_ret e_bl)) ss_nil)
    (ss_cons (s_set (i := 7) sc31.nd rfl (.inr rfl) (e_call (G 18) hr hgd (by rfl) T.m18 T.F18.kp T.b18 tk_fn (a_cons (ev 1) (a_cons (e_lst (a_cons (e_un un_neg ok_neg e_int) (a_cons (e_callB (f := (fA1 fLen)) c_len ok_len (by rfl) T.z_len boot_len (a_cons (ev 3) a_nil)) (a_cons e_bl (a_cons e_non (a_cons e_str a_nil)))))) a_nil))))
    (ss_cons (s_set (i := 8) sc31.nd rfl (.inl rfl) (e_lst a_nil))
    (ss_cons (s_for (p := (.nm 9)) po_fn rfl (i_seq (e_tup (a_cons (e_glob (v := .ref _) (d := .glo "node_variables") (by rfl) T.m8 rfl (fun _ _ => .glo T.m8)) (a_cons (e_glob (v := .ref _) (d := .glo "own_variables") (by rfl) T.m9 rfl (fun _ _ => .glo T.m9)) (a_cons (e_glob (v := .ref _) (d := .glo "way_to") (by rfl) T.m13 rfl (fun _ _ => .glo T.m13)) (a_cons (e_glob (v := .ref _) (d := .glo "inner_nodes") (by rfl) T.m14 rfl (fun _ _ => .glo T.m14)) (a_cons (e_glob (v := .ref _) (d := .glo "below") (by rfl) T.m15 rfl (fun _ _ => .glo T.m15)) a_nil))))))) (gn 9 sc31.nd) (ss_one (s_expr (e_mt_append (ev 8) (a_cons (e_thunk (n := 0) (o := tb.getD 0 .off) htb (GT 30) hrT hgd (by rfl) T.m30 T.F30.kp tk_fn TB rfl (LamX.lamS_by (sc := defScope s31) (by decide +kernel)) (by rfl) (by intro _ _ _ _ _; rfl) (fun f c' A outer s H E hr9 hgd => have hr := hr9.mono (Nat.le_succ k); (e_callV (i := 9) (.add (G 8) hr T.m8 T.F8.kp T.b8 (.add (G 9) hr T.m9 T.F9.kp T.b9 (.add (G 13) hr T.m13 T.F13.kp T.b13 (.add (G 14) hr T.m14 T.F14.kp T.b14 (.add (G 15) hr T.m15 T.F15.kp T.b15 (.add (G 22) hr T.m22 T.F22.kp T.b22 .nil)))))) hgd tk_lam (a_cons (ev 3) (a_cons (ev 7) a_nil))))) a_nil)))))
    (ss_cons (s_expr (e_mt_append (ev 8) (a_cons (e_thunk (n := 0) (o := tb.getD 0 .off) htb (GT 30) hrT hgd (by rfl) T.m30 T.F30.kp tk_fn TB rfl (LamX.lamS_by (sc := defScope s31) (by decide +kernel)) (by rfl) (by intro _ _ _ _ _; rfl) (fun f c' A outer s H E hr9 hgd => have hr := hr9.mono (Nat.le_succ k); (e_call (G 10) hr hgd (by rfl) T.m10 T.F10.kp T.b10 tk_lam (a_cons (ev 3) (a_cons (e_call (G 18) hr hgd (by rfl) T.m18 T.F18.kp T.b18 tk_lam (a_cons (ev 1) (a_cons (e_lst (a_cons e_str (a_cons e_non (a_cons e_int (a_cons e_str a_nil))))) a_nil))) a_nil))))) a_nil)))
    (ss_one (s_if (t_cmp (f := (fEq false)) (op_neD hr.units) ok_ne (ev 8) (e_op (f := fRepL) op_rep ok_rep (e_lst (a_cons (e_tup (a_cons e_str a_nil)) a_nil)) e_int)) (ss_one (s_ret e_bl)) ss_nil))))))))))))
    (ss_one (s_ret e_bl))))
end Zz
set_option Elab.async false
set_option linter.all false
set_option maxRecDepth 100000
set_option maxHeartbeats 0
namespace Zz
open PySem PySem.Spec PyProof.Rows L2
/-! ### the head -/
def nmL : List Str := ["is_number", "is_index", "is_name", "is_sized", "is_var", "variables", "variables_by_node", "check_node", "node_variables", "own_variables", "first_node", "is_plain", "check_plain", "way_to", "inner_nodes", "below", "_law_bag", "_law_take", "_law_some", "_law_alike", "_law_by", "_law_value_key", "_law_facts_key", "_law_facts", "_law_variables", "_law_tree", "_law_any_tree", "_law_own", "_law_is_plain", "_law_way", "_law_heard", "law"]
def nm (i : Nat) : Str := nmL.getD i ""
def de0 : He.DefD := ⟨("is_number", none), "is_number", "is_number", defArgs s0, defBody s0, defScope s0, [], []⟩
def de1 : He.DefD := ⟨("is_index", none), "is_index", "is_index", defArgs s1, defBody s1, defScope s1, [], []⟩
def de2 : He.DefD := ⟨("is_name", none), "is_name", "is_name", defArgs s2, defBody s2, defScope s2, [], []⟩
def de3 : He.DefD := ⟨("is_sized", none), "is_sized", "is_sized", defArgs s3, defBody s3, defScope s3, [], []⟩
def de4 : He.DefD := ⟨("is_var", none), "is_var", "is_var", defArgs s4, defBody s4, defScope s4, [], []⟩
def de5 : He.DefD := ⟨("variables", none), "variables", "variables", defArgs s5, defBody s5, defScope s5, [], []⟩
def de6 : He.DefD := ⟨("variables_by_node", none), "variables_by_node", "variables_by_node", defArgs s6, defBody s6, defScope s6, [], []⟩
def de7 : He.DefD := ⟨("check_node", none), "check_node", "check_node", defArgs s7, defBody s7, defScope s7, [], []⟩
def de8 : He.DefD := ⟨("node_variables", none), "node_variables", "node_variables", defArgs s8, defBody s8, defScope s8, [], []⟩
def de9 : He.DefD := ⟨("own_variables", none), "own_variables", "own_variables", defArgs s9, defBody s9, defScope s9, [], []⟩
def de10 : He.DefD := ⟨("first_node", none), "first_node", "first_node", defArgs s10, defBody s10, defScope s10, [], []⟩
def de11 : He.DefD := ⟨("is_plain", none), "is_plain", "is_plain", defArgs s11, defBody s11, defScope s11, [], []⟩
def de12 : He.DefD := ⟨("check_plain", none), "check_plain", "check_plain", defArgs s12, defBody s12, defScope s12, [], []⟩
def de13 : He.DefD := ⟨("way_to", none), "way_to", "way_to", defArgs s13, defBody s13, defScope s13, [], []⟩
def de14 : He.DefD := ⟨("inner_nodes", none), "inner_nodes", "inner_nodes", defArgs s14, defBody s14, defScope s14, [], []⟩
def de15 : He.DefD := ⟨("below", none), "below", "below", defArgs s15, defBody s15, defScope s15, [], []⟩
def de16 : He.DefD := ⟨("_law_bag", none), "_law_bag", "_law_bag", defArgs s16, defBody s16, defScope s16, [], []⟩
def de17 : He.DefD := ⟨("_law_take", none), "_law_take", "_law_take", defArgs s17, defBody s17, defScope s17, [], []⟩
def de18 : He.DefD := ⟨("_law_some", none), "_law_some", "_law_some", defArgs s18, defBody s18, defScope s18, [], []⟩
def de19 : He.DefD := ⟨("_law_alike", none), "_law_alike", "_law_alike", defArgs s19, defBody s19, defScope s19, [], []⟩
def de20 : He.DefD := ⟨("_law_by", none), "_law_by", "_law_by", defArgs s20, defBody s20, defScope s20, [], []⟩
def de21 : He.DefD := ⟨("_law_value_key", none), "_law_value_key", "_law_value_key", defArgs s21, defBody s21, defScope s21, [], []⟩
def de22 : He.DefD := ⟨("_law_facts_key", none), "_law_facts_key", "_law_facts_key", defArgs s22, defBody s22, defScope s22, [], []⟩
def de23 : He.DefD := ⟨("_law_facts", none), "_law_facts", "_law_facts", defArgs s23, defBody s23, defScope s23, [], []⟩
def de24 : He.DefD := ⟨("_law_variables", none), "_law_variables", "_law_variables", defArgs s24, defBody s24, defScope s24, [], []⟩
def de25 : He.DefD := ⟨("_law_tree", none), "_law_tree", "_law_tree", defArgs s25, defBody s25, defScope s25, [], []⟩
def de26 : He.DefD := ⟨("_law_any_tree", none), "_law_any_tree", "_law_any_tree", defArgs s26, defBody s26, defScope s26, [], []⟩
def de27 : He.DefD := ⟨("_law_own", none), "_law_own", "_law_own", defArgs s27, defBody s27, defScope s27, [], []⟩
def de28 : He.DefD := ⟨("_law_is_plain", none), "_law_is_plain", "_law_is_plain", defArgs s28, defBody s28, defScope s28, [], []⟩
def de29 : He.DefD := ⟨("_law_way", none), "_law_way", "_law_way", defArgs s29, defBody s29, defScope s29, [], []⟩
def de30 : He.DefD := ⟨("_law_heard", none), "_law_heard", "_law_heard", defArgs s30, defBody s30, defScope s30, [], []⟩
def de31 : He.DefD := ⟨("law", none), "law", "law", defArgs s31, defBody s31, defScope s31, [], []⟩
def fnL : List He.DefD := [de0, de1, de2, de3, de4, de5, de6, de7, de8, de9, de10, de11, de12, de13, de14, de15, de16, de17, de18, de19, de20, de21, de22, de23, de24, de25, de26, de27, de28, de29, de30, de31]
def faL : List He.Fa := [.glo "is_number", .glo "is_index", .glo "is_name", .glo "is_sized", .glo "is_var", .glo "variables", .glo "variables_by_node", .glo "check_node", .glo "node_variables", .glo "own_variables", .glo "first_node", .glo "is_plain", .glo "check_plain", .glo "way_to", .glo "inner_nodes", .glo "below", .glo "_law_bag", .glo "_law_take", .glo "_law_some", .glo "_law_alike", .glo "_law_by", .glo "_law_value_key", .glo "_law_facts_key", .glo "_law_facts", .glo "_law_variables", .glo "_law_tree", .glo "_law_any_tree", .glo "_law_own", .glo "_law_is_plain", .glo "_law_way", .glo "_law_heard", .glo "law", .free "abs", .free "all", .free "bool", .free "enumerate", .free "int", .free "isinstance", .free "len", .free "list", .free "range", .free "repr", .free "set", .free "sorted", .free "str", .free "tuple", .glo "Nothing", .exc "Nothing", .exm "Nothing" "Nothing" true, .str "DIGITS" "0123456789", .str "LETTERS" "abcdefghijklmnopqrstuvwxyz", .int "MOST_LETTERS" 8, .glo "RESERVED"]
def xs_RESERVED : List Str := ["and", "answer", "data", "fact", "if", "in", "is", "maybe", "no", "node", "of", "question", "rule", "some", "the", "there", "var", "with"]
def tfL : List He.Defn := [("law", none)]
def exB (K : PySem.W.Frag) : Bool := decide ((tfL.map fun p => (He.cT K p).2).Nodup) && tupZ K "RESERVED" (xs_RESERVED.map He.Dv.str)
def exB_all {K : PySem.W.Frag} (h : exB K = true) : (tfL.map fun p => (He.cT K p).2).Nodup ∧ tupZ K "RESERVED" (xs_RESERVED.map He.Dv.str) = true := by
  unfold exB at h
  simp only [Bool.and_eq_true, decide_eq_true_eq] at h
  exact h
abbrev RR : PySem.W.OpenRow := PySem.W.OpenLaw.row PySem.Challenge.rw_maybeparts_k26_words_of_trees
def lo0 : List PySem.Str := ["__name__", "LETTERS", "DIGITS", "MOST_LETTERS", "RESERVED", "_wall", "MaybeError", "Nothing", "is_number", "is_index", "is_name", "is_sized", "is_var", "variables", "variables_by_node", "check_node", "node_variables", "own_variables", "first_node", "is_plain", "check_plain", "way_to", "inner_nodes", "below", "_law_bag", "_law_take", "_law_some", "_law_alike", "_law_by", "_law_value_key"]
def lo1 : List PySem.Str := ["_law_facts_key", "_law_facts", "_law_variables", "_law_tree", "_law_any_tree", "_law_own", "_law_is_plain", "_law_way", "_law_heard"]
def loL : List PySem.Str := lo0 ++ lo1
abbrev hk : PySem.W.Hook := He.hookX 3 faL fnL [] tfL exB
def ob (s : PySem.W.SharedT) : He.AlX := He.obsX 3 faL fnL [] tfL exB (HandSHeadRun.getT s)
theorem ob_eq (s : PySem.W.SharedT) : ob s = hk.obs s.abs := He.obsX_eq (HandSHeadRun.getT_eq s)
theorem run (w : World) : HandSHeadRun.RunEq RR (PySem.W.view RR.prog [43]) hk ob 4000 loL w := by
  intro os
  kernel_rfl
/-! ### the facts -/
theorem facts {P : Program} {w : World} {K : PySem.W.Frag} {h : Heap} {mg : Str → Option Value} (X : K.In h) (Gn : h.Ns mainGlobals mg) (c : He.SaysX faL fnL [] tfL exB w h K) :
    ∃ fd : Nat → FuncData, Fx ⟨P, w, K, mg⟩ (fun i => He.ga K (nm i)) fd (fun m => (He.cT K (tfL.getD m ("", none))).1) := by
  obtain ⟨f0, D0⟩ := c.t.d.def_ 0 (d := de0) rfl
  have F0 := He5.fun_of (st := s0) D0
  obtain ⟨f1, D1⟩ := c.t.d.def_ 1 (d := de1) rfl
  have F1 := He5.fun_of (st := s1) D1
  obtain ⟨f2, D2⟩ := c.t.d.def_ 2 (d := de2) rfl
  have F2 := He5.fun_of (st := s2) D2
  obtain ⟨f3, D3⟩ := c.t.d.def_ 3 (d := de3) rfl
  have F3 := He5.fun_of (st := s3) D3
  obtain ⟨f4, D4⟩ := c.t.d.def_ 4 (d := de4) rfl
  have F4 := He5.fun_of (st := s4) D4
  obtain ⟨f5, D5⟩ := c.t.d.def_ 5 (d := de5) rfl
  have F5 := He5.fun_of (st := s5) D5
  obtain ⟨f6, D6⟩ := c.t.d.def_ 6 (d := de6) rfl
  have F6 := He5.fun_of (st := s6) D6
  obtain ⟨f7, D7⟩ := c.t.d.def_ 7 (d := de7) rfl
  have F7 := He5.fun_of (st := s7) D7
  obtain ⟨f8, D8⟩ := c.t.d.def_ 8 (d := de8) rfl
  have F8 := He5.fun_of (st := s8) D8
  obtain ⟨f9, D9⟩ := c.t.d.def_ 9 (d := de9) rfl
  have F9 := He5.fun_of (st := s9) D9
  obtain ⟨f10, D10⟩ := c.t.d.def_ 10 (d := de10) rfl
  have F10 := He5.fun_of (st := s10) D10
  obtain ⟨f11, D11⟩ := c.t.d.def_ 11 (d := de11) rfl
  have F11 := He5.fun_of (st := s11) D11
  obtain ⟨f12, D12⟩ := c.t.d.def_ 12 (d := de12) rfl
  have F12 := He5.fun_of (st := s12) D12
  obtain ⟨f13, D13⟩ := c.t.d.def_ 13 (d := de13) rfl
  have F13 := He5.fun_of (st := s13) D13
  obtain ⟨f14, D14⟩ := c.t.d.def_ 14 (d := de14) rfl
  have F14 := He5.fun_of (st := s14) D14
  obtain ⟨f15, D15⟩ := c.t.d.def_ 15 (d := de15) rfl
  have F15 := He5.fun_of (st := s15) D15
  obtain ⟨f16, D16⟩ := c.t.d.def_ 16 (d := de16) rfl
  have F16 := He5.fun_of (st := s16) D16
  obtain ⟨f17, D17⟩ := c.t.d.def_ 17 (d := de17) rfl
  have F17 := He5.fun_of (st := s17) D17
  obtain ⟨f18, D18⟩ := c.t.d.def_ 18 (d := de18) rfl
  have F18 := He5.fun_of (st := s18) D18
  obtain ⟨f19, D19⟩ := c.t.d.def_ 19 (d := de19) rfl
  have F19 := He5.fun_of (st := s19) D19
  obtain ⟨f20, D20⟩ := c.t.d.def_ 20 (d := de20) rfl
  have F20 := He5.fun_of (st := s20) D20
  obtain ⟨f21, D21⟩ := c.t.d.def_ 21 (d := de21) rfl
  have F21 := He5.fun_of (st := s21) D21
  obtain ⟨f22, D22⟩ := c.t.d.def_ 22 (d := de22) rfl
  have F22 := He5.fun_of (st := s22) D22
  obtain ⟨f23, D23⟩ := c.t.d.def_ 23 (d := de23) rfl
  have F23 := He5.fun_of (st := s23) D23
  obtain ⟨f24, D24⟩ := c.t.d.def_ 24 (d := de24) rfl
  have F24 := He5.fun_of (st := s24) D24
  obtain ⟨f25, D25⟩ := c.t.d.def_ 25 (d := de25) rfl
  have F25 := He5.fun_of (st := s25) D25
  obtain ⟨f26, D26⟩ := c.t.d.def_ 26 (d := de26) rfl
  have F26 := He5.fun_of (st := s26) D26
  obtain ⟨f27, D27⟩ := c.t.d.def_ 27 (d := de27) rfl
  have F27 := He5.fun_of (st := s27) D27
  obtain ⟨f28, D28⟩ := c.t.d.def_ 28 (d := de28) rfl
  have F28 := He5.fun_of (st := s28) D28
  obtain ⟨f29, D29⟩ := c.t.d.def_ 29 (d := de29) rfl
  have F29 := He5.fun_of (st := s29) D29
  obtain ⟨f30, D30⟩ := c.t.d.def_ 30 (d := de30) rfl
  have F30 := He5.fun_of (st := s30) D30
  obtain ⟨f31, D31⟩ := c.t.d.def_ 31 (d := de31) rfl
  have F31 := He5.fun_of (st := s31) D31
  obtain ⟨_, hx_RESERVED⟩ := exB_all c.more
  refine ⟨fun i => ([f0, f1, f2, f3, f4, f5, f6, f7, f8, f9, f10, f11, f12, f13, f14, f15, f16, f17, f18, f19, f20, f21, f22, f23, f24, f25, f26, f27, f28, f29, f30, f31] : List FuncData).getD i f0, ?_⟩
  exact {
    F0 := F0
    m0 := He.glo_ok X Gn (c.t.d.fact 0 (f := .glo "is_number") rfl)
    b0 := F0.binds (ps := ["thing"]) fun _ _ _ _ _ _ us hl => match us, hl with | [_], _ => rfl
    F1 := F1
    m1 := He.glo_ok X Gn (c.t.d.fact 1 (f := .glo "is_index") rfl)
    b1 := F1.binds (ps := ["thing"]) fun _ _ _ _ _ _ us hl => match us, hl with | [_], _ => rfl
    F2 := F2
    m2 := He.glo_ok X Gn (c.t.d.fact 2 (f := .glo "is_name") rfl)
    b2 := F2.binds (ps := ["thing"]) fun _ _ _ _ _ _ us hl => match us, hl with | [_], _ => rfl
    F3 := F3
    m3 := He.glo_ok X Gn (c.t.d.fact 3 (f := .glo "is_sized") rfl)
    b3 := F3.binds (ps := ["thing", "many"]) fun _ _ _ _ _ _ us hl => match us, hl with | [_, _], _ => rfl
    F4 := F4
    m4 := He.glo_ok X Gn (c.t.d.fact 4 (f := .glo "is_var") rfl)
    b4 := F4.binds (ps := ["thing"]) fun _ _ _ _ _ _ us hl => match us, hl with | [_], _ => rfl
    F5 := F5
    m5 := He.glo_ok X Gn (c.t.d.fact 5 (f := .glo "variables") rfl)
    b5 := F5.binds (ps := ["facts"]) fun _ _ _ _ _ _ us hl => match us, hl with | [_], _ => rfl
    F6 := F6
    m6 := He.glo_ok X Gn (c.t.d.fact 6 (f := .glo "variables_by_node") rfl)
    b6 := F6.binds (ps := ["tree"]) fun _ _ _ _ _ _ us hl => match us, hl with | [_], _ => rfl
    F7 := F7
    m7 := He.glo_ok X Gn (c.t.d.fact 7 (f := .glo "check_node") rfl)
    b7 := F7.binds (ps := ["tree", "node"]) fun _ _ _ _ _ _ us hl => match us, hl with | [_, _], _ => rfl
    F8 := F8
    m8 := He.glo_ok X Gn (c.t.d.fact 8 (f := .glo "node_variables") rfl)
    b8 := F8.binds (ps := ["tree", "node"]) fun _ _ _ _ _ _ us hl => match us, hl with | [_, _], _ => rfl
    F9 := F9
    m9 := He.glo_ok X Gn (c.t.d.fact 9 (f := .glo "own_variables") rfl)
    b9 := F9.binds (ps := ["tree", "node"]) fun _ _ _ _ _ _ us hl => match us, hl with | [_, _], _ => rfl
    F10 := F10
    m10 := He.glo_ok X Gn (c.t.d.fact 10 (f := .glo "first_node") rfl)
    b10 := F10.binds (ps := ["tree", "variable"]) fun _ _ _ _ _ _ us hl => match us, hl with | [_, _], _ => rfl
    F11 := F11
    m11 := He.glo_ok X Gn (c.t.d.fact 11 (f := .glo "is_plain") rfl)
    b11 := F11.binds (ps := ["tree"]) fun _ _ _ _ _ _ us hl => match us, hl with | [_], _ => rfl
    F12 := F12
    m12 := He.glo_ok X Gn (c.t.d.fact 12 (f := .glo "check_plain") rfl)
    b12 := F12.binds (ps := ["tree"]) fun _ _ _ _ _ _ us hl => match us, hl with | [_], _ => rfl
    F13 := F13
    m13 := He.glo_ok X Gn (c.t.d.fact 13 (f := .glo "way_to") rfl)
    b13 := F13.binds (ps := ["tree", "node"]) fun _ _ _ _ _ _ us hl => match us, hl with | [_, _], _ => rfl
    F14 := F14
    m14 := He.glo_ok X Gn (c.t.d.fact 14 (f := .glo "inner_nodes") rfl)
    b14 := F14.binds (ps := ["tree", "node"]) fun _ _ _ _ _ _ us hl => match us, hl with | [_, _], _ => rfl
    F15 := F15
    m15 := He.glo_ok X Gn (c.t.d.fact 15 (f := .glo "below") rfl)
    b15 := F15.binds (ps := ["tree", "node"]) fun _ _ _ _ _ _ us hl => match us, hl with | [_, _], _ => rfl
    F16 := F16
    m16 := He.glo_ok X Gn (c.t.d.fact 16 (f := .glo "_law_bag") rfl)
    b16 := F16.binds (ps := ["script"]) fun _ _ _ _ _ _ us hl => match us, hl with | [_], _ => rfl
    F17 := F17
    m17 := He.glo_ok X Gn (c.t.d.fact 17 (f := .glo "_law_take") rfl)
    b17 := F17.binds (ps := ["bag", "many"]) fun _ _ _ _ _ _ us hl => match us, hl with | [_, _], _ => rfl
    F18 := F18
    m18 := He.glo_ok X Gn (c.t.d.fact 18 (f := .glo "_law_some") rfl)
    b18 := F18.binds (ps := ["bag", "things"]) fun _ _ _ _ _ _ us hl => match us, hl with | [_, _], _ => rfl
    F19 := F19
    m19 := He.glo_ok X Gn (c.t.d.fact 19 (f := .glo "_law_alike") rfl)
    b19 := F19.binds (ps := ["found", "due"]) fun _ _ _ _ _ _ us hl => match us, hl with | [_, _], _ => rfl
    F20 := F20
    m20 := He.glo_ok X Gn (c.t.d.fact 20 (f := .glo "_law_by") rfl)
    b20 := F20.binds (ps := ["things", "face"]) fun _ _ _ _ _ _ us hl => match us, hl with | [_, _], _ => rfl
    F21 := F21
    m21 := He.glo_ok X Gn (c.t.d.fact 21 (f := .glo "_law_value_key") rfl)
    b21 := F21.binds (ps := ["value"]) fun _ _ _ _ _ _ us hl => match us, hl with | [_], _ => rfl
    F22 := F22
    m22 := He.glo_ok X Gn (c.t.d.fact 22 (f := .glo "_law_facts_key") rfl)
    b22 := F22.binds (ps := ["fact"]) fun _ _ _ _ _ _ us hl => match us, hl with | [_], _ => rfl
    F23 := F23
    m23 := He.glo_ok X Gn (c.t.d.fact 23 (f := .glo "_law_facts") rfl)
    b23 := F23.binds (ps := ["bag", "names", "most"]) fun _ _ _ _ _ _ us hl => match us, hl with | [_, _, _], _ => rfl
    F24 := F24
    m24 := He.glo_ok X Gn (c.t.d.fact 24 (f := .glo "_law_variables") rfl)
    b24 := F24.binds (ps := ["facts"]) fun _ _ _ _ _ _ us hl => match us, hl with | [_], _ => rfl
    F25 := F25
    m25 := He.glo_ok X Gn (c.t.d.fact 25 (f := .glo "_law_tree") rfl)
    b25 := F25.binds (ps := ["bag", "most"]) fun _ _ _ _ _ _ us hl => match us, hl with | [_, _], _ => rfl
    F26 := F26
    m26 := He.glo_ok X Gn (c.t.d.fact 26 (f := .glo "_law_any_tree") rfl)
    b26 := F26.binds (ps := ["bag"]) fun _ _ _ _ _ _ us hl => match us, hl with | [_], _ => rfl
    F27 := F27
    m27 := He.glo_ok X Gn (c.t.d.fact 27 (f := .glo "_law_own") rfl)
    b27 := F27.binds (ps := ["tree", "k"]) fun _ _ _ _ _ _ us hl => match us, hl with | [_, _], _ => rfl
    F28 := F28
    m28 := He.glo_ok X Gn (c.t.d.fact 28 (f := .glo "_law_is_plain") rfl)
    b28 := F28.binds (ps := ["tree"]) fun _ _ _ _ _ _ us hl => match us, hl with | [_], _ => rfl
    F29 := F29
    m29 := He.glo_ok X Gn (c.t.d.fact 29 (f := .glo "_law_way") rfl)
    b29 := F29.binds (ps := ["tree", "k"]) fun _ _ _ _ _ _ us hl => match us, hl with | [_, _], _ => rfl
    F30 := F30
    m30 := He.glo_ok X Gn (c.t.d.fact 30 (f := .glo "_law_heard") rfl)
    b30 := F30.binds (ps := ["act"]) fun _ _ _ _ _ _ us hl => match us, hl with | [_], _ => rfl
    F31 := F31
    m31 := He.glo_ok X Gn (c.t.d.fact 31 (f := .glo "law") rfl)
    b31 := F31.binds (ps := ["script"]) fun _ _ _ _ _ _ us hl => match us, hl with | [_], _ => rfl
    k0 := code_at (p := ("law", none)) F31
    z_abs := He.free_ok X Gn (c.t.d.fact 32 (f := .free "abs") rfl)
    z_all := He.free_ok X Gn (c.t.d.fact 33 (f := .free "all") rfl)
    z_bool := He.free_ok X Gn (c.t.d.fact 34 (f := .free "bool") rfl)
    z_enumerate := He.free_ok X Gn (c.t.d.fact 35 (f := .free "enumerate") rfl)
    z_int := He.free_ok X Gn (c.t.d.fact 36 (f := .free "int") rfl)
    z_isinstance := He.free_ok X Gn (c.t.d.fact 37 (f := .free "isinstance") rfl)
    z_len := He.free_ok X Gn (c.t.d.fact 38 (f := .free "len") rfl)
    z_list := He.free_ok X Gn (c.t.d.fact 39 (f := .free "list") rfl)
    z_range := He.free_ok X Gn (c.t.d.fact 40 (f := .free "range") rfl)
    z_repr := He.free_ok X Gn (c.t.d.fact 41 (f := .free "repr") rfl)
    z_set := He.free_ok X Gn (c.t.d.fact 42 (f := .free "set") rfl)
    z_sorted := He.free_ok X Gn (c.t.d.fact 43 (f := .free "sorted") rfl)
    z_str := He.free_ok X Gn (c.t.d.fact 44 (f := .free "str") rfl)
    z_tuple := He.free_ok X Gn (c.t.d.fact 45 (f := .free "tuple") rfl)
    x_Nothing := exc_fact (He.glo_ok X Gn (c.t.d.fact 46 (f := .glo "Nothing") rfl)) (He.exc_ok (c.t.d.fact 47 (f := .exc "Nothing") rfl))
    cat_Nothing := fun x b h => by
      by_cases h_Nothing : x = "Nothing"
      · subst h_Nothing; have h2 : some true = some b := h; cases h2; exact ⟨_, _, He.glo_ok X Gn (c.t.d.fact 46 (f := .glo "Nothing") rfl), He.glo_ok X Gn (c.t.d.fact 46 (f := .glo "Nothing") rfl), He.exm_ok (c.t.d.fact 48 (f := .exm "Nothing" "Nothing" true) rfl)⟩
      · unfold catF_Nothing at h; simp only [h_Nothing, if_false] at h; cases h
    v_DIGITS := cst_str (He.str_ok X Gn (c.t.d.fact 49 (f := .str "DIGITS" "0123456789") rfl))
    v_LETTERS := cst_str (He.str_ok X Gn (c.t.d.fact 50 (f := .str "LETTERS" "abcdefghijklmnopqrstuvwxyz") rfl))
    v_MOST_LETTERS := cst_int (He.int_ok X Gn (c.t.d.fact 51 (f := .int "MOST_LETTERS" 8) rfl))
    v_RESERVED := cst_strs (xs := xs_RESERVED) (He.glo_ok X Gn (c.t.d.fact 52 (f := .glo "RESERVED") rfl)) hx_RESERVED }
/-! ### the levels -/
def qsL : List Str := [("law" ++ ".<locals>.") ++ "<lambda>"]
theorem gtT {g : G} {base : Heap} {k : Nat} {fa cc : Nat → Addr} {fd : Nat → FuncData} {Γ : Cs} (T : Fx g fa fd cc) (G : ∀ i, FnG g base k (fa i) (fd i) (psOf i) (Γ i)) (i : Nat) : FnT g base (k + 1) (fa i) (TG Γ i) := by
  by_cases h : i = 30
  · rcases h with rfl
    · exact d30 T G
  · have e : TG Γ i = fun _ _ _ _ _ => False := by
      unfold TG; split
      · exact absurd (by simp) h
      · rfl
    rw [e]; exact FnT.never
theorem lev {g : G} {base : Heap} {fa cc pp : Nat → Addr} {fd : Nat → FuncData} {tb : List MO} (T : Fx g fa fd cc) (TB : ∀ m, m < 1 → LamX.TabB base g.mg (cc m) (pp m)) (htb : ∀ m, m < 1 → tb.getD m .off = .tab (pp m) (qsL.getD m "")) : ∀ n i, FnG g base (4 * n) (fa i) (fd i) (psOf i) (Gm tb n i)
  | 0, i => FnG.never
  | n + 1, 0 => d0 T fun j => lev T TB htb n j
  | n + 1, 1 => d1 T fun j => lev T TB htb n j
  | n + 1, 2 => d2 T fun j => lev T TB htb n j
  | n + 1, 3 => d3 T fun j => lev T TB htb n j
  | n + 1, 4 => d4 T fun j => lev T TB htb n j
  | n + 1, 5 => d5 T fun j => lev T TB htb n j
  | n + 1, 6 => d6 T fun j => lev T TB htb n j
  | n + 1, 7 => d7 T fun j => lev T TB htb n j
  | n + 1, 8 => d8 T fun j => lev T TB htb n j
  | n + 1, 9 => d9 T fun j => lev T TB htb n j
  | n + 1, 10 => d10 T fun j => lev T TB htb n j
  | n + 1, 11 => d11 T fun j => lev T TB htb n j
  | n + 1, 12 => d12 T fun j => lev T TB htb n j
  | n + 1, 13 => d13 T fun j => lev T TB htb n j
  | n + 1, 14 => d14 T fun j => lev T TB htb n j
  | n + 1, 15 => d15 T fun j => lev T TB htb n j
  | n + 1, 16 => d16 T fun j => lev T TB htb n j
  | n + 1, 17 => d17 T fun j => lev T TB htb n j
  | n + 1, 18 => d18 T fun j => lev T TB htb n j
  | n + 1, 19 => d19 T fun j => lev T TB htb n j
  | n + 1, 20 => d20 T fun j => lev T TB htb n j
  | n + 1, 21 => d21 T fun j => lev T TB htb n j
  | n + 1, 22 => d22 T fun j => lev T TB htb n j
  | n + 1, 23 => d23 T fun j => lev T TB htb n j
  | n + 1, 24 => d24 T fun j => lev T TB htb n j
  | n + 1, 25 => d25 T fun j => lev T TB htb n j
  | n + 1, 26 => d26 T fun j => lev T TB htb n j
  | n + 1, 27 => d27 T fun j => lev T TB htb n j
  | n + 1, 28 => d28 T fun j => lev T TB htb n j
  | n + 1, 29 => d29 T fun j => lev T TB htb n j
  | _ + 1, 30 => FnG.never
  | n + 1, 31 => d31 T (TB 0 (by decide)) (htb 0 (by decide)) (fun j => lev T TB htb n j) (gtT T fun j => lev T TB htb n j)
  | _ + 1, _ + 32 => FnG.never
end Zz
set_option Elab.async false
set_option linter.all false
set_option maxRecDepth 100000
namespace Zz
open PySem PySem.Spec PyProof.Rows L2
/-! ### plain words -/
/-- all that stands stays -/
def Pf (S S' : Sto) : Prop := ∀ (i : Nat) (o : MO), S[i]? = some o → S'[i]? = some o
theorem Pf.refl (S : Sto) : Pf S S := fun _ _ h => h
theorem Pf.trans {S S1 S2 : Sto} (a : Pf S S1) (b : Pf S1 S2) : Pf S S2 := fun i o h => b i o (a i o h)
theorem Pf.app (S : Sto) (m : List MO) : Pf S (S ++ m) := fun i o h => by
  rw [List.getElem?_append_left (List.getElem?_eq_some_iff.mp h).1]; exact h
theorem Pf.len {S S' : Sto} (h : Pf S S') : S.length ≤ S'.length := by
  rcases Nat.eq_zero_or_pos S.length with z | z
  · omega
  · have := h (S.length - 1) _ (List.getElem?_eq_getElem (by omega))
    have := (List.getElem?_eq_some_iff.mp this).1
    omega
theorem Pf.set {S S' : Sto} (h : Pf S S') {n : Nat} (hn : S.length ≤ n) (o : MO) : Pf S (S'.set n o) := fun i u hi => by
  have hl := (List.getElem?_eq_some_iff.mp hi).1
  rw [List.getElem?_set_ne (by omega)]
  exact h i u hi
/-- γ does: post -/
def Ok (γ : Ga) (ds : List D) (S : Sto) (post : D → Sto → Prop) : Prop := ∀ (q : QD) (e : QX), (∀ d S', post d S' → q d S') → γ ds S q e
abbrev no : QX := fun _ _ => False
/-- [e for p in c if t] -/
theorem compL_do {c : Src} {p : Pat} {t : WT} {e : WE} {n : Nat} {ρ : Rho} {Q : QD} (P : List D → Sto → Prop) (h0 : ∀ S, P [] S → c.ok S ∧ Q (.ref n) S)
    (h1 : ∀ d ds S, P (d :: ds) S → c.ok S ∧ ∃ ρ1, p.go d ρ = some ρ1 ∧ ∀ K : Sto → Prop, (∀ S', P ds S' → K S') → t ρ1 S (fun b S1 => if b = true then e ρ1 S1 (fun y S2 => atN S2 n fun acc => acc.length < sizeLine ∧ K (S2.set n (.lst (acc ++ [y])))) no else K S1) no) :
    ∀ ds S, P ds S → compL c p t e n ρ Q ds S
  | [], S, h => h0 S h
  | d :: ds, S, h => by
    obtain ⟨a, ρ1, e1, f⟩ := h1 d ds S h
    refine ⟨a, ?_⟩
    rw [e1]
    exact f _ fun S' h' => compL_do P h0 h1 ds S' h'
theorem atN_of {S : Sto} {n : Nat} {xs : List D} {k : List D → Prop} (h : S[n]? = some (.lst xs)) (hk : k xs) : atN S n k := by
  unfold atN; rw [h]; exact hk
/-- pure ones -/
theorem comp_map {α : Type} {c : Src} {p : Pat} {t : WT} {e : WE} {ρ : Rho} {Q : QD} (S0 : Sto) (enc : α → D) (b : α → Bool) (g : α → D) (xs : List α) (hz : xs.length ≤ sizeLine) (hok : ∀ S, Pf S0 S → c.ok S)
    (hgo : ∀ x ∈ xs, ∃ ρ1, p.go (enc x) ρ = some ρ1 ∧ (∀ (S : Sto) (K : Bool → Sto → Prop), Pf S0 S → (∀ S', Pf S S' → K (b x) S') → t ρ1 S K no) ∧ (b x = true → ∀ (S : Sto) (K : QD), Pf S0 S → (∀ S', Pf S S' → K (g x) S') → e ρ1 S K no))
    (hQ : ∀ S, Pf S0 S → S[S0.length]? = some (.lst ((xs.filter b).map g)) → Q (.ref S0.length) S) :
    compL c p t e S0.length ρ Q (xs.map enc) (S0 ++ [.lst []]) := by
  refine compL_do (fun ds S => ∃ dn rs, xs = dn ++ rs ∧ ds = rs.map enc ∧ Pf S0 S ∧ S[S0.length]? = some (.lst ((dn.filter b).map g))) ?_ ?_ _ _ ⟨[], xs, rfl, rfl, Pf.app _ _, by simp⟩
  · rintro S ⟨dn, rs, e1, e2, pf, hs⟩
    cases rs with
    | cons _ _ => cases e2
    | nil => rw [List.append_nil] at e1; subst e1; exact ⟨hok S pf, hQ S pf hs⟩
  · rintro d ds S ⟨dn, rs, e1, e2, pf, hs⟩
    cases rs with
    | nil => cases e2
    | cons x rs =>
      rw [List.map_cons] at e2
      injection e2 with e2 e3
      subst e2 e3
      obtain ⟨ρ1, g1, g2, g3⟩ := hgo x (by rw [e1]; simp)
      refine ⟨hok S pf, ρ1, g1, fun K hK => g2 S _ pf fun S1 p1 => ?_⟩
      have pf1 := pf.trans p1
      have hs1 := p1 _ _ hs
      cases hb : b x with
      | false =>
        rw [if_neg (by simp)]
        exact hK _ ⟨dn ++ [x], rs, by rw [e1]; simp, rfl, pf1, by rw [hs1]; simp [List.filter_append, hb]⟩
      | true =>
        rw [if_pos rfl]
        refine g3 hb S1 _ pf1 fun S2 p2 => ?_
        have hs2 := p2 _ _ hs1
        refine atN_of hs2 ⟨?_, hK _ ⟨dn ++ [x], rs, by rw [e1]; simp, rfl, (pf1.trans p2).set (Nat.le_refl _) _, ?_⟩⟩
        · have h1 : xs.length = dn.length + (rs.length + 1) := by rw [e1]; simp
          have h2 := List.length_filter_le b dn
          rw [List.length_map]
          omega
        · rw [List.getElem?_set_self (List.getElem?_eq_some_iff.mp hs2).1]
          simp [List.filter_append, hb]
/-- for p in c -/
theorem forL_do {c : Src} {p : Pat} {b : WS} {k : Kt} (P : List D → Rho → Sto → Prop) (h0 : ∀ ρ S, P [] ρ S → c.ok S ∧ k.nx ρ S)
    (h1 : ∀ d ds ρ S, P (d :: ds) ρ S → c.ok S ∧ ∃ ρ1, p.go d ρ = some ρ1 ∧ ∀ K : Rho → Sto → Prop, (∀ ρ' S', P ds ρ' S' → K ρ' S') → b { k with nx := K, ct := K, bk := k.nx } ρ1 S) :
    ∀ ds ρ S, P ds ρ S → forL c p b k ds ρ S
  | [], ρ, S, h => h0 ρ S h
  | d :: ds, ρ, S, h => by
    obtain ⟨a, ρ1, e1, f⟩ := h1 d ds ρ S h
    refine ⟨a, ?_⟩
    rw [e1]
    exact f _ fun ρ' S' h' => forL_do P h0 h1 ds ρ' S' h'
/-- the turns of a dict's comprehension -/
theorem walkC_do {c : Src} {p : Pat} {t : WT} {body : BD} {ρ : Rho} {fin : Sto → Prop} (P : List D → Sto → Prop) (h0 : ∀ S, P [] S → c.ok S ∧ fin S)
    (h1 : ∀ d ds S, P (d :: ds) S → c.ok S ∧ ∃ ρ1, p.go d ρ = some ρ1 ∧ ∀ K : Sto → Prop, (∀ S', P ds S' → K S') → t ρ1 S (fun b S1 => if b = true then body ρ1 S1 K else K S1) no) :
    ∀ ds S, P ds S → walkC c p t body ρ fin ds S
  | [], S, h => h0 S h
  | d :: ds, S, h => by
    obtain ⟨a, ρ1, e1, f⟩ := h1 d ds S h
    refine ⟨a, ?_⟩
    rw [e1]
    exact f _ fun S' h' => walkC_do P h0 h1 ds S' h'
theorem kit_int_int : kitB "int" "int" = some true := by decide +kernel
theorem kit_int_str : kitB "int" "str" = some false := by decide +kernel
theorem kit_int_tuple : kitB "int" "tuple" = some false := by decide +kernel
theorem kit_int_bool : kitB "int" "bool" = some false := by decide +kernel
theorem kit_str_int : kitB "str" "int" = some false := by decide +kernel
theorem kit_str_str : kitB "str" "str" = some true := by decide +kernel
theorem kit_str_tuple : kitB "str" "tuple" = some false := by decide +kernel
theorem kit_str_bool : kitB "str" "bool" = some false := by decide +kernel
theorem kit_tuple_int : kitB "tuple" "int" = some false := by decide +kernel
theorem kit_tuple_str : kitB "tuple" "str" = some false := by decide +kernel
theorem kit_tuple_tuple : kitB "tuple" "tuple" = some true := by decide +kernel
theorem kit_tuple_bool : kitB "tuple" "bool" = some false := by decide +kernel
theorem kit_bool_int : kitB "bool" "int" = some true := by decide +kernel
theorem kit_bool_str : kitB "bool" "str" = some false := by decide +kernel
theorem kit_bool_tuple : kitB "bool" "tuple" = some false := by decide +kernel
theorem kit_bool_bool : kitB "bool" "bool" = some true := by decide +kernel
theorem kit_list_int : kitB "list" "int" = some false := by decide +kernel
theorem kit_list_str : kitB "list" "str" = some false := by decide +kernel
theorem kit_list_tuple : kitB "list" "tuple" = some false := by decide +kernel
theorem kit_list_bool : kitB "list" "bool" = some false := by decide +kernel
theorem kit_dict_int : kitB "dict" "int" = some false := by decide +kernel
theorem kit_dict_str : kitB "dict" "str" = some false := by decide +kernel
theorem kit_dict_tuple : kitB "dict" "tuple" = some false := by decide +kernel
theorem kit_dict_bool : kitB "dict" "bool" = some false := by decide +kernel
end Zz
set_option Elab.async false
set_option linter.all false
set_option maxRecDepth 100000
namespace Zz
open PySem PySem.Spec PyProof.Rows L2
/-- a term: a number, a name, a variable -/
inductive Tm where
  | num (i : Int)
  | nm (s : Str)
  | vr (s : Str)
  deriving DecidableEq
def Tm.d : Tm → D
  | .num i => .int i
  | .nm s => .str s
  | .vr s => .tup [.str "var", .str s]
def Tm.isVr : Tm → Bool
  | .vr _ => true
  | _ => false
def Tm.isNum : Tm → Bool
  | .num _ => true
  | _ => false
def lettersS : Str := "abcdefghijklmnopqrstuvwxyz"
def digitsS : Str := "0123456789"
def reservedD : List PyData := [.str "and", .str "answer", .str "data", .str "fact", .str "if", .str "in", .str "is", .str "maybe", .str "no", .str "node", .str "of", .str "question", .str "rule", .str "some", .str "the", .str "there", .str "var", .str "with"]
/-- a name -/
def goodB (s : Str) : Bool := decide (1 ≤ s.length ∧ s.length ≤ 8) && (match s.cps.toList with | c :: _ => decide (c ∈ lettersS.cps.toList) | [] => false) && !anyEq (.str s) reservedD && (PyData.strOk s && s.cps.toList.all fun c => decide (c ∈ (lettersS ++ digitsS).cps.toList))
def namesL : List Str := ["x", "y", "z", "w", "t", "s", "q1", "k"]
theorem names_good : ∀ s ∈ namesL, goodB s = true := by decide +kernel
def wordsL : List Str := namesL ++ (["p", "q", "r", "u"] : List Str)
theorem words_ok : ∀ s ∈ wordsL, PyData.strOk s = true := by decide +kernel
def numsL : List Int := [0, 1]
def Tm.ok : Tm → Prop
  | .vr s => s ∈ namesL
  | .nm s => s ∈ wordsL
  | .num i => i ∈ numsL
/-- a term's key -/
def Tm.k : Tm → PyData
  | .num i => .tuple [.int 0, .int i, .str ""]
  | .nm s => .tuple [.int 1, .int 0, .str s]
  | .vr s => .tuple [.int 2, .int 0, .str s]
section
variable {tb : List MO} {k : Nat} {S : Sto}
theorem number_ok (t : Tm) : Ok (Gm tb (k + 1) 0) [t.d] S (fun d S' => d = .bl t.isNum ∧ S' = S) := by
  intro q e hq
  cases t <;> simp [Gm, b_is_number, bodyG, sSeq, sAsg, sDrop, sRet, sIf, sNext, wOp, wUn, wVar, wC, aNil, aCons, wFn, wTup, wLst, wIf, tVal, tAnd, tOr, tNot, wAnd, wOr, wNot, wCall, fA1, fIx, fIsiA, fIsi, typeD, kit_int_int, kit_int_str, kit_int_tuple, kit_int_bool, kit_str_int, kit_str_str, kit_str_tuple, kit_str_bool, kit_tuple_int, kit_tuple_str, kit_tuple_tuple, kit_tuple_bool, kit_bool_int, kit_bool_str, kit_bool_tuple, kit_bool_bool, kit_list_int, kit_list_str, kit_list_tuple, kit_list_bool, kit_dict_int, kit_dict_str, kit_dict_tuple, kit_dict_bool, atSq, atI, ixN, endK, startR, Pat.go, Pat.gos, fI, fI0, fIB, wChain, oB_some, Tm.d] <;> exact hq _ _ ⟨rfl, rfl⟩
theorem sized_ok (t : Tm) : Ok (Gm tb (k + 1) 3) [t.d, .int 2] S (fun d S' => d = .bl t.isVr ∧ S' = S) := by
  intro q e hq
  cases t with
  | num i => simp [Gm, b_is_sized, bodyG, sSeq, sAsg, sDrop, sRet, sIf, sNext, wOp, wUn, wVar, wC, aNil, aCons, wFn, wTup, wLst, wIf, tVal, tAnd, tOr, tNot, wAnd, wOr, wNot, wCall, fA1, fIx, fIsiA, fIsi, typeD, kit_int_int, kit_int_str, kit_int_tuple, kit_int_bool, kit_str_int, kit_str_str, kit_str_tuple, kit_str_bool, kit_tuple_int, kit_tuple_str, kit_tuple_tuple, kit_tuple_bool, kit_bool_int, kit_bool_str, kit_bool_tuple, kit_bool_bool, kit_list_int, kit_list_str, kit_list_tuple, kit_list_bool, kit_dict_int, kit_dict_str, kit_dict_tuple, kit_dict_bool, atSq, atI, ixN, endK, startR, Pat.go, Pat.gos, fI, fI0, fIB, wChain, oB_some, Tm.d]; exact hq _ _ ⟨rfl, rfl⟩
  | nm i => simp [Gm, b_is_sized, bodyG, sSeq, sAsg, sDrop, sRet, sIf, sNext, wOp, wUn, wVar, wC, aNil, aCons, wFn, wTup, wLst, wIf, tVal, tAnd, tOr, tNot, wAnd, wOr, wNot, wCall, fA1, fIx, fIsiA, fIsi, typeD, kit_int_int, kit_int_str, kit_int_tuple, kit_int_bool, kit_str_int, kit_str_str, kit_str_tuple, kit_str_bool, kit_tuple_int, kit_tuple_str, kit_tuple_tuple, kit_tuple_bool, kit_bool_int, kit_bool_str, kit_bool_tuple, kit_bool_bool, kit_list_int, kit_list_str, kit_list_tuple, kit_list_bool, kit_dict_int, kit_dict_str, kit_dict_tuple, kit_dict_bool, atSq, atI, ixN, endK, startR, Pat.go, Pat.gos, fI, fI0, fIB, wChain, oB_some, Tm.d]; exact hq _ _ ⟨rfl, rfl⟩
  | vr s =>
    simp [Gm, b_is_sized, bodyG, sSeq, sAsg, sDrop, sRet, sIf, sNext, wOp, wUn, wVar, wC, aNil, aCons, wFn, wTup, wLst, wIf, tVal, tAnd, tOr, tNot, wAnd, wOr, wNot, wCall, fA1, fIx, fIsiA, fIsi, typeD, kit_int_int, kit_int_str, kit_int_tuple, kit_int_bool, kit_str_int, kit_str_str, kit_str_tuple, kit_str_bool, kit_tuple_int, kit_tuple_str, kit_tuple_tuple, kit_tuple_bool, kit_bool_int, kit_bool_str, kit_bool_tuple, kit_bool_bool, kit_list_int, kit_list_str, kit_list_tuple, kit_list_bool, kit_dict_int, kit_dict_str, kit_dict_tuple, kit_dict_bool, atSq, atI, ixN, endK, startR, Pat.go, Pat.gos, fI, fI0, fIB, wChain, oB_some, Tm.d, fLen, fEq]
    exact ⟨_, .int _, _, .int _, by simp [SeqAt.shaped, PyData.canLay0, PyData.depth], by simp [SeqAt.shaped, PyData.canLay0, PyData.depth], hq _ _ ⟨rfl, rfl⟩⟩
theorem reserved_sn : Sns S [.str "and", .str "answer", .str "data", .str "fact", .str "if", .str "in", .str "is", .str "maybe", .str "no", .str "node", .str "of", .str "question", .str "rule", .str "some", .str "the", .str "there", .str "var", .str "with"] reservedD := by
  unfold reservedD
  repeat first | exact .nil | refine .cons (.str _) ?_
theorem name_ok {s : Str} (h : goodB s = true) : Ok (Gm tb (k + 1) 2) [.str s] S (fun d S' => d = .bl true ∧ Pf S S') := by
  intro q e hq
  unfold goodB at h
  simp only [Bool.and_eq_true, decide_eq_true_eq, Bool.not_eq_true', List.all_eq_true] at h
  obtain ⟨⟨⟨⟨h1, h2⟩, h3⟩, h4⟩, h0, h5⟩ := h
  have hz : s.length ≤ sizeLine := by rw [sizeLine_eq]; omega
  have a1 : decide ((1 : Int) ≤ (s.length : Int)) = true := decide_eq_true (by omega)
  have a2 : ¬ (8 : Int) < (s.length : Int) := by omega
  obtain ⟨c, cs, hc⟩ : ∃ c cs, s.cps.toList = c :: cs := by
    cases e : s.cps.toList with
    | nil => rw [e] at h3; cases h3
    | cons c cs => exact ⟨c, cs, rfl⟩
  rw [hc] at h3
  have h3' : c ∈ lettersS.cps.toList := of_decide_eq_true h3
  have a3 : (1 : Int) ≤ (s.length : Int) := by omega
  have hx : s.cps[0]? = some c := by rw [← Array.getElem?_toList, hc]; rfl
  have hs : 0 < s.cps.size := by rw [← Array.length_toList, hc]; simp
  simp [Gm, b_is_name, bodyG, sSeq, sAsg, sDrop, sRet, sIf, sNext, wOp, wUn, wVar, wC, aNil, aCons, wFn, wTup, wLst, wIf, tVal, tAnd, tOr, tNot, wAnd, wOr, wNot, wCall, fA1, fIx, fIsiA, fIsi, typeD, kit_int_int, kit_int_str, kit_int_tuple, kit_int_bool, kit_str_int, kit_str_str, kit_str_tuple, kit_str_bool, kit_tuple_int, kit_tuple_str, kit_tuple_tuple, kit_tuple_bool, kit_bool_int, kit_bool_str, kit_bool_tuple, kit_bool_bool, kit_list_int, kit_list_str, kit_list_tuple, kit_list_bool, kit_dict_int, kit_dict_str, kit_dict_tuple, kit_dict_bool, atSq, atI, ixN, endK, startR, Pat.go, Pat.gos, fI, fI0, fIB, wChain, oB_some, Tm.d, fLen, fInB, fAllA, fAll, iSigns, sgD, hz, a3, a2, hs, hx, bz]
  rw [show (Str.ofString "abcdefghijklmnopqrstuvwxyz") = lettersS from rfl]
  have h3'' : c ∈ lettersS.cps := by simpa using h3'
  have e0 : s.cps[0] = c := by
    rw [Array.getElem?_eq_getElem hs] at hx
    exact Option.some.inj hx
  rw [if_pos (by rw [e0]; exact h3'')]
  refine ⟨.str s, reservedD, .str s, reserved_sn, by simp [SeqAt.shaped, PyData.canLay0, PyData.depth, h0], by decide +kernel, ?_⟩
  rw [h4]
  show compL _ _ _ _ _ _ _ (s.cps.toList.map fun c => D.str ⟨#[c]⟩) _
  refine comp_map S (fun c => D.str ⟨#[c]⟩) (fun _ => true) (fun _ => .bl true) s.cps.toList (by show s.cps.toList.length ≤ _; exact hz) (fun _ _ => True.intro) (fun x hx => ⟨_, rfl, fun S1 K _ hK => hK S1 (.refl _), fun _ S1 K pf hK => ?_⟩) fun S1 pf h1 => ?_
  · have h6 := h5 x hx
    refine .inr (.inl ⟨by decide +kernel, x, rfl, ?_⟩)
    have : bz true (decide (x ∈ (lettersS ++ digitsS).cps.toList)) = true := by simp only [bz, h6, decide_true, if_true]
    show K (.bl (bz true (decide (x ∈ (lettersS ++ digitsS).cps.toList)))) S1
    rw [this]
    exact hK S1 (.refl _)
  · show (match S1[S.length]? with | some (MO.lst xs) => oB (boolsD xs) fun bs => q (D.bl (bs.all id)) S1 | _ => False)
    rw [h1]
    have e1 : ∀ l : List Nat, boolsD ((l.filter fun _ => true).map fun _ => D.bl true) = some (l.map fun _ => true) := fun l => by
      induction l with
      | nil => rfl
      | cons a l ih => simp only [List.filter_cons, if_true, List.map_cons, boolsD, ih]; rfl
    show oB (boolsD ((s.cps.toList.filter fun _ => true).map fun _ => D.bl true)) _
    rw [e1]
    have e2 : ((s.cps.toList.map fun _ => true).all id) = true := by simp
    show q (.bl ((s.cps.toList.map fun _ => true).all id)) S1
    rw [e2]
    exact hq _ _ ⟨rfl, pf⟩
theorem var_ok (t : Tm) (h : t.ok) : Ok (Gm tb (k + 2) 4) [t.d] S (fun d S' => d = .bl t.isVr ∧ Pf S S') := by
  intro q e hq
  show bodyG 1 1 (b_is_var (Gm tb (k + 1))) _ _ _ _
  have e1 := sized_ok (tb := tb) (k := k) (S := S) t
  cases t with
  | num i =>
    simp [b_is_var, bodyG, sSeq, sAsg, sDrop, sRet, sIf, sNext, wOp, wUn, wVar, wC, aNil, aCons, wFn, wTup, wLst, wIf, tVal, tAnd, tOr, tNot, wAnd, wOr, wNot, wCall, fA1, fIx, fIsiA, fIsi, typeD, kit_int_int, kit_int_str, kit_int_tuple, kit_int_bool, kit_str_int, kit_str_str, kit_str_tuple, kit_str_bool, kit_tuple_int, kit_tuple_str, kit_tuple_tuple, kit_tuple_bool, kit_bool_int, kit_bool_str, kit_bool_tuple, kit_bool_bool, kit_list_int, kit_list_str, kit_list_tuple, kit_list_bool, kit_dict_int, kit_dict_str, kit_dict_tuple, kit_dict_bool, atSq, atI, ixN, endK, startR, Pat.go, Pat.gos, fI, fI0, fIB, wChain, oB_some, Tm.d]
    exact e1 _ _ fun d S' ⟨h1, h2⟩ => by subst h1 h2; exact hq _ _ ⟨rfl, .refl _⟩
  | nm i =>
    simp [b_is_var, bodyG, sSeq, sAsg, sDrop, sRet, sIf, sNext, wOp, wUn, wVar, wC, aNil, aCons, wFn, wTup, wLst, wIf, tVal, tAnd, tOr, tNot, wAnd, wOr, wNot, wCall, fA1, fIx, fIsiA, fIsi, typeD, kit_int_int, kit_int_str, kit_int_tuple, kit_int_bool, kit_str_int, kit_str_str, kit_str_tuple, kit_str_bool, kit_tuple_int, kit_tuple_str, kit_tuple_tuple, kit_tuple_bool, kit_bool_int, kit_bool_str, kit_bool_tuple, kit_bool_bool, kit_list_int, kit_list_str, kit_list_tuple, kit_list_bool, kit_dict_int, kit_dict_str, kit_dict_tuple, kit_dict_bool, atSq, atI, ixN, endK, startR, Pat.go, Pat.gos, fI, fI0, fIB, wChain, oB_some, Tm.d]
    exact e1 _ _ fun d S' ⟨h1, h2⟩ => by subst h1 h2; exact hq _ _ ⟨rfl, .refl _⟩
  | vr s =>
    simp [b_is_var, bodyG, sSeq, sAsg, sDrop, sRet, sIf, sNext, wOp, wUn, wVar, wC, aNil, aCons, wFn, wTup, wLst, wIf, tVal, tAnd, tOr, tNot, wAnd, wOr, wNot, wCall, fA1, fIx, fIsiA, fIsi, typeD, kit_int_int, kit_int_str, kit_int_tuple, kit_int_bool, kit_str_int, kit_str_str, kit_str_tuple, kit_str_bool, kit_tuple_int, kit_tuple_str, kit_tuple_tuple, kit_tuple_bool, kit_bool_int, kit_bool_str, kit_bool_tuple, kit_bool_bool, kit_list_int, kit_list_str, kit_list_tuple, kit_list_bool, kit_dict_int, kit_dict_str, kit_dict_tuple, kit_dict_bool, atSq, atI, ixN, endK, startR, Pat.go, Pat.gos, fI, fI0, fIB, wChain, oB_some, Tm.d]
    refine e1 _ _ fun d S' ⟨h1, h2⟩ => ?_
    subst h1 h2
    simp [bodyG, sSeq, sAsg, sDrop, sRet, sIf, sNext, wOp, wUn, wVar, wC, aNil, aCons, wFn, wTup, wLst, wIf, tVal, tAnd, tOr, tNot, wAnd, wOr, wNot, wCall, fA1, fIx, fIsiA, fIsi, typeD, kit_int_int, kit_int_str, kit_int_tuple, kit_int_bool, kit_str_int, kit_str_str, kit_str_tuple, kit_str_bool, kit_tuple_int, kit_tuple_str, kit_tuple_tuple, kit_tuple_bool, kit_bool_int, kit_bool_str, kit_bool_tuple, kit_bool_bool, kit_list_int, kit_list_str, kit_list_tuple, kit_list_bool, kit_dict_int, kit_dict_str, kit_dict_tuple, kit_dict_bool, atSq, atI, ixN, endK, startR, Pat.go, Pat.gos, fI, fI0, fIB, wChain, oB_some, Tm.d, Tm.isVr, fEq]
    refine ⟨_, .str _, _, .str _, by decide +kernel, by decide +kernel, ?_⟩
    rw [show PyData.eqv (.str "var") (.str "var") = true by decide +kernel]
    exact name_ok (names_good s h) _ _ fun d S1 ⟨h1, h2⟩ => by subst h1; exact hq _ _ ⟨rfl, h2⟩
theorem sz3 : (3 : Nat) ≤ sizeLine := by decide
end
open PySem.W (alike alikeAll dataLt AllAlike dataLe keyToks keyToksAll)
/-! ### facts, tellings, their keys -/
abbrev Fact := Str × List Tm
def Fact.d (f : Fact) : D := .tup [.str f.1, .tup (f.2.map Tm.d)]
def Fact.k (f : Fact) : PyData := .tuple [.str f.1, .tuple (f.2.map Tm.k)]
structure Fact.ok (f : Fact) : Prop where
  link : f.1 ∈ wordsL
  few : f.2.length ≤ 3
  ts : ∀ t ∈ f.2, t.ok
abbrev Tell := List (Str × Tm)
def Tell.d (t : Tell) : D := .tup (t.map fun p => .tup [.str p.1, p.2.d])
def Tell.k (t : Tell) : PyData := .tuple (t.map fun p => .tuple [.str p.1, p.2.k])
structure Tell.ok (t : Tell) : Prop where
  few : t.length ≤ 8
  ts : ∀ p ∈ t, p.1 ∈ wordsL ∧ p.2.ok ∧ p.2.isVr = false
theorem tm_alike (a b : Tm) : alike a.k b.k = true := by cases a <;> cases b <;> simp [Tm.k, alike, alikeAll]
theorem tms_alike : ∀ xs ys : List Tm, alikeAll (xs.map Tm.k) (ys.map Tm.k) = true
  | [], _ => by rw [List.map_nil, alikeAll]
  | _ :: _, [] => by rw [List.map_nil, List.map_cons, alikeAll]
  | x :: xs, y :: ys => by rw [List.map_cons, List.map_cons, alikeAll, tm_alike, tms_alike xs ys]; rfl
theorem fact_alike (f g : Fact) : alike f.k g.k = true := by
  simp only [Fact.k, alike, alikeAll, tms_alike, Bool.and_self]
theorem tells_alike : ∀ xs ys : Tell, alikeAll (xs.map fun p => PyData.tuple [.str p.1, p.2.k]) (ys.map fun p => PyData.tuple [.str p.1, p.2.k]) = true
  | [], _ => by rw [List.map_nil, alikeAll]
  | _ :: _, [] => by rw [List.map_nil, List.map_cons, alikeAll]
  | x :: xs, y :: ys => by
    rw [List.map_cons, List.map_cons, alikeAll, tells_alike xs ys]
    simp only [alike, alikeAll, tm_alike, Bool.and_self]
theorem tell_alike (f g : Tell) : alike f.k g.k = true := by
  simp only [Tell.k, alike, tells_alike]
/-! ### keys tell apart -/
theorem cps_inj {a b : Str} (h : a.cps.toList = b.cps.toList) : a = b := PySem.W.str_of_cps h
theorem tm_toks : ∀ (a b : Tm) (l m : List (Int ⊕ List Nat)), keyToks a.k ++ l = keyToks b.k ++ m → a = b ∧ l = m := by
  intro a b l m h
  cases a <;> cases b <;> simp [Tm.k, keyToks, keyToksAll] at h
  · exact ⟨by rw [h.1], h.2⟩
  · exact ⟨congrArg Tm.nm (cps_inj (congrArg Array.toList h.1)), h.2⟩
  · exact ⟨congrArg Tm.vr (cps_inj (congrArg Array.toList h.1)), h.2⟩
theorem tms_toks : ∀ (xs ys : List Tm) (l m : List (Int ⊕ List Nat)), keyToksAll (xs.map Tm.k) ++ l = keyToksAll (ys.map Tm.k) ++ m → xs = ys ∧ l = m
  | [], [], l, m, h => by simp [keyToksAll] at h; exact ⟨rfl, h⟩
  | [], _ :: _, l, m, h => by simp [keyToksAll] at h
  | _ :: _, [], l, m, h => by simp [keyToksAll] at h
  | x :: xs, y :: ys, l, m, h => by
    simp only [List.map_cons, keyToksAll, List.cons_append, List.append_assoc, List.cons.injEq, true_and] at h
    obtain ⟨e1, h2⟩ := tm_toks x y _ _ h
    obtain ⟨e2, e3⟩ := tms_toks xs ys l m h2
    exact ⟨by rw [e1, e2], e3⟩
theorem fact_toks {f g : Fact} (h : keyToks f.k = keyToks g.k) : f = g := by
  obtain ⟨a, xs⟩ := f
  obtain ⟨b, ys⟩ := g
  simp only [Fact.k, keyToks, keyToksAll, List.cons_append, List.cons.injEq, true_and, List.nil_append, Sum.inr.injEq] at h
  obtain ⟨h1, h2⟩ := h
  have := tms_toks xs ys _ _ h2
  rw [cps_inj h1, this.1]
theorem tell_toks0 : ∀ (xs ys : Tell), keyToksAll (xs.map fun p => PyData.tuple [.str p.1, p.2.k]) = keyToksAll (ys.map fun p => PyData.tuple [.str p.1, p.2.k]) → xs = ys
  | [], [], h => rfl
  | [], _ :: _, h => by simp [keyToksAll] at h
  | _ :: _, [], h => by simp [keyToksAll] at h
  | (a, x) :: xs, (b, y) :: ys, h => by
    simp only [List.map_cons, keyToksAll, keyToks, List.cons_append, List.append_assoc, List.cons.injEq, true_and, List.nil_append, Sum.inr.injEq] at h
    obtain ⟨h1, h2⟩ := h
    obtain ⟨e1, h3⟩ := tm_toks x y _ _ h2
    simp only [List.cons.injEq, true_and, List.nil_append] at h3
    rw [tell_toks0 xs ys h3, cps_inj h1, e1]
theorem tell_toks {f g : Tell} (h : keyToks f.k = keyToks g.k) : f = g := by
  simp only [Tell.k, keyToks] at h
  exact tell_toks0 f g h
/-! ### sorted without twins -/
section
variable {β : Type} {kf : β → PyData}
/-- less -/
def Lt (kf : β → PyData) (a b : β) : Prop := dataLt (kf a) (kf b) = true
theorem dlt_iff {a b : β} : dataLt (kf a) (kf b) = true ↔ TO.klt (keyToks (kf a)) (keyToks (kf b)) := Iff.rfl
theorem lt_le {a b : β} (h : Lt kf a b) : dataLe false kf a b = true := by
  rw [dle_iff]
  exact KeyOrd.klt_asymm h
theorem lt_irr {a : β} : ¬ Lt kf a a := by
  intro h
  have h2 : TO.blt (keyToks (kf a)) (keyToks (kf a)) = true := h
  rw [TO.irrefl] at h2
  cases h2
/-- lists that rise strictly, of the same members, are one -/
theorem rise_one (hi : ∀ a b : β, keyToks (kf a) = keyToks (kf b) → a = b) {l m : List β} (hl : l.Pairwise (Lt kf)) (hm : m.Pairwise (Lt kf)) (h : ∀ x, x ∈ l ↔ x ∈ m) : l = m := by
  have nd : ∀ {l : List β}, l.Pairwise (Lt kf) → l.Nodup := fun {l} h => List.Pairwise.imp (fun {a b} (hab : Lt kf a b) (e : a = b) => lt_irr (kf := kf) (a := b) (by rw [e] at hab; exact hab)) h
  refine List.Perm.eq_of_pairwise (le := fun a b => dataLe false kf a b = true) (fun a b _ _ h1 h2 => hi a b (dle_anti h1 h2)) (hl.imp lt_le) (hm.imp lt_le) ((List.perm_ext_iff_of_nodup (nd hl) (nd hm)).mpr h)
/-- a sorted list of unlike ones rises strictly -/
theorem rise_of (hi : ∀ a b : β, keyToks (kf a) = keyToks (kf b) → a = b) {l : List β} (h : l.Pairwise fun a b => dataLe false kf a b = true) (nd : l.Nodup) : l.Pairwise (Lt kf) := by
  induction l with
  | nil => exact .nil
  | cons x l ih =>
    obtain ⟨h1, h2⟩ := List.pairwise_cons.mp h
    obtain ⟨n1, n2⟩ := List.nodup_cons.mp nd
    refine List.pairwise_cons.mpr ⟨fun y hy => ?_, ih h2 n2⟩
    have a := h1 y hy
    rw [dle_iff] at a
    show TO.klt (keyToks (kf x)) (keyToks (kf y))
    refine Classical.byContradiction fun c => n1 ?_
    have := hi x y (KeyOrd.kle_antisymm a (KeyOrd.kle_of_not_klt c))
    rw [this]; exact hy
end
end Zz
set_option Elab.async false
set_option linter.all false
set_option maxRecDepth 100000
namespace Zz
open PySem PySem.Spec PyProof.Rows L2
open PySem.W (alike alikeAll dataLt AllAlike dataLe keyToks keyToksAll)
theorem filter_yes {α : Type} (l : List α) : (l.filter fun _ => true) = l := List.filter_eq_self.mpr fun _ _ => rfl
theorem dPs_map {α : Type} (f : α → PyData) : ∀ l : List α, dPs (l.map f) = l.map fun x => dP (f x)
  | [] => rfl
  | x :: l => by rw [List.map_cons, List.map_cons, dPs, dPs_map f l]
section
variable {tb : List MO} {k : Nat} {S : Sto}
end
open PySem.W (alike alikeAll dataLt AllAlike dataLe keyToks keyToksAll)
/-! ### things of one kind -/
structure Kd (α : Type) where
  d : α → D
  k : α → PyData
  p : α → PyData
  nk : α → List NestedKey
  ok : α → Prop
  hnk : ∀ a, keyD (.tup (nk a)) = d a
  inj : ∀ a b, d a = d b → a = b
  dep : ∀ a, (NestedKey.tup (nk a)).depth ≤ 8
  alike : ∀ a b, alike (k a) (k b) = true
  toks : ∀ a b, keyToks (k a) = keyToks (k b) → a = b
  flat : ∀ a, flatP (k a) = true
  some' : ∀ a, k a ≠ .none
  kdep : ∀ a, (k a).depth ≤ 64
  pure : ∀ a, pureD (d a) = true
  snap : ∀ S a, Sn S (d a) (p a)
  lay : ∀ a, ok a → (p a).canLay0 = true
  pdep : ∀ a, (p a).depth ≤ 8
  eqv : ∀ a b, ok a → ok b → (PyData.eqv (p a) (p b) = true ↔ a = b)
/-- x is a list or tuple of these -/
def SqAt (S : Sto) (x : D) (ds : List D) : Prop := x = .tup ds ∨ ∃ n, x = .ref n ∧ S[n]? = some (.lst ds)
theorem SqAt.pf {S S' : Sto} {x : D} {ds : List D} (h : SqAt S x ds) (p : Pf S S') : SqAt S' x ds := h.imp id fun ⟨n, e, h⟩ => ⟨n, e, p _ _ h⟩
theorem srcOf_sq {S : Sto} {x : D} {ds : List D} {k : Src → Prop} (h : SqAt S x ds) (hk : ∀ c : Src, c.items = ds → (∀ S', Pf S S' → c.ok S') → k c) : srcOf S x k := by
  rcases h with rfl | ⟨n, rfl, h⟩
  · exact hk _ rfl fun _ _ => True.intro
  · simp only [srcOf, h]
    exact hk ⟨ds, _⟩ rfl fun S' p => p _ _ h
section
variable {α : Type} [DecidableEq α]
/-- the unlike ones, in the order of coming -/
def dedG (acc : List α) : List α → List α
  | [] => acc
  | a :: l => dedG (if a ∈ acc then acc else acc ++ [a]) l
theorem mem_dedG {x : α} : ∀ {l acc : List α}, x ∈ dedG acc l ↔ x ∈ acc ∨ x ∈ l
  | [], acc => by simp [dedG]
  | a :: l, acc => by
    rw [dedG, mem_dedG (l := l), List.mem_cons]
    by_cases h : a ∈ acc
    · rw [if_pos h]
      constructor
      · rintro (z | z)
        · exact .inl z
        · exact .inr (.inr z)
      · rintro (z | z | z)
        · exact .inl z
        · exact .inl (z ▸ h)
        · exact .inr z
    · rw [if_neg h, List.mem_append, List.mem_singleton, or_assoc]
theorem nodup_dedG : ∀ {l acc : List α}, acc.Nodup → (dedG acc l).Nodup
  | [], _, h => h
  | a :: l, acc, h => by
    rw [dedG]
    refine nodup_dedG ?_
    by_cases hm : a ∈ acc
    · rw [if_pos hm]; exact h
    · rw [if_neg hm]
      refine List.nodup_append.mpr ⟨h, by simp, fun b hb c hc => ?_⟩
      rw [List.mem_singleton.mp hc]
      rintro rfl
      exact hm hb
theorem len_dedG : ∀ {l acc : List α}, (dedG acc l).length ≤ acc.length + l.length
  | [], _ => Nat.le_refl _
  | a :: l, acc => by
    rw [dedG]
    refine Nat.le_trans len_dedG ?_
    rw [List.length_cons]
    split
    · omega
    · rw [List.length_append, List.length_singleton]; omega
/-- the unlike ones, sorted -/
def srt (kd : Kd α) (l : List α) : List α := (dedG [] l).mergeSort (dataLe false kd.k)
theorem mem_srt {kd : Kd α} {l : List α} {x : α} : x ∈ srt kd l ↔ x ∈ l := by
  rw [srt, (List.mergeSort_perm _ _).mem_iff, mem_dedG]
  simp
theorem rise_srt (kd : Kd α) (l : List α) : (srt kd l).Pairwise (Lt kd.k) :=
  rise_of kd.toks (List.pairwise_mergeSort (dle_trans _) (dle_total _) _) ((List.mergeSort_perm _ _).nodup_iff.mpr (nodup_dedG List.nodup_nil))
theorem srt_of {kd : Kd α} {l m : List α} (hm : m.Pairwise (Lt kd.k)) (h : ∀ x, x ∈ m ↔ x ∈ l) : m = srt kd l :=
  rise_one kd.toks hm (rise_srt kd l) fun x => (h x).trans mem_srt.symm
theorem len_srt {kd : Kd α} {l : List α} : (srt kd l).length ≤ l.length := by
  rw [srt, (List.mergeSort_perm _ _).length_eq]
  have := len_dedG (l := l) (acc := [])
  simpa using this
open Classical in
/-- the key of a value -/
noncomputable def kfD (kd : Kd α) (x : D) : PyData := if h : ∃ a, kd.d a = x then kd.k h.choose else .none
theorem kfD_eq (kd : Kd α) (a : α) : kfD kd (kd.d a) = kd.k a := by
  unfold kfD
  have h : ∃ b, kd.d b = kd.d a := ⟨a, rfl⟩
  rw [dif_pos h]
  rw [kd.inj _ _ h.choose_spec]
theorem pure_map (kd : Kd α) : ∀ l : List α, pureDs (l.map kd.d) = true
  | [] => rfl
  | a :: l => by rw [List.map_cons, pureDs, kd.pure, pure_map kd l]; rfl
theorem sort_map (kd : Kd α) (l : List α) : (l.map kd.d).mergeSort (dataLe false (kfD kd)) = (l.mergeSort (dataLe false kd.k)).map kd.d :=
  (List.map_mergeSort fun a _ b _ => by
    show (!_) = (!_)
    simp only [kfD_eq]).symm
/-- sorted by the key -/
theorem sortK_ok (kd : Kd α) {γ : Ga} {S : Sto} {x : D} {l : List α} {Q : QD} (hi : itsD S x = some (l.map kd.d)) (hok : ∀ a ∈ l, kd.ok a) (hz : l.length ≤ sizeLine) (hk : ∀ a, kd.ok a → Ok γ [kd.d a] [] (fun d S' => d = dP (kd.k a) ∧ Pf [] S'))
    (hQ : Q (.ref S.length) (S ++ [.lst ((l.mergeSort (dataLe false kd.k)).map kd.d)])) : fSortK γ S x Q := by
  refine ⟨l.map kd.d, kfD kd, hi, pure_map kd l, fun d hd => ?_, fun d hd d' hd' => ?_, by rw [List.length_map]; exact hz, by rw [sort_map]; exact hQ⟩
  · obtain ⟨a, ha, rfl⟩ := List.mem_map.mp hd
    rw [kfD_eq]
    exact ⟨kd.flat a, kd.some' a, kd.kdep a, hk a (hok a ha) _ _ fun d S' ⟨e, _⟩ => e⟩
  · rw [List.map_map] at hd hd'
    obtain ⟨a, ha, rfl⟩ := List.mem_map.mp hd
    obtain ⟨b, hb, rfl⟩ := List.mem_map.mp hd'
    simp only [Function.comp, kfD_eq]
    exact kd.alike a b
/-- the entries of a dict by such keys -/
def ents (kd : Kd α) (l : List α) : List (NestedKey × D) := l.map fun a => (.tup (kd.nk a), .bl true)
theorem nk_inj (kd : Kd α) {a b : α} (h : NestedKey.tup (kd.nk a) = .tup (kd.nk b)) : a = b := kd.inj a b (by rw [← kd.hnk, ← kd.hnk, h])
theorem put_ents (kd : Kd α) (acc : List α) (a : α) : putA (ents kd acc) (.tup (kd.nk a)) (.bl true) = ents kd (if a ∈ acc then acc else acc ++ [a]) := by
  unfold putA
  have e : ((ents kd acc).any fun kv => decide (kv.1 = .tup (kd.nk a))) = true ↔ a ∈ acc := by
    simp only [ents, List.any_map, List.any_eq_true, Function.comp, decide_eq_true_eq]
    exact ⟨fun ⟨b, hb, h⟩ => nk_inj kd h ▸ hb, fun h => ⟨a, h, rfl⟩⟩
  by_cases h : a ∈ acc
  · rw [if_pos (e.mpr h), if_pos h]
    unfold ents
    rw [List.map_map]
    refine List.map_congr_left fun b _ => ?_
    show (if _ then _ else _) = _
    split <;> rfl
  · rw [if_neg (fun z => h (e.mp z)), if_neg h]
    simp [ents]
/-- tuple(sorted({x: True for x in xs}, key=..)) -/
theorem asc_ok (kd : Kd α) {γ : Ga} {S : Sto} {x : D} {l : List α} (hx : SqAt S x (l.map kd.d)) (hok : ∀ a ∈ l, kd.ok a) (hz : l.length < sizeLine) (hk : ∀ a, kd.ok a → Ok γ [kd.d a] [] (fun d S' => d = dP (kd.k a) ∧ Pf [] S')) :
    Ok (bodyG 2 1 (sRet (wFn (fA1 fTuple) (aCons (wSortK γ (wDCT (wSeq (wVar 0)) (.nm 1) (tYesD) (wVar 1) (wC (.bl true)) [1])) (aNil))))) [x] S (fun d S' => d = .tup ((srt kd l).map kd.d) ∧ Pf S S') := by
  intro q e hq
  simp [bodyG, sSeq, sAsg, sDrop, sRet, sIf, sNext, wOp, wUn, wVar, wC, aNil, aCons, wFn, wTup, wLst, wIf, tVal, tAnd, tOr, tNot, wAnd, wOr, wNot, wCall, fA1, fIx, fIsiA, fIsi, typeD, kit_int_int, kit_int_str, kit_int_tuple, kit_int_bool, kit_str_int, kit_str_str, kit_str_tuple, kit_str_bool, kit_tuple_int, kit_tuple_str, kit_tuple_tuple, kit_tuple_bool, kit_bool_int, kit_bool_str, kit_bool_tuple, kit_bool_bool, kit_list_int, kit_list_str, kit_list_tuple, kit_list_bool, kit_dict_int, kit_dict_str, kit_dict_tuple, kit_dict_bool, atSq, atI, ixN, endK, startR, Pat.go, Pat.gos, fI, fI0, fIB, wChain, oB_some, Tm.d, wSortK, wCompG, wSeq]
  refine srcOf_sq hx fun c hc hcok => ?_
  rw [hc]
  refine walkC_do (fun ds S1 => ∃ acc rs, ds = rs.map kd.d ∧ (∀ a ∈ rs, kd.ok a) ∧ dedG acc rs = dedG [] l ∧ acc.length + rs.length ≤ l.length ∧ Pf S S1 ∧ S1[S.length]? = some (.dt (ents kd acc))) ?_ ?_ _ _ ⟨[], l, rfl, hok, rfl, by simp, Pf.app _ _, by simp [ents]⟩
  · rintro S1 ⟨acc, rs, e1, _, e2, hlen, pf, hs⟩
    cases rs with
    | cons _ _ => cases e1
    | nil =>
      refine ⟨hcok _ pf, ?_⟩
      have e3 : acc = dedG [] l := e2
      refine sortK_ok kd (l := acc) (by simp only [itsD, hs]; unfold ents; rw [List.map_map]; exact congrArg some (List.map_congr_left fun a _ => kd.hnk a)) (fun a ha => hok a (by rw [e3, mem_dedG] at ha; simpa using ha)) (by simp at hlen; omega) hk ?_
      simp [bodyG, sSeq, sAsg, sDrop, sRet, sIf, sNext, wOp, wUn, wVar, wC, aNil, aCons, wFn, wTup, wLst, wIf, tVal, tAnd, tOr, tNot, wAnd, wOr, wNot, wCall, fA1, fIx, fIsiA, fIsi, typeD, kit_int_int, kit_int_str, kit_int_tuple, kit_int_bool, kit_str_int, kit_str_str, kit_str_tuple, kit_str_bool, kit_tuple_int, kit_tuple_str, kit_tuple_tuple, kit_tuple_bool, kit_bool_int, kit_bool_str, kit_bool_tuple, kit_bool_bool, kit_list_int, kit_list_str, kit_list_tuple, kit_list_bool, kit_dict_int, kit_dict_str, kit_dict_tuple, kit_dict_bool, atSq, atI, ixN, endK, startR, Pat.go, Pat.gos, fI, fI0, fIB, wChain, oB_some, Tm.d, fTuple]
      exact hq _ _ ⟨by rw [srt, ← e3], pf.trans (Pf.app _ _)⟩
  · rintro d ds S1 ⟨acc, rs, e1, hr, e2, hlen, pf, hs⟩
    cases rs with
    | nil => cases e1
    | cons a rs =>
      rw [List.map_cons] at e1
      injection e1 with e1 e3
      subst e1 e3
      refine ⟨hcok _ pf, _, rfl, fun K hK => ?_⟩
      simp [tYesD, putT, bodyG, sSeq, sAsg, sDrop, sRet, sIf, sNext, wOp, wUn, wVar, wC, aNil, aCons, wFn, wTup, wLst, wIf, tVal, tAnd, tOr, tNot, wAnd, wOr, wNot, wCall, fA1, fIx, fIsiA, fIsi, typeD, kit_int_int, kit_int_str, kit_int_tuple, kit_int_bool, kit_str_int, kit_str_str, kit_str_tuple, kit_str_bool, kit_tuple_int, kit_tuple_str, kit_tuple_tuple, kit_tuple_bool, kit_bool_int, kit_bool_str, kit_bool_tuple, kit_bool_bool, kit_list_int, kit_list_str, kit_list_tuple, kit_list_bool, kit_dict_int, kit_dict_str, kit_dict_tuple, kit_dict_bool, atSq, atI, ixN, endK, startR, Pat.go, Pat.gos, fI, fI0, fIB, wChain, oB_some, Tm.d, wipeR]
      refine ⟨kd.nk a, (kd.hnk a).symm, kd.dep a, ents kd acc, hs, ?_, hK _ ⟨if a ∈ acc then acc else acc ++ [a], rs, rfl, fun b hb => hr b (List.mem_cons_of_mem _ hb), e2, ?_, pf.set (Nat.le_refl _) _, ?_⟩⟩
      · simp only [ents, List.length_map]
        rw [List.length_cons] at hlen
        omega
      · rw [List.length_cons] at hlen
        split
        · omega
        · rw [List.length_append, List.length_singleton]; omega
      · rw [List.getElem?_set_self (List.getElem?_eq_some_iff.mp hs).1, put_ents]
/-! ### unlike neighbours -/
def adjG (acc : List α) : List α → List α
  | [] => acc
  | a :: l => adjG (if acc = [] ∨ acc.getLast? ≠ some a then acc ++ [a] else acc) l
theorem mem_adjG {x : α} : ∀ {l acc : List α}, x ∈ adjG acc l ↔ x ∈ acc ∨ x ∈ l
  | [], acc => by simp [adjG]
  | a :: l, acc => by
    rw [adjG, mem_adjG (l := l), List.mem_cons]
    split
    · rw [List.mem_append, List.mem_singleton, or_assoc]
    · rename_i h
      have h2 : acc.getLast? = some a := by
        refine Classical.byContradiction fun c => h (.inr c)
      have hm : a ∈ acc := List.mem_of_getLast? h2
      constructor
      · rintro (z | z)
        · exact .inl z
        · exact .inr (.inr z)
      · rintro (z | z | z)
        · exact .inl z
        · exact .inl (z ▸ hm)
        · exact .inr z
theorem rise_adjG (kd : Kd α) : ∀ {l acc : List α}, acc.Pairwise (Lt kd.k) → l.Pairwise (fun a b => dataLe false kd.k a b = true) → (∀ a ∈ acc, ∀ b ∈ l, dataLe false kd.k a b = true) → (adjG acc l).Pairwise (Lt kd.k)
  | [], _, h, _, _ => h
  | a :: l, acc, h, hl, hb => by
    obtain ⟨h1, h2⟩ := List.pairwise_cons.mp hl
    rw [adjG]
    split
    · rename_i hc
      refine rise_adjG kd ?_ h2 ?_
      · refine List.pairwise_append.mpr ⟨h, List.pairwise_singleton _ _, fun b hbm c hcm => ?_⟩
        rw [List.mem_singleton.mp hcm]
        -- b ≤ a, and b is not a
        have le := hb b hbm a List.mem_cons_self
        have ne : b ≠ a := by
          rintro rfl
          -- b stands in acc, so it is the last, as the last is ≤ a = b
          have hne : acc ≠ [] := List.ne_nil_of_mem hbm
          rcases hc with hc | hc
          · exact hne hc
          · rw [List.getLast?_eq_some_getLast hne] at hc
            have hlast := List.getLast_mem hne
            have l1 := hb _ hlast b List.mem_cons_self
            obtain ⟨i, hi, e⟩ := List.getElem_of_mem hbm
            by_cases hil : i = acc.length - 1
            · refine hc (congrArg some ?_)
              rw [List.getLast_eq_getElem]
              subst hil
              exact e
            · have l2 := List.pairwise_iff_getElem.mp h i (acc.length - 1) hi (by omega) (by omega)
              rw [e, ← List.getLast_eq_getElem hne] at l2
              have l3 := lt_le l2
              have := kd.toks _ _ (dle_anti l1 l3)
              rw [this] at l2
              exact lt_irr l2
        rw [dle_iff] at le
        show TO.klt (keyToks (kd.k b)) (keyToks (kd.k a))
        exact Classical.byContradiction fun c => ne (kd.toks _ _ (KeyOrd.kle_antisymm le (KeyOrd.kle_of_not_klt c)))
      · intro b hbm c hcm
        rcases List.mem_append.mp hbm with z | z
        · exact hb b z c (List.mem_cons_of_mem _ hcm)
        · rw [List.mem_singleton.mp z]; exact h1 c hcm
    · exact rise_adjG kd h h2 fun b hbm c hcm => hb b hbm c (List.mem_cons_of_mem _ hcm)
theorem adj_srt (kd : Kd α) (l : List α) : adjG [] (l.mergeSort (dataLe false kd.k)) = srt kd l := by
  refine srt_of (rise_adjG kd .nil (List.pairwise_mergeSort (dle_trans _) (dle_total _) _) (fun a h => absurd h (by simp))) fun x => ?_
  rw [mem_adjG, (List.mergeSort_perm _ _).mem_iff]
  simp
end
open PySem.W (alike alikeAll dataLt AllAlike dataLe keyToks keyToksAll)
theorem atI_last {α : Type} {xs : List α} {y : α} (h : xs.getLast? = some y) : atI xs (-1) = some y := by
  have hne : xs ≠ [] := by rintro rfl; simp at h
  have hl : 0 < xs.length := List.length_pos_iff.mpr hne
  unfold atI ixN
  rw [if_neg (by omega), if_pos (by omega)]
  have e : ((-1 : Int) + (xs.length : Int)).toNat = xs.length - 1 := by omega
  rw [e]
  show xs[xs.length - 1]? = _
  rw [← List.getLast?_eq_getElem?, h]
section
variable {α : Type} [DecidableEq α]
theorem depAll {l : List PyData} {n : Nat} (h : ∀ p ∈ l, p.depth ≤ n) : PyData.depthAll l ≤ n := by
  induction l with
  | nil => simp [PyData.depthAll]
  | cons p l ih =>
    rw [PyData.depthAll]
    exact Nat.max_le.mpr ⟨h p List.mem_cons_self, ih fun q hq => h q (List.mem_cons_of_mem _ hq)⟩
theorem layAll {l : List PyData} (h : ∀ p ∈ l, p.canLay0 = true) : PyData.canLayAll0 l = true := by
  induction l with
  | nil => rfl
  | cons p l ih => rw [PyData.canLayAll0, h p List.mem_cons_self, ih fun q hq => h q (List.mem_cons_of_mem _ hq)]; rfl
theorem Kd.shaped (kd : Kd α) {a : α} (h : kd.ok a) : SeqAt.shaped (kd.p a) = true := by
  unfold SeqAt.shaped
  have := kd.pdep a
  rw [kd.lay a h, Bool.true_and, decide_eq_true_eq]
  omega
theorem Kd.shapedL (kd : Kd α) {l : List α} (h : ∀ a ∈ l, kd.ok a) : SeqAt.shaped (.list (l.map kd.p)) = true := by
  unfold SeqAt.shaped
  rw [Bool.and_eq_true, decide_eq_true_eq]
  refine ⟨?_, ?_⟩
  · rw [PyData.canLay0]
    exact layAll fun p hp => by obtain ⟨a, ha, rfl⟩ := List.mem_map.mp hp; exact kd.lay a (h a ha)
  · rw [PyData.depth]
    have := depAll (l := l.map kd.p) (n := 8) fun p hp => by obtain ⟨a, ha, rfl⟩ := List.mem_map.mp hp; exact kd.pdep a
    omega
theorem Kd.snaps (kd : Kd α) (S : Sto) : ∀ l : List α, Sns S (l.map kd.d) (l.map kd.p)
  | [] => .nil
  | a :: l => .cons (kd.snap S a) (kd.snaps S l)
theorem itsD_sq {S : Sto} {x : D} {ds : List D} (h : SqAt S x ds) : itsD S x = some ds := by
  rcases h with rfl | ⟨n, rfl, h⟩
  · rfl
  · simp only [itsD, h]
theorem lsort_ok (kd : Kd α) {γ : Ga} {S : Sto} {x : D} {l : List α} {n : Nat} {o : MO} (hT : S[n]? = some o) (hx : SqAt S x (l.map kd.d)) (hok : ∀ a ∈ l, kd.ok a) (hz : l.length < sizeLine) (hk : ∀ a, kd.ok a → Ok γ [kd.d a] [] (fun d S' => d = dP (kd.k a) ∧ Pf [] S')) :
    Ok (bodyG 3 1 (sSeq (sAsg (wLst (aNil)) (.nm 1))
    (sSeq (sFor (wSeq (wSortKL n o (exprG 1 1 (wCall γ (aCons (wVar 0) (aNil)))) (wVar 0))) (.nm 2) (sIf (tOr (tVal (wOp (fEq true) (wVar 1) (wLst (aNil)))) (tVal (wOp (fEq false) (wOp fIx (wVar 1) (wUn fNeg (wC (.int 1)))) (wVar 2)))) (sDrop (wMt isLst fApp (wVar 1) (aCons (wVar 2) (aNil)))) (sNext)))
    (sRet (wFn (fA1 fTuple) (aCons (wVar 1) (aNil))))))) [x] S (fun d S' => d = .tup ((srt kd l).map kd.d) ∧ Pf S S') := by
  intro q e hq
  simp [bodyG, sSeq, sAsg, sDrop, sRet, sIf, sNext, wOp, wUn, wVar, wC, aNil, aCons, wFn, wTup, wLst, wIf, tVal, tAnd, tOr, tNot, wAnd, wOr, wNot, wCall, fA1, fIx, fIsiA, fIsi, typeD, kit_int_int, kit_int_str, kit_int_tuple, kit_int_bool, kit_str_int, kit_str_str, kit_str_tuple, kit_str_bool, kit_tuple_int, kit_tuple_str, kit_tuple_tuple, kit_tuple_bool, kit_bool_int, kit_bool_str, kit_bool_tuple, kit_bool_bool, kit_list_int, kit_list_str, kit_list_tuple, kit_list_bool, kit_dict_int, kit_dict_str, kit_dict_tuple, kit_dict_bool, atSq, atI, ixN, endK, startR, Pat.go, Pat.gos, fI, fI0, fIB, wChain, oB_some, Tm.d, sFor, wSeq, wSortKL]
  refine ⟨(Pf.app S _) _ _ hT, ?_⟩
  have hx2 := hx.pf (Pf.app S [.lst []])
  refine sortK_ok kd (itsD_sq hx2) hok (Nat.le_of_lt hz) (fun a ha q e hq => ?_) ?_
  · simp [exprG, bodyG, sSeq, sAsg, sDrop, sRet, sIf, sNext, wOp, wUn, wVar, wC, aNil, aCons, wFn, wTup, wLst, wIf, tVal, tAnd, tOr, tNot, wAnd, wOr, wNot, wCall, fA1, fIx, fIsiA, fIsi, typeD, kit_int_int, kit_int_str, kit_int_tuple, kit_int_bool, kit_str_int, kit_str_str, kit_str_tuple, kit_str_bool, kit_tuple_int, kit_tuple_str, kit_tuple_tuple, kit_tuple_bool, kit_bool_int, kit_bool_str, kit_bool_tuple, kit_bool_bool, kit_list_int, kit_list_str, kit_list_tuple, kit_list_bool, kit_dict_int, kit_dict_str, kit_dict_tuple, kit_dict_bool, atSq, atI, ixN, endK, startR, Pat.go, Pat.gos, fI, fI0, fIB, wChain, oB_some, Tm.d]
    exact hk a ha q e hq
  · have hm : ((S ++ [MO.lst []]) ++ [.lst ((l.mergeSort (dataLe false kd.k)).map kd.d)])[(S ++ [MO.lst []]).length]? = some (.lst ((l.mergeSort (dataLe false kd.k)).map kd.d)) := by
      rw [List.getElem?_append_right (Nat.le_refl _)]; simp
    simp only [srcOf, hm]
    have hok2 : ∀ a ∈ l.mergeSort (dataLe false kd.k), kd.ok a := fun a ha => hok a ((List.mergeSort_perm _ _).mem_iff.mp ha)
    have hlen : (l.mergeSort (dataLe false kd.k)).length = l.length := (List.mergeSort_perm _ _).length_eq
    have hn : (S ++ [MO.lst []]).length = S.length + 1 := by simp
    rw [hn]
    refine forL_do (fun ds ρ S1 => ∃ acc rs y, ds = rs.map kd.d ∧ ρ = [some x, some (.ref S.length), y] ∧ (∀ a ∈ rs, kd.ok a) ∧ (∀ a ∈ acc, kd.ok a) ∧ adjG acc rs = srt kd l ∧ acc.length + rs.length ≤ l.length ∧ Pf S S1 ∧ S1[S.length]? = some (.lst (acc.map kd.d)) ∧
      S1[S.length + 1]? = some (.lst ((l.mergeSort (dataLe false kd.k)).map kd.d))) ?_ ?_ _ _ _ ⟨[], l.mergeSort (dataLe false kd.k), none, rfl, rfl, hok2, fun a h => absurd h (by simp), adj_srt kd l, by simp [hlen], (Pf.app _ _).trans (Pf.app _ _), by simp, by rw [← hn]; exact hm⟩
    · rintro ρ S1 ⟨acc, rs, y, e1, rfl, _, ho, e2, hl2, pf, h1, h2⟩
      cases rs with
      | cons _ _ => cases e1
      | nil =>
        refine ⟨h2, ?_⟩
        simp [bodyG, sSeq, sAsg, sDrop, sRet, sIf, sNext, wOp, wUn, wVar, wC, aNil, aCons, wFn, wTup, wLst, wIf, tVal, tAnd, tOr, tNot, wAnd, wOr, wNot, wCall, fA1, fIx, fIsiA, fIsi, typeD, kit_int_int, kit_int_str, kit_int_tuple, kit_int_bool, kit_str_int, kit_str_str, kit_str_tuple, kit_str_bool, kit_tuple_int, kit_tuple_str, kit_tuple_tuple, kit_tuple_bool, kit_bool_int, kit_bool_str, kit_bool_tuple, kit_bool_bool, kit_list_int, kit_list_str, kit_list_tuple, kit_list_bool, kit_dict_int, kit_dict_str, kit_dict_tuple, kit_dict_bool, atSq, atI, ixN, endK, startR, Pat.go, Pat.gos, fI, fI0, fIB, wChain, oB_some, Tm.d, fTuple, h1]
        exact hq _ _ ⟨by rw [← e2]; rfl, pf⟩
    · rintro d ds ρ S1 ⟨acc, rs, y, e1, rfl, hr, ho, e2, hl2, pf, h1, h2⟩
      cases rs with
      | nil => cases e1
      | cons a rs =>
        rw [List.map_cons] at e1
        injection e1 with e1 e3
        subst e1 e3
        refine ⟨h2, _, rfl, fun K hK => ?_⟩
        have h1' : (S1 ++ [MO.lst []])[S.length]? = some (.lst (acc.map kd.d)) := (Pf.app S1 _) _ _ h1
        have h2' : (S1 ++ [MO.lst []])[S.length + 1]? = some (.lst ((l.mergeSort (dataLe false kd.k)).map kd.d)) := (Pf.app S1 _) _ _ h2
        have pf' := pf.trans (Pf.app S1 [.lst []])
        have hlt : acc.length < sizeLine := by rw [List.length_cons] at hl2; omega
        have ha := hr a List.mem_cons_self
        -- what is done if it is put in
        have put : adjG (acc ++ [a]) rs = srt kd l → K [some x, some (.ref S.length), some (kd.d a)] ((S1 ++ [MO.lst []]).set S.length (.lst (acc.map kd.d ++ [kd.d a]))) := fun e3 =>
          hK _ _ ⟨acc ++ [a], rs, some (kd.d a), rfl, rfl, fun b hb => hr b (List.mem_cons_of_mem _ hb), fun b hb => (List.mem_append.mp hb).elim (ho b) fun z => by rw [List.mem_singleton.mp z]; exact ha, e3, by rw [List.length_append, List.length_singleton]; rw [List.length_cons] at hl2; omega,
            pf'.set (Nat.le_refl _) _, by rw [List.getElem?_set_self (List.getElem?_eq_some_iff.mp h1').1]; simp, by rw [List.getElem?_set_ne (by omega)]; exact h2'⟩
        simp [bodyG, sSeq, sAsg, sDrop, sRet, sIf, sNext, wOp, wUn, wVar, wC, aNil, aCons, wFn, wTup, wLst, wIf, tVal, tAnd, tOr, tNot, wAnd, wOr, wNot, wCall, fA1, fIx, fIsiA, fIsi, typeD, kit_int_int, kit_int_str, kit_int_tuple, kit_int_bool, kit_str_int, kit_str_str, kit_str_tuple, kit_str_bool, kit_tuple_int, kit_tuple_str, kit_tuple_tuple, kit_tuple_bool, kit_bool_int, kit_bool_str, kit_bool_tuple, kit_bool_bool, kit_list_int, kit_list_str, kit_list_tuple, kit_list_bool, kit_dict_int, kit_dict_str, kit_dict_tuple, kit_dict_bool, atSq, atI, ixN, endK, startR, Pat.go, Pat.gos, fI, fI0, fIB, wChain, oB_some, Tm.d, fEq, fNeg]
        refine ⟨_, .lst h1' (kd.snaps _ acc), _, .lst (n := S1.length) (xs := []) (by simp) .nil, kd.shapedL ho, by decide +kernel, ?_⟩
        rw [adjG] at e2
        cases hacc : acc with
        | nil =>
          subst hacc
          rw [if_pos (by simp [PyData.eqv, PyData.eqvAll])]
          refine ⟨⟨_, _, rfl, h1'⟩, ?_⟩
          simp [fApp]
          refine atN_of h1' ⟨by rw [List.length_map]; exact hlt, put (by simpa using e2)⟩
        | cons b bs =>
          rw [← hacc]
          have hne : acc ≠ [] := by rw [hacc]; exact List.cons_ne_nil _ _
          rw [if_neg (by rw [hacc]; simp [PyData.eqv, PyData.eqvAll])]
          have hlast : acc.getLast? = some (acc.getLast hne) := List.getLast?_eq_some_getLast hne
          have e5 : atI (acc.map kd.d) (-1) = some (kd.d (acc.getLast hne)) := atI_last (by rw [List.getLast?_map, hlast]; rfl)
          have hlo := ho _ (List.getLast_mem hne)
          simp only [h1']
          refine oB_iff.mpr ⟨kd.d (acc.getLast hne), by simpa [atI, ixN] using e5, _, kd.snap _ _, _, kd.snap _ a, kd.shaped hlo, kd.shaped ha, ?_⟩
          by_cases heq : acc.getLast hne = a
          · rw [if_pos ((kd.eqv _ _ hlo ha).mpr heq)]
            refine hK _ _ ⟨acc, rs, some (kd.d a), rfl, rfl, fun b hb => hr b (List.mem_cons_of_mem _ hb), ho, ?_, by rw [List.length_cons] at hl2; omega, pf', h1', h2'⟩
            rw [if_neg (by rw [hlast, heq]; simp [hne])] at e2
            exact e2
          · rw [if_neg fun z => heq ((kd.eqv _ _ hlo ha).mp z)]
            simp [bodyG, sSeq, sAsg, sDrop, sRet, sIf, sNext, wOp, wUn, wVar, wC, aNil, aCons, wFn, wTup, wLst, wIf, tVal, tAnd, tOr, tNot, wAnd, wOr, wNot, wCall, fA1, fIx, fIsiA, fIsi, typeD, kit_int_int, kit_int_str, kit_int_tuple, kit_int_bool, kit_str_int, kit_str_str, kit_str_tuple, kit_str_bool, kit_tuple_int, kit_tuple_str, kit_tuple_tuple, kit_tuple_bool, kit_bool_int, kit_bool_str, kit_bool_tuple, kit_bool_bool, kit_list_int, kit_list_str, kit_list_tuple, kit_list_bool, kit_dict_int, kit_dict_str, kit_dict_tuple, kit_dict_bool, atSq, atI, ixN, endK, startR, Pat.go, Pat.gos, fI, fI0, fIB, wChain, oB_some, Tm.d, wMt]
            refine ⟨⟨_, _, rfl, h1'⟩, ?_⟩
            simp [fApp]
            refine atN_of h1' ⟨by rw [List.length_map]; exact hlt, put ?_⟩
            rw [if_pos (.inr (by rw [hlast]; simpa using heq))] at e2
            exact e2
end
end Zz
set_option Elab.async false
set_option linter.all false
set_option maxRecDepth 100000
namespace Zz
open PySem PySem.Spec PyProof.Rows L2
open PySem.W (alike alikeAll dataLt AllAlike dataLe keyToks keyToksAll)
def Tm.nk : Tm → NestedKey
  | .num i => .num i
  | .nm s => .text s
  | .vr s => .tup [.text "var", .text s]
def Tm.p : Tm → PyData
  | .num i => .int i
  | .nm s => .str s
  | .vr s => .tuple [.str "var", .str s]
theorem tm_keyD (t : Tm) : keyD t.nk = t.d := by cases t <;> rfl
theorem tms_keyD : ∀ l : List Tm, keyDs (l.map Tm.nk) = l.map Tm.d
  | [] => rfl
  | t :: l => by rw [List.map_cons, List.map_cons, keyDs, tm_keyD, tms_keyD l]
theorem tm_dinj {a b : Tm} (h : a.d = b.d) : a = b := by
  cases a <;> cases b <;> simp [Tm.d] at h <;> subst h <;> rfl
theorem tms_dinj : ∀ {l m : List Tm}, l.map Tm.d = m.map Tm.d → l = m
  | [], [], _ => rfl
  | [], _ :: _, h => by simp at h
  | _ :: _, [], h => by simp at h
  | a :: l, b :: m, h => by
    rw [List.map_cons, List.map_cons, List.cons.injEq] at h
    rw [tm_dinj h.1, tms_dinj h.2]
theorem tm_snap (S : Sto) (t : Tm) : Sn S t.d t.p := by
  cases t with
  | num i => exact .int i
  | nm s => exact .str s
  | vr s => exact .tup (.cons (.str _) (.cons (.str s) .nil))
theorem tms_snap (S : Sto) : ∀ l : List Tm, Sns S (l.map Tm.d) (l.map Tm.p)
  | [] => .nil
  | t :: l => .cons (tm_snap S t) (tms_snap S l)
theorem tm_lay {t : Tm} (h : t.ok) : t.p.canLay0 = true := by
  cases t with
  | num i => simp [Tm.p, PyData.canLay0]
  | nm s => simp [Tm.p, PyData.canLay0]; exact words_ok s h
  | vr s =>
    have h1 : s ∈ wordsL := List.mem_append_left _ h
    simp [Tm.p, PyData.canLay0, PyData.canLayAll0, words_ok s h1]
    decide +kernel
theorem tm_pdep (t : Tm) : t.p.depth ≤ 1 := by cases t <;> simp [Tm.p, PyData.depth, PyData.depthAll]
theorem tm_kdep (t : Tm) : t.k.depth ≤ 1 := by cases t <;> simp [Tm.k, PyData.depth, PyData.depthAll]
theorem tm_eqv {a b : Tm} : PyData.eqv a.p b.p = true ↔ a = b := by
  cases a <;> cases b <;> simp [Tm.p, PyData.eqv, PyData.eqvAll]
theorem tms_eqv : ∀ {l m : List Tm}, PyData.eqvAll (l.map Tm.p) (m.map Tm.p) = true ↔ l = m
  | [], [] => by simp [PyData.eqvAll]
  | [], _ :: _ => by simp [PyData.eqvAll]
  | _ :: _, [] => by simp [PyData.eqvAll]
  | a :: l, b :: m => by
    rw [List.map_cons, List.map_cons, PyData.eqvAll, Bool.and_eq_true, tm_eqv, tms_eqv, List.cons.injEq]
theorem tm_flat (t : Tm) : flatP t.k = true := by cases t <;> simp [Tm.k, flatP, flatPs]
theorem tms_flat : ∀ l : List Tm, flatPs (l.map Tm.k) = true
  | [] => rfl
  | t :: l => by rw [List.map_cons, flatPs, tm_flat, tms_flat l]; rfl
theorem tm_pure (t : Tm) : pureD t.d = true := by cases t <;> simp [Tm.d, pureD, pureDs]
theorem tms_pure : ∀ l : List Tm, pureDs (l.map Tm.d) = true
  | [] => rfl
  | t :: l => by rw [List.map_cons, pureDs, tm_pure, tms_pure l]; rfl
theorem nkAll {l : List NestedKey} {n : Nat} (h : ∀ p ∈ l, p.depth ≤ n) : NestedKey.depthAll l ≤ n := by
  induction l with
  | nil => simp [NestedKey.depthAll]
  | cons p l ih =>
    rw [NestedKey.depthAll]
    exact Nat.max_le.mpr ⟨h p List.mem_cons_self, ih fun q hq => h q (List.mem_cons_of_mem _ hq)⟩
theorem tm_nkdep (t : Tm) : t.nk.depth ≤ 1 := by cases t <;> simp [Tm.nk, NestedKey.depth, NestedKey.depthAll]
theorem tms_dep (l : List Tm) : PyData.depthAll (l.map Tm.p) ≤ 1 := depAll fun p hp => by obtain ⟨t, _, rfl⟩ := List.mem_map.mp hp; exact tm_pdep t
theorem tms_kd (l : List Tm) : PyData.depthAll (l.map Tm.k) ≤ 1 := depAll fun p hp => by obtain ⟨t, _, rfl⟩ := List.mem_map.mp hp; exact tm_kdep t
theorem tms_nkd (l : List Tm) : NestedKey.depthAll (l.map Tm.nk) ≤ 1 := nkAll fun p hp => by obtain ⟨t, _, rfl⟩ := List.mem_map.mp hp; exact tm_nkdep t
/-- facts -/
def Fact.p (f : Fact) : PyData := .tuple [.str f.1, .tuple (f.2.map Tm.p)]
def kdF : Kd Fact where
  d := Fact.d
  k := Fact.k
  p := Fact.p
  nk f := [.text f.1, .tup (f.2.map Tm.nk)]
  ok := Fact.ok
  hnk f := by simp only [keyD, keyDs, tms_keyD, Fact.d]
  inj f g h := by
    obtain ⟨a, l⟩ := f
    obtain ⟨b, m⟩ := g
    simp [Fact.d] at h
    rw [h.1, tms_dinj h.2]
  dep f := by
    have := tms_nkd f.2
    simp only [NestedKey.depth, NestedKey.depthAll]
    omega
  alike := fact_alike
  toks _ _ h := fact_toks h
  flat f := by simp only [Fact.k, flatP, flatPs, tms_flat, Bool.and_self]
  some' f := by simp [Fact.k]
  kdep f := by
    have := tms_kd f.2
    simp only [Fact.k, PyData.depth, PyData.depthAll]
    omega
  pure f := by simp only [Fact.d, pureD, pureDs, tms_pure, Bool.and_self]
  snap S f := .tup (.cons (.str _) (.cons (.tup (tms_snap S f.2)) .nil))
  lay f h := by
    simp only [Fact.p, PyData.canLay0, PyData.canLayAll0, words_ok f.1 h.link, Bool.true_and, Bool.and_true]
    exact layAll fun p hp => by obtain ⟨t, ht, rfl⟩ := List.mem_map.mp hp; exact tm_lay (h.ts t ht)
  pdep f := by
    have := tms_dep f.2
    simp only [Fact.p, PyData.depth, PyData.depthAll]
    omega
  eqv f g _ _ := by
    obtain ⟨a, l⟩ := f
    obtain ⟨b, m⟩ := g
    simp [Fact.p, PyData.eqv, PyData.eqvAll, tms_eqv]
/-- tellings -/
def cpD (p : Str × Tm) : D := .tup [.str p.1, p.2.d]
def cpP (p : Str × Tm) : PyData := .tuple [.str p.1, p.2.p]
def cpK (p : Str × Tm) : PyData := .tuple [.str p.1, p.2.k]
def cpN (p : Str × Tm) : NestedKey := .tup [.text p.1, p.2.nk]
def Tell.p (f : Tell) : PyData := .tuple (f.map cpP)
theorem cps_keyD : ∀ l : Tell, keyDs (l.map cpN) = l.map cpD
  | [] => rfl
  | t :: l => by
    rw [List.map_cons, List.map_cons, keyDs, cps_keyD l]
    simp only [cpN, keyD, keyDs, tm_keyD, cpD]
theorem cps_dinj : ∀ {l m : Tell}, l.map cpD = m.map cpD → l = m
  | [], [], _ => rfl
  | [], _ :: _, h => by simp at h
  | _ :: _, [], h => by simp at h
  | (a, x) :: l, (b, y) :: m, h => by
    rw [List.map_cons, List.map_cons, List.cons.injEq] at h
    have h1 := h.1
    simp [cpD] at h1
    rw [cps_dinj h.2, h1.1, tm_dinj h1.2]
theorem cps_snap (S : Sto) : ∀ l : Tell, Sns S (l.map cpD) (l.map cpP)
  | [] => .nil
  | t :: l => .cons (.tup (.cons (.str _) (.cons (tm_snap S t.2) .nil))) (cps_snap S l)
theorem cps_eqv : ∀ {l m : Tell}, PyData.eqvAll (l.map cpP) (m.map cpP) = true ↔ l = m
  | [], [] => by simp [PyData.eqvAll]
  | [], _ :: _ => by simp [PyData.eqvAll]
  | _ :: _, [] => by simp [PyData.eqvAll]
  | (a, x) :: l, (b, y) :: m => by
    rw [List.map_cons, List.map_cons, PyData.eqvAll, Bool.and_eq_true, cps_eqv, List.cons.injEq]
    simp [cpP, PyData.eqv, PyData.eqvAll, tm_eqv]
theorem cps_flat : ∀ l : Tell, flatPs (l.map cpK) = true
  | [] => rfl
  | t :: l => by
    rw [List.map_cons, flatPs, cps_flat l]
    simp only [cpK, flatP, flatPs, tm_flat, Bool.and_self]
theorem cps_pure : ∀ l : Tell, pureDs (l.map cpD) = true
  | [] => rfl
  | t :: l => by
    rw [List.map_cons, pureDs, cps_pure l]
    simp only [cpD, pureD, pureDs, tm_pure, Bool.and_self]
def kdT : Kd Tell where
  d := Tell.d
  k := Tell.k
  p := Tell.p
  nk f := f.map cpN
  ok := Tell.ok
  hnk f := by simp only [keyD, cps_keyD, Tell.d]; rfl
  inj f g h := by
    simp only [Tell.d, D.tup.injEq] at h
    exact cps_dinj h
  dep f := by
    have : NestedKey.depthAll (f.map cpN) ≤ 2 := nkAll fun p hp => by
      obtain ⟨t, _, rfl⟩ := List.mem_map.mp hp
      have := tm_nkdep t.2
      simp only [cpN, NestedKey.depth, NestedKey.depthAll]
      omega
    simp only [NestedKey.depth]
    omega
  alike := tell_alike
  toks _ _ h := tell_toks h
  flat f := by simp only [Tell.k, flatP]; exact cps_flat f
  some' f := by simp [Tell.k]
  kdep f := by
    have : PyData.depthAll (f.map cpK) ≤ 2 := depAll fun p hp => by
      obtain ⟨t, _, rfl⟩ := List.mem_map.mp hp
      have := tm_kdep t.2
      simp only [cpK, PyData.depth, PyData.depthAll]
      omega
    show PyData.depthAll (f.map cpK) + 1 ≤ 64
    omega
  pure f := by simp only [Tell.d, pureD]; exact cps_pure f
  snap S f := .tup (cps_snap S f)
  lay f h := by
    simp only [Tell.p, PyData.canLay0]
    exact layAll fun p hp => by
      obtain ⟨t, ht, rfl⟩ := List.mem_map.mp hp
      have := h.ts t ht
      simp only [cpP, PyData.canLay0, PyData.canLayAll0, words_ok _ this.1, tm_lay this.2.1, Bool.and_self]
  pdep f := by
    have : PyData.depthAll (f.map cpP) ≤ 2 := depAll fun p hp => by
      obtain ⟨t, _, rfl⟩ := List.mem_map.mp hp
      have := tm_pdep t.2
      simp only [cpP, PyData.depth, PyData.depthAll]
      omega
    simp only [Tell.p, PyData.depth]
    omega
  eqv f g _ _ := by
    show PyData.eqvAll (f.map cpP) (g.map cpP) = true ↔ _
    exact cps_eqv
section
variable {tb : List MO} {k : Nat} {S : Sto}
end
open PySem.W (alike alikeAll dataLt AllAlike dataLe keyToks keyToksAll)
mutual
theorem sn_dP (S : Sto) : ∀ p : PyData, flatP p = true → Sn S (dP p) p
  | .none, _ => .non
  | .bool b, _ => .bl b
  | .int i, _ => .int i
  | .str x, _ => .str x
  | .tuple xs, h => by rw [flatP] at h; rw [dP]; exact .tup (sns_dP S xs h)
  | .list _, h => by rw [flatP] at h; cases h
  | .dict _, h => by rw [flatP] at h; cases h
theorem sns_dP (S : Sto) : ∀ ps : List PyData, flatPs ps = true → Sns S (dPs ps) ps
  | [], _ => .nil
  | p :: ps, h => by
    rw [flatPs, Bool.and_eq_true] at h
    rw [dPs]
    exact .cons (sn_dP S p h.1) (sns_dP S ps h.2)
end
theorem cut1 {α : Type} (xs : List α) : cutD xs (some 1) none = xs.drop 1 := by
  unfold cutD HT.sIx
  cases xs with
  | nil => simp
  | cons x r => simp
/-- each less than the next -/
def asB {α : Type} (kd : Kd α) (l : List α) : Bool := (l.zip (l.drop 1)).all fun p => dataLt (kd.k p.1) (kd.k p.2)
theorem asB_iff {α : Type} (kd : Kd α) : ∀ l : List α, asB kd l = true ↔ l.Pairwise (Lt kd.k)
  | [] => by simp [asB]
  | [a] => by simp [asB]
  | a :: b :: l => by
    have e : asB kd (a :: b :: l) = (dataLt (kd.k a) (kd.k b) && asB kd (b :: l)) := rfl
    rw [e, Bool.and_eq_true, asB_iff kd (b :: l)]
    refine ⟨fun ⟨h1, h2⟩ => List.pairwise_cons.mpr ⟨fun c hc => ?_, h2⟩, fun h => ⟨(List.pairwise_cons.mp h).1 b List.mem_cons_self, (List.pairwise_cons.mp h).2⟩⟩
    rcases List.mem_cons.mp hc with rfl | hc
    · exact h1
    · have h3 := (List.pairwise_cons.mp h2).1 c hc
      exact TO.trans _ _ _ h1 h3
theorem srt_self {α : Type} [DecidableEq α] (kd : Kd α) (l : List α) : (srt kd l = l) ↔ asB kd l = true := by
  rw [asB_iff]
  exact ⟨fun h => h ▸ rise_srt kd l, fun h => (srt_of h fun x => Iff.rfl).symm⟩
theorem sns_ones {α : Type} (S : Sto) : ∀ l : List α, Sns S (l.map fun _ => D.int 1) (l.map fun _ => PyData.int 1)
  | [] => .nil
  | _ :: l => .cons (.int 1) (sns_ones S l)
theorem shaped_ones {α : Type} (l : List α) : SeqAt.shaped (.list (l.map fun _ => PyData.int 1)) = true := by
  unfold SeqAt.shaped
  rw [Bool.and_eq_true, decide_eq_true_eq]
  refine ⟨?_, ?_⟩
  · rw [PyData.canLay0]
    exact layAll fun p hp => by obtain ⟨a, _, rfl⟩ := List.mem_map.mp hp; rfl
  · rw [PyData.depth]
    have := depAll (l := l.map fun _ => PyData.int 1) (n := 0) fun p hp => by obtain ⟨a, _, rfl⟩ := List.mem_map.mp hp; simp [PyData.depth]
    omega
section
variable {tb : List MO} {k : Nat} {S : Sto}
end
open PySem.W (alike alikeAll dataLt AllAlike dataLe keyToks keyToksAll)
/-- variables' names -/
def vnT : List Tm → List Str
  | [] => []
  | .vr s :: l => s :: vnT l
  | _ :: l => vnT l
def vnF : List Fact → List Str
  | [] => []
  | f :: l => vnT f.2 ++ vnF l
theorem vnT_app : ∀ a b : List Tm, vnT (a ++ b) = vnT a ++ vnT b
  | [], _ => rfl
  | .vr s :: a, b => by simp only [List.cons_append, vnT, vnT_app a b]
  | .num _ :: a, b => by simp only [List.cons_append, vnT, vnT_app a b]
  | .nm _ :: a, b => by simp only [List.cons_append, vnT, vnT_app a b]
theorem vnF_eq : ∀ l : List Fact, vnF l = vnT ((l.map (·.2)).flatten)
  | [] => rfl
  | f :: l => by rw [vnF, List.map_cons, List.flatten_cons, vnT_app, vnF_eq l]
theorem vnT_len : ∀ l : List Tm, (vnT l).length ≤ l.length
  | [] => Nat.le_refl _
  | .vr s :: l => by simp only [vnT, List.length_cons]; have := vnT_len l; omega
  | .num _ :: l => by simp only [vnT, List.length_cons]; have := vnT_len l; omega
  | .nm _ :: l => by simp only [vnT, List.length_cons]; have := vnT_len l; omega
theorem flat_len {l : List Fact} (hok : ∀ a ∈ l, a.ok) : ((l.map (·.2)).flatten).length ≤ 3 * l.length := by
  induction l with
  | nil => simp
  | cons f l ih =>
    rw [List.map_cons, List.flatten_cons, List.length_append, List.length_cons]
    have := ih fun a ha => hok a (List.mem_cons_of_mem _ ha)
    have := (hok f List.mem_cons_self).few
    omega
def kys (l : List Str) : List Key := l.map Sum.inr
/-- the names sorted -/
def srtN (ns : List Str) : List Key := (uq (kys ns)).mergeSort (dataLe false kP)
def kfK : D → PyData
  | .str x => .str x
  | .int i => .int i
  | _ => .none
theorem kfK_eq (k : Key) : kfK (kD k) = kP k := by cases k <;> rfl
theorem sort_mapK (l : List Key) : (l.map kD).mergeSort (dataLe false kfK) = (l.mergeSort (dataLe false kP)).map kD :=
  (List.map_mergeSort fun a _ b _ => by
    show (!_) = (!_)
    simp only [kfK_eq]).symm
theorem srtN_of {acc ns : List Str} (nd : acc.Nodup) (h : ∀ x, x ∈ acc ↔ x ∈ ns) : (kys acc).mergeSort (dataLe false kP) = srtN ns := by
  refine sort_one ?_ fun a _ b _ h => toks_kP h
  refine (List.perm_ext_iff_of_nodup ?_ (nodup_uq _)).mpr fun k => ?_
  · exact List.Pairwise.map _ (fun a b h e => h (Sum.inr.inj e)) nd
  · rw [mem_uq]
    unfold kys
    simp only [List.mem_map, h]
def entN (acc : List Str) : List (Key × D) := acc.map fun s => (.inr s, .bl true)
theorem put_entN (acc : List Str) (a : Str) : putA (entN acc) (.inr a) (.bl true) = entN (if a ∈ acc then acc else acc ++ [a]) := by
  unfold putA
  have e : ((entN acc).any fun kv => decide (kv.1 = Sum.inr a)) = true ↔ a ∈ acc := by
    simp only [entN, List.any_map, List.any_eq_true, Function.comp, decide_eq_true_eq]
    exact ⟨fun ⟨b, hb, h⟩ => Sum.inr.inj h ▸ hb, fun h => ⟨a, h, rfl⟩⟩
  by_cases h : a ∈ acc
  · rw [if_pos (e.mpr h), if_pos h]
    unfold entN
    rw [List.map_map]
    refine List.map_congr_left fun b _ => ?_
    show (if _ then _ else _) = _
    split <;> rfl
  · rw [if_neg (fun z => h (e.mp z)), if_neg h]
    simp [entN]
theorem dedG_app {α : Type} [DecidableEq α] : ∀ (a b acc : List α), dedG acc (a ++ b) = dedG (dedG acc a) b
  | [], _, _ => rfl
  | x :: a, b, acc => by rw [List.cons_append, dedG, dedG, dedG_app a b]
theorem alike_strs (l : List Str) : AllAlike ((kys l).map kP) := by
  intro d hd d' hd'
  simp only [kys, List.map_map, List.mem_map, Function.comp] at hd hd'
  obtain ⟨a, _, rfl⟩ := hd
  obtain ⟨b, _, rfl⟩ := hd'
  simp [kP, alike]
section
variable {tb : List MO} {k : Nat} {S : Sto}
theorem vars_ok {x : D} {l : List Fact} (hx : SqAt S x (l.map Fact.d)) (hok : ∀ a ∈ l, a.ok) (hz : l.length ≤ 100) : Ok (Gm tb (k + 3) 5) [x] S (fun d S' => d = .tup ((srtN (vnF l)).map kD) ∧ Pf S S') := by
  intro q e hq
  show bodyG 4 1 (b_variables (Gm tb (k + 2))) _ _ _ _
  simp [b_variables, bodyG, sSeq, sAsg, sDrop, sRet, sIf, sNext, wOp, wUn, wVar, wC, aNil, aCons, wFn, wTup, wLst, wIf, tVal, tAnd, tOr, tNot, wAnd, wOr, wNot, wCall, fA1, fIx, fIsiA, fIsi, typeD, kit_int_int, kit_int_str, kit_int_tuple, kit_int_bool, kit_str_int, kit_str_str, kit_str_tuple, kit_str_bool, kit_tuple_int, kit_tuple_str, kit_tuple_tuple, kit_tuple_bool, kit_bool_int, kit_bool_str, kit_bool_tuple, kit_bool_bool, kit_list_int, kit_list_str, kit_list_tuple, kit_list_bool, kit_dict_int, kit_dict_str, kit_dict_tuple, kit_dict_bool, atSq, atI, ixN, endK, startR, Pat.go, Pat.gos, fI, fI0, fIB, wChain, oB_some, Tm.d, wCompG, wSeq]
  refine srcOf_sq hx fun c hc hcok => ?_
  rw [hc]
  have hfl := flat_len hok
  have hvn : (vnF l).length ≤ 3 * l.length := by rw [vnF_eq]; exact Nat.le_trans (vnT_len _) hfl
  have bound : ∀ acc rest : List Str, dedG acc rest = dedG [] (vnF l) → acc.length < sizeLine := fun acc rest h => by
    have h1 : acc.length ≤ (dedG acc rest).length := by
      clear h
      induction rest generalizing acc with
      | nil => exact Nat.le_refl _
      | cons a r ih =>
        rw [dedG]
        refine Nat.le_trans ?_ (ih _)
        split
        · exact Nat.le_refl _
        · simp
    have h2 := len_dedG (l := vnF l) (acc := [])
    rw [h] at h1
    simp only [List.length_nil, Nat.zero_add] at h2
    have h3 : (300 : Nat) < sizeLine := by decide
    omega
  refine walkC_do (fun ds S1 => ∃ acc rs, ds = rs.map Fact.d ∧ (∀ a ∈ rs, a.ok) ∧ dedG acc (vnF rs) = dedG [] (vnF l) ∧ Pf S S1 ∧ S1[S.length]? = some (.dk (entN acc))) ?_ ?_ _ _ ⟨[], l, rfl, hok, rfl, Pf.app _ _, by simp [entN]⟩
  · rintro S1 ⟨acc, rs, e1, _, e2, pf, hs⟩
    cases rs with
    | cons _ _ => cases e1
    | nil =>
      refine ⟨hcok _ pf, ?_⟩
      have e3 : acc = dedG [] (vnF l) := e2
      have hi : itsD S1 (.ref S.length) = some ((kys acc).map kD) := by
        simp only [itsD, hs, entN, kys, List.map_map]
        rfl
      refine ⟨(kys acc).map kD, kfK, hi, fun d hd => ?_, ?_, fun d hd => ?_, ?_, ?_⟩
      · simp only [kys, List.map_map, List.mem_map, Function.comp] at hd
        obtain ⟨s, _, rfl⟩ := hd
        exact .str s
      · have := alike_strs acc
        rw [List.map_map]
        have e4 : (kfK ∘ kD) = kP := funext kfK_eq
        rw [e4]
        exact this
      · simp only [kys, List.map_map, List.mem_map, Function.comp] at hd
        obtain ⟨s, _, rfl⟩ := hd
        exact ⟨by simp [kfK, kD], by simp [kfK, kD, PyData.depth]⟩
      · have := bound acc [] e2
        simp only [kys, List.length_map]
        omega
      · rw [sort_mapK]
        simp [bodyG, sSeq, sAsg, sDrop, sRet, sIf, sNext, wOp, wUn, wVar, wC, aNil, aCons, wFn, wTup, wLst, wIf, tVal, tAnd, tOr, tNot, wAnd, wOr, wNot, wCall, fA1, fIx, fIsiA, fIsi, typeD, kit_int_int, kit_int_str, kit_int_tuple, kit_int_bool, kit_str_int, kit_str_str, kit_str_tuple, kit_str_bool, kit_tuple_int, kit_tuple_str, kit_tuple_tuple, kit_tuple_bool, kit_bool_int, kit_bool_str, kit_bool_tuple, kit_bool_bool, kit_list_int, kit_list_str, kit_list_tuple, kit_list_bool, kit_dict_int, kit_dict_str, kit_dict_tuple, kit_dict_bool, atSq, atI, ixN, endK, startR, Pat.go, Pat.gos, fI, fI0, fIB, wChain, oB_some, Tm.d, fTuple]
        refine hq _ _ ⟨?_, pf.trans (Pf.app _ _)⟩
        rw [srtN_of (ns := vnF l) (by rw [e3]; exact nodup_dedG List.nodup_nil) fun x => by rw [e3, mem_dedG]; simp]
  · rintro d ds S1 ⟨acc, rs, e1, hr, e2, pf, hs⟩
    cases rs with
    | nil => cases e1
    | cons f rs =>
      rw [List.map_cons] at e1
      injection e1 with e1 e3
      subst e1 e3
      refine ⟨hcok _ pf, _, rfl, fun K hK => ?_⟩
      simp [tYesD, inB, bodyG, sSeq, sAsg, sDrop, sRet, sIf, sNext, wOp, wUn, wVar, wC, aNil, aCons, wFn, wTup, wLst, wIf, tVal, tAnd, tOr, tNot, wAnd, wOr, wNot, wCall, fA1, fIx, fIsiA, fIsi, typeD, kit_int_int, kit_int_str, kit_int_tuple, kit_int_bool, kit_str_int, kit_str_str, kit_str_tuple, kit_str_bool, kit_tuple_int, kit_tuple_str, kit_tuple_tuple, kit_tuple_bool, kit_bool_int, kit_bool_str, kit_bool_tuple, kit_bool_bool, kit_list_int, kit_list_str, kit_list_tuple, kit_list_bool, kit_dict_int, kit_dict_str, kit_dict_tuple, kit_dict_bool, atSq, atI, ixN, endK, startR, Pat.go, Pat.gos, fI, fI0, fIB, wChain, oB_some, Tm.d, wipeR, srcOf, Pat.own]
      have hf := hr f List.mem_cons_self
      refine walkC_do (fun ts S2 => ∃ acc2 us, ts = us.map Tm.d ∧ (∀ t ∈ us, t.ok) ∧ dedG acc2 (vnT us ++ vnF rs) = dedG [] (vnF l) ∧ Pf S S2 ∧ S2[S.length]? = some (.dk (entN acc2))) ?_ ?_ _ _ ⟨acc, f.2, rfl, hf.ts, e2, pf, hs⟩
      · rintro S2 ⟨acc2, us, e4, _, e5, pf2, hs2⟩
        cases us with
        | cons _ _ => cases e4
        | nil => exact ⟨True.intro, hK _ ⟨acc2, rs, rfl, fun a ha => hr a (List.mem_cons_of_mem _ ha), e5, pf2, hs2⟩⟩
      · rintro d2 ts S2 ⟨acc2, us, e4, hu, e5, pf2, hs2⟩
        cases us with
        | nil => cases e4
        | cons t us =>
          rw [List.map_cons] at e4
          injection e4 with e4 e6
          subst e4 e6
          refine ⟨True.intro, _, rfl, fun K2 hK2 => ?_⟩
          simp [bodyG, sSeq, sAsg, sDrop, sRet, sIf, sNext, wOp, wUn, wVar, wC, aNil, aCons, wFn, wTup, wLst, wIf, tVal, tAnd, tOr, tNot, wAnd, wOr, wNot, wCall, fA1, fIx, fIsiA, fIsi, typeD, kit_int_int, kit_int_str, kit_int_tuple, kit_int_bool, kit_str_int, kit_str_str, kit_str_tuple, kit_str_bool, kit_tuple_int, kit_tuple_str, kit_tuple_tuple, kit_tuple_bool, kit_bool_int, kit_bool_str, kit_bool_tuple, kit_bool_bool, kit_list_int, kit_list_str, kit_list_tuple, kit_list_bool, kit_dict_int, kit_dict_str, kit_dict_tuple, kit_dict_bool, atSq, atI, ixN, endK, startR, Pat.go, Pat.gos, fI, fI0, fIB, wChain, oB_some, Tm.d, wipeR]
          refine var_ok t (hu t List.mem_cons_self) _ _ fun d S3 ⟨h1, p3⟩ => ?_
          subst h1
          have hs3 := p3 _ _ hs2
          cases t with
          | num i => exact hK2 _ ⟨acc2, us, rfl, fun a ha => hu a (List.mem_cons_of_mem _ ha), e5, pf2.trans p3, hs3⟩
          | nm i => exact hK2 _ ⟨acc2, us, rfl, fun a ha => hu a (List.mem_cons_of_mem _ ha), e5, pf2.trans p3, hs3⟩
          | vr s =>
            simp [Tm.isVr, putB, bodyG, sSeq, sAsg, sDrop, sRet, sIf, sNext, wOp, wUn, wVar, wC, aNil, aCons, wFn, wTup, wLst, wIf, tVal, tAnd, tOr, tNot, wAnd, wOr, wNot, wCall, fA1, fIx, fIsiA, fIsi, typeD, kit_int_int, kit_int_str, kit_int_tuple, kit_int_bool, kit_str_int, kit_str_str, kit_str_tuple, kit_str_bool, kit_tuple_int, kit_tuple_str, kit_tuple_tuple, kit_tuple_bool, kit_bool_int, kit_bool_str, kit_bool_tuple, kit_bool_bool, kit_list_int, kit_list_str, kit_list_tuple, kit_list_bool, kit_dict_int, kit_dict_str, kit_dict_tuple, kit_dict_bool, atSq, atI, ixN, endK, startR, Pat.go, Pat.gos, fI, fI0, fIB, wChain, oB_some, Tm.d, wipeR, atD, hs3, keyOf]
            refine ⟨by simp only [entN, List.length_map]; exact bound _ _ e5, hK2 _ ⟨if s ∈ acc2 then acc2 else acc2 ++ [s], us, rfl, fun a ha => hu a (List.mem_cons_of_mem _ ha), e5, (pf2.trans p3).set (Nat.le_refl _) _, ?_⟩⟩
            rw [List.getElem?_set_self (List.getElem?_eq_some_iff.mp hs3).1, put_entN]
end
end Zz
set_option Elab.async false
set_option linter.all false
set_option maxRecDepth 100000
namespace Zz
open PySem PySem.Spec PyProof.Rows L2
open PySem.W (alike alikeAll dataLt AllAlike dataLe keyToks keyToksAll)
def Tm.name : Tm → Str
  | .vr s => s
  | .nm s => s
  | .num _ => ""
theorem vr_names : ∀ l : List Tm, (l.filter Tm.isVr).map (fun t => D.str t.name) = (kys (vnT l)).map kD
  | [] => rfl
  | .vr s :: l => by
    simp only [List.filter_cons, Tm.isVr, if_true, List.map_cons, vnT, kys]
    exact congrArg (D.str s :: ·) (vr_names l)
  | .num _ :: l => by simp only [List.filter_cons, Tm.isVr, vnT]; exact vr_names l
  | .nm _ :: l => by simp only [List.filter_cons, Tm.isVr, vnT]; exact vr_names l
section
variable {tb : List MO} {k : Nat} {S : Sto}
end
open PySem.W (alike alikeAll dataLt AllAlike dataLe keyToks keyToksAll)
/-! ### what a telling puts in -/
theorem srcOf_sq0 {S0 S : Sto} {x : D} {ds : List D} {k : Src → Prop} (h : SqAt S0 x ds) (p : Pf S0 S) (hk : ∀ c : Src, c.items = ds → (∀ S', Pf S0 S' → c.ok S') → k c) : srcOf S x k := by
  rcases h with rfl | ⟨n, rfl, h⟩
  · exact hk _ rfl fun _ _ => True.intro
  · simp only [srcOf, p _ _ h]
    exact hk ⟨ds, _⟩ rfl fun S' p => p _ _ h
section
variable {tb : List MO} {k : Nat} {S : Sto}
end
/-- all that stands stays, but at b -/
structure Pb (b : Nat) (S S' : Sto) : Prop where
  keep : ∀ (i : Nat) (o : MO), i ≠ b → S[i]? = some o → S'[i]? = some o
  len : S.length ≤ S'.length
theorem Pb.refl (b : Nat) (S : Sto) : Pb b S S := ⟨fun _ _ _ h => h, Nat.le_refl _⟩
theorem Pb.trans {b : Nat} {S S1 S2 : Sto} (a : Pb b S S1) (c : Pb b S1 S2) : Pb b S S2 := ⟨fun i o h e => c.keep i o h (a.keep i o h e), Nat.le_trans a.len c.len⟩
theorem Pf.pb {S S' : Sto} (h : Pf S S') (b : Nat) : Pb b S S' := ⟨fun i o _ e => h i o e, h.len⟩
theorem Pb.set {b : Nat} {S S' : Sto} (h : Pb b S S') (o : MO) : Pb b S (S'.set b o) := ⟨fun i u hi e => by rw [List.getElem?_set_ne (Ne.symm hi)]; exact h.keep i u hi e, by rw [List.length_set]; exact h.len⟩
theorem Pb.app (b : Nat) (S : Sto) (m : List MO) : Pb b S (S ++ m) := (Pf.app S m).pb b
/-- the bag at b -/
structure BagA (b : Nat) (S : Sto) (x y z : Int) (m : Nat) (cs : List Int) : Prop where
  at_ : S[b]? = some (.lst [.int x, .int y, .int z, .ref m])
  cells : S[m]? = some (.lst (cs.map D.int))
  ne : m ≠ b
  few : cs.length ≤ 63
def Bag (b m : Nat) (S : Sto) : Prop := ∃ x y z cs, BagA b S x y z m cs
theorem BagA.pb {b : Nat} {S S' : Sto} {x y z : Int} {m : Nat} {cs : List Int} (h : BagA b S x y z m cs) (p : Pf S S') : BagA b S' x y z m cs := ⟨p _ _ h.at_, p _ _ h.cells, h.ne, h.few⟩
theorem Bag.pf {b m : Nat} {S S' : Sto} (h : Bag b m S) (p : Pf S S') : Bag b m S' := let ⟨x, y, z, cs, h⟩ := h; ⟨x, y, z, cs, h.pb p⟩
theorem BagA.put {b : Nat} {S S' : Sto} {x y z x' y' z' : Int} {m : Nat} {cs : List Int} (h : BagA b S x y z m cs) (p : Pb b S S') : BagA b (S'.set b (.lst [.int x', .int y', .int z', .ref m])) x' y' z' m cs := by
  have hl := (List.getElem?_eq_some_iff.mp h.at_).1
  have := p.len
  exact ⟨List.getElem?_set_self (by omega), by rw [List.getElem?_set_ne (Ne.symm h.ne)]; exact p.keep _ _ h.ne h.cells, h.ne, h.few⟩
theorem fAdd_int {S : Sto} {i j : Int} {Q : QD} (h : Q (.int (i + j)) S) : fAdd S (.int i) (.int j) Q := .inl h
def takeTail : WS :=
    sSeq (sIf (tVal (wOp (fIB fun i j => decide (j < i)) (wOp fIx (wVar 0) (wC (.int 0))) (wC (.int 0)))) (sSeq (sAsg (wOp fMod (wFn (fA1 fInt) (aCons (wOp fIx (wVar 0) (wC (.int 0))) (aNil))) (wVar 1)) (.nm 6))
    (sSeq (sPut (wVar 0) (wC (.int 0)) (wOp fDiv (wFn (fA1 fInt) (aCons (wOp fIx (wVar 0) (wC (.int 0))) (aNil))) (wVar 1)))
    (sRet (wVar 6)))) (sNext))
    (sSeq (sAsg (wOp fMod (wFn (fA1 fInt) (aCons (wOp fMul (wOp fAdd (wOp fIx (wVar 0) (wC (.int 1))) (wC (.int 1))) (wC (.int 39373))) (aNil))) (wC (.int 1000000007))) (.nm 2))
    (sSeq (sAsg (wOp fMod (wFn (fA1 fInt) (aCons (wOp fMul (wOp fMod (wFn (fA1 fInt) (aCons (wOp fMul (wVar 2) (wVar 2)) (aNil))) (wC (.int 998244353))) (wC (.int 30011))) (aNil))) (wC (.int 998244353))) (.nm 3))
    (sRet (wOp fMod (wFn (fA1 fInt) (aCons (wOp fDiv (wVar 3) (wC (.int 7))) (aNil))) (wVar 1)))))
theorem cut_map {α β : Type} (f : α → β) (l : List α) (lo hi : Option Int) : cutD (l.map f) lo hi = (cutD l lo hi).map f := by
  unfold cutD
  rw [List.length_map, List.map_take, List.map_drop]
theorem cut_len {α : Type} (l : List α) (lo hi : Option Int) : (cutD l lo hi).length ≤ l.length := by
  unfold cutD
  rw [List.length_take, List.length_drop]
  omega
section
variable {tb : List MO} {k : Nat} {S : Sto}
theorem take_ok {b m : Nat} {many : Int} (hb : Bag b m S) (h0 : 0 < many) (h1 : many < 1000) : Ok (Gm tb (k + 1) 17) [.ref b, .int many] S (fun d S' => ∃ r : Int, d = .int r ∧ 0 ≤ r ∧ r < many ∧ Bag b m S' ∧ Pb b S S') := by
  intro q e hq
  obtain ⟨x, y, z, cs, hA⟩ := hb
  have a1 := hA.at_
  have a2 := hA.cells
  -- from the second half on
  have half : ∀ (S1 : Sto) (x1 y1 z1 : Int) (ρ : Rho) (c1 c2 c3 c4 c5 : Option D), ρ = [some (.ref b), some (.int many), c1, c2, c3, c4, c5] → BagA b S1 x1 y1 z1 m cs → Pb b S S1 →
      takeTail (endK q e) ρ S1 := by
    intro S1 x1 y1 z1 ρ c1 c2 c3 c4 c5 hρ hB hP
    subst hρ
    have b1 := hB.at_
    simp [takeTail, bodyG, sSeq, sAsg, sDrop, sRet, sIf, sNext, wOp, wUn, wVar, wC, aNil, aCons, wFn, wTup, wLst, wIf, tVal, tAnd, tOr, tNot, wAnd, wOr, wNot, wCall, fA1, fIx, fIsiA, fIsi, typeD, kit_int_int, kit_int_str, kit_int_tuple, kit_int_bool, kit_str_int, kit_str_str, kit_str_tuple, kit_str_bool, kit_tuple_int, kit_tuple_str, kit_tuple_tuple, kit_tuple_bool, kit_bool_int, kit_bool_str, kit_bool_tuple, kit_bool_bool, kit_list_int, kit_list_str, kit_list_tuple, kit_list_bool, kit_dict_int, kit_dict_str, kit_dict_tuple, kit_dict_bool, atSq, atI, ixN, endK, startR, Pat.go, Pat.gos, fI, fI0, fIB, wChain, oB_some, b1]
    by_cases hx : 0 < x1
    · rw [if_pos hx]
      simp [bodyG, sSeq, sAsg, sDrop, sRet, sIf, sNext, wOp, wUn, wVar, wC, aNil, aCons, wFn, wTup, wLst, wIf, tVal, tAnd, tOr, tNot, wAnd, wOr, wNot, wCall, fA1, fIx, fIsiA, fIsi, typeD, kit_int_int, kit_int_str, kit_int_tuple, kit_int_bool, kit_str_int, kit_str_str, kit_str_tuple, kit_str_bool, kit_tuple_int, kit_tuple_str, kit_tuple_tuple, kit_tuple_bool, kit_bool_int, kit_bool_str, kit_bool_tuple, kit_bool_bool, kit_list_int, kit_list_str, kit_list_tuple, kit_list_bool, kit_dict_int, kit_dict_str, kit_dict_tuple, kit_dict_bool, atSq, atI, ixN, endK, startR, Pat.go, Pat.gos, fI, fI0, fIB, wChain, oB_some, b1, fMod, fInt, h0, fDiv, sPut, fPut, CDiv]
      refine ⟨by omega, ?_⟩
      exact hq _ _ ⟨_, rfl, Int.emod_nonneg _ (by omega), Int.emod_lt_of_pos _ h0, ⟨_, _, _, _, hB.put (.refl _ _)⟩, hP.set _⟩
    · rw [if_neg hx]
      simp [bodyG, sSeq, sAsg, sDrop, sRet, sIf, sNext, wOp, wUn, wVar, wC, aNil, aCons, wFn, wTup, wLst, wIf, tVal, tAnd, tOr, tNot, wAnd, wOr, wNot, wCall, fA1, fIx, fIsiA, fIsi, typeD, kit_int_int, kit_int_str, kit_int_tuple, kit_int_bool, kit_str_int, kit_str_str, kit_str_tuple, kit_str_bool, kit_tuple_int, kit_tuple_str, kit_tuple_tuple, kit_tuple_bool, kit_bool_int, kit_bool_str, kit_bool_tuple, kit_bool_bool, kit_list_int, kit_list_str, kit_list_tuple, kit_list_bool, kit_dict_int, kit_dict_str, kit_dict_tuple, kit_dict_bool, atSq, atI, ixN, endK, startR, Pat.go, Pat.gos, fI, fI0, fIB, wChain, oB_some, b1, fMod, fInt, h0, fDiv, CDiv, fMul, CMul, fAdd, F2.or]
      have p1 := Int.emod_nonneg ((y1 + 1) * 39373) (show (1000000007 : Int) ≠ 0 by decide)
      have p2 := Int.emod_lt_of_pos ((y1 + 1) * 39373) (show (0 : Int) < 1000000007 by decide)
      exact .inl ⟨by omega, hq _ _ ⟨_, rfl, Int.emod_nonneg _ (by omega), Int.emod_lt_of_pos _ h0, ⟨_, _, _, _, hB⟩, hP⟩⟩
  refine ⟨rfl, ?_⟩
  show sSeq (sIf (tVal (wOp (fEq true) (wOp fIx (wVar 0) (wC (.int 0))) (wC (.int 0)))) (sSeq (sAsg (wOp fIx (wOp fAdd (wSl (wOp fIx (wVar 0) (wC (.int 3))) (oAt (wOp fIx (wVar 0) (wC (.int 2)))) (oNo)) (wLst (aCons (wC (.int 0)) (aNil)))) (wC (.int 0))) (.nm 4))
    (sSeq (sAugS fIAdd (wVar 0) (wC (.int 2)) (wC (.int 1)))
    (sSeq (sIf (tVal (wOp (fIB fun i j => decide (j ≤ i)) (wVar 4) (wOp fPow (wC (.int 10)) (wC (.int 18))))) (sPut (wVar 0) (wC (.int 0)) (wVar 4)) (sNext))
    (sSeq (sAsg (wOp fAdd (wOp fAdd (wOp fMul (wOp fIx (wVar 0) (wC (.int 1))) (wC (.int 48271))) (wOp fMod (wFn (fA1 fInt) (aCons (wVar 4) (aNil))) (wC (.int 2147483647)))) (wOp fMul (wC (.int 7919)) (wOp fIx (wVar 0) (wC (.int 2))))) (.nm 5))
    (sPut (wVar 0) (wC (.int 1)) (wOp fMod (wFn (fA1 fInt) (aCons (wVar 5) (aNil))) (wC (.int 2147483647)))))))) (sNext)) takeTail (endK q e) [some (.ref b), some (.int many), none, none, none, none, none] S
  have tl := half
  generalize takeTail = TT at tl ⊢
  simp [bodyG, sSeq, sAsg, sDrop, sRet, sIf, sNext, wOp, wUn, wVar, wC, aNil, aCons, wFn, wTup, wLst, wIf, tVal, tAnd, tOr, tNot, wAnd, wOr, wNot, wCall, fA1, fIx, fIsiA, fIsi, typeD, kit_int_int, kit_int_str, kit_int_tuple, kit_int_bool, kit_str_int, kit_str_str, kit_str_tuple, kit_str_bool, kit_tuple_int, kit_tuple_str, kit_tuple_tuple, kit_tuple_bool, kit_bool_int, kit_bool_str, kit_bool_tuple, kit_bool_bool, kit_list_int, kit_list_str, kit_list_tuple, kit_list_bool, kit_dict_int, kit_dict_str, kit_dict_tuple, kit_dict_bool, atSq, atI, ixN, endK, startR, Pat.go, Pat.gos, fI, fI0, fIB, wChain, oB_some, a1, fEq]
  refine ⟨_, .int x, _, .int 0, by simp [SeqAt.shaped, PyData.canLay0, PyData.depth], by simp [SeqAt.shaped, PyData.canLay0, PyData.depth], ?_⟩
  have hev : PyData.eqv (.int x) (.int 0) = decide (x = 0) := by
    simp only [PyData.eqv]
    rw [Bool.eq_iff_iff]
    simp
  rw [hev]
  by_cases hx : x = 0
  · simp [hx, bodyG, sSeq, sAsg, sDrop, sRet, sIf, sNext, wOp, wUn, wVar, wC, aNil, aCons, wFn, wTup, wLst, wIf, tVal, tAnd, tOr, tNot, wAnd, wOr, wNot, wCall, fA1, fIx, fIsiA, fIsi, typeD, kit_int_int, kit_int_str, kit_int_tuple, kit_int_bool, kit_str_int, kit_str_str, kit_str_tuple, kit_str_bool, kit_tuple_int, kit_tuple_str, kit_tuple_tuple, kit_tuple_bool, kit_bool_int, kit_bool_str, kit_bool_tuple, kit_bool_bool, kit_list_int, kit_list_str, kit_list_tuple, kit_list_bool, kit_dict_int, kit_dict_str, kit_dict_tuple, kit_dict_bool, atSq, atI, ixN, endK, startR, Pat.go, Pat.gos, fI, fI0, fIB, wChain, oB_some, a1, wSl, oAt, oNo, fSl, a2]
    refine ⟨by decide, .inr (.inr (.inr ?_))⟩
    have hc := cut_len cs (some z) none
    have hf := hA.few
    rw [cut_map]
    generalize cutD cs (some z) none = cc at hc
    have c1 : (S ++ [MO.lst (cc.map D.int), MO.lst [D.int 0]])[S.length]? = some (.lst (cc.map D.int)) := by simp
    have c2 : (S ++ [MO.lst (cc.map D.int), MO.lst [D.int 0]])[S.length + 1]? = some (.lst [D.int 0]) := by
      rw [List.getElem?_append_right (by omega)]; simp
    simp only [fAddL, atL, c1, c2]
    have h300 : (300 : Nat) < sizeLine := by decide
    refine ⟨by rw [List.length_map, List.length_singleton]; omega, ?_⟩
    have hP2 : Pf S ((S ++ [MO.lst (cc.map D.int), MO.lst [D.int 0]]) ++ [.lst (cc.map D.int ++ [D.int 0])]) := (Pf.app _ _).trans (Pf.app _ _)
    have c3 : ((S ++ [MO.lst (cc.map D.int), MO.lst [D.int 0]]) ++ [.lst (cc.map D.int ++ [D.int 0])])[(S ++ [MO.lst (cc.map D.int), MO.lst [D.int 0]]).length]? = some (.lst (cc.map D.int ++ [D.int 0])) := by simp
    generalize ((S ++ [MO.lst (cc.map D.int), MO.lst [D.int 0]]) ++ [.lst (cc.map D.int ++ [D.int 0])]) = S2 at hP2 c3 ⊢
    generalize (S ++ [MO.lst (cc.map D.int), MO.lst [D.int 0]]).length = n2 at c3 ⊢
    obtain ⟨c0, cr, hcr⟩ : ∃ c0 cr, cc.map D.int ++ [D.int 0] = D.int c0 :: cr := by
      cases cc with
      | nil => exact ⟨0, [], rfl⟩
      | cons a l => exact ⟨a, l.map D.int ++ [.int 0], rfl⟩
    rw [hcr] at c3
    have hA2 := hA.pb hP2
    have a3 := hA2.at_
    simp [c3, sAugS, bodyG, sSeq, sAsg, sDrop, sRet, sIf, sNext, wOp, wUn, wVar, wC, aNil, aCons, wFn, wTup, wLst, wIf, tVal, tAnd, tOr, tNot, wAnd, wOr, wNot, wCall, fA1, fIx, fIsiA, fIsi, typeD, kit_int_int, kit_int_str, kit_int_tuple, kit_int_bool, kit_str_int, kit_str_str, kit_str_tuple, kit_str_bool, kit_tuple_int, kit_tuple_str, kit_tuple_tuple, kit_tuple_bool, kit_bool_int, kit_bool_str, kit_bool_tuple, kit_bool_bool, kit_list_int, kit_list_str, kit_list_tuple, kit_list_bool, kit_dict_int, kit_dict_str, kit_dict_tuple, kit_dict_bool, atSq, atI, ixN, endK, startR, Pat.go, Pat.gos, fI, fI0, fIB, wChain, oB_some, atIx, atN, a3, fIAdd, fPut]
    have hb2 : b < S2.length := (List.getElem?_eq_some_iff.mp a3).1
    have hA3 := hA2.put (x' := x) (y' := y) (z' := z + 1) (.refl _ _)
    have hP3 : Pb b S (S2.set b (MO.lst [D.int x, D.int y, D.int (z + 1), D.ref m])) := (hP2.pb b).set _
    generalize (S2.set b (MO.lst [D.int x, D.int y, D.int (z + 1), D.ref m])) = S3 at hA3 hP3 ⊢
    have a4 := hA3.at_
    simp [fPow, fI, CPow, bodyG, sSeq, sAsg, sDrop, sRet, sIf, sNext, wOp, wUn, wVar, wC, aNil, aCons, wFn, wTup, wLst, wIf, tVal, tAnd, tOr, tNot, wAnd, wOr, wNot, wCall, fA1, fIx, fIsiA, fIsi, typeD, kit_int_int, kit_int_str, kit_int_tuple, kit_int_bool, kit_str_int, kit_str_str, kit_str_tuple, kit_str_bool, kit_tuple_int, kit_tuple_str, kit_tuple_tuple, kit_tuple_bool, kit_bool_int, kit_bool_str, kit_bool_tuple, kit_bool_bool, kit_list_int, kit_list_str, kit_list_tuple, kit_list_bool, kit_dict_int, kit_dict_str, kit_dict_tuple, kit_dict_bool, atSq, atI, ixN, endK, startR, Pat.go, Pat.gos, fI, fI0, fIB, wChain, oB_some, sPut, fPut, a4]
    split
    · have hA4 := hA3.put (x' := c0) (y' := y) (z' := z + 1) (.refl _ _)
      have hP4 := hP3.set (.lst [D.int c0, D.int y, D.int (z + 1), D.ref m])
      generalize (S3.set b (MO.lst [D.int c0, D.int y, D.int (z + 1), D.ref m])) = S4 at hA4 hP4 ⊢
      have a5 := hA4.at_
      simp [bodyG, sSeq, sAsg, sDrop, sRet, sIf, sNext, wOp, wUn, wVar, wC, aNil, aCons, wFn, wTup, wLst, wIf, tVal, tAnd, tOr, tNot, wAnd, wOr, wNot, wCall, fA1, fIx, fIsiA, fIsi, typeD, kit_int_int, kit_int_str, kit_int_tuple, kit_int_bool, kit_str_int, kit_str_str, kit_str_tuple, kit_str_bool, kit_tuple_int, kit_tuple_str, kit_tuple_tuple, kit_tuple_bool, kit_bool_int, kit_bool_str, kit_bool_tuple, kit_bool_bool, kit_list_int, kit_list_str, kit_list_tuple, kit_list_bool, kit_dict_int, kit_dict_str, kit_dict_tuple, kit_dict_bool, atSq, atI, ixN, endK, startR, Pat.go, Pat.gos, fI, fI0, fIB, wChain, oB_some, a5, fMul, fI, CMul, fInt, fMod]
      refine fAdd_int ?_
      simp [bodyG, sSeq, sAsg, sDrop, sRet, sIf, sNext, wOp, wUn, wVar, wC, aNil, aCons, wFn, wTup, wLst, wIf, tVal, tAnd, tOr, tNot, wAnd, wOr, wNot, wCall, fA1, fIx, fIsiA, fIsi, typeD, kit_int_int, kit_int_str, kit_int_tuple, kit_int_bool, kit_str_int, kit_str_str, kit_str_tuple, kit_str_bool, kit_tuple_int, kit_tuple_str, kit_tuple_tuple, kit_tuple_bool, kit_bool_int, kit_bool_str, kit_bool_tuple, kit_bool_bool, kit_list_int, kit_list_str, kit_list_tuple, kit_list_bool, kit_dict_int, kit_dict_str, kit_dict_tuple, kit_dict_bool, atSq, atI, ixN, endK, startR, Pat.go, Pat.gos, fI, fI0, fIB, wChain, oB_some, a5, fMul, fI, CMul, fInt, fMod]
      refine fAdd_int ?_
      simp [bodyG, sSeq, sAsg, sDrop, sRet, sIf, sNext, wOp, wUn, wVar, wC, aNil, aCons, wFn, wTup, wLst, wIf, tVal, tAnd, tOr, tNot, wAnd, wOr, wNot, wCall, fA1, fIx, fIsiA, fIsi, typeD, kit_int_int, kit_int_str, kit_int_tuple, kit_int_bool, kit_str_int, kit_str_str, kit_str_tuple, kit_str_bool, kit_tuple_int, kit_tuple_str, kit_tuple_tuple, kit_tuple_bool, kit_bool_int, kit_bool_str, kit_bool_tuple, kit_bool_bool, kit_list_int, kit_list_str, kit_list_tuple, kit_list_bool, kit_dict_int, kit_dict_str, kit_dict_tuple, kit_dict_bool, atSq, atI, ixN, endK, startR, Pat.go, Pat.gos, fI, fI0, fIB, wChain, oB_some, a5, fMul, fI, CMul, fInt, fMod]
      exact tl _ _ _ _ _ _ _ _ _ _ rfl (hA4.put (.refl _ _)) (hP4.set _)
    · have hA4 := hA3
      have hP4 := hP3
      have a5 := a4
      simp [bodyG, sSeq, sAsg, sDrop, sRet, sIf, sNext, wOp, wUn, wVar, wC, aNil, aCons, wFn, wTup, wLst, wIf, tVal, tAnd, tOr, tNot, wAnd, wOr, wNot, wCall, fA1, fIx, fIsiA, fIsi, typeD, kit_int_int, kit_int_str, kit_int_tuple, kit_int_bool, kit_str_int, kit_str_str, kit_str_tuple, kit_str_bool, kit_tuple_int, kit_tuple_str, kit_tuple_tuple, kit_tuple_bool, kit_bool_int, kit_bool_str, kit_bool_tuple, kit_bool_bool, kit_list_int, kit_list_str, kit_list_tuple, kit_list_bool, kit_dict_int, kit_dict_str, kit_dict_tuple, kit_dict_bool, atSq, atI, ixN, endK, startR, Pat.go, Pat.gos, fI, fI0, fIB, wChain, oB_some, a5, fMul, fI, CMul, fInt, fMod]
      refine fAdd_int ?_
      simp [bodyG, sSeq, sAsg, sDrop, sRet, sIf, sNext, wOp, wUn, wVar, wC, aNil, aCons, wFn, wTup, wLst, wIf, tVal, tAnd, tOr, tNot, wAnd, wOr, wNot, wCall, fA1, fIx, fIsiA, fIsi, typeD, kit_int_int, kit_int_str, kit_int_tuple, kit_int_bool, kit_str_int, kit_str_str, kit_str_tuple, kit_str_bool, kit_tuple_int, kit_tuple_str, kit_tuple_tuple, kit_tuple_bool, kit_bool_int, kit_bool_str, kit_bool_tuple, kit_bool_bool, kit_list_int, kit_list_str, kit_list_tuple, kit_list_bool, kit_dict_int, kit_dict_str, kit_dict_tuple, kit_dict_bool, atSq, atI, ixN, endK, startR, Pat.go, Pat.gos, fI, fI0, fIB, wChain, oB_some, a5, fMul, fI, CMul, fInt, fMod]
      refine fAdd_int ?_
      simp [bodyG, sSeq, sAsg, sDrop, sRet, sIf, sNext, wOp, wUn, wVar, wC, aNil, aCons, wFn, wTup, wLst, wIf, tVal, tAnd, tOr, tNot, wAnd, wOr, wNot, wCall, fA1, fIx, fIsiA, fIsi, typeD, kit_int_int, kit_int_str, kit_int_tuple, kit_int_bool, kit_str_int, kit_str_str, kit_str_tuple, kit_str_bool, kit_tuple_int, kit_tuple_str, kit_tuple_tuple, kit_tuple_bool, kit_bool_int, kit_bool_str, kit_bool_tuple, kit_bool_bool, kit_list_int, kit_list_str, kit_list_tuple, kit_list_bool, kit_dict_int, kit_dict_str, kit_dict_tuple, kit_dict_bool, atSq, atI, ixN, endK, startR, Pat.go, Pat.gos, fI, fI0, fIB, wChain, oB_some, a5, fMul, fI, CMul, fInt, fMod]
      exact tl _ _ _ _ _ _ _ _ _ _ rfl (hA4.put (.refl _ _)) (hP4.set _)
  · rw [if_neg (by simpa using hx)]
    exact tl S x y z _ none none none none none rfl hA (.refl _ _)
end
theorem Bag.ltm {b m : Nat} {S : Sto} (h : Bag b m S) : m < S.length := let ⟨_, _, _, _, h⟩ := h; (List.getElem?_eq_some_iff.mp h.cells).1
theorem Bag.lt {b m : Nat} {S : Sto} (h : Bag b m S) : b < S.length := let ⟨_, _, _, _, h⟩ := h; (List.getElem?_eq_some_iff.mp h.at_).1
theorem atI_mem {α : Type} {xs : List α} {i : Int} (h0 : 0 ≤ i) (h1 : i < xs.length) : ∃ d, d ∈ xs ∧ ((if 0 ≤ i then if i < (xs.length : Int) then some i.toNat else none else if -(xs.length : Int) ≤ i then some (i + (xs.length : Int)).toNat else none).bind fun j => xs[j]?) = some d := by
  rw [if_pos h0, if_pos h1]
  have hl : i.toNat < xs.length := by omega
  exact ⟨xs[i.toNat], List.getElem_mem hl, List.getElem?_eq_getElem hl⟩
section
variable {tb : List MO} {k : Nat} {S : Sto}
theorem some_ok {b m n : Nat} {xs : List D} (hb : Bag b m S) (hn : n ≠ b) (hx : S[n]? = some (.lst xs)) (h0 : 0 < xs.length) (h1 : xs.length < 1000) : Ok (Gm tb (k + 2) 18) [.ref b, .ref n] S (fun d S' => d ∈ xs ∧ Bag b m S' ∧ Pb b S S') := by
  intro q e hq
  show bodyG 2 2 (b_law_some (Gm tb (k + 1))) _ _ _ _
  simp [b_law_some, bodyG, sSeq, sAsg, sDrop, sRet, sIf, sNext, wOp, wUn, wVar, wC, aNil, aCons, wFn, wTup, wLst, wIf, tVal, tAnd, tOr, tNot, wAnd, wOr, wNot, wCall, fA1, fIx, fIsiA, fIsi, typeD, kit_int_int, kit_int_str, kit_int_tuple, kit_int_bool, kit_str_int, kit_str_str, kit_str_tuple, kit_str_bool, kit_tuple_int, kit_tuple_str, kit_tuple_tuple, kit_tuple_bool, kit_bool_int, kit_bool_str, kit_bool_tuple, kit_bool_bool, kit_list_int, kit_list_str, kit_list_tuple, kit_list_bool, kit_dict_int, kit_dict_str, kit_dict_tuple, kit_dict_bool, atSq, atI, ixN, endK, startR, Pat.go, Pat.gos, fI, fI0, fIB, wChain, oB_some, fLen, hx]
  refine take_ok hb (by omega) (by omega) _ _ fun d S1 ⟨r, e1, r0, r1, b1, p1⟩ => ?_
  subst e1
  have hx1 := p1.keep _ _ hn hx
  obtain ⟨d, hd, e2⟩ := atI_mem (xs := xs) r0 r1
  simp only [hx1]
  rw [show oB ((if 0 ≤ r then if r < (xs.length : Int) then some r.toNat else none else if -(xs.length : Int) ≤ r then some (r + (xs.length : Int)).toNat else none).bind fun j => xs[j]?) (fun d => q d S1) = oB (some d) (fun d => q d S1) from congrArg (fun o => oB o fun d => q d S1) e2]
  exact hq _ _ ⟨hd, b1, p1⟩
end
/-- [draw for ..] -/
theorem comp_bag {α : Type} {c : Src} {p : Pat} {e : WE} {ρ : Rho} {Q : QD} (b m : Nat) (S0 : Sto) (g : α → D) (R : α → Prop) (items : List D) (hz : items.length ≤ sizeLine) (hb : Bag b m S0) (hok : ∀ S, Pb b S0 S → c.ok S)
    (hgo : ∀ d ∈ items, ∃ ρ1, p.go d ρ = some ρ1 ∧ ∀ (S : Sto) (K : QD), Bag b m S → (∀ a S', R a → Bag b m S' → Pb b S S' → K (g a) S') → e ρ1 S K no)
    (hQ : ∀ (S : Sto) (as : List α), as.length = items.length → (∀ a ∈ as, R a) → Bag b m S → Pb b S0 S → S[S0.length]? = some (.lst (as.map g)) → Q (.ref S0.length) S) :
    compL c p tYesD e S0.length ρ Q items (S0 ++ [.lst []]) := by
  have hlt := hb.lt
  refine compL_do (fun ds S => ∃ dn as, items = dn ++ ds ∧ as.length = dn.length ∧ (∀ a ∈ as, R a) ∧ Bag b m S ∧ Pb b S0 S ∧ S[S0.length]? = some (.lst (as.map g))) ?_ ?_ _ _ ⟨[], [], rfl, rfl, fun a h => absurd h (by simp), hb.pf (Pf.app _ _), Pb.app _ _ _, by simp⟩
  · rintro S ⟨dn, as, e1, e2, hR, hB, hP, hs⟩
    rw [List.append_nil] at e1
    subst e1
    exact ⟨hok S hP, hQ S as e2 hR hB hP hs⟩
  · rintro d ds S ⟨dn, as, e1, e2, hR, hB, hP, hs⟩
    obtain ⟨ρ1, g1, g2⟩ := hgo d (by rw [e1]; simp)
    refine ⟨hok S hP, ρ1, g1, fun K hK => ?_⟩
    simp only [tYesD, if_true]
    refine g2 S _ hB fun a S1 ra hB1 hP1 => ?_
    have hs1 := hP1.keep _ _ (by omega) hs
    refine atN_of hs1 ⟨?_, hK _ ⟨dn ++ [d], as ++ [a], by rw [e1]; simp, by simp [e2], fun x hx => ?_, ?_, ?_, ?_⟩⟩
    · have : items.length = dn.length + (ds.length + 1) := by rw [e1]; simp
      rw [List.length_map]
      omega
    · rcases List.mem_append.mp hx with h | h
      · exact hR x h
      · rw [List.mem_singleton.mp h]; exact ra
    · have := hb.ltm
      obtain ⟨x, y, z, cs, h⟩ := hB1
      exact ⟨x, y, z, cs, by rw [List.getElem?_set_ne (by omega)]; exact h.at_, by rw [List.getElem?_set_ne (by omega)]; exact h.cells, h.ne, h.few⟩
    · refine ⟨fun i o hi h => ?_, by rw [List.length_set]; exact (hP.trans hP1).len⟩
      have := (List.getElem?_eq_some_iff.mp h).1
      rw [List.getElem?_set_ne (by omega)]
      exact (hP.trans hP1).keep i o hi h
    · rw [List.getElem?_set_self (List.getElem?_eq_some_iff.mp hs1).1]; simp
theorem rng_len (lo : Int) (n : Nat) : (rngD lo n).length = n := by simp [rngD]
section
variable {tb : List MO} {k : Nat} {S : Sto}
end
open PySem.W (AllAlike dataLe)
section
variable {tb : List MO} {k : Nat} {S : Sto}
theorem uq_words {ns : List Str} (h : ∀ s ∈ ns, s ∈ namesL) : ∀ x ∈ srtN ns, ∃ s, x = Sum.inr s ∧ s ∈ namesL := by
  intro x hx
  unfold srtN at hx
  rw [(List.mergeSort_perm _ _).mem_iff, mem_uq] at hx
  obtain ⟨s, hs, rfl⟩ := List.mem_map.mp hx
  exact ⟨s, rfl, h s hs⟩
theorem srtN_len (ns : List Str) : (srtN ns).length ≤ ns.length := by
  unfold srtN
  rw [(List.mergeSort_perm _ _).length_eq]
  have := len_uq (kys ns)
  simpa [kys] using this
theorem bag_ok (ns : List Int) (hl : ns.length ≤ 63) : Ok (Gm tb (k + 1) 16) [.rol (ns.map D.int)] S (fun d S' => ∃ b m, d = .ref b ∧ S.length ≤ b ∧ Bag b m S' ∧ Pf S S') := by
  intro q e hq
  have h3 : (300 : Nat) < sizeLine := by decide
  show bodyG 2 1 (b_law_bag (Gm tb k)) _ _ _ _
  simp [b_law_bag, bodyG, sSeq, sAsg, sDrop, sRet, sIf, sNext, wOp, wUn, wVar, wC, aNil, aCons, wFn, wTup, wLst, wIf, tVal, tAnd, tOr, tNot, wAnd, wOr, wNot, wCall, fA1, fIx, fIsiA, fIsi, typeD, kit_int_int, kit_int_str, kit_int_tuple, kit_int_bool, kit_str_int, kit_str_str, kit_str_tuple, kit_str_bool, kit_tuple_int, kit_tuple_str, kit_tuple_tuple, kit_tuple_bool, kit_bool_int, kit_bool_str, kit_bool_tuple, kit_bool_bool, kit_list_int, kit_list_str, kit_list_tuple, kit_list_bool, kit_dict_int, kit_dict_str, kit_dict_tuple, kit_dict_bool, atSq, atI, ixN, endK, startR, Pat.go, Pat.gos, fI, fI0, fIB, wChain, oB_some, wComp, wSeq, wSl, oAt, oNo, fSl, srcOf]
  have hc := cut_len ns none (some 63)
  rw [cut_map]
  generalize cutD ns none (some 63) = cc at hc
  rw [show S ++ [MO.lst (cc.map D.int), MO.lst []] = (S ++ [MO.lst (cc.map D.int)]) ++ [MO.lst []] by simp, show S.length + 1 = (S ++ [MO.lst (cc.map D.int)]).length by simp]
  have h5 : (S ++ [MO.lst (cc.map D.int)])[S.length]? = some (.lst (cc.map D.int)) := by simp
  refine comp_map (S ++ [MO.lst (cc.map D.int)]) D.int (fun _ => true) (fun z => .int (if z < 0 then -z else z)) cc (by omega) (fun S' p => p _ _ h5) (fun z hz => ⟨_, rfl, fun S2 K _ hK => hK S2 (.refl _), fun _ S2 K _ hK => ?_⟩) fun S2 pf h6 => ?_
  · simp [bodyG, sSeq, sAsg, sDrop, sRet, sIf, sNext, wOp, wUn, wVar, wC, aNil, aCons, wFn, wTup, wLst, wIf, tVal, tAnd, tOr, tNot, wAnd, wOr, wNot, wCall, fA1, fIx, fIsiA, fIsi, typeD, kit_int_int, kit_int_str, kit_int_tuple, kit_int_bool, kit_str_int, kit_str_str, kit_str_tuple, kit_str_bool, kit_tuple_int, kit_tuple_str, kit_tuple_tuple, kit_tuple_bool, kit_bool_int, kit_bool_str, kit_bool_tuple, kit_bool_bool, kit_list_int, kit_list_str, kit_list_tuple, kit_list_bool, kit_dict_int, kit_dict_str, kit_dict_tuple, kit_dict_bool, atSq, atI, ixN, endK, startR, Pat.go, Pat.gos, fI, fI0, fIB, wChain, oB_some, wipeR, fAbs]
    exact hK S2 (.refl _)
  · rw [filter_yes] at h6
    refine ⟨by decide, hq _ _ ⟨S2.length, (S ++ [MO.lst (cc.map D.int)]).length, rfl, ((Pf.app _ _).trans pf).len, ⟨0, 1234567891, 0, cc.map fun z => if z < 0 then -z else z, ⟨by simp, ?_, ?_, by rw [List.length_map]; omega⟩⟩, (Pf.app _ _).trans (pf.trans (Pf.app _ _))⟩⟩
    · have := (Pf.app S2 [MO.lst [D.int 0, D.int 1234567891, D.int 0, D.ref (S ++ [MO.lst (cc.map D.int)]).length]]) _ _ h6
      rw [this, List.map_map]; rfl
    · have := (List.getElem?_eq_some_iff.mp h6).1
      omega
end
end Zz
set_option Elab.async false
set_option linter.all false
set_option maxRecDepth 100000
namespace Zz
open PySem PySem.Spec PyProof.Rows L2
/-- data that can be shown -/
structure Showy (p : PyData) : Prop where
  show' : p.showable = true
  nod : p.hasDict = false
  shaped : SeqAt.shaped p = true
  few : p.shown.length ≤ sizeLine
  sok : PyData.strOk p.shown = true
section
variable {tb : List MO} {k : Nat} {S : Sto}
end
/-! ### texts of data -/
theorem sok_app {a b : Str} (ha : PyData.strOk a = true) (hb : PyData.strOk b = true) : PyData.strOk (a ++ b) = true := by
  unfold PyData.strOk at *
  rw [← Array.all_toList] at *
  rw [show (a ++ b).cps.toList = a.cps.toList ++ b.cps.toList from PyProof.Rows.cps_toList_append a b, List.all_append, ha, hb]; rfl
theorem sok_from : ∀ (ts : List Str) (k : Nat) (acc : Str), PyData.strOk acc = true → (∀ t ∈ ts, PyData.strOk t = true) → PyData.strOk (textFrom k acc ts) = true
  | [], _, _, h, _ => h
  | t :: ts, k, acc, h, ht => by
    unfold textFrom
    refine sok_from ts _ _ (sok_app (sok_app h ?_) (ht t List.mem_cons_self)) fun u hu => ht u (List.mem_cons_of_mem _ hu)
    split <;> decide +kernel
theorem sok_join : ∀ ts : List Str, (∀ t ∈ ts, PyData.strOk t = true) → PyData.strOk (Str.join ", " ts) = true
  | [], _ => by decide +kernel
  | [x], h => h x List.mem_cons_self
  | x :: y :: r, h => sok_app (sok_app (h x List.mem_cons_self) (by decide +kernel)) (sok_join (y :: r) fun t ht => h t (List.mem_cons_of_mem _ ht))
theorem sok_list {ps : List PyData} (h : ∀ p ∈ ps, PyData.strOk p.shown = true) : PyData.strOk (PyData.shown (.list ps)) = true := by
  rw [PyData.shown, listText, shownAll_eq_map]
  refine sok_app (sok_from _ _ _ (by decide +kernel) fun t ht => ?_) (by decide +kernel)
  obtain ⟨p, hp, rfl⟩ := List.mem_map.mp ht
  exact h p hp
theorem sok_tuple {ps : List PyData} (h : ∀ p ∈ ps, PyData.strOk p.shown = true) : PyData.strOk (PyData.shown (.tuple ps)) = true := by
  rw [PyData.shown, tupleText, shownAll_eq_map]
  refine sok_app (sok_app (by decide +kernel) (sok_join _ fun t ht => ?_)) (by split <;> decide +kernel)
  obtain ⟨p, hp, rfl⟩ := List.mem_map.mp ht
  exact h p hp
theorem sok_word : ∀ s ∈ wordsL, PyData.strOk (PyData.shown (.str s)) = true := by decide +kernel
theorem sok_num : ∀ i ∈ numsL, PyData.strOk (PyData.shown (.int i)) = true := by decide +kernel
/-- small data -/
structure Sz (w : Nat) (p : PyData) : Prop where
  lay : p.canLay0 = true
  shrt : PyData.intsShort 13 p = true
  sh : p.showable = true
  sok : PyData.strOk p.shown = true
  wt : p.weight ≤ w
theorem Sz.mono {w v : Nat} {p : PyData} (h : Sz w p) (hv : w ≤ v) : Sz v p := ⟨h.lay, h.shrt, h.sh, h.sok, Nat.le_trans h.wt hv⟩
theorem wtAll {w : Nat} : ∀ {ps : List PyData}, (∀ p ∈ ps, p.weight ≤ w) → PyData.weightAll ps ≤ ps.length * (w + 1)
  | [], _ => by simp [PyData.weightAll]
  | p :: ps, h => by
    rw [PyData.weightAll, List.length_cons, Nat.add_mul]
    have := wtAll (ps := ps) fun q hq => h q (List.mem_cons_of_mem _ hq)
    have := h p List.mem_cons_self
    omega
theorem allShort : ∀ {ps : List PyData}, (∀ p ∈ ps, PyData.intsShort 13 p = true) → PyData.intsShortAll 13 ps = true
  | [], _ => rfl
  | p :: ps, h => by rw [PyData.intsShortAll, h p List.mem_cons_self, allShort fun q hq => h q (List.mem_cons_of_mem _ hq)]; rfl
theorem allShow : ∀ {ps : List PyData}, (∀ p ∈ ps, p.showable = true) → PyData.showableAll ps = true
  | [], _ => rfl
  | p :: ps, h => by rw [PyData.showableAll, h p List.mem_cons_self, allShow fun q hq => h q (List.mem_cons_of_mem _ hq)]; rfl
theorem Sz.tup {w : Nat} {ps : List PyData} (h : ∀ p ∈ ps, Sz w p) : Sz (ps.length * (w + 1)) (.tuple ps) :=
  ⟨by rw [PyData.canLay0]; exact layAll fun p hp => (h p hp).lay, by rw [PyData.intsShort]; exact allShort fun p hp => (h p hp).shrt, by rw [PyData.showable]; exact allShow fun p hp => (h p hp).sh, sok_tuple fun p hp => (h p hp).sok,
    by rw [PyData.weight]; exact wtAll fun p hp => (h p hp).wt⟩
theorem Sz.list {w : Nat} {ps : List PyData} (h : ∀ p ∈ ps, Sz w p) : Sz (ps.length * (w + 1)) (.list ps) :=
  ⟨by rw [PyData.canLay0]; exact layAll fun p hp => (h p hp).lay, by rw [PyData.intsShort]; exact allShort fun p hp => (h p hp).shrt, by rw [PyData.showable]; exact allShow fun p hp => (h p hp).sh, sok_list fun p hp => (h p hp).sok,
    by rw [PyData.weight]; exact wtAll fun p hp => (h p hp).wt⟩
theorem Sz.showy {w : Nat} {p : PyData} (h : Sz w p) (hw : w ≤ 1000000) (hd : p.depth ≤ 64) : Showy p :=
  ⟨h.sh, PyData.hasDict_of_canLay p h.lay, by unfold SeqAt.shaped; rw [h.lay, Bool.true_and, decide_eq_true_eq]; exact hd,
    PyData.shown_fits (B := 13) (by decide) (by decide) (PyData.leavesShort_of_canLay0 13 p h.lay h.shrt) (Nat.le_trans h.wt (by omega)), h.sok⟩
theorem word_size : ∀ s ∈ wordsL, s.cps.size ≤ 8 := by decide +kernel
theorem sz_word {s : Str} (h : s ∈ wordsL) : Sz 8 (.str s) :=
  ⟨by rw [PyData.canLay0]; exact words_ok s h, by rw [PyData.intsShort], by rw [PyData.showable], sok_word s h, by rw [PyData.weight]; exact word_size s h⟩
theorem num_all : ∀ i ∈ numsL, PyData.intsShort 13 (.int i) = true ∧ PyData.showable (.int i) = true ∧ PyData.weight (.int i) ≤ 8 := by decide +kernel
theorem sz_num {i : Int} (h : i ∈ numsL) : Sz 8 (.int i) := ⟨by rw [PyData.canLay0], (num_all i h).1, (num_all i h).2.1, sok_num i h, (num_all i h).2.2⟩
theorem sz_var : Sz 8 (.str "var") :=
  ⟨by decide +kernel, by decide +kernel, by decide +kernel, by decide +kernel, by decide +kernel⟩
theorem Sz.tupW {w n : Nat} {ps : List PyData} (h : ∀ p ∈ ps, Sz w p) (hl : ps.length ≤ n) : Sz (n * (w + 1)) (.tuple ps) := (Sz.tup h).mono (Nat.mul_le_mul_right _ hl)
theorem Sz.listW {w n : Nat} {ps : List PyData} (h : ∀ p ∈ ps, Sz w p) (hl : ps.length ≤ n) : Sz (n * (w + 1)) (.list ps) := (Sz.list h).mono (Nat.mul_le_mul_right _ hl)
theorem sz_tm {t : Tm} (h : t.ok) : Sz 18 t.p := by
  cases t with
  | num i => exact (sz_num h).mono (by decide)
  | nm s => exact (sz_word h).mono (by decide)
  | vr s =>
    refine Sz.tupW (n := 2) (w := 8) (fun p hp => ?_) (by simp)
    rcases List.mem_cons.mp hp with rfl | hp
    · exact sz_var
    · rw [List.mem_singleton.mp hp]; exact sz_word (List.mem_append_left _ h)
theorem sz_fact {f : Fact} (h : f.ok) : Sz 116 (Fact.p f) := by
  refine Sz.tupW (n := 2) (w := 57) (fun p hp => ?_) (by simp)
  rcases List.mem_cons.mp hp with rfl | hp
  · exact (sz_word h.link).mono (by decide)
  · rw [List.mem_singleton.mp hp]
    refine Sz.tupW (n := 3) (w := 18) (fun q hq => ?_) (by rw [List.length_map]; exact h.few)
    obtain ⟨t, ht, rfl⟩ := List.mem_map.mp hq
    exact sz_tm (h.ts t ht)
theorem sz_facts {l : List Fact} {n : Nat} (h : ∀ f ∈ l, f.ok) (hl : l.length ≤ n) : Sz (n * 117) (.tuple (l.map Fact.p)) :=
  Sz.tupW (w := 116) (fun p hp => by obtain ⟨f, hf, rfl⟩ := List.mem_map.mp hp; exact sz_fact (h f hf)) (by rw [List.length_map]; exact hl)
open PySem.W (alike dataLt)
theorem shaped_bool (b : Bool) : SeqAt.shaped (.bool b) = true := by simp [SeqAt.shaped, PyData.canLay0, PyData.depth]
theorem eqv_bool (b : Bool) : PyData.eqv (.bool b) (.bool b) = true := by simp [PyData.eqv]
/-- a statement does: post -/
def Do (w : WS) (ρ : Rho) (S : Sto) (post : Rho → Sto → Prop) : Prop := ∀ k : Kt, (∀ ρ' S', post ρ' S' → k.nx ρ' S') → w k ρ S
section
variable {T : List MO} {k b m : Nat} {S : Sto}
end
/-- a comprehension that takes none -/
theorem none_comp {α : Type} {c : Src} {i : Nat} {t : WT} {e : WE} {ρ : Rho} {Q : QD} (S0 : Sto) (enc : α → D) (xs : List α) (hz : xs.length ≤ sizeLine) (hok : ∀ S, Pf S0 S → c.ok S)
    (ht : ∀ x ∈ xs, ∀ (S : Sto) (K : Bool → Sto → Prop), Pf S0 S → (∀ S', Pf S S' → K false S') → t (ρ.set i (some (enc x))) S K no)
    (hQ : ∀ S, Pf S0 S → S[S0.length]? = some (.lst []) → Q (.ref S0.length) S) :
    compL c (.nm i) t e S0.length ρ Q (xs.map enc) (S0 ++ [.lst []]) :=
  comp_map S0 enc (fun _ => false) (fun _ => D.non) xs hz hok (fun x hx => ⟨_, rfl, fun S K p h => ht x hx S K p h, fun h => by cases h⟩) fun S p h => hQ S p (by rw [h]; simp)
theorem comp_of {i n : Nat} {p : Pat} {t : WT} {e : WE} {own : List Nat} {ρ : Rho} {S : Sto} {Q : QD} {E : QX} {xs : List D} (hi : ρ[i]?.join = some (.ref n)) (hn : S[n]? = some (.lst xs)) (h : compL ⟨xs, fun S' => S'[n]? = some (.lst xs)⟩ p t e S.length (wipeR ρ own) Q xs (S ++ [.lst []])) :
    wComp (wSeq (wVar i)) p t e own ρ S Q E := by
  simp only [wComp, wSeq, wVar, hi, oB_some, srcOf, hn]
  exact h
theorem comp_tup {i : Nat} {p : Pat} {t : WT} {e : WE} {own : List Nat} {ρ : Rho} {S : Sto} {Q : QD} {E : QX} {xs : List D} (hi : ρ[i]?.join = some (.tup xs)) (h : compL ⟨xs, fun _ => True⟩ p t e S.length (wipeR ρ own) Q xs (S ++ [.lst []])) :
    wComp (wSeq (wVar i)) p t e own ρ S Q E := by
  simp only [wComp, wSeq, wVar, hi, oB_some, srcOf]
  exact h
theorem seq_ref {i n : Nat} {ρ : Rho} {S : Sto} {Q : Src → Sto → Prop} {E : QX} {xs : List D} (hi : ρ[i]?.join = some (.ref n)) (hn : S[n]? = some (.lst xs)) (h : Q ⟨xs, fun S' => S'[n]? = some (.lst xs)⟩ S) : wSeq (wVar i) ρ S Q E := by
  simp only [wSeq, wVar, hi, oB_some, srcOf, hn]
  exact h
theorem seq_tup {i : Nat} {ρ : Rho} {S : Sto} {Q : Src → Sto → Prop} {E : QX} {xs : List D} (hi : ρ[i]?.join = some (.tup xs)) (h : Q ⟨xs, fun _ => True⟩ S) : wSeq (wVar i) ρ S Q E := by
  simp only [wSeq, wVar, hi, oB_some, srcOf]
  exact h
theorem if_op {f : F2} {a b : WE} {x y : WS} {k : Kt} {ρ : Rho} {S : Sto}
    (h : a ρ S (fun d S1 => b ρ S1 (fun e S2 => f S2 d e fun r S3 => match r with | .bl c => (if c = true then x k ρ S3 else y k ρ S3) | _ => False) (fun x S1 => k.ex x ρ S1)) (fun x S1 => k.ex x ρ S1)) : sIf (tVal (wOp f a b)) x y k ρ S := h
theorem asg_seq {w : WE} {p : Pat} {r : WS} {k : Kt} {ρ : Rho} {S : Sto} (h : w ρ S (fun d S1 => oB (p.go d ρ) fun ρ' => r k ρ' S1) (fun x S1 => k.ex x ρ S1)) : sSeq (sAsg w p) r k ρ S := h
theorem asg_op {f : F2} {a b : WE} {p : Pat} {r : WS} {k : Kt} {ρ : Rho} {S : Sto} (h : a ρ S (fun d S1 => b ρ S1 (fun e S2 => f S2 d e fun d S1 => oB (p.go d ρ) fun ρ' => r k ρ' S1) (fun x S1 => k.ex x ρ S1)) (fun x S1 => k.ex x ρ S1)) : sSeq (sAsg (wOp f a b) p) r k ρ S := h
theorem var_of {i : Nat} {d : D} {ρ : Rho} {S : Sto} {Q : QD} {E : QX} (hi : ρ[i]?.join = some d) (h : Q d S) : wVar i ρ S Q E := by
  simp only [wVar, hi, oB_some]
  exact h
theorem shaped_nil : SeqAt.shaped (.list []) = true := by simp [SeqAt.shaped, PyData.canLay0, PyData.canLayAll0, PyData.depth, PyData.depthAll]
theorem eqv_nil : PyData.eqv (.list []) (.list []) = true := by simp [PyData.eqv, PyData.eqvAll]
section
variable {T : List MO} {k b m : Nat} {S : Sto}
end
theorem nodup_len {α : Type} [DecidableEq α] : ∀ {l m : List α}, l.Nodup → (∀ x ∈ l, x ∈ m) → l.length ≤ m.length
  | [], _, _, _ => Nat.zero_le _
  | a :: l, m, nd, h => by
    obtain ⟨n1, n2⟩ := List.nodup_cons.mp nd
    have h1 := nodup_len (l := l) (m := m.erase a) n2 (fun x hx => (List.mem_erase_of_ne (by rintro rfl; exact n1 hx)).mpr (h x (List.mem_cons_of_mem _ hx)))
    have h2 := h a List.mem_cons_self
    rw [List.length_erase_of_mem h2] at h1
    have := List.length_pos_of_mem h2
    rw [List.length_cons]
    omega
theorem vnT_names : ∀ {l : List Tm}, (∀ t ∈ l, t.ok) → ∀ s ∈ vnT l, s ∈ namesL
  | [], _, s, hs => by cases hs
  | .vr x :: l, h, s, hs => by
    rcases List.mem_cons.mp hs with rfl | hs
    · exact h (.vr s) List.mem_cons_self
    · exact vnT_names (fun t ht => h t (List.mem_cons_of_mem _ ht)) s hs
  | .num _ :: l, h, s, hs => vnT_names (l := l) (fun t ht => h t (List.mem_cons_of_mem _ ht)) s hs
  | .nm _ :: l, h, s, hs => vnT_names (l := l) (fun t ht => h t (List.mem_cons_of_mem _ ht)) s hs
theorem vnF_names : ∀ {l : List Fact}, (∀ f ∈ l, f.ok) → ∀ s ∈ vnF l, s ∈ namesL
  | [], _, s, hs => by cases hs
  | f :: l, h, s, hs => by
    rcases List.mem_append.mp hs with hs | hs
    · exact vnT_names (h f List.mem_cons_self).ts s hs
    · exact vnF_names (fun t ht => h t (List.mem_cons_of_mem _ ht)) s hs
theorem srtN_few {ns : List Str} (h : ∀ s ∈ ns, s ∈ namesL) : (srtN ns).length ≤ 8 := by
  have h1 : (srtN ns).Nodup := by
    unfold srtN
    exact (List.mergeSort_perm _ _).nodup_iff.mpr (nodup_uq _)
  refine nodup_len (m := kys namesL) h1 fun x hx => ?_
  obtain ⟨s, rfl, hs⟩ := uq_words h x hx
  exact List.mem_map.mpr ⟨s, hs, rfl⟩
theorem comp_bagT {α : Type} {c : Src} {p : Pat} {t : WT} {e : WE} {ρ : Rho} {Q : QD} (b m : Nat) (S0 : Sto) (g : α → D) (R : α → Prop) (items : List D) (hz : items.length ≤ sizeLine) (hb : Bag b m S0) (hok : ∀ S, Pb b S0 S → c.ok S)
    (hgo : ∀ d ∈ items, ∃ ρ1, p.go d ρ = some ρ1 ∧ (∀ (S : Sto) (K : Bool → Sto → Prop), Bag b m S → (∀ c S', Bag b m S' → Pb b S S' → K c S') → t ρ1 S K no) ∧ ∀ (S : Sto) (K : QD), Bag b m S → (∀ a S', R a → Bag b m S' → Pb b S S' → K (g a) S') → e ρ1 S K no)
    (hQ : ∀ (S : Sto) (as : List α), as.length ≤ items.length → (∀ a ∈ as, R a) → Bag b m S → Pb b S0 S → S[S0.length]? = some (.lst (as.map g)) → Q (.ref S0.length) S) :
    compL c p t e S0.length ρ Q items (S0 ++ [.lst []]) := by
  have hlt := hb.lt
  refine compL_do (fun ds S => ∃ dn as, items = dn ++ ds ∧ as.length ≤ dn.length ∧ (∀ a ∈ as, R a) ∧ Bag b m S ∧ Pb b S0 S ∧ S[S0.length]? = some (.lst (as.map g))) ?_ ?_ _ _ ⟨[], [], rfl, Nat.le_refl _, fun a h => absurd h (by simp), hb.pf (Pf.app _ _), Pb.app _ _ _, by simp⟩
  · rintro S ⟨dn, as, e1, e2, hR, hB, hP, hs⟩
    rw [List.append_nil] at e1
    subst e1
    exact ⟨hok S hP, hQ S as e2 hR hB hP hs⟩
  · rintro d ds S ⟨dn, as, e1, e2, hR, hB, hP, hs⟩
    obtain ⟨ρ1, g1, g0, g2⟩ := hgo d (by rw [e1]; simp)
    refine ⟨hok S hP, ρ1, g1, fun K hK => ?_⟩
    refine g0 S _ hB fun cc Sx hBx hPx => ?_
    have hsx := hPx.keep _ _ (by omega) hs
    have hlx : as.length ≤ items.length := by
      have : items.length = dn.length + (ds.length + 1) := by rw [e1]; simp
      omega
    have hly : as.length < sizeLine := by
      have : items.length = dn.length + (ds.length + 1) := by rw [e1]; simp
      omega
    cases cc with
    | false =>
      rw [if_neg Bool.false_ne_true]
      exact hK _ ⟨dn ++ [d], as, by rw [e1]; simp, by rw [List.length_append]; omega, hR, hBx, hP.trans hPx, hsx⟩
    | true =>
      rw [if_pos rfl]
      refine g2 Sx _ hBx fun a S1 ra hB1 hP1' => ?_
      have hP1 := hPx.trans hP1'
      have hs1 := hP1.keep _ _ (by omega) hs
      refine atN_of hs1 ⟨by rw [List.length_map]; exact hly, hK _ ⟨dn ++ [d], as ++ [a], by rw [e1]; simp, by rw [List.length_append, List.length_append, List.length_singleton, List.length_singleton]; omega, fun x hx => ?_, ?_, ?_, ?_⟩⟩
      · rcases List.mem_append.mp hx with h | h
        · exact hR x h
        · rw [List.mem_singleton.mp h]; exact ra
      · have := hb.ltm
        obtain ⟨x, y, z, cs, h⟩ := hB1
        exact ⟨x, y, z, cs, by rw [List.getElem?_set_ne (by omega)]; exact h.at_, by rw [List.getElem?_set_ne (by omega)]; exact h.cells, h.ne, h.few⟩
      · refine ⟨fun i o hi h => ?_, by rw [List.length_set]; exact (hP.trans hP1).len⟩
        have := (List.getElem?_eq_some_iff.mp h).1
        rw [List.getElem?_set_ne (by omega)]
        exact (hP.trans hP1).keep i o hi h
      · rw [List.getElem?_set_self (List.getElem?_eq_some_iff.mp hs1).1]; simp
theorem shaped_int (i : Int) : SeqAt.shaped (.int i) = true := by simp [SeqAt.shaped, PyData.canLay0, PyData.depth]
section
variable {T : List MO} {k b m : Nat} {S : Sto}
end
theorem Do.seq {a b : WS} {ρ : Rho} {S : Sto} {P Q : Rho → Sto → Prop} (h : Do a ρ S P) (h2 : ∀ ρ' S', P ρ' S' → Do b ρ' S' Q) : Do (sSeq a b) ρ S Q :=
  fun k hk => h _ fun ρ' S' p => h2 ρ' S' p k hk
theorem seq_do {a b : WS} {k : Kt} {ρ : Rho} {S : Sto} {P : Rho → Sto → Prop} (h : Do a ρ S P) (h2 : ∀ ρ' S', P ρ' S' → b k ρ' S') : sSeq a b k ρ S := h _ h2
theorem Do.imp {a : WS} {ρ : Rho} {S : Sto} {P Q : Rho → Sto → Prop} (h : Do a ρ S P) (i : ∀ ρ' S', P ρ' S' → Q ρ' S') : Do a ρ S Q :=
  fun k hk => h k fun ρ' S' p => hk _ _ (i _ _ p)
theorem sn_key (S : Sto) (x : Key) : Sn S (kD x) (kP x) := by cases x with
  | inl i => exact .int i
  | inr s => exact .str s
theorem sns_keys (S : Sto) : ∀ l : List Key, Sns S (l.map kD) (l.map kP)
  | [] => .nil
  | x :: l => .cons (sn_key S x) (sns_keys S l)
theorem kP_dep (x : Key) : (kP x).depth ≤ 8 := by cases x <;> simp [kP, PyData.depth]
section
variable {T : List MO} {k b m : Nat} {S : Sto}
end
end Zz
set_option Elab.async false
set_option linter.all false
set_option maxRecDepth 100000
namespace Zz
open PySem PySem.Spec PyProof.Rows L2
open PySem.W (dataLe dataLt alike AllAlike)
theorem atI_nat {α : Type} {xs : List α} {k : Nat} (h : k < xs.length) : atI xs (k : Int) = some xs[k] := by
  unfold atI ixN
  rw [if_pos (Int.natCast_nonneg k), if_pos (by omega)]
  simp [h]
theorem atI0 {α : Type} {x : α} {xs : List α} : atI (x :: xs) 0 = some x := by
  have := atI_nat (xs := x :: xs) (k := 0) (by simp)
  simpa using this
theorem atI1 {α : Type} {x y : α} {xs : List α} : atI (x :: y :: xs) 1 = some y := by
  have := atI_nat (xs := x :: y :: xs) (k := 1) (by simp)
  simpa using this
instance keyMem (x : Key) (l : List Key) : Decidable (x ∈ l) := decidable_of_iff (∃ y ∈ l, y = x) (by simp)
/-! ### is it among these -/
theorem any_keys (x : Key) : ∀ ks : List Key, anyEq (kP x) (ks.map kP) = decide (x ∈ ks)
  | [] => by simp [anyEq]
  | k :: ks => by
    have ih := any_keys x ks
    rw [List.map_cons]
    simp only [anyEq, List.any_cons] at ih ⊢
    rw [ih]
    have : PyData.eqv (kP k) (kP x) = decide (x = k) := by
      rw [Bool.eq_iff_iff, decide_eq_true_eq]
      cases x with
      | inl i => cases k with
        | inl j => simp only [kP, PyData.eqv, Sum.inl.injEq, beq_iff_eq]; exact ⟨Eq.symm, Eq.symm⟩
        | inr j => simp [kP, PyData.eqv]
      | inr i => cases k with
        | inl j => simp [kP, PyData.eqv]
        | inr j => simp only [kP, PyData.eqv, Sum.inr.injEq, beq_iff_eq]; exact ⟨Eq.symm, Eq.symm⟩
    rw [this, Bool.eq_iff_iff]
    simp
theorem key_shaped {x : Key} (h : ∀ s, x = .inr s → PyData.strOk s = true) : SeqAt.shaped (kP x) = true := by
  cases x with
  | inl i => exact shaped_int i
  | inr s => simp [SeqAt.shaped, kP, PyData.canLay0, PyData.depth, h s rfl]
theorem keys_lay {ks : List Key} (h : ∀ s, Sum.inr s ∈ ks → PyData.strOk s = true) : PyData.canLayAll0 (ks.map kP) = true := layAll fun p hp => by
  obtain ⟨x, hx, rfl⟩ := List.mem_map.mp hp
  cases x with
  | inl i => simp [kP, PyData.canLay0]
  | inr s => simp [kP, PyData.canLay0, h s hx]
/-- x in a row of keys -/
theorem in_keys {b : Bool} {S : Sto} {x : Key} {ks : List Key} {Q : QD} (h1 : ∀ s, x = .inr s → PyData.strOk s = true) (h2 : ∀ s, Sum.inr s ∈ ks → PyData.strOk s = true) (h : Q (.bl (bz b (decide (x ∈ ks)))) S) : fInSq b S (kD x) (ks.map kD) Q :=
  ⟨kP x, ks.map kP, sn_key S x, sns_keys S ks, key_shaped h1, keys_lay h2, by rw [any_keys]; exact h⟩
theorem names_str {ks : List Key} (h : ∀ x ∈ ks, ∃ s, x = Sum.inr s ∧ s ∈ namesL) : ∀ s, Sum.inr s ∈ ks → PyData.strOk s = true := fun s hs => by
  obtain ⟨s', e, h'⟩ := h _ hs
  cases e
  exact words_ok s (List.mem_append_left _ h')
def iks (l : List Nat) : List Key := l.map fun (n : Nat) => Sum.inl (n : Int)
theorem ints_str (l : List Nat) : ∀ s, Sum.inr s ∈ iks l → PyData.strOk s = true := fun s hs => by
  simp [iks] at hs
/-! ### trees -/
abbrev Node := Int × List Fact
def Node.d (n : Node) : D := .tup [.int n.1, .tup (n.2.map Fact.d)]
def nd (t : List Node) (k : Nat) : Node := t.getD k (-1, [])
theorem nd_at {t : List Node} {k : Nat} (h : k < t.length) : t[k]? = some (nd t k) := by
  unfold nd
  rw [List.getD_eq_getElem?_getD, List.getElem?_eq_getElem h]; rfl
theorem ix_node {t : List Node} {k : Nat} (h : k < t.length) : atI (t.map Node.d) (k : Int) = some (nd t k).d := by
  rw [atI_nat (by rw [List.length_map]; exact h), List.getElem_map]
  have := nd_at h
  rw [List.getElem?_eq_getElem h] at this
  rw [Option.some.inj this]
structure TreeOk (t : List Node) : Prop where
  root : 0 < t.length ∧ (nd t 0).1 = -1
  par : ∀ i, i < t.length → 0 < i → 0 ≤ (nd t i).1 ∧ (nd t i).1 < i
  facts : ∀ n ∈ t, (∀ f ∈ n.2, f.ok) ∧ n.2.length ≤ 3
  few : t.length ≤ 6
  hang : ∀ i s, i < t.length → 0 < i → s ∈ vnF (nd t i).2 → s ∈ vnF (nd t (nd t i).1.toNat).2 ∨ ∀ j, j < i → s ∉ vnF (nd t j).2
def up (t : List Node) (k : Nat) : Nat := (nd t k).1.toNat
def vs (t : List Node) (k : Nat) : List Key := srtN (vnF (nd t k).2)
section
variable {t : List Node}
theorem TreeOk.nd_mem (h : TreeOk t) {k : Nat} (hk : k < t.length) : nd t k ∈ t := List.mem_of_getElem? (nd_at hk)
theorem TreeOk.fok (h : TreeOk t) {k : Nat} (hk : k < t.length) : ∀ f ∈ (nd t k).2, f.ok := (h.facts _ (h.nd_mem hk)).1
theorem TreeOk.ffew (h : TreeOk t) {k : Nat} (hk : k < t.length) : (nd t k).2.length ≤ 100 := Nat.le_trans (h.facts _ (h.nd_mem hk)).2 (by decide)
theorem TreeOk.up_lt (h : TreeOk t) {k : Nat} (hk : k < t.length) (h0 : 0 < k) : up t k < k ∧ ((up t k : Nat) : Int) = (nd t k).1 := by
  obtain ⟨h1, h2⟩ := h.par k hk h0
  unfold up
  omega
theorem TreeOk.names (h : TreeOk t) {k : Nat} (hk : k < t.length) : ∀ x ∈ vs t k, ∃ s, x = Sum.inr s ∧ s ∈ namesL := uq_words (vnF_names (h.fok hk))
theorem mem_srtN {ns : List Str} {x : Key} : x ∈ srtN ns ↔ ∃ s ∈ ns, x = Sum.inr s := by
  unfold srtN
  rw [(List.mergeSort_perm _ _).mem_iff, mem_uq]
  simp [kys, eq_comm]
end
section
variable {tb : List MO} {k : Nat} {S : Sto} {t : List Node}
theorem index_ok (i : Int) : Ok (Gm tb (k + 2) 1) [.int i] S (fun d S' => d = .bl (decide (0 ≤ i)) ∧ S' = S) := by
  intro q e hq
  show bodyG 1 1 (b_is_index (Gm tb (k + 1))) _ _ _ _
  simp [b_is_index, bodyG, sSeq, sAsg, sDrop, sRet, sIf, sNext, wOp, wUn, wVar, wC, aNil, aCons, wFn, wTup, wLst, wIf, tVal, tAnd, tOr, tNot, wAnd, wOr, wNot, wCall, fA1, fIx, fIsiA, fIsi, typeD, kit_int_int, kit_int_str, kit_int_tuple, kit_int_bool, kit_str_int, kit_str_str, kit_str_tuple, kit_str_bool, kit_tuple_int, kit_tuple_str, kit_tuple_tuple, kit_tuple_bool, kit_bool_int, kit_bool_str, kit_bool_tuple, kit_bool_bool, kit_list_int, kit_list_str, kit_list_tuple, kit_list_bool, kit_dict_int, kit_dict_str, kit_dict_tuple, kit_dict_bool, atSq, atI, ixN, endK, startR, Pat.go, Pat.gos, fI, fI0, fIB, wChain, oB_some]
  refine number_ok (.num i) _ _ fun d S' ⟨h1, h2⟩ => ?_
  subst h1 h2
  simp [bodyG, sSeq, sAsg, sDrop, sRet, sIf, sNext, wOp, wUn, wVar, wC, aNil, aCons, wFn, wTup, wLst, wIf, tVal, tAnd, tOr, tNot, wAnd, wOr, wNot, wCall, fA1, fIx, fIsiA, fIsi, typeD, kit_int_int, kit_int_str, kit_int_tuple, kit_int_bool, kit_str_int, kit_str_str, kit_str_tuple, kit_str_bool, kit_tuple_int, kit_tuple_str, kit_tuple_tuple, kit_tuple_bool, kit_bool_int, kit_bool_str, kit_bool_tuple, kit_bool_bool, kit_list_int, kit_list_str, kit_list_tuple, kit_list_bool, kit_dict_int, kit_dict_str, kit_dict_tuple, kit_dict_bool, atSq, atI, ixN, endK, startR, Pat.go, Pat.gos, fI, fI0, fIB, wChain, oB_some, Tm.isNum]
  exact hq _ _ ⟨rfl, rfl⟩
theorem check_ok {n : Nat} (h : n < t.length) : Ok (Gm tb (k + 3) 7) [.tup (t.map Node.d), .int n] S (fun d S' => d = .non ∧ S' = S) := by
  intro q e hq
  show bodyG 2 2 (b_check_node (Gm tb (k + 2))) _ _ _ _
  simp [b_check_node, bodyG, sSeq, sAsg, sDrop, sRet, sIf, sNext, wOp, wUn, wVar, wC, aNil, aCons, wFn, wTup, wLst, wIf, tVal, tAnd, tOr, tNot, wAnd, wOr, wNot, wCall, fA1, fIx, fIsiA, fIsi, typeD, kit_int_int, kit_int_str, kit_int_tuple, kit_int_bool, kit_str_int, kit_str_str, kit_str_tuple, kit_str_bool, kit_tuple_int, kit_tuple_str, kit_tuple_tuple, kit_tuple_bool, kit_bool_int, kit_bool_str, kit_bool_tuple, kit_bool_bool, kit_list_int, kit_list_str, kit_list_tuple, kit_list_bool, kit_dict_int, kit_dict_str, kit_dict_tuple, kit_dict_bool, atSq, atI, ixN, endK, startR, Pat.go, Pat.gos, fI, fI0, fIB, wChain, oB_some, fLen]
  refine index_ok (n : Int) _ _ fun d S' ⟨h1, h2⟩ => ?_
  subst h1 h2
  simp [bodyG, sSeq, sAsg, sDrop, sRet, sIf, sNext, wOp, wUn, wVar, wC, aNil, aCons, wFn, wTup, wLst, wIf, tVal, tAnd, tOr, tNot, wAnd, wOr, wNot, wCall, fA1, fIx, fIsiA, fIsi, typeD, kit_int_int, kit_int_str, kit_int_tuple, kit_int_bool, kit_str_int, kit_str_str, kit_str_tuple, kit_str_bool, kit_tuple_int, kit_tuple_str, kit_tuple_tuple, kit_tuple_bool, kit_bool_int, kit_bool_str, kit_bool_tuple, kit_bool_bool, kit_list_int, kit_list_str, kit_list_tuple, kit_list_bool, kit_dict_int, kit_dict_str, kit_dict_tuple, kit_dict_bool, atSq, atI, ixN, endK, startR, Pat.go, Pat.gos, fI, fI0, fIB, wChain, oB_some, fLen, Nat.not_le.mpr h]
  exact hq _ _ ⟨rfl, rfl⟩
theorem nodev_ok {n : Nat} (ht : TreeOk t) (h : n < t.length) : Ok (Gm tb (k + 4) 8) [.tup (t.map Node.d), .int n] S (fun d S' => d = .tup ((vs t n).map kD) ∧ Pf S S') := by
  intro q e hq
  show bodyG 2 2 (b_node_variables (Gm tb (k + 3))) _ _ _ _
  simp [b_node_variables, bodyG, sSeq, sAsg, sDrop, sRet, sIf, sNext, wOp, wUn, wVar, wC, aNil, aCons, wFn, wTup, wLst, wIf, tVal, tAnd, tOr, tNot, wAnd, wOr, wNot, wCall, fA1, fIx, fIsiA, fIsi, typeD, kit_int_int, kit_int_str, kit_int_tuple, kit_int_bool, kit_str_int, kit_str_str, kit_str_tuple, kit_str_bool, kit_tuple_int, kit_tuple_str, kit_tuple_tuple, kit_tuple_bool, kit_bool_int, kit_bool_str, kit_bool_tuple, kit_bool_bool, kit_list_int, kit_list_str, kit_list_tuple, kit_list_bool, kit_dict_int, kit_dict_str, kit_dict_tuple, kit_dict_bool, atSq, atI0, atI1, endK, startR, Pat.go, Pat.gos, fI, fI0, fIB, wChain, oB_some]
  refine check_ok h _ _ fun d S' ⟨h1, h2⟩ => ?_
  subst h1 h2
  simp [bodyG, sSeq, sAsg, sDrop, sRet, sIf, sNext, wOp, wUn, wVar, wC, aNil, aCons, wFn, wTup, wLst, wIf, tVal, tAnd, tOr, tNot, wAnd, wOr, wNot, wCall, fA1, fIx, fIsiA, fIsi, typeD, kit_int_int, kit_int_str, kit_int_tuple, kit_int_bool, kit_str_int, kit_str_str, kit_str_tuple, kit_str_bool, kit_tuple_int, kit_tuple_str, kit_tuple_tuple, kit_tuple_bool, kit_bool_int, kit_bool_str, kit_bool_tuple, kit_bool_bool, kit_list_int, kit_list_str, kit_list_tuple, kit_list_bool, kit_dict_int, kit_dict_str, kit_dict_tuple, kit_dict_bool, atSq, atI0, atI1, endK, startR, Pat.go, Pat.gos, fI, fI0, fIB, wChain, oB_some, fIx, ix_node h, Node.d]
  exact vars_ok (.inl rfl) (ht.fok h) (ht.ffew h) _ _ fun d S' hh => hq d S' hh
end
end Zz
set_option Elab.async false
set_option linter.all false
set_option maxRecDepth 100000
namespace Zz
open PySem PySem.Spec PyProof.Rows L2
open PySem.W (dataLe dataLt alike AllAlike)
section
variable {tb : List MO} {k : Nat} {S : Sto} {t : List Node}
theorem alikeL {n m : Nat} {p : PyData} (hx : Sn S (.ref n) p) (hy : Sn S (.ref m) p) (hp : Showy p) : Ok (Gm tb (k + 1) 19) [.ref n, .ref m] S (fun d S' => d = .bl true ∧ S' = S) := by
  intro q e hq
  have hsh := hp.shaped
  unfold SeqAt.shaped at hsh
  rw [Bool.and_eq_true, decide_eq_true_eq] at hsh
  show bodyG 2 2 (b_law_alike (Gm tb k)) _ _ _ _
  simp [b_law_alike, bodyG, sSeq, sAsg, sDrop, sRet, sIf, sNext, wOp, wUn, wVar, wC, aNil, aCons, wFn, wTup, wLst, wIf, tVal, tAnd, tOr, tNot, wAnd, wOr, wNot, wCall, fA1, fIx, fIsiA, fIsi, typeD, kit_int_int, kit_int_str, kit_int_tuple, kit_int_bool, kit_str_int, kit_str_str, kit_str_tuple, kit_str_bool, kit_tuple_int, kit_tuple_str, kit_tuple_tuple, kit_tuple_bool, kit_bool_int, kit_bool_str, kit_bool_tuple, kit_bool_bool, kit_list_int, kit_list_str, kit_list_tuple, kit_list_bool, kit_dict_int, kit_dict_str, kit_dict_tuple, kit_dict_bool, atSq, atI0, atI1, endK, startR, Pat.go, Pat.gos, fI, fI0, fIB, wChain, oB_some, fReprB, fReprA, fEq, isDisp]
  refine ⟨p, hx, hp.show', hp.nod, hsh.2, hp.few, p, hy, hp.show', hp.nod, hsh.2, hp.few, ?_⟩
  have s1 : SeqAt.shaped (.str p.shown) = true := by simp [SeqAt.shaped, PyData.canLay0, PyData.depth, hp.sok]
  refine ⟨_, .str _, _, .str _, s1, s1, ?_⟩
  rw [PySem.SeqAt.eqv_refl (.str p.shown) (by simp [PyData.canLay0, hp.sok])]
  refine ⟨p, hx, p, hy, hp.shaped, hp.shaped, ?_⟩
  rw [PySem.SeqAt.eqv_refl p hsh.1]
  exact hq _ _ ⟨rfl, rfl⟩
theorem ints6 : ∀ i : Nat, i < 8 → (i : Int).natAbs.log2 < 1920 ∧ SeqAt.shaped (.str (Str.ofString (toString (i : Int)))) = true := by decide +kernel
theorem alikeI {i : Nat} (h : i < 8) : Ok (Gm tb (k + 1) 19) [.int i, .int i] S (fun d S' => d = .bl true ∧ S' = S) := by
  intro q e hq
  obtain ⟨h1, h2⟩ := ints6 i h
  show bodyG 2 2 (b_law_alike (Gm tb k)) _ _ _ _
  simp [b_law_alike, bodyG, sSeq, sAsg, sDrop, sRet, sIf, sNext, wOp, wUn, wVar, wC, aNil, aCons, wFn, wTup, wLst, wIf, tVal, tAnd, tOr, tNot, wAnd, wOr, wNot, wCall, fA1, fIx, fIsiA, fIsi, typeD, kit_int_int, kit_int_str, kit_int_tuple, kit_int_bool, kit_str_int, kit_str_str, kit_str_tuple, kit_str_bool, kit_tuple_int, kit_tuple_str, kit_tuple_tuple, kit_tuple_bool, kit_bool_int, kit_bool_str, kit_bool_tuple, kit_bool_bool, kit_list_int, kit_list_str, kit_list_tuple, kit_list_bool, kit_dict_int, kit_dict_str, kit_dict_tuple, kit_dict_bool, atSq, atI0, atI1, endK, startR, Pat.go, Pat.gos, fI, fI0, fIB, wChain, oB_some, fReprB, fEq]
  have s1 : PyData.eqv (.str (Str.ofString (Int.repr (i : Int)))) (.str (Str.ofString (Int.repr (i : Int)))) = true := by simp [PyData.eqv]
  refine ⟨h1, _, .str _, _, .str _, h2, h2, ?_⟩
  rw [s1]
  refine ⟨_, .int _, _, .int _, shaped_int _, shaped_int _, ?_⟩
  have s2 : PyData.eqv (.int (i : Int)) (.int (i : Int)) = true := by simp [PyData.eqv]
  rw [s2]
  exact hq _ _ ⟨rfl, rfl⟩
theorem alikeB (b : Bool) : Ok (Gm tb (k + 1) 19) [.bl b, .bl b] S (fun d S' => d = .bl true ∧ S' = S) := by
  intro q e hq
  show bodyG 2 2 (b_law_alike (Gm tb k)) _ _ _ _
  have h2 : SeqAt.shaped (.str (if b then "True" else "False")) = true := by cases b <;> decide +kernel
  simp [b_law_alike, bodyG, sSeq, sAsg, sDrop, sRet, sIf, sNext, wOp, wUn, wVar, wC, aNil, aCons, wFn, wTup, wLst, wIf, tVal, tAnd, tOr, tNot, wAnd, wOr, wNot, wCall, fA1, fIx, fIsiA, fIsi, typeD, kit_int_int, kit_int_str, kit_int_tuple, kit_int_bool, kit_str_int, kit_str_str, kit_str_tuple, kit_str_bool, kit_tuple_int, kit_tuple_str, kit_tuple_tuple, kit_tuple_bool, kit_bool_int, kit_bool_str, kit_bool_tuple, kit_bool_bool, kit_list_int, kit_list_str, kit_list_tuple, kit_list_bool, kit_dict_int, kit_dict_str, kit_dict_tuple, kit_dict_bool, atSq, atI0, atI1, endK, startR, Pat.go, Pat.gos, fI, fI0, fIB, wChain, oB_some, fReprB, fEq]
  have s1 : PyData.eqv (.str (if b then "True" else "False")) (.str (if b then "True" else "False")) = true := by simp [PyData.eqv]
  refine ⟨_, .str _, _, .str _, h2, h2, ?_⟩
  rw [s1]
  refine ⟨_, .bl _, _, .bl _, shaped_bool _, shaped_bool _, ?_⟩
  rw [eqv_bool]
  exact hq _ _ ⟨rfl, rfl⟩
/-- the law's variables -/
theorem lvars_ok {l : List Fact} (hok : ∀ a ∈ l, a.ok) (hz : l.length ≤ 100) : Ok (Gm tb (k + 1) 24) [.tup (l.map Fact.d)] S (fun d S' => ∃ m, d = .ref m ∧ S'[m]? = some (.lst ((srtN (vnF l)).map kD)) ∧ Pf S S') := by
  intro q e hq
  have h3 : (301 : Nat) < sizeLine := by decide
  have h4 : (301 : Nat) < scanBound := by decide
  show bodyG 5 1 (b_law_variables (Gm tb k)) _ _ _ _
  simp [b_law_variables, bodyG, sSeq, sAsg, sDrop, sRet, sIf, sNext, wOp, wUn, wVar, wC, aNil, aCons, wFn, wTup, wLst, wIf, tVal, tAnd, tOr, tNot, wAnd, wOr, wNot, wCall, fA1, fIx, fIsiA, fIsi, typeD, kit_int_int, kit_int_str, kit_int_tuple, kit_int_bool, kit_str_int, kit_str_str, kit_str_tuple, kit_str_bool, kit_tuple_int, kit_tuple_str, kit_tuple_tuple, kit_tuple_bool, kit_bool_int, kit_bool_str, kit_bool_tuple, kit_bool_bool, kit_list_int, kit_list_str, kit_list_tuple, kit_list_bool, kit_dict_int, kit_dict_str, kit_dict_tuple, kit_dict_bool, atSq, atI0, atI1, endK, startR, Pat.go, Pat.gos, fI, fI0, fIB, wChain, oB_some, sFor]
  refine seq_tup rfl ?_
  have vapp : ∀ a b : List Fact, vnF (a ++ b) = vnF a ++ vnF b := fun a b => by rw [vnF_eq, vnF_eq, vnF_eq, List.map_append, List.flatten_append, vnT_app]
  have hvl : ∀ m : List Fact, (∀ a ∈ m, a.ok) → (vnF m).length ≤ 3 * m.length := fun m hm => by rw [vnF_eq]; exact Nat.le_trans (vnT_len _) (flat_len hm)
  have vone : ∀ f : Fact, vnF [f] = vnT f.2 := fun f => by simp [vnF]
  refine forL_do (fun ds ρ S1 => ∃ (dn rs : List Fact) (y z w : Option D), l = dn ++ rs ∧ ds = rs.map Fact.d ∧ ρ = [some (.tup (l.map Fact.d)), some (.ref S.length), y, z, w] ∧ Pf S S1 ∧ S1[S.length]? = some (.lst ((kys (vnF dn)).map kD))) ?_ ?_ _ _ _ ⟨[], l, none, none, none, rfl, rfl, rfl, Pf.app _ _, by simp [kys, vnF]⟩
  · rintro ρ S1 ⟨dn, rs, y, z, w, e1, e2, rfl, pf, h5⟩
    cases rs with
    | cons _ _ => cases e2
    | nil =>
      rw [List.append_nil] at e1
      subst e1
      have hlv := hvl _ hok
      refine ⟨True.intro, ?_⟩
      simp [bodyG, sSeq, sAsg, sDrop, sRet, sIf, sNext, wOp, wUn, wVar, wC, aNil, aCons, wFn, wTup, wLst, wIf, tVal, tAnd, tOr, tNot, wAnd, wOr, wNot, wCall, fA1, fIx, fIsiA, fIsi, typeD, kit_int_int, kit_int_str, kit_int_tuple, kit_int_bool, kit_str_int, kit_str_str, kit_str_tuple, kit_str_bool, kit_tuple_int, kit_tuple_str, kit_tuple_tuple, kit_tuple_bool, kit_bool_int, kit_bool_str, kit_bool_tuple, kit_bool_bool, kit_list_int, kit_list_str, kit_list_tuple, kit_list_bool, kit_dict_int, kit_dict_str, kit_dict_tuple, kit_dict_bool, atSq, atI0, atI1, endK, startR, Pat.go, Pat.gos, fI, fI0, fIB, wChain, oB_some]
      refine ⟨kys (vnF l), ?_, by simp only [kys, List.length_map]; omega, ?_⟩
      · simp only [atSq, h5]
      · refine ⟨kys (vnF l), by simp, alike_strs _, by simp only [kys, List.length_map]; omega, hq _ _ ⟨_, rfl, by simp [srtN], ?_⟩⟩
        exact pf.trans ((Pf.app _ _).trans (Pf.app _ _))
  · rintro d ds ρ S1 ⟨dn, rs, y, z, w, e1, e2, rfl, pf, h5⟩
    cases rs with
    | nil => cases e2
    | cons f rs =>
      rw [List.map_cons] at e2
      injection e2 with e2 e3
      subst e2 e3
      refine ⟨True.intro, _, rfl, fun K hK => ?_⟩
      have hf := hok f (by rw [e1]; simp)
      have hfew := hf.few
      have hlt := (List.getElem?_eq_some_iff.mp h5).1
      simp [bodyG, sSeq, sAsg, sDrop, sRet, sIf, sNext, wOp, wUn, wVar, wC, aNil, aCons, wFn, wTup, wLst, wIf, tVal, tAnd, tOr, tNot, wAnd, wOr, wNot, wCall, fA1, fIx, fIsiA, fIsi, typeD, kit_int_int, kit_int_str, kit_int_tuple, kit_int_bool, kit_str_int, kit_str_str, kit_str_tuple, kit_str_bool, kit_tuple_int, kit_tuple_str, kit_tuple_tuple, kit_tuple_bool, kit_bool_int, kit_bool_str, kit_bool_tuple, kit_bool_bool, kit_list_int, kit_list_str, kit_list_tuple, kit_list_bool, kit_dict_int, kit_dict_str, kit_dict_tuple, kit_dict_bool, atSq, atI0, atI1, endK, startR, Pat.go, Pat.gos, fI, fI0, fIB, wChain, oB_some, wMt]
      refine ⟨⟨_, _, rfl, h5⟩, ?_⟩
      refine comp_tup rfl ?_
      refine comp_map S1 Tm.d Tm.isVr (fun t => .str t.name) f.2 (by omega) (fun _ _ => True.intro) (fun t ht => ⟨_, rfl, fun S3 K _ hK => ?_, fun hv S3 K _ hK => ?_⟩) fun S3 pf3 h => ?_
      · cases t <;> simp [bodyG, sSeq, sAsg, sDrop, sRet, sIf, sNext, wOp, wUn, wVar, wC, aNil, aCons, wFn, wTup, wLst, wIf, tVal, tAnd, tOr, tNot, wAnd, wOr, wNot, wCall, fA1, fIx, fIsiA, fIsi, typeD, kit_int_int, kit_int_str, kit_int_tuple, kit_int_bool, kit_str_int, kit_str_str, kit_str_tuple, kit_str_bool, kit_tuple_int, kit_tuple_str, kit_tuple_tuple, kit_tuple_bool, kit_bool_int, kit_bool_str, kit_bool_tuple, kit_bool_bool, kit_list_int, kit_list_str, kit_list_tuple, kit_list_bool, kit_dict_int, kit_dict_str, kit_dict_tuple, kit_dict_bool, atSq, atI, ixN, endK, startR, Pat.go, Pat.gos, fI, fI0, fIB, wChain, oB_some, Tm.d, wipeR, Tm.d] <;> exact hK S3 (.refl _)
      · cases t with
        | num i => cases hv
        | nm s => cases hv
        | vr s => simp [bodyG, sSeq, sAsg, sDrop, sRet, sIf, sNext, wOp, wUn, wVar, wC, aNil, aCons, wFn, wTup, wLst, wIf, tVal, tAnd, tOr, tNot, wAnd, wOr, wNot, wCall, fA1, fIx, fIsiA, fIsi, typeD, kit_int_int, kit_int_str, kit_int_tuple, kit_int_bool, kit_str_int, kit_str_str, kit_str_tuple, kit_str_bool, kit_tuple_int, kit_tuple_str, kit_tuple_tuple, kit_tuple_bool, kit_bool_int, kit_bool_str, kit_bool_tuple, kit_bool_bool, kit_list_int, kit_list_str, kit_list_tuple, kit_list_bool, kit_dict_int, kit_dict_str, kit_dict_tuple, kit_dict_bool, atSq, atI, ixN, endK, startR, Pat.go, Pat.gos, fI, fI0, fIB, wChain, oB_some, Tm.d, wipeR, Tm.d, atI0, atI1]; exact hK S3 (.refl _)
      · rw [vr_names] at h
        have h6 := pf3 _ _ h5
        have hdn : (vnF dn).length ≤ 3 * dn.length := hvl dn fun a ha => hok a (by rw [e1]; exact List.mem_append_left _ ha)
        have hll : l.length = dn.length + (rs.length + 1) := by rw [e1]; simp
        have hvt := vnT_len f.2
        simp only [fExt]
        refine atN_of h6 (atN_of h ⟨by simp only [kys, List.length_map]; omega, hK _ _ ⟨dn ++ [f], rs, _, _, _, by rw [e1]; simp, rfl, rfl, (pf.trans pf3).set (Nat.le_refl _) _, ?_⟩⟩)
        rw [List.getElem?_set_self (List.getElem?_eq_some_iff.mp h6).1, vapp, vone]
        simp [kys]
end
end Zz
set_option Elab.async false
set_option linter.all false
set_option maxRecDepth 100000
namespace Zz
open PySem PySem.Spec PyProof.Rows L2
open PySem.W (dataLe dataLt alike AllAlike)
/-- γ raises Nothing -/
def Rz (γ : Ga) (ds : List D) (S : Sto) (post : Sto → Prop) : Prop := ∀ (q : QD) (e : QX), (∀ S', post S' → e ⟨"Nothing", []⟩ S') → γ ds S q e
theorem whN_do {tt : WT} {b : WS} {k : Kt} (P : Nat → Rho → Sto → Prop)
    (h : ∀ n ρ S, P n ρ S → ∀ K : Rho → Sto → Prop, (∀ m ρ' S', n = m + 1 → P m ρ' S' → K ρ' S') → tt ρ S (fun c S1 => if c = true then b { k with nx := K, ct := K, bk := k.nx } ρ S1 else k.nx ρ S1) (fun x S1 => k.ex x ρ S1)) :
    ∀ n ρ S, P n ρ S → whN tt b k (n + 1) ρ S
  | 0, ρ, S, hp => h 0 ρ S hp _ fun m _ _ e => by omega
  | n + 1, ρ, S, hp => h (n + 1) ρ S hp _ fun m ρ' S' e hm => whN_do P h n ρ' S' (by
      have : n = m := by omega
      rw [this]
      exact hm)
theorem enum_range : ∀ (xs : List D) (n : Nat), enumD n xs = (List.range xs.length).map fun i => D.tpz [.int ((n + i : Nat) : Int), xs.getD i .non]
  | [], n => rfl
  | x :: xs, n => by
    rw [enumD, List.length_cons, List.range_succ_eq_map, List.map_cons, List.map_map, enum_range xs (n + 1)]
    congr 1
    apply List.map_congr_left
    intro i _
    show D.tpz [.int ((n + 1 + i : Nat) : Int), xs.getD i .non] = D.tpz [.int ((n + (i + 1) : Nat) : Int), (x :: xs).getD (i + 1) .non]
    rw [show n + 1 + i = n + (i + 1) by omega]
    simp
def own (t : List Node) (k : Nat) : List Key := if k = 0 then vs t 0 else (vs t k).filter fun x => !decide (x ∈ vs t (up t k))
section
variable {tb : List MO} {k : Nat} {S : Sto} {t : List Node}
theorem TreeOk.ix_up (h : TreeOk t) {n : Nat} (hn : n < t.length) (h0 : 0 < n) : atI (t.map Node.d) (nd t n).1 = some (nd t (up t n)).d := by
  obtain ⟨h1, h2⟩ := h.up_lt hn h0
  rw [← h2]
  exact ix_node (by omega)
theorem own_sub {n : Nat} : ∀ x ∈ own t n, x ∈ vs t n := fun x hx => by
  unfold own at hx
  split at hx
  · rename_i h; rw [h]; exact hx
  · exact (List.mem_filter.mp hx).1
theorem TreeOk.vs_few (h : TreeOk t) {n : Nat} (hn : n < t.length) : (vs t n).length ≤ 8 := srtN_few (vnF_names (h.fok hn))
theorem filter_none {α : Type} (l : List α) : (l.filter fun _ => true) = l := filter_yes l
theorem ownv_ok {n : Nat} (ht : TreeOk t) (h : n < t.length) : Ok (Gm tb (k + 5) 9) [.tup (t.map Node.d), .int n] S (fun d S' => d = .tup ((own t n).map kD) ∧ Pf S S') := by
  intro q e hq
  have h3 : (301 : Nat) < sizeLine := by decide
  have hfew := ht.vs_few h
  show bodyG 6 2 (b_own_variables (Gm tb (k + 4))) _ _ _ _
  simp [b_own_variables, bodyG, sSeq, sAsg, sDrop, sRet, sIf, sNext, wOp, wUn, wVar, wC, aNil, aCons, wFn, wTup, wLst, wIf, tVal, tAnd, tOr, tNot, wAnd, wOr, wNot, wCall, fA1, fIx, fIsiA, fIsi, typeD, kit_int_int, kit_int_str, kit_int_tuple, kit_int_bool, kit_str_int, kit_str_str, kit_str_tuple, kit_str_bool, kit_tuple_int, kit_tuple_str, kit_tuple_tuple, kit_tuple_bool, kit_bool_int, kit_bool_str, kit_bool_tuple, kit_bool_bool, kit_list_int, kit_list_str, kit_list_tuple, kit_list_bool, kit_dict_int, kit_dict_str, kit_dict_tuple, kit_dict_bool, atSq, atI0, atI1, endK, startR, Pat.go, Pat.gos, fI, fI0, fIB, wChain, oB_some, sPar]
  refine nodev_ok ht h _ _ fun d S1 ⟨e1, p1⟩ => ?_
  subst e1
  simp [fIx, ix_node h, Node.d, atI0]
  have fin : ∀ (ab : List Key) (S2 : Sto), Pf S S2 → (∀ s, Sum.inr s ∈ ab → PyData.strOk s = true) → (vs t n).filter (fun x => !decide (x ∈ ab)) = own t n →
      wComp (wSeq (wVar 3)) (.nm 5) (tVal (wOp fNotInA (wVar 5) (wVar 2))) (wVar 5) [5] [some (.tup (t.map Node.d)), some (.int n), some (.tup (ab.map kD)), some (.tup ((vs t n).map kD)), some (.int (nd t n).1), none] S2 (fun d S1 => fTuple S1 d q) (fun x S1 => e x S1) := by
    intro ab S2 p2 hab hfl
    refine comp_tup rfl ?_
    refine comp_map S2 kD (fun x => !decide (x ∈ ab)) kD (vs t n) (by omega) (fun _ _ => True.intro) (fun x hx => ⟨_, rfl, fun S3 K _ hK => ?_, fun hv S3 K _ hK => ?_⟩) fun S3 p3 h => ?_
    · simp [bodyG, sSeq, sAsg, sDrop, sRet, sIf, sNext, wOp, wUn, wVar, wC, aNil, aCons, wFn, wTup, wLst, wIf, tVal, tAnd, tOr, tNot, wAnd, wOr, wNot, wCall, fA1, fIx, fIsiA, fIsi, typeD, kit_int_int, kit_int_str, kit_int_tuple, kit_int_bool, kit_str_int, kit_str_str, kit_str_tuple, kit_str_bool, kit_tuple_int, kit_tuple_str, kit_tuple_tuple, kit_tuple_bool, kit_bool_int, kit_bool_str, kit_bool_tuple, kit_bool_bool, kit_list_int, kit_list_str, kit_list_tuple, kit_list_bool, kit_dict_int, kit_dict_str, kit_dict_tuple, kit_dict_bool, atSq, atI0, atI1, endK, startR, Pat.go, Pat.gos, fI, fI0, fIB, wChain, oB_some, wipeR, fInB]
      obtain ⟨s, rfl, hs⟩ := ht.names h x hx
      refine in_keys (b := false) (fun s' e => by cases e; exact words_ok s (List.mem_append_left _ hs)) hab ?_
      simp only [bz]
      exact hK S3 (.refl _)
    · simp [bodyG, sSeq, sAsg, sDrop, sRet, sIf, sNext, wOp, wUn, wVar, wC, aNil, aCons, wFn, wTup, wLst, wIf, tVal, tAnd, tOr, tNot, wAnd, wOr, wNot, wCall, fA1, fIx, fIsiA, fIsi, typeD, kit_int_int, kit_int_str, kit_int_tuple, kit_int_bool, kit_str_int, kit_str_str, kit_str_tuple, kit_str_bool, kit_tuple_int, kit_tuple_str, kit_tuple_tuple, kit_tuple_bool, kit_bool_int, kit_bool_str, kit_bool_tuple, kit_bool_bool, kit_list_int, kit_list_str, kit_list_tuple, kit_list_bool, kit_dict_int, kit_dict_str, kit_dict_tuple, kit_dict_bool, atSq, atI0, atI1, endK, startR, Pat.go, Pat.gos, fI, fI0, fIB, wChain, oB_some, wipeR]; exact hK S3 (.refl _)
    · rw [hfl] at h
      simp [fTuple, atSq, h]
      exact hq _ _ ⟨rfl, p2.trans p3⟩
  by_cases hn : n = 0
  · subst hn
    rw [ht.root.2, if_neg (by decide)]
    have f := fin [] S1 p1 (by simp) (by unfold own; rw [if_pos rfl]; simp)
    rw [ht.root.2] at f
    exact f
  · obtain ⟨u1, u2⟩ := ht.up_lt h (by omega)
    rw [if_pos (by omega), ht.ix_up h (by omega)]
    simp [Node.d, atI1]
    have hu : up t n < t.length := by omega
    refine vars_ok (k := k + 1) (.inl rfl) (ht.fok hu) (ht.ffew hu) _ _ fun d S2 ⟨e1, p2⟩ => ?_
    subst e1
    refine fin (vs t (up t n)) S2 (p1.trans p2) (names_str (ht.names hu)) ?_
    unfold own
    rw [if_neg hn]
/-- the law's own ones -/
theorem lown_ok {n : Nat} (ht : TreeOk t) (h : n < t.length) : Ok (Gm tb (k + 2) 27) [.tup (t.map Node.d), .int n] S (fun d S' => ∃ m, d = .ref m ∧ S'[m]? = some (.lst ((own t n).map kD)) ∧ Pf S S') := by
  intro q e hq
  have h3 : (301 : Nat) < sizeLine := by decide
  have hfew := ht.vs_few h
  show bodyG 4 2 (b_law_own (Gm tb (k + 1))) _ _ _ _
  simp [b_law_own, bodyG, sSeq, sAsg, sDrop, sRet, sIf, sNext, wOp, wUn, wVar, wC, aNil, aCons, wFn, wTup, wLst, wIf, tVal, tAnd, tOr, tNot, wAnd, wOr, wNot, wCall, fA1, fIx, fIsiA, fIsi, typeD, kit_int_int, kit_int_str, kit_int_tuple, kit_int_bool, kit_str_int, kit_str_str, kit_str_tuple, kit_str_bool, kit_tuple_int, kit_tuple_str, kit_tuple_tuple, kit_tuple_bool, kit_bool_int, kit_bool_str, kit_bool_tuple, kit_bool_bool, kit_list_int, kit_list_str, kit_list_tuple, kit_list_bool, kit_dict_int, kit_dict_str, kit_dict_tuple, kit_dict_bool, atSq, atI0, atI1, endK, startR, Pat.go, Pat.gos, fI, fI0, fIB, wChain, oB_some, fIx, ix_node h, Node.d]
  refine lvars_ok (ht.fok h) (ht.ffew h) _ _ fun d S1 ⟨m, e1, h1, p1⟩ => ?_
  subst e1
  simp [bodyG, sSeq, sAsg, sDrop, sRet, sIf, sNext, wOp, wUn, wVar, wC, aNil, aCons, wFn, wTup, wLst, wIf, tVal, tAnd, tOr, tNot, wAnd, wOr, wNot, wCall, fA1, fIx, fIsiA, fIsi, typeD, kit_int_int, kit_int_str, kit_int_tuple, kit_int_bool, kit_str_int, kit_str_str, kit_str_tuple, kit_str_bool, kit_tuple_int, kit_tuple_str, kit_tuple_tuple, kit_tuple_bool, kit_bool_int, kit_bool_str, kit_bool_tuple, kit_bool_bool, kit_list_int, kit_list_str, kit_list_tuple, kit_list_bool, kit_dict_int, kit_dict_str, kit_dict_tuple, kit_dict_bool, atSq, atI0, atI1, endK, startR, Pat.go, Pat.gos, fI, fI0, fIB, wChain, oB_some, fEq]
  refine ⟨_, .int _, _, .int _, shaped_int _, shaped_int _, ?_⟩
  have e0 : PyData.eqv (.int (n : Int)) (.int 0) = decide (n = 0) := by
    rw [Bool.eq_iff_iff, decide_eq_true_eq]
    simp [PyData.eqv]
  rw [e0]
  by_cases hn : n = 0
  · subst hn
    simp
    exact hq _ _ ⟨m, rfl, by rw [h1]; unfold own vs; rw [if_pos rfl], p1⟩
  · obtain ⟨u1, u2⟩ := ht.up_lt h (by omega)
    have hu : up t n < t.length := by omega
    simp [hn]
    refine comp_of (n := m) rfl h1 ?_
    have hs : own t n = (vs t n).filter (fun x => !decide (x ∈ vs t (up t n))) := by unfold own; rw [if_neg hn]
    refine comp_map S1 kD (fun x => !decide (x ∈ vs t (up t n))) kD (vs t n) (by omega) (fun S2 p => p _ _ h1) (fun x hx => ⟨_, rfl, fun S3 K p3 hK => ?_, fun hv S3 K _ hK => ?_⟩) fun S3 p3 h => ?_
    · simp [bodyG, sSeq, sAsg, sDrop, sRet, sIf, sNext, wOp, wUn, wVar, wC, aNil, aCons, wFn, wTup, wLst, wIf, tVal, tAnd, tOr, tNot, wAnd, wOr, wNot, wCall, fA1, fIx, fIsiA, fIsi, typeD, kit_int_int, kit_int_str, kit_int_tuple, kit_int_bool, kit_str_int, kit_str_str, kit_str_tuple, kit_str_bool, kit_tuple_int, kit_tuple_str, kit_tuple_tuple, kit_tuple_bool, kit_bool_int, kit_bool_str, kit_bool_tuple, kit_bool_bool, kit_list_int, kit_list_str, kit_list_tuple, kit_list_bool, kit_dict_int, kit_dict_str, kit_dict_tuple, kit_dict_bool, atSq, atI0, atI1, endK, startR, Pat.go, Pat.gos, fI, fI0, fIB, wChain, oB_some, wipeR, fIx, ix_node h, Node.d, ht.ix_up h (by omega)]
      refine lvars_ok (k := k) (ht.fok hu) (ht.ffew hu) _ _ fun d S4 ⟨m', e2, h2, p4⟩ => ?_
      subst e2
      simp [fInB, h2]
      obtain ⟨s, rfl, hs⟩ := ht.names h x hx
      refine in_keys (b := false) (fun s' e => by cases e; exact words_ok s (List.mem_append_left _ hs)) (names_str (ht.names hu)) ?_
      simp only [bz]
      exact hK S4 p4
    · simp [bodyG, sSeq, sAsg, sDrop, sRet, sIf, sNext, wOp, wUn, wVar, wC, aNil, aCons, wFn, wTup, wLst, wIf, tVal, tAnd, tOr, tNot, wAnd, wOr, wNot, wCall, fA1, fIx, fIsiA, fIsi, typeD, kit_int_int, kit_int_str, kit_int_tuple, kit_int_bool, kit_str_int, kit_str_str, kit_str_tuple, kit_str_bool, kit_tuple_int, kit_tuple_str, kit_tuple_tuple, kit_tuple_bool, kit_bool_int, kit_bool_str, kit_bool_tuple, kit_bool_bool, kit_list_int, kit_list_str, kit_list_tuple, kit_list_bool, kit_dict_int, kit_dict_str, kit_dict_tuple, kit_dict_bool, atSq, atI0, atI1, endK, startR, Pat.go, Pat.gos, fI, fI0, fIB, wChain, oB_some, wipeR]; exact hK S3 (.refl _)
    · exact hq _ _ ⟨_, rfl, by rw [hs]; exact h, p1.trans p3⟩
/-- the variables, node by node -/
theorem byNode_ok (ht : TreeOk t) : Ok (Gm tb (k + 4) 6) [.tup (t.map Node.d)] S (fun d S' => ∃ m, d = .ref m ∧ S'[m]? = some (.lst (t.map fun n => .tup ((srtN (vnF n.2)).map kD))) ∧ Pf S S') := by
  intro q e hq
  have h3 : (301 : Nat) < sizeLine := by decide
  have hfew := ht.few
  show bodyG 3 1 (b_variables_by_node (Gm tb (k + 3))) _ _ _ _
  refine ⟨rfl, ?_⟩
  show wComp _ _ _ _ _ _ _ _ _
  refine comp_tup rfl ?_
  refine comp_map S Node.d (fun _ => true) (fun n => .tup ((srtN (vnF n.2)).map kD)) t (by omega) (fun _ _ => True.intro) (fun n hn => ⟨_, rfl, fun S3 K _ hK => hK S3 (.refl _), fun _ S3 K _ hK => ?_⟩) fun S3 p3 h => ?_
  · simp [bodyG, sSeq, sAsg, sDrop, sRet, sIf, sNext, wOp, wUn, wVar, wC, aNil, aCons, wFn, wTup, wLst, wIf, tVal, tAnd, tOr, tNot, wAnd, wOr, wNot, wCall, fA1, fIx, fIsiA, fIsi, typeD, kit_int_int, kit_int_str, kit_int_tuple, kit_int_bool, kit_str_int, kit_str_str, kit_str_tuple, kit_str_bool, kit_tuple_int, kit_tuple_str, kit_tuple_tuple, kit_tuple_bool, kit_bool_int, kit_bool_str, kit_bool_tuple, kit_bool_bool, kit_list_int, kit_list_str, kit_list_tuple, kit_list_bool, kit_dict_int, kit_dict_str, kit_dict_tuple, kit_dict_bool, atSq, atI0, atI1, endK, startR, Pat.go, Pat.gos, fI, fI0, fIB, wChain, oB_some, wipeR]
    obtain ⟨f1, f2⟩ := ht.facts n hn
    exact vars_ok (k := k) (.inl rfl) f1 (by omega) _ _ fun d S4 ⟨e1, p4⟩ => by subst e1; exact hK S4 p4
  · rw [filter_yes] at h
    exact hq _ _ ⟨_, rfl, h, p3⟩
theorem nd_map {β : Type} (f : Node → β) (t : List Node) : t.map f = (List.range t.length).map fun i => f (nd t i) := by
  apply List.ext_getElem?
  intro i
  rw [List.getElem?_map, List.getElem?_map]
  by_cases hi : i < t.length
  · rw [nd_at hi, List.getElem?_range hi]; rfl
  · rw [List.getElem?_eq_none (by omega), List.getElem?_eq_none (by simpa using hi)]; rfl
theorem enum_nodes (f : Node → D) (t : List Node) : enumD 0 (t.map f) = (List.range t.length).map fun i => D.tpz [.int ((i : Nat) : Int), f (nd t i)] := by
  rw [enum_range, List.length_map]
  apply List.map_congr_left
  intro i hi
  rw [List.mem_range] at hi
  rw [Nat.zero_add, List.getD_eq_getElem?_getD, List.getElem?_map, nd_at hi]
  rfl
/-- the first node that tells x -/
theorem firstF {x : D} {bx : Nat → Bool} (ht : TreeOk t) (hx : ∀ (S : Sto) (i : Nat) (Q : QD), i < t.length → Q (.bl (bx i)) S → fInA S x (.tup ((vs t i).map kD)) Q) (q : QD) (e : QX)
    (h1 : ∀ m l S', (List.range t.length).filter bx = m :: l → Pf S S' → q (.int ((m : Nat) : Int)) S') (h0 : ∀ S', (List.range t.length).filter bx = [] → Pf S S' → e ⟨"Nothing", []⟩ S') : Gm tb (k + 5) 10 [.tup (t.map Node.d), x] S q e := by
  have h3 : (301 : Nat) < sizeLine := by decide
  have hfew := ht.few
  show bodyG 5 2 (b_first_node (Gm tb (k + 4))) _ _ _ _
  refine ⟨rfl, ?_⟩
  refine asg_seq ?_
  show wComp _ _ _ _ _ _ _ _ _
  simp only [wComp, iEnu, wCall, aCons, aNil, wVar]
  show oB (some (D.tup (t.map Node.d))) _
  rw [oB_some]
  refine byNode_ok ht _ _ fun d S1 ⟨m, e1, h4, p1⟩ => ?_
  subst e1
  have e5 : sqItems S1 (.ref m) = some (t.map fun n => .tup ((srtN (vnF n.2)).map kD)) := by simp only [sqItems, h4]
  rw [e5, oB_some, enum_nodes]
  refine comp_map S1 (fun i : Nat => D.tpz [.int ((i : Nat) : Int), .tup ((vs t i).map kD)]) bx (fun i => .int ((i : Nat) : Int)) (List.range t.length) (by rw [List.length_range]; omega) (fun S2 p => p _ _ h4) (fun i hi => ⟨_, rfl, fun S3 K _ hK => ?_, fun _ S3 K _ hK => ?_⟩) fun S3 p3 h => ?_
  · simp [bodyG, sSeq, sAsg, sDrop, sRet, sIf, sNext, wOp, wUn, wVar, wC, aNil, aCons, wFn, wTup, wLst, wIf, tVal, tAnd, tOr, tNot, wAnd, wOr, wNot, wCall, fA1, fIx, fIsiA, fIsi, typeD, kit_int_int, kit_int_str, kit_int_tuple, kit_int_bool, kit_str_int, kit_str_str, kit_str_tuple, kit_str_bool, kit_tuple_int, kit_tuple_str, kit_tuple_tuple, kit_tuple_bool, kit_bool_int, kit_bool_str, kit_bool_tuple, kit_bool_bool, kit_list_int, kit_list_str, kit_list_tuple, kit_list_bool, kit_dict_int, kit_dict_str, kit_dict_tuple, kit_dict_bool, atSq, atI0, atI1, endK, startR, Pat.go, Pat.gos, fI, fI0, fIB, wChain, oB_some, wipeR]
    exact hx S3 i _ (List.mem_range.mp hi) (hK S3 (.refl _))
  · simp [bodyG, sSeq, sAsg, sDrop, sRet, sIf, sNext, wOp, wUn, wVar, wC, aNil, aCons, wFn, wTup, wLst, wIf, tVal, tAnd, tOr, tNot, wAnd, wOr, wNot, wCall, fA1, fIx, fIsiA, fIsi, typeD, kit_int_int, kit_int_str, kit_int_tuple, kit_int_bool, kit_str_int, kit_str_str, kit_str_tuple, kit_str_bool, kit_tuple_int, kit_tuple_str, kit_tuple_tuple, kit_tuple_bool, kit_bool_int, kit_bool_str, kit_bool_tuple, kit_bool_bool, kit_list_int, kit_list_str, kit_list_tuple, kit_list_bool, kit_dict_int, kit_dict_str, kit_dict_tuple, kit_dict_bool, atSq, atI0, atI1, endK, startR, Pat.go, Pat.gos, fI, fI0, fIB, wChain, oB_some, wipeR]; exact hK S3 (.refl _)
  · have hp := p1.trans p3
    have snI : ∀ l : List Nat, Sns (S3 ++ [.lst []]) (l.map fun i => D.int ((i : Nat) : Int)) (l.map fun i => PyData.int ((i : Nat) : Int)) := fun l => by
      induction l with
      | nil => exact .nil
      | cons a l ih => exact .cons (.int _) ih
    have lay : ∀ l : List Nat, SeqAt.shaped (.list (l.map fun i => PyData.int ((i : Nat) : Int))) = true := fun l => by
      unfold SeqAt.shaped
      rw [Bool.and_eq_true, decide_eq_true_eq]
      refine ⟨by rw [PyData.canLay0]; exact layAll fun p hp => by obtain ⟨a, _, rfl⟩ := List.mem_map.mp hp; simp [PyData.canLay0], ?_⟩
      rw [PyData.depth]
      have := depAll (l := l.map fun i => PyData.int ((i : Nat) : Int)) (n := 0) fun p hp => by obtain ⟨a, _, rfl⟩ := List.mem_map.mp hp; simp [PyData.depth]
      omega
    have h' : (S3 ++ [.lst []])[S1.length]? = some (.lst (((List.range t.length).filter bx).map fun i => D.int ((i : Nat) : Int))) := (Pf.app S3 _) _ _ h
    show oB (some _) _
    rw [oB_some]
    simp [bodyG, sSeq, sAsg, sDrop, sRet, sIf, sNext, wOp, wUn, wVar, wC, aNil, aCons, wFn, wTup, wLst, wIf, tVal, tAnd, tOr, tNot, wAnd, wOr, wNot, wCall, fA1, fIx, fIsiA, fIsi, typeD, kit_int_int, kit_int_str, kit_int_tuple, kit_int_bool, kit_str_int, kit_str_str, kit_str_tuple, kit_str_bool, kit_tuple_int, kit_tuple_str, kit_tuple_tuple, kit_tuple_bool, kit_bool_int, kit_bool_str, kit_bool_tuple, kit_bool_bool, kit_list_int, kit_list_str, kit_list_tuple, kit_list_bool, kit_dict_int, kit_dict_str, kit_dict_tuple, kit_dict_bool, atSq, atI0, atI1, endK, startR, Pat.go, Pat.gos, fI, fI0, fIB, wChain, oB_some]
    refine ⟨_, _, .lst h' (snI _), .lst (xs := []) (by simp) .nil, lay _, shaped_nil, ?_⟩
    cases hl : (List.range t.length).filter bx with
    | nil =>
      have e9 : PyData.eqv (.list (([] : List Nat).map fun i => PyData.int ((i : Nat) : Int))) (.list []) = true := eqv_nil
      rw [e9, if_pos rfl]
      exact h0 _ hl (hp.trans (Pf.app _ _))
    | cons a l =>
      have e9 : PyData.eqv (.list ((a :: l).map fun i => PyData.int ((i : Nat) : Int))) (.list []) = false := by simp [PyData.eqv, PyData.eqvAll]
      rw [e9]
      rw [hl] at h'
      simp [h', atI0]
      exact h1 a l _ hl (hp.trans (Pf.app _ _))
end
end Zz
set_option Elab.async false
set_option linter.all false
set_option maxRecDepth 100000
namespace Zz
open PySem PySem.Spec PyProof.Rows L2
open PySem.W (dataLe dataLt alike AllAlike)
def plainB (t : List Node) : Bool := (List.range (t.length - 1)).all fun i => !decide (own t (1 + i) = [])
theorem eqv_nilT (ks : List Key) : PyData.eqv (.tuple (ks.map kP)) (.tuple []) = decide (ks = []) := by
  cases ks <;> simp [PyData.eqv, PyData.eqvAll]
theorem eqv_nilL (ks : List Key) : PyData.eqv (.list (ks.map kP)) (.list []) = decide (ks = []) := by
  cases ks <;> simp [PyData.eqv, PyData.eqvAll]
theorem keys_dep (ks : List Key) : PyData.depthAll (ks.map kP) ≤ 8 := depAll fun p hp => by obtain ⟨x, _, rfl⟩ := List.mem_map.mp hp; exact kP_dep x
theorem keysT_shaped {ks : List Key} (h : ∀ s, Sum.inr s ∈ ks → PyData.strOk s = true) : SeqAt.shaped (.tuple (ks.map kP)) = true := by
  unfold SeqAt.shaped
  rw [Bool.and_eq_true, decide_eq_true_eq]
  refine ⟨by rw [PyData.canLay0]; exact keys_lay h, ?_⟩
  rw [PyData.depth]
  have := keys_dep ks
  omega
theorem keysL_shaped {ks : List Key} (h : ∀ s, Sum.inr s ∈ ks → PyData.strOk s = true) : SeqAt.shaped (.list (ks.map kP)) = true := by
  unfold SeqAt.shaped
  rw [Bool.and_eq_true, decide_eq_true_eq]
  refine ⟨by rw [PyData.canLay0]; exact keys_lay h, ?_⟩
  rw [PyData.depth]
  have := keys_dep ks
  omega
theorem shaped_nilT : SeqAt.shaped (.tuple []) = true := by simp [SeqAt.shaped, PyData.canLay0, PyData.canLayAll0, PyData.depth, PyData.depthAll]
theorem bools_map {α : Type} (f : α → Bool) : ∀ l : List α, boolsD (l.map fun i => .bl (f i)) = some (l.map f)
  | [] => rfl
  | a :: l => by rw [List.map_cons, boolsD, bools_map f l]; rfl
theorem toNat_pred (n : Nat) (h : 0 < n) : ((n : Int) - 1).toNat = n - 1 := by omega
theorem rng_map (lo : Int) (n : Nat) : rngD lo n = (List.range n).map fun (i : Nat) => D.int (lo + i) := rfl
section
variable {tb : List MO} {k : Nat} {S : Sto} {t : List Node}
theorem own_names (ht : TreeOk t) {n : Nat} (h : n < t.length) : ∀ x ∈ own t n, ∃ s, x = Sum.inr s ∧ s ∈ namesL := fun x hx => ht.names h x (own_sub x hx)
theorem plain_ok (ht : TreeOk t) : Ok (Gm tb (k + 6) 11) [.tup (t.map Node.d)] S (fun d S' => d = .bl (plainB t) ∧ Pf S S') := by
  intro q e hq
  have h3 : (301 : Nat) < sizeLine := by decide
  have hfew := ht.few
  have hpos := ht.root.1
  show bodyG 2 1 (b_is_plain (Gm tb (k + 5))) _ _ _ _
  simp [b_is_plain, bodyG, sSeq, sAsg, sDrop, sRet, sIf, sNext, wOp, wUn, wVar, wC, aNil, aCons, wFn, wTup, wLst, wIf, tVal, tAnd, tOr, tNot, wAnd, wOr, wNot, wCall, fA1, fIx, fIsiA, fIsi, typeD, kit_int_int, kit_int_str, kit_int_tuple, kit_int_bool, kit_str_int, kit_str_str, kit_str_tuple, kit_str_bool, kit_tuple_int, kit_tuple_str, kit_tuple_tuple, kit_tuple_bool, kit_bool_int, kit_bool_str, kit_bool_tuple, kit_bool_bool, kit_list_int, kit_list_str, kit_list_tuple, kit_list_bool, kit_dict_int, kit_dict_str, kit_dict_tuple, kit_dict_bool, atSq, atI0, atI1, endK, startR, Pat.go, Pat.gos, fI, fI0, fIB, wChain, oB_some, wComp, iRange2, fLen]
  refine ⟨by omega, ?_⟩
  rw [rng_map]
  refine comp_map S (fun i : Nat => D.int (1 + (i : Int))) (fun _ => true) (fun i => .bl (!decide (own t (1 + i) = []))) (List.range (t.length - 1)) (by rw [List.length_range]; omega) (fun _ _ => True.intro) (fun i hi => ⟨_, rfl, fun S3 K _ hK => hK S3 (.refl _), fun _ S3 K _ hK => ?_⟩) fun S3 p3 h => ?_
  · have hi := List.mem_range.mp hi
    have hi2 : 1 + i < t.length := by omega
    simp [bodyG, sSeq, sAsg, sDrop, sRet, sIf, sNext, wOp, wUn, wVar, wC, aNil, aCons, wFn, wTup, wLst, wIf, tVal, tAnd, tOr, tNot, wAnd, wOr, wNot, wCall, fA1, fIx, fIsiA, fIsi, typeD, kit_int_int, kit_int_str, kit_int_tuple, kit_int_bool, kit_str_int, kit_str_str, kit_str_tuple, kit_str_bool, kit_tuple_int, kit_tuple_str, kit_tuple_tuple, kit_tuple_bool, kit_bool_int, kit_bool_str, kit_bool_tuple, kit_bool_bool, kit_list_int, kit_list_str, kit_list_tuple, kit_list_bool, kit_dict_int, kit_dict_str, kit_dict_tuple, kit_dict_bool, atSq, atI0, atI1, endK, startR, Pat.go, Pat.gos, fI, fI0, fIB, wChain, oB_some, wipeR, fEq]
    refine ownv_ok (n := 1 + i) ht hi2 _ _ fun d S4 ⟨e1, p4⟩ => ?_
    subst e1
    refine ⟨_, .tup (sns_keys _ _), _, .tup .nil, keysT_shaped (names_str (own_names ht hi2)), shaped_nilT, ?_⟩
    rw [eqv_nilT]
    exact hK S4 p4
  · rw [filter_yes] at h
    simp only [fAllA, fAll, atSq, h]
    rw [bools_map, oB_some]
    refine hq _ _ ⟨?_, p3⟩
    unfold plainB
    rw [List.all_map]; rfl
theorem checkp_ok (ht : TreeOk t) (q : QD) (e : QX) (h1 : plainB t = true → ∀ S', Pf S S' → q .non S') (h0 : plainB t = false → ∀ S', Pf S S' → e ⟨"Nothing", []⟩ S') : Gm tb (k + 7) 12 [.tup (t.map Node.d)] S q e := by
  show bodyG 1 1 (b_check_plain (Gm tb (k + 6))) _ _ _ _
  simp [b_check_plain, bodyG, sSeq, sAsg, sDrop, sRet, sIf, sNext, wOp, wUn, wVar, wC, aNil, aCons, wFn, wTup, wLst, wIf, tVal, tAnd, tOr, tNot, wAnd, wOr, wNot, wCall, fA1, fIx, fIsiA, fIsi, typeD, kit_int_int, kit_int_str, kit_int_tuple, kit_int_bool, kit_str_int, kit_str_str, kit_str_tuple, kit_str_bool, kit_tuple_int, kit_tuple_str, kit_tuple_tuple, kit_tuple_bool, kit_bool_int, kit_bool_str, kit_bool_tuple, kit_bool_bool, kit_list_int, kit_list_str, kit_list_tuple, kit_list_bool, kit_dict_int, kit_dict_str, kit_dict_tuple, kit_dict_bool, atSq, atI0, atI1, endK, startR, Pat.go, Pat.gos, fI, fI0, fIB, wChain, oB_some]
  refine plain_ok ht _ _ fun d S1 ⟨e1, p1⟩ => ?_
  subst e1
  cases hp : plainB t with
  | true => simp; exact h1 hp _ p1
  | false => simp [sRaise]; exact h0 hp _ p1
theorem lplain_ok (ht : TreeOk t) : Ok (Gm tb (k + 3) 28) [.tup (t.map Node.d)] S (fun d S' => d = .bl (plainB t) ∧ Pf S S') := by
  intro q e hq
  have h3 : (301 : Nat) < sizeLine := by decide
  have hfew := ht.few
  have hpos := ht.root.1
  show bodyG 2 1 (b_law_is_plain (Gm tb (k + 2))) _ _ _ _
  simp [b_law_is_plain, bodyG, sSeq, sAsg, sDrop, sRet, sIf, sNext, wOp, wUn, wVar, wC, aNil, aCons, wFn, wTup, wLst, wIf, tVal, tAnd, tOr, tNot, wAnd, wOr, wNot, wCall, fA1, fIx, fIsiA, fIsi, typeD, kit_int_int, kit_int_str, kit_int_tuple, kit_int_bool, kit_str_int, kit_str_str, kit_str_tuple, kit_str_bool, kit_tuple_int, kit_tuple_str, kit_tuple_tuple, kit_tuple_bool, kit_bool_int, kit_bool_str, kit_bool_tuple, kit_bool_bool, kit_list_int, kit_list_str, kit_list_tuple, kit_list_bool, kit_dict_int, kit_dict_str, kit_dict_tuple, kit_dict_bool, atSq, atI0, atI1, endK, startR, Pat.go, Pat.gos, fI, fI0, fIB, wChain, oB_some, wComp, iRange2, fLen]
  refine ⟨by omega, ?_⟩
  rw [rng_map]
  refine comp_map S (fun i : Nat => D.int (1 + (i : Int))) (fun i => decide (own t (1 + i) = [])) (fun i => kD (.inl (1 + (i : Int)))) (List.range (t.length - 1)) (by rw [List.length_range]; omega) (fun _ _ => True.intro) (fun i hi => ⟨_, rfl, fun S3 K _ hK => ?_, fun _ S3 K _ hK => ?_⟩) fun S3 p3 h => ?_
  · have hi := List.mem_range.mp hi
    have hi2 : 1 + i < t.length := by omega
    simp [bodyG, sSeq, sAsg, sDrop, sRet, sIf, sNext, wOp, wUn, wVar, wC, aNil, aCons, wFn, wTup, wLst, wIf, tVal, tAnd, tOr, tNot, wAnd, wOr, wNot, wCall, fA1, fIx, fIsiA, fIsi, typeD, kit_int_int, kit_int_str, kit_int_tuple, kit_int_bool, kit_str_int, kit_str_str, kit_str_tuple, kit_str_bool, kit_tuple_int, kit_tuple_str, kit_tuple_tuple, kit_tuple_bool, kit_bool_int, kit_bool_str, kit_bool_tuple, kit_bool_bool, kit_list_int, kit_list_str, kit_list_tuple, kit_list_bool, kit_dict_int, kit_dict_str, kit_dict_tuple, kit_dict_bool, atSq, atI0, atI1, endK, startR, Pat.go, Pat.gos, fI, fI0, fIB, wChain, oB_some, wipeR, fEq]
    refine lown_ok (k := k) (n := 1 + i) ht hi2 _ _ fun d S4 ⟨m, e1, h4, p4⟩ => ?_
    subst e1
    refine ⟨_, .lst (Pf.app S4 [.lst []] _ _ h4) (sns_keys _ _), _, .lst (xs := []) (by simp) .nil, keysL_shaped (names_str (own_names ht hi2)), shaped_nil, ?_⟩
    rw [eqv_nilL]
    exact hK _ (p4.trans (Pf.app _ _))
  · simp [bodyG, sSeq, sAsg, sDrop, sRet, sIf, sNext, wOp, wUn, wVar, wC, aNil, aCons, wFn, wTup, wLst, wIf, tVal, tAnd, tOr, tNot, wAnd, wOr, wNot, wCall, fA1, fIx, fIsiA, fIsi, typeD, kit_int_int, kit_int_str, kit_int_tuple, kit_int_bool, kit_str_int, kit_str_str, kit_str_tuple, kit_str_bool, kit_tuple_int, kit_tuple_str, kit_tuple_tuple, kit_tuple_bool, kit_bool_int, kit_bool_str, kit_bool_tuple, kit_bool_bool, kit_list_int, kit_list_str, kit_list_tuple, kit_list_bool, kit_dict_int, kit_dict_str, kit_dict_tuple, kit_dict_bool, atSq, atI0, atI1, endK, startR, Pat.go, Pat.gos, fI, fI0, fIB, wChain, oB_some, wipeR]; exact hK S3 (.refl _)
  · simp [fEq]
    have e5 : ((List.range (t.length - 1)).filter fun i => decide (own t (1 + i) = [])).map (fun (i : Nat) => kD (.inl (1 + (i : Int)))) = (((List.range (t.length - 1)).filter fun i => decide (own t (1 + i) = [])).map fun (i : Nat) => (Sum.inl (1 + (i : Int)) : Key)).map kD := by rw [List.map_map]; rfl
    rw [e5] at h
    refine ⟨_, .lst (Pf.app S3 [.lst []] _ _ h) (sns_keys _ _), _, .lst (xs := []) (by simp) .nil, keysL_shaped (fun s hs => by simp at hs), shaped_nil, ?_⟩
    rw [eqv_nilL]
    refine hq _ _ ⟨?_, p3.trans (Pf.app _ _)⟩
    congr 1
    unfold plainB
    rw [Bool.eq_iff_iff, decide_eq_true_eq, List.map_eq_nil_iff, List.filter_eq_nil_iff, List.all_eq_true]
    simp
end
end Zz
set_option Elab.async false
set_option linter.all false
set_option maxRecDepth 100000
namespace Zz
open PySem PySem.Spec PyProof.Rows L2
open PySem.W (dataLe dataLt alike AllAlike)
/-- the way to a node -/
def wy (t : List Node) : Nat → Nat → List Nat
  | 0, k => [k]
  | f + 1, k => if k = 0 then [0] else wy t f (up t k) ++ [k]
def way (t : List Node) (k : Nat) : List Nat := wy t k k
section
variable {tb : List MO} {k : Nat} {S : Sto} {t : List Node}
theorem wy_same (ht : TreeOk t) : ∀ (n k f : Nat), k ≤ n → k ≤ f → k < t.length → wy t f k = wy t k k
  | _, 0, 0, _, _, _ => rfl
  | _, 0, f + 1, _, _, _ => by simp [wy]
  | 0, k + 1, _, h, _, _ => by omega
  | n + 1, k + 1, 0, _, h, _ => by omega
  | n + 1, k + 1, f + 1, h1, h2, h3 => by
    obtain ⟨u1, _⟩ := ht.up_lt h3 (by omega)
    rw [wy, wy, if_neg (by omega), if_neg (by omega), wy_same ht n (up t (k + 1)) f (by omega) (by omega) (by omega), wy_same ht n (up t (k + 1)) k (by omega) (by omega) (by omega)]
theorem way_zero : way t 0 = [0] := rfl
theorem way_succ (ht : TreeOk t) {n : Nat} (h : n < t.length) (h0 : 0 < n) : way t n = way t (up t n) ++ [n] := by
  obtain ⟨u1, _⟩ := ht.up_lt h h0
  cases n with
  | zero => omega
  | succ n =>
    unfold way
    rw [wy, if_neg (by omega), wy_same ht (n + 1) (up t (n + 1)) n (by omega) (by omega) (by omega)]
theorem way_len (ht : TreeOk t) : ∀ (n k : Nat), k ≤ n → k < t.length → 0 < (way t k).length ∧ (way t k).length ≤ k + 1
  | _, 0, _, _ => by rw [way_zero]; simp
  | 0, k + 1, h, _ => by omega
  | n + 1, k + 1, h, hk => by
    obtain ⟨u1, _⟩ := ht.up_lt hk (by omega)
    have := way_len ht n (up t (k + 1)) (by omega) (by omega)
    rw [way_succ ht hk (by omega), List.length_append, List.length_singleton]
    omega
theorem way_lt (ht : TreeOk t) : ∀ (n k : Nat), k ≤ n → k < t.length → ∀ x ∈ way t k, x < t.length
  | _, 0, _, h, x, hx => by
    rw [way_zero] at hx
    have := List.mem_singleton.mp hx
    omega
  | 0, k + 1, h, _, _, _ => by omega
  | n + 1, k + 1, h, hk, x, hx => by
    obtain ⟨u1, _⟩ := ht.up_lt hk (by omega)
    rw [way_succ ht hk (by omega)] at hx
    rcases List.mem_append.mp hx with hx | hx
    · exact way_lt ht n (up t (k + 1)) (by omega) (by omega) x hx
    · have := List.mem_singleton.mp hx
      omega
def nI (l : List Nat) : List D := (iks l).map kD
theorem nI_app (a b : List Nat) : nI (a ++ b) = nI a ++ nI b := by simp [nI, iks]
theorem nI_cons (a : Nat) (b : List Nat) : nI (a :: b) = D.int (a : Int) :: nI b := by simp [nI, iks, kD]
theorem nI_rev (a : List Nat) : (nI a).reverse = nI a.reverse := by simp [nI, iks, List.map_reverse]
theorem nI_len (a : List Nat) : (nI a).length = a.length := by simp [nI, iks]
theorem wayto_ok {n : Nat} (ht : TreeOk t) (h : n < t.length) : Ok (Gm tb (k + 4) 13) [.tup (t.map Node.d), .int n] S (fun d S' => d = .tup (nI (way t n)) ∧ Pf S S') := by
  intro q e hq
  have h3 : (301 : Nat) < sizeLine := by decide
  have hfew := ht.few
  show bodyG 3 2 (b_way_to (Gm tb (k + 3))) _ _ _ _
  simp [b_way_to, bodyG, sSeq, sAsg, sDrop, sRet, sIf, sNext, wOp, wUn, wVar, wC, aNil, aCons, wFn, wTup, wLst, wIf, tVal, tAnd, tOr, tNot, wAnd, wOr, wNot, wCall, fA1, fIx, fIsiA, fIsi, typeD, kit_int_int, kit_int_str, kit_int_tuple, kit_int_bool, kit_str_int, kit_str_str, kit_str_tuple, kit_str_bool, kit_tuple_int, kit_tuple_str, kit_tuple_tuple, kit_tuple_bool, kit_bool_int, kit_bool_str, kit_bool_tuple, kit_bool_bool, kit_list_int, kit_list_str, kit_list_tuple, kit_list_bool, kit_dict_int, kit_dict_str, kit_dict_tuple, kit_dict_bool, atSq, atI0, atI1, endK, startR, Pat.go, Pat.gos, fI, fI0, fIB, wChain, oB_some]
  refine check_ok h _ _ fun d S' ⟨h1, h2⟩ => ?_
  subst h1 h2
  have hwl := way_len ht n n (Nat.le_refl _) h
  refine ⟨_, whN_do (fun m ρ S1 => ∃ acc, Pf S' S1 ∧ S1[S'.length]? = some (.lst (nI acc)) ∧ acc.length + m = (way t n).length ∧ ((m = 0 ∧ acc = (way t n).reverse ∧ ρ = [some (.tup (t.map Node.d)), some (.int (-1)), some (.ref S'.length)]) ∨
    ∃ c : Nat, c < t.length ∧ m = (way t c).length ∧ acc ++ (way t c).reverse = (way t n).reverse ∧ ρ = [some (.tup (t.map Node.d)), some (.int (c : Int)), some (.ref S'.length)])) ?_ (way t n).length _ _ ⟨[], Pf.app _ _, by simp [nI, iks], by simp, .inr ⟨n, h, rfl, by simp, rfl⟩⟩⟩
  rintro m ρ S1 ⟨acc, pf, hs, hl, hc⟩ K hK
  rcases hc with ⟨rfl, rfl, rfl⟩ | ⟨c, hc, rfl, he, rfl⟩
  · simp [bodyG, sSeq, sAsg, sDrop, sRet, sIf, sNext, wOp, wUn, wVar, wC, aNil, aCons, wFn, wTup, wLst, wIf, tVal, tAnd, tOr, tNot, wAnd, wOr, wNot, wCall, fA1, fIx, fIsiA, fIsi, typeD, kit_int_int, kit_int_str, kit_int_tuple, kit_int_bool, kit_str_int, kit_str_str, kit_str_tuple, kit_str_bool, kit_tuple_int, kit_tuple_str, kit_tuple_tuple, kit_tuple_bool, kit_bool_int, kit_bool_str, kit_bool_tuple, kit_bool_bool, kit_list_int, kit_list_str, kit_list_tuple, kit_list_bool, kit_dict_int, kit_dict_str, kit_dict_tuple, kit_dict_bool, atSq, atI0, atI1, endK, startR, Pat.go, Pat.gos, fI, fI0, fIB, wChain, oB_some, hs, fRev]
    simp [fTuple, atSq]
    refine hq _ _ ⟨?_, pf.trans (Pf.app _ _)⟩
    rw [nI_rev, List.reverse_reverse]
  · have hcl := way_len ht c c (Nat.le_refl _) hc
    simp [bodyG, sSeq, sAsg, sDrop, sRet, sIf, sNext, wOp, wUn, wVar, wC, aNil, aCons, wFn, wTup, wLst, wIf, tVal, tAnd, tOr, tNot, wAnd, wOr, wNot, wCall, fA1, fIx, fIsiA, fIsi, typeD, kit_int_int, kit_int_str, kit_int_tuple, kit_int_bool, kit_str_int, kit_str_str, kit_str_tuple, kit_str_bool, kit_tuple_int, kit_tuple_str, kit_tuple_tuple, kit_tuple_bool, kit_bool_int, kit_bool_str, kit_bool_tuple, kit_bool_bool, kit_list_int, kit_list_str, kit_list_tuple, kit_list_bool, kit_dict_int, kit_dict_str, kit_dict_tuple, kit_dict_bool, atSq, atI0, atI1, endK, startR, Pat.go, Pat.gos, fI, fI0, fIB, wChain, oB_some, wMt]
    refine ⟨⟨_, _, rfl, hs⟩, ?_⟩
    simp only [fApp]
    refine atN_of hs ⟨by rw [nI_len]; omega, ?_⟩
    simp [fIx, ix_node hc, Node.d, atI0]
    by_cases hz : c = 0
    · subst hz
      rw [ht.root.2]
      rw [way_zero] at he hl hK
      refine hK 0 _ _ rfl ⟨acc ++ [0], pf.set (Nat.le_refl _) _, ?_, by simpa using hl, .inl ⟨rfl, ?_, rfl⟩⟩
      · rw [List.getElem?_set_self (List.getElem?_eq_some_iff.mp hs).1, nI_app]; rfl
      · rw [← he]; rfl
    · obtain ⟨u1, u2⟩ := ht.up_lt hc (by omega)
      have hw := way_succ ht hc (by omega)
      rw [hw, List.length_append, List.length_singleton] at hl hK
      rw [← u2]
      refine hK _ _ _ rfl ⟨acc ++ [c], pf.set (Nat.le_refl _) _, ?_, by rw [List.length_append, List.length_singleton]; omega, .inr ⟨up t c, by omega, rfl, ?_, rfl⟩⟩
      · rw [List.getElem?_set_self (List.getElem?_eq_some_iff.mp hs).1, nI_app]; rfl
      · rw [← he, hw]; simp
theorem lway_ok {n : Nat} (ht : TreeOk t) (h : n < t.length) : Ok (Gm tb (k + 1) 29) [.tup (t.map Node.d), .int n] S (fun d S' => d = .tup (nI (way t n)) ∧ Pf S S') := by
  intro q e hq
  have h3 : (301 : Nat) < sizeLine := by decide
  have hfew := ht.few
  show bodyG 3 2 (b_law_way (Gm tb k)) _ _ _ _
  simp [b_law_way, bodyG, sSeq, sAsg, sDrop, sRet, sIf, sNext, wOp, wUn, wVar, wC, aNil, aCons, wFn, wTup, wLst, wIf, tVal, tAnd, tOr, tNot, wAnd, wOr, wNot, wCall, fA1, fIx, fIsiA, fIsi, typeD, kit_int_int, kit_int_str, kit_int_tuple, kit_int_bool, kit_str_int, kit_str_str, kit_str_tuple, kit_str_bool, kit_tuple_int, kit_tuple_str, kit_tuple_tuple, kit_tuple_bool, kit_bool_int, kit_bool_str, kit_bool_tuple, kit_bool_bool, kit_list_int, kit_list_str, kit_list_tuple, kit_list_bool, kit_dict_int, kit_dict_str, kit_dict_tuple, kit_dict_bool, atSq, atI0, atI1, endK, startR, Pat.go, Pat.gos, fI, fI0, fIB, wChain, oB_some]
  have hwl := way_len ht n n (Nat.le_refl _) h
  refine ⟨by decide, _, whN_do (fun m ρ S1 => ∃ (c : Nat) (w : List Nat), Pf S S1 ∧ S1[S.length]? = some (.lst (nI (c :: w))) ∧ c < t.length ∧ m + 1 = (way t c).length ∧ way t c ++ w = way t n ∧ ρ = [some (.tup (t.map Node.d)), some (.int (n : Int)), some (.ref S.length)]) ?_ ((way t n).length - 1) _ _ ⟨n, [], Pf.app _ _, by simp [nI, iks, kD], h, by omega, by simp, rfl⟩⟩
  rintro m ρ S1 ⟨c, w, pf, hs, hc, hm, he, rfl⟩ K hK
  rw [nI_cons] at hs
  simp [bodyG, sSeq, sAsg, sDrop, sRet, sIf, sNext, wOp, wUn, wVar, wC, aNil, aCons, wFn, wTup, wLst, wIf, tVal, tAnd, tOr, tNot, wAnd, wOr, wNot, wCall, fA1, fIx, fIsiA, fIsi, typeD, kit_int_int, kit_int_str, kit_int_tuple, kit_int_bool, kit_str_int, kit_str_str, kit_str_tuple, kit_str_bool, kit_tuple_int, kit_tuple_str, kit_tuple_tuple, kit_tuple_bool, kit_bool_int, kit_bool_str, kit_bool_tuple, kit_bool_bool, kit_list_int, kit_list_str, kit_list_tuple, kit_list_bool, kit_dict_int, kit_dict_str, kit_dict_tuple, kit_dict_bool, atSq, atI0, atI1, endK, startR, Pat.go, Pat.gos, fI, fI0, fIB, wChain, oB_some, hs, fEq]
  refine ⟨_, .int _, _, .int _, shaped_int _, shaped_int _, ?_⟩
  have e0 : PyData.eqv (.int (c : Int)) (.int 0) = decide (c = 0) := by
    rw [Bool.eq_iff_iff, decide_eq_true_eq]
    simp [PyData.eqv]
  rw [e0]
  by_cases hz : c = 0
  · subst hz
    simp [fTuple, atSq, hs]
    refine hq _ _ ⟨?_, pf⟩
    rw [way_zero] at he
    rw [← he]
    simp [nI, iks, kD]
  · obtain ⟨u1, u2⟩ := ht.up_lt hc (by omega)
    have hw := way_succ ht hc (by omega)
    have hcl := way_len ht (up t c) (up t c) (Nat.le_refl _) (by omega)
    rw [hw, List.length_append, List.length_singleton] at hm
    have hwl2 : (way t n).length = (way t c).length + w.length := by rw [← he, List.length_append]
    simp [hz, wMt, bodyG, sSeq, sAsg, sDrop, sRet, sIf, sNext, wOp, wUn, wVar, wC, aNil, aCons, wFn, wTup, wLst, wIf, tVal, tAnd, tOr, tNot, wAnd, wOr, wNot, wCall, fA1, fIx, fIsiA, fIsi, typeD, kit_int_int, kit_int_str, kit_int_tuple, kit_int_bool, kit_str_int, kit_str_str, kit_str_tuple, kit_str_bool, kit_tuple_int, kit_tuple_str, kit_tuple_tuple, kit_tuple_bool, kit_bool_int, kit_bool_str, kit_bool_tuple, kit_bool_bool, kit_list_int, kit_list_str, kit_list_tuple, kit_list_bool, kit_dict_int, kit_dict_str, kit_dict_tuple, kit_dict_bool, atSq, atI0, atI1, endK, startR, Pat.go, Pat.gos, fI, fI0, fIB, wChain, oB_some, hs, fIx, ix_node hc, Node.d, atI0]
    refine ⟨⟨_, _, rfl, hs⟩, ?_⟩
    simp only [fIns]
    refine atN_of hs ⟨?_, by decide, by decide, ?_⟩
    · rw [List.length_cons, nI_len]
      have := way_len ht n n (Nat.le_refl _) h
      omega
    · cases m with
      | zero => omega
      | succ m =>
        refine hK m _ _ rfl ⟨up t c, c :: w, pf.set (Nat.le_refl _) _, ?_, by omega, by omega, ?_, rfl⟩
        · rw [List.getElem?_set_self (List.getElem?_eq_some_iff.mp hs).1, nI_cons, nI_cons, u2]; rfl
        · rw [← he, hw]; simp
/-- the nodes right below -/
def innerN (t : List Node) (n : Nat) : List Nat := (List.range t.length).filter fun i => decide ((nd t i).1 = (n : Int))
theorem innerN_ok {n : Nat} (ht : TreeOk t) (h : n < t.length) : Ok (Gm tb (k + 4) 14) [.tup (t.map Node.d), .int n] S (fun d S' => d = .tup (nI (innerN t n)) ∧ Pf S S') := by
  intro q e hq
  have h3 : (301 : Nat) < sizeLine := by decide
  have hfew := ht.few
  show bodyG 5 2 (b_inner_nodes (Gm tb (k + 3))) _ _ _ _
  simp [b_inner_nodes, bodyG, sSeq, sAsg, sDrop, sRet, sIf, sNext, wOp, wUn, wVar, wC, aNil, aCons, wFn, wTup, wLst, wIf, tVal, tAnd, tOr, tNot, wAnd, wOr, wNot, wCall, fA1, fIx, fIsiA, fIsi, typeD, kit_int_int, kit_int_str, kit_int_tuple, kit_int_bool, kit_str_int, kit_str_str, kit_str_tuple, kit_str_bool, kit_tuple_int, kit_tuple_str, kit_tuple_tuple, kit_tuple_bool, kit_bool_int, kit_bool_str, kit_bool_tuple, kit_bool_bool, kit_list_int, kit_list_str, kit_list_tuple, kit_list_bool, kit_dict_int, kit_dict_str, kit_dict_tuple, kit_dict_bool, atSq, atI0, atI1, endK, startR, Pat.go, Pat.gos, fI, fI0, fIB, wChain, oB_some]
  refine check_ok h _ _ fun d S' ⟨h1, h2⟩ => ?_
  subst h1 h2
  simp only [wComp, iEnu, wVar]
  show oB (some (D.tup (t.map Node.d))) _
  rw [oB_some]
  show oB (some (t.map Node.d)) _
  rw [oB_some, enum_nodes]
  refine comp_map S' (fun i : Nat => D.tpz [.int ((i : Nat) : Int), (nd t i).d]) (fun i => decide ((nd t i).1 = (n : Int))) (fun i => .int ((i : Nat) : Int)) (List.range t.length) (by rw [List.length_range]; omega) (fun S2 p => True.intro) (fun i hi => ⟨_, rfl, fun S3 K _ hK => ?_, fun _ S3 K _ hK => ?_⟩) fun S3 p3 h => ?_
  · simp [bodyG, sSeq, sAsg, sDrop, sRet, sIf, sNext, wOp, wUn, wVar, wC, aNil, aCons, wFn, wTup, wLst, wIf, tVal, tAnd, tOr, tNot, wAnd, wOr, wNot, wCall, fA1, fIx, fIsiA, fIsi, typeD, kit_int_int, kit_int_str, kit_int_tuple, kit_int_bool, kit_str_int, kit_str_str, kit_str_tuple, kit_str_bool, kit_tuple_int, kit_tuple_str, kit_tuple_tuple, kit_tuple_bool, kit_bool_int, kit_bool_str, kit_bool_tuple, kit_bool_bool, kit_list_int, kit_list_str, kit_list_tuple, kit_list_bool, kit_dict_int, kit_dict_str, kit_dict_tuple, kit_dict_bool, atSq, atI0, atI1, endK, startR, Pat.go, Pat.gos, fI, fI0, fIB, wChain, oB_some, wipeR, fEq]
    refine ⟨_, .int _, _, .int _, shaped_int _, shaped_int _, ?_⟩
    have e0 : PyData.eqv (.int (nd t i).1) (.int (n : Int)) = decide ((nd t i).1 = (n : Int)) := by
      rw [Bool.eq_iff_iff, decide_eq_true_eq]
      simp [PyData.eqv]
    rw [e0]
    exact hK S3 (.refl _)
  · simp [bodyG, sSeq, sAsg, sDrop, sRet, sIf, sNext, wOp, wUn, wVar, wC, aNil, aCons, wFn, wTup, wLst, wIf, tVal, tAnd, tOr, tNot, wAnd, wOr, wNot, wCall, fA1, fIx, fIsiA, fIsi, typeD, kit_int_int, kit_int_str, kit_int_tuple, kit_int_bool, kit_str_int, kit_str_str, kit_str_tuple, kit_str_bool, kit_tuple_int, kit_tuple_str, kit_tuple_tuple, kit_tuple_bool, kit_bool_int, kit_bool_str, kit_bool_tuple, kit_bool_bool, kit_list_int, kit_list_str, kit_list_tuple, kit_list_bool, kit_dict_int, kit_dict_str, kit_dict_tuple, kit_dict_bool, atSq, atI0, atI1, endK, startR, Pat.go, Pat.gos, fI, fI0, fIB, wChain, oB_some, wipeR]; exact hK S3 (.refl _)
  · simp [fTuple, atSq, h]
    refine hq _ _ ⟨?_, p3⟩
    congr 1
    simp [nI, iks, innerN, kD]
/-- the nodes below, with it -/
def under (t : List Node) (n : Nat) : List Nat := (List.range t.length).filter fun i => decide (n ∈ way t i)
theorem mem_iks {n : Nat} {l : List Nat} : (Sum.inl (n : Int) : Key) ∈ iks l ↔ n ∈ l := by
  unfold iks
  rw [List.mem_map]
  constructor
  · rintro ⟨a, h1, h2⟩
    have := Sum.inl.inj h2
    have e : a = n := by omega
    rw [← e]; exact h1
  · intro h
    exact ⟨n, h, rfl⟩
end
end Zz
set_option Elab.async false
set_option linter.all false
set_option maxRecDepth 100000
namespace Zz
open PySem PySem.Spec PyProof.Rows L2
open PySem.W (dataLe dataLt alike AllAlike)
section
variable {tb : List MO} {k : Nat} {S : Sto} {t : List Node}
theorem in_call {γ : Ga} {i : Nat} {as : WA} {ρ : Rho} {S : Sto} {K : Bool → Sto → Prop} {E : QX} {d : D} (hi : ρ[i]?.join = some d) (h : as ρ S (fun ds S1 => γ ds S1 (fun y S2 => fInA S2 d y (fun r S3 => match r with | .bl c => K c S3 | _ => False)) E) E) : tVal (wOp fInA (wVar i) (wCall γ as)) ρ S K E := by
  simp only [tVal, wOp, wCall, wVar, hi, oB_some]
  exact h
theorem args2 {i j : Nat} {ρ : Rho} {S : Sto} {Q : List D → Sto → Prop} {E : QX} {d e : D} (hi : ρ[i]?.join = some d) (hj : ρ[j]?.join = some e) (h : Q [d, e] S) : aCons (wVar i) (aCons (wVar j) aNil) ρ S Q E := by
  simp only [aCons, aNil, wVar, hi, hj, oB_some]
  exact h
theorem inA_keys {S : Sto} {x : Key} {ks : List Key} {Q : QD} (h : fInSq true S (kD x) (ks.map kD) Q) : fInA S (kD x) (.tup (ks.map kD)) Q := h
theorem rng0 (n : Nat) : rngD 0 n = (List.range n).map fun (i : Nat) => D.int (i : Int) := by
  unfold rngD
  apply List.map_congr_left
  intro i _
  rw [Int.zero_add]
theorem below_ok {n : Nat} (ht : TreeOk t) (h : n < t.length) : Ok (Gm tb (k + 5) 15) [.tup (t.map Node.d), .int n] S (fun d S' => d = .tup (nI (under t n)) ∧ Pf S S') := by
  intro q e hq
  have h3 : (301 : Nat) < sizeLine := by decide
  have hfew := ht.few
  have c7 : Ok (Gm tb (k + 4) 7) [.tup (t.map Node.d), .int n] S (fun d S' => d = .non ∧ S' = S) := check_ok (k := k + 1) h
  have c13 : ∀ (i : Nat) (S : Sto), i < t.length → Ok (Gm tb (k + 4) 13) [.tup (t.map Node.d), .int i] S (fun d S' => d = .tup (nI (way t i)) ∧ Pf S S') := fun i S hi => wayto_ok (k := k) ht hi
  show bodyG 3 2 (b_below (Gm tb (k + 4))) _ _ _ _
  generalize Gm tb (k + 4) = Γ at c7 c13 ⊢
  simp [b_below, bodyG, sSeq, sAsg, sDrop, sRet, sIf, sNext, wOp, wUn, wVar, wC, aNil, aCons, wFn, wTup, wLst, wIf, tVal, tAnd, tOr, tNot, wAnd, wOr, wNot, wCall, fA1, fIx, fIsiA, fIsi, typeD, kit_int_int, kit_int_str, kit_int_tuple, kit_int_bool, kit_str_int, kit_str_str, kit_str_tuple, kit_str_bool, kit_tuple_int, kit_tuple_str, kit_tuple_tuple, kit_tuple_bool, kit_bool_int, kit_bool_str, kit_bool_tuple, kit_bool_bool, kit_list_int, kit_list_str, kit_list_tuple, kit_list_bool, kit_dict_int, kit_dict_str, kit_dict_tuple, kit_dict_bool, atSq, atI0, atI1, endK, startR, Pat.go, Pat.gos, fI, fI0, fIB, wChain, oB_some]
  refine c7 _ _ fun d S' ⟨h1, h2⟩ => ?_
  subst h1 h2
  simp [wComp, iRange1, bodyG, sSeq, sAsg, sDrop, sRet, sIf, sNext, wOp, wUn, wVar, wC, aNil, aCons, wFn, wTup, wLst, wIf, tVal, tAnd, tOr, tNot, wAnd, wOr, wNot, wCall, fA1, fIx, fIsiA, fIsi, typeD, kit_int_int, kit_int_str, kit_int_tuple, kit_int_bool, kit_str_int, kit_str_str, kit_str_tuple, kit_str_bool, kit_tuple_int, kit_tuple_str, kit_tuple_tuple, kit_tuple_bool, kit_bool_int, kit_bool_str, kit_bool_tuple, kit_bool_bool, kit_list_int, kit_list_str, kit_list_tuple, kit_list_bool, kit_dict_int, kit_dict_str, kit_dict_tuple, kit_dict_bool, atSq, atI0, atI1, endK, startR, Pat.go, Pat.gos, fI, fI0, fIB, wChain, oB_some, fLen]
  refine ⟨by omega, ?_⟩
  rw [rng0]
  refine comp_map S' (fun i : Nat => D.int (i : Int)) (fun i => decide (n ∈ way t i)) (fun (i : Nat) => .int (i : Int)) (List.range t.length) (by rw [List.length_range]; omega) (fun S2 p => True.intro) (fun i hi => ⟨_, rfl, fun S3 K _ hK => ?_, fun _ S3 K _ hK => ?_⟩) fun S3 p3 h => ?_
  · have hi := List.mem_range.mp hi
    refine in_call (d := .int n) rfl (args2 (d := .tup (t.map Node.d)) (e := .int i) rfl rfl ?_)
    refine c13 i S3 hi _ _ fun d S4 ⟨e1, p4⟩ => ?_
    subst e1
    show fInA S4 (kD (.inl (n : Int))) (.tup ((iks (way t i)).map kD)) _
    refine inA_keys (in_keys (b := true) (fun s' e => by cases e) (ints_str _) ?_)
    have e0 : bz true (decide ((Sum.inl (n : Int) : Key) ∈ iks (way t i))) = decide (n ∈ way t i) := by
      rw [Bool.eq_iff_iff]
      simp [bz, mem_iks]
    rw [e0]
    exact hK S4 p4
  · simp [bodyG, sSeq, sAsg, sDrop, sRet, sIf, sNext, wOp, wUn, wVar, wC, aNil, aCons, wFn, wTup, wLst, wIf, tVal, tAnd, tOr, tNot, wAnd, wOr, wNot, wCall, fA1, fIx, fIsiA, fIsi, typeD, kit_int_int, kit_int_str, kit_int_tuple, kit_int_bool, kit_str_int, kit_str_str, kit_str_tuple, kit_str_bool, kit_tuple_int, kit_tuple_str, kit_tuple_tuple, kit_tuple_bool, kit_bool_int, kit_bool_str, kit_bool_tuple, kit_bool_bool, kit_list_int, kit_list_str, kit_list_tuple, kit_list_bool, kit_dict_int, kit_dict_str, kit_dict_tuple, kit_dict_bool, atSq, atI0, atI1, endK, startR, Pat.go, Pat.gos, fI, fI0, fIB, wChain, oB_some, wipeR]; exact hK S3 (.refl _)
  · simp [fTuple, atSq, h]
    refine hq _ _ ⟨?_, p3⟩
    congr 1
    simp [nI, iks, under, kD]
end
end Zz
set_option Elab.async false
set_option linter.all false
set_option maxRecDepth 100000
namespace Zz
open PySem PySem.Spec PyProof.Rows L2
open PySem.W (dataLe dataLt alike AllAlike alikeAll)
mutual
/-- plain things as data -/
def toP : D → PyData
  | .int i => .int i
  | .str x => .str x
  | .bl b => .bool b
  | .tup xs => .tuple (toPs xs)
  | _ => .none
def toPs : List D → List PyData
  | [] => []
  | d :: ds => toP d :: toPs ds
end
mutual
theorem toP_dP : ∀ p : PyData, flatP p = true → toP (dP p) = p
  | .none, _ => rfl
  | .bool _, _ => rfl
  | .int _, _ => rfl
  | .str _, _ => rfl
  | .tuple xs, h => by rw [flatP] at h; rw [dP, toP, toPs_dPs xs h]
  | .list _, h => by rw [flatP] at h; cases h
  | .dict _, h => by rw [flatP] at h; cases h
theorem toPs_dPs : ∀ ps : List PyData, flatPs ps = true → toPs (dPs ps) = ps
  | [], _ => rfl
  | p :: ps, h => by
    rw [flatPs, Bool.and_eq_true] at h
    rw [dPs, toPs, toP_dP p h.1, toPs_dPs ps h.2]
end
/-- a row made of another -/
theorem perm_back {α β : Type} {f : α → β} {g : β → α} (hg : ∀ a, g (f a) = a) {l : List α} {m : List β} (h : m.Perm (l.map f)) : ∃ l' : List α, l'.Perm l ∧ m = l'.map f := by
  refine ⟨m.map g, ?_, ?_⟩
  · have := h.map g
    rw [List.map_map] at this
    have e : l.map (g ∘ f) = l := by
      rw [show (g ∘ f) = id from funext hg, List.map_id]
    rw [e] at this
    exact this
  · rw [List.map_map]
    have e : ∀ x ∈ m, (f ∘ g) x = x := fun x hx => by
      obtain ⟨a, _, rfl⟩ := List.mem_map.mp (h.mem_iff.mp hx)
      show f (g (f a)) = f a
      rw [hg]
    conv => lhs; rw [← List.map_id m]
    exact List.map_congr_left fun x hx => (e x hx).symm
section
variable {tb : List MO} {k : Nat} {S : Sto} {t : List Node}
theorem vkey_ok (t : Tm) (h : t.isVr = false) : Ok (Gm tb (k + 1) 21) [t.d] S (fun d S' => d = dP t.k ∧ S' = S) := by
  intro q e hq
  cases t with
  | vr s => cases h
  | num i => simp [Gm, b_law_value_key, bodyG, sSeq, sAsg, sDrop, sRet, sIf, sNext, wOp, wUn, wVar, wC, aNil, aCons, wFn, wTup, wLst, wIf, tVal, tAnd, tOr, tNot, wAnd, wOr, wNot, wCall, fA1, fIx, fIsiA, fIsi, typeD, kit_int_int, kit_int_str, kit_int_tuple, kit_int_bool, kit_str_int, kit_str_str, kit_str_tuple, kit_str_bool, kit_tuple_int, kit_tuple_str, kit_tuple_tuple, kit_tuple_bool, kit_bool_int, kit_bool_str, kit_bool_tuple, kit_bool_bool, kit_list_int, kit_list_str, kit_list_tuple, kit_list_bool, kit_dict_int, kit_dict_str, kit_dict_tuple, kit_dict_bool, atSq, atI, ixN, endK, startR, Pat.go, Pat.gos, fI, fI0, fIB, wChain, oB_some, Tm.d]; exact ⟨sz3, hq _ _ ⟨rfl, rfl⟩⟩
  | nm s => simp [Gm, b_law_value_key, bodyG, sSeq, sAsg, sDrop, sRet, sIf, sNext, wOp, wUn, wVar, wC, aNil, aCons, wFn, wTup, wLst, wIf, tVal, tAnd, tOr, tNot, wAnd, wOr, wNot, wCall, fA1, fIx, fIsiA, fIsi, typeD, kit_int_int, kit_int_str, kit_int_tuple, kit_int_bool, kit_str_int, kit_str_str, kit_str_tuple, kit_str_bool, kit_tuple_int, kit_tuple_str, kit_tuple_tuple, kit_tuple_bool, kit_bool_int, kit_bool_str, kit_bool_tuple, kit_bool_bool, kit_list_int, kit_list_str, kit_list_tuple, kit_list_bool, kit_dict_int, kit_dict_str, kit_dict_tuple, kit_dict_bool, atSq, atI, ixN, endK, startR, Pat.go, Pat.gos, fI, fI0, fIB, wChain, oB_some, Tm.d]; exact ⟨sz3, hq _ _ ⟨rfl, rfl⟩⟩
theorem fkey_ok (f : Fact) (hf : f.ok) : Ok (Gm tb (k + 2) 22) [f.d] S (fun d S' => d = dP f.k ∧ Pf S S') := by
  intro q e hq
  obtain ⟨x, ts⟩ := f
  show bodyG 3 1 (b_law_facts_key (Gm tb (k + 1))) _ _ _ _
  have c : ∀ (t : Tm) (S : Sto), t.isVr = false → Ok (Gm tb (k + 1) 21) [t.d] S (fun d S' => d = dP t.k ∧ S' = S) := fun t S h => vkey_ok t h
  generalize Gm tb (k + 1) = Γ at c ⊢
  simp [b_law_facts_key, bodyG, sSeq, sAsg, sDrop, sRet, sIf, sNext, wOp, wUn, wVar, wC, aNil, aCons, wFn, wTup, wLst, wIf, tVal, tAnd, tOr, tNot, wAnd, wOr, wNot, wCall, fA1, fIx, fIsiA, fIsi, typeD, kit_int_int, kit_int_str, kit_int_tuple, kit_int_bool, kit_str_int, kit_str_str, kit_str_tuple, kit_str_bool, kit_tuple_int, kit_tuple_str, kit_tuple_tuple, kit_tuple_bool, kit_bool_int, kit_bool_str, kit_bool_tuple, kit_bool_bool, kit_list_int, kit_list_str, kit_list_tuple, kit_list_bool, kit_dict_int, kit_dict_str, kit_dict_tuple, kit_dict_bool, atSq, atI0, atI1, endK, startR, Pat.go, Pat.gos, fI, fI0, fIB, wChain, oB_some, Fact.d, wSeq, wComp, srcOf]
  refine comp_map S Tm.d (fun _ => true) (fun t => dP t.k) ts (Nat.le_trans hf.few (by decide)) (fun _ _ => True.intro) (fun t ht => ⟨_, rfl, fun S1 K _ hK => hK S1 (.refl _), fun _ S1 K pf hK => ?_⟩) fun S1 pf h1 => ?_
  · cases hv : t.isVr with
    | true =>
      cases t with
      | vr s => simp [bodyG, sSeq, sAsg, sDrop, sRet, sIf, sNext, wOp, wUn, wVar, wC, aNil, aCons, wFn, wTup, wLst, wIf, tVal, tAnd, tOr, tNot, wAnd, wOr, wNot, wCall, fA1, fIx, fIsiA, fIsi, typeD, kit_int_int, kit_int_str, kit_int_tuple, kit_int_bool, kit_str_int, kit_str_str, kit_str_tuple, kit_str_bool, kit_tuple_int, kit_tuple_str, kit_tuple_tuple, kit_tuple_bool, kit_bool_int, kit_bool_str, kit_bool_tuple, kit_bool_bool, kit_list_int, kit_list_str, kit_list_tuple, kit_list_bool, kit_dict_int, kit_dict_str, kit_dict_tuple, kit_dict_bool, atSq, atI, ixN, endK, startR, Pat.go, Pat.gos, fI, fI0, fIB, wChain, oB_some, Tm.d, wipeR, atI0, atI1]; exact ⟨sz3, hK S1 (.refl _)⟩
      | num i => cases hv
      | nm s => cases hv
    | false =>
      have z := c t S1 hv
      cases t with
      | vr s => cases hv
      | num i => simp [bodyG, sSeq, sAsg, sDrop, sRet, sIf, sNext, wOp, wUn, wVar, wC, aNil, aCons, wFn, wTup, wLst, wIf, tVal, tAnd, tOr, tNot, wAnd, wOr, wNot, wCall, fA1, fIx, fIsiA, fIsi, typeD, kit_int_int, kit_int_str, kit_int_tuple, kit_int_bool, kit_str_int, kit_str_str, kit_str_tuple, kit_str_bool, kit_tuple_int, kit_tuple_str, kit_tuple_tuple, kit_tuple_bool, kit_bool_int, kit_bool_str, kit_bool_tuple, kit_bool_bool, kit_list_int, kit_list_str, kit_list_tuple, kit_list_bool, kit_dict_int, kit_dict_str, kit_dict_tuple, kit_dict_bool, atSq, atI, ixN, endK, startR, Pat.go, Pat.gos, fI, fI0, fIB, wChain, oB_some, Tm.d, wipeR]; exact z _ _ fun d S' ⟨e1, e2⟩ => by subst e1 e2; exact hK S' (.refl _)
      | nm s => simp [bodyG, sSeq, sAsg, sDrop, sRet, sIf, sNext, wOp, wUn, wVar, wC, aNil, aCons, wFn, wTup, wLst, wIf, tVal, tAnd, tOr, tNot, wAnd, wOr, wNot, wCall, fA1, fIx, fIsiA, fIsi, typeD, kit_int_int, kit_int_str, kit_int_tuple, kit_int_bool, kit_str_int, kit_str_str, kit_str_tuple, kit_str_bool, kit_tuple_int, kit_tuple_str, kit_tuple_tuple, kit_tuple_bool, kit_bool_int, kit_bool_str, kit_bool_tuple, kit_bool_bool, kit_list_int, kit_list_str, kit_list_tuple, kit_list_bool, kit_dict_int, kit_dict_str, kit_dict_tuple, kit_dict_bool, atSq, atI, ixN, endK, startR, Pat.go, Pat.gos, fI, fI0, fIB, wChain, oB_some, Tm.d, wipeR]; exact z _ _ fun d S' ⟨e1, e2⟩ => by subst e1 e2; exact hK S' (.refl _)
  · rw [filter_yes] at h1
    simp [bodyG, sSeq, sAsg, sDrop, sRet, sIf, sNext, wOp, wUn, wVar, wC, aNil, aCons, wFn, wTup, wLst, wIf, tVal, tAnd, tOr, tNot, wAnd, wOr, wNot, wCall, fA1, fIx, fIsiA, fIsi, typeD, kit_int_int, kit_int_str, kit_int_tuple, kit_int_bool, kit_str_int, kit_str_str, kit_str_tuple, kit_str_bool, kit_tuple_int, kit_tuple_str, kit_tuple_tuple, kit_tuple_bool, kit_bool_int, kit_bool_str, kit_bool_tuple, kit_bool_bool, kit_list_int, kit_list_str, kit_list_tuple, kit_list_bool, kit_dict_int, kit_dict_str, kit_dict_tuple, kit_dict_bool, atSq, atI, ixN, endK, startR, Pat.go, Pat.gos, fI, fI0, fIB, wChain, oB_some, Tm.d, fTuple, h1]
    refine ⟨by decide, hq _ _ ⟨?_, pf⟩⟩
    show D.tup [.str x, .tup (ts.map fun t => dP t.k)] = dP (Fact.k (x, ts))
    rw [Fact.k, dP, dPs, dPs, dPs, dP, dP, dPs_map]
def byD (l : List Fact) (i : Nat) : D := .tup [dP (l.getD i ("", [])).k, .int (i : Int)]
def byI : D → Nat
  | .tup [_, .int i] => i.toNat
  | _ => 0
theorem byI_D (l : List Fact) (i : Nat) : byI (byD l i) = i := by simp [byD, byI]
theorem getD_map {α : Type} (x : α) (l : List α) : (List.range l.length).map (fun i => l.getD i x) = l := by
  apply List.ext_getElem?
  intro i
  rw [List.getElem?_map]
  by_cases hi : i < l.length
  · rw [List.getElem?_range hi, List.getElem?_eq_getElem hi]
    simp [hi]
  · rw [List.getElem?_eq_none (by simpa using hi), List.getElem?_eq_none (by omega)]; rfl
theorem by_ok {x : D} {l : List Fact} (hx : SqAt S x (l.map Fact.d)) (hok : ∀ f ∈ l, f.ok) (hz : l.length ≤ 100) : Ok (Gm tb (k + 3) 20) [x, .glo "_law_facts_key"] S (fun d S' => ∃ (m : Nat) (l' : List Fact), d = .ref m ∧ S'[m]? = some (.lst (l'.map Fact.d)) ∧ l'.Perm l ∧ Pf S S') := by
  intro q e hq
  have h300 : (300 : Nat) < sizeLine := by decide
  show bodyG 6 2 (b_law_by (Gm tb (k + 2))) _ _ _ _
  have c : ∀ (f : Fact) (S : Sto), f.ok → Ok (Gm tb (k + 2) 22) [f.d] S (fun d S' => d = dP f.k ∧ Pf S S') := fun f S h => fkey_ok f h
  generalize Gm tb (k + 2) = Γ at c ⊢
  refine ⟨rfl, ?_⟩
  have hit : ∀ S', Pf S S' → sqItems S' x = some (l.map Fact.d) := fun S' p => by
    rcases hx with rfl | ⟨n, rfl, h⟩
    · rfl
    · simp only [sqItems, p _ _ h]
  have hkp : ∀ S', Pf S S' → sqKeeps x (l.map Fact.d) S' := fun S' p => by
    rcases hx with rfl | ⟨n, rfl, h⟩
    · exact True.intro
    · exact p _ _ h
  have hget : ∀ (S' : Sto) (i : Nat) (Q : QD), Pf S S' → i < l.length → Q (l.getD i ("", [])).d S' → fIx S' x (.int (i : Int)) Q := fun S' i Q p hi h => by
    have e1 : atI (l.map Fact.d) (i : Int) = some (l.getD i ("", [])).d := by
      rw [atI_nat (by rw [List.length_map]; exact hi), List.getElem_map]
      simp [hi]
    rcases hx with rfl | ⟨n, rfl, h2⟩
    · show oB (atI (l.map Fact.d) (i : Int)) _
      rw [e1]; exact h
    · have h3 := p _ _ h2
      simp only [fIx, atSq, h3, e1, oB_some]
      exact h
  have e3 : enumD 0 (l.map Fact.d) = (List.range l.length).map fun (i : Nat) => D.tpz [.int (i : Int), (l.getD i ("", [])).d] := by
    rw [enum_range, List.length_map]
    apply List.map_congr_left
    intro i hi
    rw [List.mem_range] at hi
    simp [hi]
  have hmem : ∀ i, i < l.length → (l.getD i ("", [])).ok := fun i hi => hok _ (by simp [hi])
  refine asg_seq ?_
  simp only [wFn, aCons, aNil, wComp, iEnu, wVar]
  show oB (some x) _
  rw [oB_some, hit S (.refl _), oB_some, e3]
  show compL _ _ _ _ _ _ _ _ _
  refine comp_map S (fun i : Nat => D.tpz [.int (i : Int), (l.getD i ("", [])).d]) (fun _ => true) (byD l) (List.range l.length) (by rw [List.length_range]; omega) (fun S' p => hkp S' p) (fun i hi => ⟨_, rfl, fun S1 K _ hK => hK S1 (.refl _), fun _ S1 K p1 hK => ?_⟩) fun S1 p1 h1 => ?_
  · have hi := List.mem_range.mp hi
    have hG : ((addG "node_variables" (Γ 8) (addG "own_variables" (Γ 9) (addG "way_to" (Γ 13) (addG "inner_nodes" (Γ 14) (addG "below" (Γ 15) (addG "_law_facts_key" (Γ 22) (fun _ => none)))))))) "_law_facts_key" = some (Γ 22) := by
      unfold addG
      simp only [show ¬ (("_law_facts_key" : Str) = "node_variables") by decide, show ¬ (("_law_facts_key" : Str) = "own_variables") by decide, show ¬ (("_law_facts_key" : Str) = "way_to") by decide, show ¬ (("_law_facts_key" : Str) = "inner_nodes") by decide, show ¬ (("_law_facts_key" : Str) = "below") by decide, if_false, if_true]
    simp only [wTup, aCons, aNil, wCallV]
    show oB (some (D.glo "_law_facts_key")) _
    rw [oB_some]
    simp only [hG, oB_some, wVar]
    show oB (some (l.getD i ("", [])).d) _
    rw [oB_some]
    refine c _ S1 (hmem i hi) _ _ fun d S2 ⟨e1, p2⟩ => ?_
    subst e1
    show oB (some (D.int (i : Int))) _
    rw [oB_some]
    exact ⟨by show (2 : Nat) ≤ sizeLine; decide, hK S2 p2⟩
  · rw [filter_yes] at h1
    have hfl : ∀ i : Nat, flatP (.tuple [(l.getD i ("", [])).k, .int (i : Int)]) = true := fun i => by simp [flatP, flatPs, kdF.flat (l.getD i ("", []))]; exact kdF.flat _
    have hbd : ∀ i : Nat, byD l i = dP (.tuple [(l.getD i ("", [])).k, .int (i : Int)]) := fun i => by rw [dP, dPs, dPs, dPs, dP]; rfl
    have htp : ∀ i : Nat, toP (byD l i) = .tuple [(l.getD i ("", [])).k, .int (i : Int)] := fun i => by rw [hbd, toP_dP _ (hfl i)]
    refine ⟨(List.range l.length).map (byD l), toP, by simp only [itsD, h1], fun d hd => ?_, ?_, fun d hd => ?_, by rw [List.length_map, List.length_range]; omega, ?_⟩
    · obtain ⟨i, _, rfl⟩ := List.mem_map.mp hd
      rw [htp, hbd]
      exact sn_dP _ _ (hfl i)
    · rw [List.map_map]
      intro p hp p' hp'
      obtain ⟨i, _, rfl⟩ := List.mem_map.mp hp
      obtain ⟨j, _, rfl⟩ := List.mem_map.mp hp'
      simp only [Function.comp, htp]
      have := fact_alike (l.getD i ("", [])) (l.getD j ("", []))
      simp only [alike, alikeAll, this, Bool.and_self]
    · obtain ⟨i, _, rfl⟩ := List.mem_map.mp hd
      rw [htp]
      refine ⟨by simp, ?_⟩
      have h5 : (Fact.k (l.getD i ("", []))).depth ≤ 8 := by
        rw [Fact.k, PyData.depth]
        have := depAll (l := [PyData.str (l.getD i ("", [])).1, .tuple ((l.getD i ("", [])).2.map Tm.k)]) (n := 2) fun p hp => by
          simp only [List.mem_cons, List.not_mem_nil, or_false] at hp
          rcases hp with rfl | rfl
          · simp [PyData.depth]
          · rw [PyData.depth]; have := tms_kd (l.getD i ("", [])).2; omega
        omega
      rw [PyData.depth]
      have := depAll (l := [(l.getD i ("", [])).k, PyData.int (i : Int)]) (n := 8) fun p hp => by
        simp only [List.mem_cons, List.not_mem_nil, or_false] at hp
        rcases hp with rfl | rfl
        · exact h5
        · simp [PyData.depth]
      omega
    · obtain ⟨js, hp, hm⟩ := perm_back (f := byD l) (g := byI) (byI_D l) (List.mergeSort_perm ((List.range l.length).map (byD l)) (dataLe false toP))
      rw [hm]
      show oB (some _) _
      rw [oB_some]
      have hjl : js.length = l.length := by rw [hp.length_eq, List.length_range]
      refine comp_of (n := S1.length) (xs := js.map (byD l)) rfl (by simp) ?_
      have h8 : (S1 ++ [MO.lst (js.map (byD l))])[S1.length]? = some (.lst (js.map (byD l))) := by simp
      refine comp_map (p := .tp [.nm 3, .nm 4]) (t := tYesD) (S1 ++ [MO.lst (js.map (byD l))]) (byD l) (fun _ => true) (fun i => (l.getD i ("", [])).d) js (by omega) (fun S2 p => p _ _ h8) (fun i hi => ⟨_, rfl, fun S2 K _ hK => hK S2 (.refl _), fun _ S2 K p2 hK => ?_⟩) fun S2 p2 h2 => ?_
      · have hi := List.mem_range.mp (hp.mem_iff.mp hi)
        simp only [wOp, wVar]
        show oB (some x) _
        rw [oB_some]
        show oB (some (D.int (i : Int))) _
        rw [oB_some]
        exact hget S2 i _ (p1.trans ((Pf.app _ _).trans p2)) hi (hK S2 (.refl _))
      · rw [filter_yes] at h2
        refine hq _ _ ⟨_, js.map fun i => l.getD i ("", []), rfl, by rw [h2, List.map_map]; rfl, ?_, p1.trans ((Pf.app _ _).trans p2)⟩
        have := hp.map fun i => l.getD i ("", [])
        rw [getD_map] at this
        exact this
end
end Zz
set_option Elab.async false
set_option linter.all false
set_option maxRecDepth 100000
namespace Zz
open PySem PySem.Spec PyProof.Rows L2
theorem Bag.setn {b m n : Nat} {S : Sto} (h : Bag b m S) (h1 : n ≠ b) (h2 : n ≠ m) (o : MO) : Bag b m (S.set n o) := by
  obtain ⟨x, y, z, cs, h⟩ := h
  exact ⟨x, y, z, cs, by rw [List.getElem?_set_ne h1]; exact h.at_, by rw [List.getElem?_set_ne h2]; exact h.cells, h.ne, h.few⟩
theorem Pb.setn {b n : Nat} {S S' : Sto} (h : Pb b S S') (hn : S.length ≤ n) (o : MO) : Pb b S (S'.set n o) :=
  ⟨fun i u hi e => by
    have := (List.getElem?_eq_some_iff.mp e).1
    rw [List.getElem?_set_ne (by omega)]
    exact h.keep i u hi e, by rw [List.length_set]; exact h.len⟩
/-- its variables stand among ns -/
def inN (ns : List Str) (f : Fact) : Prop := ∀ s ∈ vnT f.2, s ∈ ns
theorem vnF_in {ns : List Str} : ∀ {l : List Fact}, (∀ f ∈ l, inN ns f) → ∀ s ∈ vnF l, s ∈ ns
  | [], _, s, hs => by cases hs
  | f :: l, h, s, hs => by
    rcases List.mem_append.mp hs with hs | hs
    · exact h f List.mem_cons_self s hs
    · exact vnF_in (fun g hg => h g (List.mem_cons_of_mem _ hg)) s hs
theorem mem_vnF {l : List Fact} {s : Str} : s ∈ vnF l ↔ ∃ f ∈ l, s ∈ vnT f.2 := by
  induction l with
  | nil => simp [vnF]
  | cons f l ih => simp [vnF, ih]
theorem mem_vnT {l : List Tm} {s : Str} : s ∈ vnT l ↔ Tm.vr s ∈ l := by
  induction l with
  | nil => simp [vnT]
  | cons f l ih => cases f <;> simp [vnT, ih]
/-! ### single steps -/
section
variable {ρ : Rho} {S : Sto} {Q : QD} {E : QX} {k : Kt}
theorem lst0 (h : Q (.ref S.length) (S ++ [.lst []])) : wLst aNil ρ S Q E := ⟨Nat.zero_le _, h⟩
theorem for_seq {wi : WI} {p : Pat} {b r : WS} (h : wi ρ S (fun c S1 => forL c p b { k with nx := r k } c.items ρ S1) (fun x S1 => k.ex x ρ S1)) : sSeq (sFor wi p b) r k ρ S := h
theorem for_end {wi : WI} {p : Pat} {b : WS} (h : wi ρ S (fun c S1 => forL c p b k c.items ρ S1) (fun x S1 => k.ex x ρ S1)) : sFor wi p b k ρ S := h
theorem drop_seq {w : WE} {r : WS} (h : w ρ S (fun _ S1 => r k ρ S1) (fun x S1 => k.ex x ρ S1)) : sSeq (sDrop w) r k ρ S := h
theorem if_seq {t : WT} {a b r : WS} (h : t ρ S (fun c S1 => if c = true then a { k with nx := r k } ρ S1 else b { k with nx := r k } ρ S1) (fun x S1 => k.ex x ρ S1)) : sSeq (sIf t a b) r k ρ S := h
theorem call1 {γ : Ga} {i : Nat} {d : D} (hi : ρ[i]?.join = some d) (h : γ [d] S Q E) : wCall γ (aCons (wVar i) aNil) ρ S Q E := by
  simp only [wCall, aCons, aNil, wVar, hi, oB_some]
  exact h
theorem call2 {γ : Ga} {i j : Nat} {d e : D} (hi : ρ[i]?.join = some d) (hj : ρ[j]?.join = some e) (h : γ [d, e] S Q E) : wCall γ (aCons (wVar i) (aCons (wVar j) aNil)) ρ S Q E := args2 hi hj h
theorem callC {γ : Ga} {i : Nat} {d e : D} (hi : ρ[i]?.join = some d) (h : γ [d, e] S Q E) : wCall γ (aCons (wVar i) (aCons (wC e) aNil)) ρ S Q E := by
  simp only [wCall, aCons, aNil, wVar, wC, hi, oB_some]
  exact h
/-- these values, without more -/
def Lits (wa : WA) (ds : List D) : Prop := ∀ (ρ : Rho) (S : Sto) (Q : List D → Sto → Prop) (E : QX), Q ds S → wa ρ S Q E
theorem callL {γ : Ga} {i : Nat} {d : D} {wa : WA} {ds : List D} (hw : Lits wa ds) (hz : ds.length ≤ sizeLine) (hi : ρ[i]?.join = some d) (h : γ [d, .ref S.length] (S ++ [.lst ds]) Q E) : wCall γ (aCons (wVar i) (aCons (wLst wa) aNil)) ρ S Q E := by
  simp only [wCall, aCons, aNil, wVar, hi, oB_some, wLst]
  exact hw _ _ _ _ ⟨hz, h⟩
theorem rng1_of {w : WE} {Q : Src → Sto → Prop} (h : w ρ S (fun x S1 => match x with | .int j => (-(2 ^ 62) ≤ j ∧ j < 2 ^ 62) ∧ Q ⟨rngD 0 j.toNat, fun _ => True⟩ S1 | _ => False) E) : iRange1 w ρ S Q E := h
theorem addC {i : Int} {w : WE} (h : w ρ S (fun y S1 => fAdd S1 (.int i) y Q) E) : wOp fAdd (wC (.int i)) w ρ S Q E := h
theorem mt_app {n i : Nat} {w : WE} {xs : List D} (hi : ρ[i]?.join = some (.ref n)) (hs : S[n]? = some (.lst xs)) (h : w ρ S (fun y S1 => atN S1 n fun xs => xs.length < sizeLine ∧ Q .non (S1.set n (.lst (xs ++ [y])))) E) : wMt isLst fApp (wVar i) (aCons w aNil) ρ S Q E := by
  simp only [wMt, wVar, hi, oB_some, aCons, aNil]
  exact ⟨⟨_, _, rfl, hs⟩, h⟩
theorem ret_fn {f : FA} {w : WE} (h : w ρ S (fun d S1 => f S1 [d] k.rt) (fun x S1 => k.ex x ρ S1)) : sRet (wFn f (aCons w aNil)) k ρ S := h
theorem call_wC {γ : Ga} {w : WE} {c : D} (h : w ρ S (fun d S1 => γ [d, c] S1 Q E) E) : wCall γ (aCons w (aCons (wC c) aNil)) ρ S Q E := h
theorem drop_end {w : WE} (h : w ρ S (fun _ S1 => k.nx ρ S1) (fun x S1 => k.ex x ρ S1)) : sDrop w k ρ S := h
theorem inA_ref {bb : Bool} {n : Nat} {x : D} {ys : List D} (hs : S[n]? = some (.lst ys)) (h : fInSq bb S x ys Q) : fInB bb S x (.ref n) Q := by
  simp only [fInB, hs]
  exact h
theorem notin_sl {i j l n : Nat} {d : D} {xs : List D} {z : Int} {K : Bool → Sto → Prop} (h8 : ρ[i]?.join = some d) (h3 : ρ[j]?.join = some (.ref n)) (h4 : ρ[l]?.join = some (.int z)) (hs : S[n]? = some (.lst xs))
    (h : fInSq false (S ++ [.lst (cutD xs none (some z))]) d (cutD xs none (some z)) (fun r S3 => match r with | .bl c => K c S3 | _ => False)) : tVal (wOp fNotInA (wVar i) (wSl (wVar j) oNo (oAt (wVar l)))) ρ S K E := by
  simp only [tVal, wOp, wVar, h8, oB_some, wSl, h3, oNo, oAt, h4, fSl, hs]
  exact inA_ref (by simp) h
theorem t_eqC {i : Nat} {x d : D} {p q : PyData} {bb : Bool} {K : Bool → Sto → Prop} (hi : ρ[i]?.join = some x) (h1 : Sn S x p) (h2 : Sn S d q) (s1 : SeqAt.shaped p = true) (s2 : SeqAt.shaped q = true) (h : K (if bb then PyData.eqv p q else !PyData.eqv p q) S) : tVal (wOp (fEq bb) (wVar i) (wC d)) ρ S K E := by
  simp only [tVal, wOp, wVar, wC, hi, oB_some]
  exact ⟨p, q, h1, h2, s1, s2, h⟩
theorem comp_enu {i : Nat} {x : D} {xs : List D} {p : Pat} {t : WT} {e : WE} {own : List Nat} (hi : ρ[i]?.join = some x) (hx : sqItems S x = some xs) (h : compL ⟨enumD 0 xs, fun S' => sqKeeps x xs S'⟩ p t e S.length (wipeR ρ own) Q (enumD 0 xs) (S ++ [.lst []])) :
    wComp (iEnu (wVar i)) p t e own ρ S Q E := by
  simp only [wComp, iEnu, wVar, hi, oB_some, hx]
  exact h
end
section
variable {tb : List MO} {k b m : Nat} {S : Sto}
/-- one term -/
theorem term_ok {nl : Nat} {ns : List Str} {Γ : Cs} (c17 : ∀ (S : Sto) (n : Int), Bag b m S → 0 < n → n < 1000 → Ok (Γ 17) [.ref b, .int n] S (fun d S' => ∃ r : Int, d = .int r ∧ 0 ≤ r ∧ r < n ∧ Bag b m S' ∧ Pb b S S'))
    (c18 : ∀ (S : Sto) (n : Nat) (xs : List D), Bag b m S → n ≠ b → S[n]? = some (.lst xs) → 0 < xs.length → xs.length < 1000 → Ok (Γ 18) [.ref b, .ref n] S (fun d S' => d ∈ xs ∧ Bag b m S' ∧ Pb b S S'))
    (hb : Bag b m S) (hn : nl ≠ b) (hs : S[nl]? = some (.lst (ns.map D.str))) (h0 : 0 < ns.length) (h1 : ns.length < 1000) (hin : ∀ s ∈ ns, s ∈ namesL) {r2 r3 r4 r5 r6 r7 r8 : Option D} {Q : QD} {E : QX}
    (hQ : ∀ (t : Tm) (S' : Sto), t.ok → (∀ s, t = .vr s → s ∈ ns) → Bag b m S' → Pb b S S' → Q t.d S') :
    wIf (tVal (wOp (fIB fun i j => decide (j < i)) (wCall (Γ 17) (aCons (wVar 0) (aCons (wC (.int 6)) (aNil)))) (wC (.int 0)))) (wTup (aCons (wC (.str "var")) (aCons (wCall (Γ 18) (aCons (wVar 0) (aCons (wVar 1) (aNil)))) (aNil)))) (wCall (Γ 18) (aCons (wVar 0) (aCons (wLst (aCons (wC (.str "u")) (aCons (wC (.int 0)) (aCons (wC (.int 1)) (aNil))))) (aNil))))
      [some (.ref b), some (.ref nl), r2, r3, r4, r5, r6, r7, r8] S Q E := by
  have hlt := hb.lt
  simp [bodyG, sSeq, sAsg, sDrop, sRet, sIf, sNext, wOp, wUn, wVar, wC, aNil, aCons, wFn, wTup, wLst, wIf, tVal, tAnd, tOr, tNot, wAnd, wOr, wNot, wCall, fA1, fIx, fIsiA, fIsi, typeD, kit_int_int, kit_int_str, kit_int_tuple, kit_int_bool, kit_str_int, kit_str_str, kit_str_tuple, kit_str_bool, kit_tuple_int, kit_tuple_str, kit_tuple_tuple, kit_tuple_bool, kit_bool_int, kit_bool_str, kit_bool_tuple, kit_bool_bool, kit_list_int, kit_list_str, kit_list_tuple, kit_list_bool, kit_dict_int, kit_dict_str, kit_dict_tuple, kit_dict_bool, atSq, atI0, atI1, endK, startR, Pat.go, Pat.gos, fI, fI0, fIB, wChain, oB_some]
  refine c17 S 6 hb (by decide) (by decide) _ _ fun d S1 ⟨r, e1, r0, r1, b1, p1⟩ => ?_
  subst e1
  by_cases hr : 0 < r
  · simp [hr]
    refine c18 S1 nl _ b1 hn (p1.keep _ _ hn hs) (by simpa using h0) (by simpa using h1) _ _ fun d S2 ⟨hd, b2, p2⟩ => ?_
    obtain ⟨s, hs', rfl⟩ := List.mem_map.mp hd
    exact ⟨by decide, hQ (.vr s) S2 (hin s hs') (fun s' e => by cases e; exact hs') b2 (p1.trans p2)⟩
  · simp [hr]
    refine ⟨by decide, ?_⟩
    refine c18 (S1 ++ [.lst [.str "u", .int 0, .int 1]]) S1.length [.str "u", .int 0, .int 1] (b1.pf (Pf.app _ _)) (by have := b1.lt; omega) (by simp) (by simp) (by simp) _ _ fun d S2 ⟨hd, b2, p2⟩ => ?_
    have p := p1.trans ((Pb.app b _ _).trans p2)
    simp only [List.mem_cons, List.not_mem_nil, or_false] at hd
    rcases hd with rfl | rfl | rfl
    · exact hQ (.nm "u") S2 (by show _ ∈ wordsL; decide +kernel) (fun s' e => by cases e) b2 p
    · exact hQ (.num 0) S2 (by show _ ∈ numsL; decide) (fun s' e => by cases e) b2 p
    · exact hQ (.num 1) S2 (by show _ ∈ numsL; decide) (fun s' e => by cases e) b2 p
theorem facts_ok {nl : Nat} {ns : List Str} {most : Int} (hb : Bag b m S) (hn : nl ≠ b) (hs : S[nl]? = some (.lst (ns.map D.str))) (h0 : 0 < ns.length) (h1 : ns.length < 1000) (hin : ∀ s ∈ ns, s ∈ namesL) (m0 : 0 < most) (m2 : most ≤ 2) :
    Ok (Gm tb (k + 4) 23) [.ref b, .ref nl, .int most] S (fun d S' => ∃ l : List Fact, d = .tup (l.map Fact.d) ∧ l.length ≤ 2 ∧ (∀ f ∈ l, f.ok ∧ inN ns f) ∧ Bag b m S' ∧ Pb b S S') := by
  intro q e hq
  have h300 : (300 : Nat) < sizeLine := by decide
  have hlt := hb.lt
  have hltm := hb.ltm
  have c17 : ∀ (S : Sto) (n : Int), Bag b m S → 0 < n → n < 1000 → Ok (Gm tb (k + 3) 17) [.ref b, .int n] S (fun d S' => ∃ r : Int, d = .int r ∧ 0 ≤ r ∧ r < n ∧ Bag b m S' ∧ Pb b S S') := fun S n h a c => take_ok (k := k + 2) h a c
  have c18 : ∀ (S : Sto) (n : Nat) (xs : List D), Bag b m S → n ≠ b → S[n]? = some (.lst xs) → 0 < xs.length → xs.length < 1000 → Ok (Gm tb (k + 3) 18) [.ref b, .ref n] S (fun d S' => d ∈ xs ∧ Bag b m S' ∧ Pb b S S') := fun S n xs h a c e f => some_ok (k := k + 1) h a c e f
  have c20 : ∀ (S : Sto) (x : D) (l : List Fact), SqAt S x (l.map Fact.d) → (∀ f ∈ l, f.ok) → l.length ≤ 100 → Ok (Gm tb (k + 3) 20) [x, .glo "_law_facts_key"] S (fun d S' => ∃ (m : Nat) (l' : List Fact), d = .ref m ∧ S'[m]? = some (.lst (l'.map Fact.d)) ∧ l'.Perm l ∧ Pf S S') := fun S x l h a c => by_ok h a c
  show bodyG 9 3 (b_law_facts (Gm tb (k + 3))) _ _ _ _
  generalize Gm tb (k + 3) = Γ at c17 c18 c20 ⊢
  refine ⟨rfl, ?_⟩
  unfold b_law_facts
  refine asg_seq (lst0 ?_)
  show oB (some _) _
  rw [oB_some]
  refine for_seq (rng1_of (addC (call2 (d := .ref b) (e := .int most) rfl rfl ?_)))
  refine c17 _ most (hb.pf (Pf.app _ _)) m0 (by omega) _ _ fun d S1 ⟨r, e1, r0, r1, b1, p1⟩ => ?_
  subst e1
  refine fAdd_int ⟨⟨by omega, by omega⟩, ?_⟩
  have hs1 : S1[S.length]? = some (.lst (([] : List Fact).map Fact.d)) := p1.keep _ _ (by omega) (by simp)
  have q1 : Pb b S S1 := (Pb.app b _ _).trans p1
  refine forL_do (fun ds ρ S2 => ∃ (l : List Fact) (y4 y5 y6 y7 y8 : Option D), ρ = [some (.ref b), some (.ref nl), some (.int most), some (.ref S.length), y4, y5, y6, y7, y8] ∧ l.length + ds.length ≤ 2 ∧ (∀ f ∈ l, f.ok ∧ inN ns f) ∧ Bag b m S2 ∧ Pb b S S2 ∧ S2[S.length]? = some (.lst (l.map Fact.d))) ?_ ?_ _ _ _
    ⟨[], none, none, none, none, none, rfl, by rw [rng_len]; simp; omega, by simp, b1, q1, hs1⟩
  · rintro ρ S2 ⟨l, y4, y5, y6, y7, y8, rfl, hl, ho, b2, p2, h2⟩
    refine ⟨True.intro, ?_⟩
    have hit : sqItems S2 (.ref S.length) = some (l.map Fact.d) := by simp only [sqItems, h2]
    have e3 : enumD 0 (l.map Fact.d) = (List.range l.length).map fun (i : Nat) => D.tpz [.int (i : Int), (l.getD i ("", [])).d] := by
      rw [enum_range, List.length_map]
      apply List.map_congr_left
      intro i hi
      rw [List.mem_range] at hi
      simp [hi]
    have hl0 : l.length ≤ 2 := by simpa using hl
    have hmem : ∀ i, i < l.length → l.getD i ("", []) ∈ l := fun i hi => by simp [hi]
    dsimp only
    refine ret_fn (call_wC (comp_enu rfl hit ?_))
    rw [e3]
    refine comp_map S2 (fun i : Nat => D.tpz [.int (i : Int), (l.getD i ("", [])).d]) (fun (i : Nat) => bz false (anyEq (Fact.p (l.getD i ("", []))) ((cutD l none (some (i : Int))).map Fact.p))) (fun i => (l.getD i ("", [])).d) (List.range l.length) (by rw [List.length_range]; omega) (fun S' p => p _ _ h2) (fun i hi => ⟨_, rfl, fun S3 K p3 hK => ?_, fun _ S3 K _ hK => ?_⟩) fun S3 p3 h3 => ?_
    · have hi := List.mem_range.mp hi
      refine notin_sl (d := (l.getD i ("", [])).d) (z := (i : Int)) rfl rfl rfl (p3 _ _ h2) ?_
      have hok := (ho _ (hmem i hi)).1
      rw [cut_map]
      refine ⟨Fact.p (l.getD i ("", [])), (cutD l none (some (i : Int))).map Fact.p, kdF.snap _ _, kdF.snaps _ _, kdF.shaped hok, layAll fun p hp => ?_, hK _ (Pf.app _ _)⟩
      obtain ⟨f, hf, rfl⟩ := List.mem_map.mp hp
      have hf2 : f ∈ l := by
        unfold cutD at hf
        exact List.mem_of_mem_drop (List.mem_of_mem_take hf)
      exact kdF.lay f (ho f hf2).1
    · simp [bodyG, sSeq, sAsg, sDrop, sRet, sIf, sNext, wOp, wUn, wVar, wC, aNil, aCons, wFn, wTup, wLst, wIf, tVal, tAnd, tOr, tNot, wAnd, wOr, wNot, wCall, fA1, fIx, fIsiA, fIsi, typeD, kit_int_int, kit_int_str, kit_int_tuple, kit_int_bool, kit_str_int, kit_str_str, kit_str_tuple, kit_str_bool, kit_tuple_int, kit_tuple_str, kit_tuple_tuple, kit_tuple_bool, kit_bool_int, kit_bool_str, kit_bool_tuple, kit_bool_bool, kit_list_int, kit_list_str, kit_list_tuple, kit_list_bool, kit_dict_int, kit_dict_str, kit_dict_tuple, kit_dict_bool, atSq, atI0, atI1, endK, startR, Pat.go, Pat.gos, fI, fI0, fIB, wChain, oB_some, wipeR]; exact hK S3 (.refl _)
    · have e4 : ((List.range l.length).filter fun (i : Nat) => bz false (anyEq (Fact.p (l.getD i ("", []))) ((cutD l none (some (i : Int))).map Fact.p))).map (fun i => (l.getD i ("", [])).d) = ((((List.range l.length).filter fun (i : Nat) => bz false (anyEq (Fact.p (l.getD i ("", []))) ((cutD l none (some (i : Int))).map Fact.p))).map fun i => l.getD i ("", [])).map Fact.d) := by rw [List.map_map]; rfl
      rw [e4] at h3
      generalize hl' : (((List.range l.length).filter fun (i : Nat) => bz false (anyEq (Fact.p (l.getD i ("", []))) ((cutD l none (some (i : Int))).map Fact.p))).map fun i => l.getD i ("", [])) = l' at h3
      have hsub : ∀ f ∈ l', f ∈ l := fun f hf => by
        rw [← hl'] at hf
        obtain ⟨i, hi, rfl⟩ := List.mem_map.mp hf
        exact hmem i (List.mem_range.mp (List.mem_filter.mp hi).1)
      have hlen : l'.length ≤ 2 := by
        rw [← hl', List.length_map]
        have := List.length_filter_le (fun (i : Nat) => bz false (anyEq (Fact.p (l.getD i ("", []))) ((cutD l none (some (i : Int))).map Fact.p))) (List.range l.length)
        rw [List.length_range] at this
        omega
      show Γ 20 [.ref S2.length, .glo "_law_facts_key"] S3 _ _
      refine c20 S3 (.ref S2.length) l' (.inr ⟨_, rfl, h3⟩) (fun f hf => (ho f (hsub f hf)).1) (by omega) _ _ fun d S4 ⟨n4, l4, e5, h4, pm, p4⟩ => ?_
      subst e5
      show fTuple S4 (.ref n4) q
      simp only [fTuple, atSq, h4]
      exact hq _ _ ⟨l4, rfl, by rw [pm.length_eq]; exact hlen, fun f hf => ho f (hsub f (pm.mem_iff.mp hf)), b2.pf (p3.trans p4), p2.trans ((p3.trans p4).pb b)⟩
  · rintro d ds ρ S2 ⟨l, y4, y5, y6, y7, y8, rfl, hl, ho, b2, p2, h2⟩
    refine ⟨True.intro, _, rfl, fun K hK => ?_⟩
    have hlt2 := (List.getElem?_eq_some_iff.mp h2).1
    refine asg_seq (callL (d := .ref b) (ds := [.str "p", .str "p", .str "q", .str "r"]) (fun _ _ _ _ h => h) (by decide) rfl ?_)
    refine c18 (S2 ++ [.lst [.str "p", .str "p", .str "q", .str "r"]]) S2.length [.str "p", .str "p", .str "q", .str "r"] (b2.pf (Pf.app _ _)) (by have := b2.lt; omega) (by simp) (by simp) (by simp) _ _ fun dl S3 ⟨hd, b3, p3⟩ => ?_
    have q3 := p2.trans ((Pb.app b S2 [.lst [.str "p", .str "p", .str "q", .str "r"]]).trans p3)
    have h3 : S3[S.length]? = some (.lst (l.map Fact.d)) := p3.keep _ _ (by omega) ((Pf.app _ _) _ _ h2)
    obtain ⟨lk, hlk, rfl⟩ : ∃ lk ∈ wordsL, dl = .str lk := by
      simp only [List.mem_cons, List.not_mem_nil, or_false] at hd
      rcases hd with rfl | rfl | rfl | rfl
      · exact ⟨"p", by decide +kernel, rfl⟩
      · exact ⟨"p", by decide +kernel, rfl⟩
      · exact ⟨"q", by decide +kernel, rfl⟩
      · exact ⟨"r", by decide +kernel, rfl⟩
    show oB (some _) _
    rw [oB_some]
    refine asg_seq (lst0 ?_)
    show oB (some _) _
    rw [oB_some]
    have hlt3 := (List.getElem?_eq_some_iff.mp h3).1
    have hltm3 := b3.ltm
    have hltb3 := b3.lt
    -- the terms
    have body : ∀ (items : List D) (S4 : Sto), items.length ≤ 2 → S4 = S3 ++ [.lst []] →
        forL ⟨items, fun _ => True⟩ (.nm 7) (sDrop (wMt isLst fApp (wVar 6) (aCons (wIf (tVal (wOp (fIB fun i j => decide (j < i)) (wCall (Γ 17) (aCons (wVar 0) (aCons (wC (.int 6)) (aNil)))) (wC (.int 0)))) (wTup (aCons (wC (.str "var")) (aCons (wCall (Γ 18) (aCons (wVar 0) (aCons (wVar 1) (aNil)))) (aNil)))) (wCall (Γ 18) (aCons (wVar 0) (aCons (wLst (aCons (wC (.str "u")) (aCons (wC (.int 0)) (aCons (wC (.int 1)) (aNil))))) (aNil))))) (aNil))))
          { nx := fun ρ' S' => sDrop (wMt isLst fApp (wVar 3) (aCons (wTup (aCons (wVar 5) (aCons (wFn (fA1 fTuple) (aCons (wVar 6) (aNil))) (aNil)))) (aNil))) { nx := K, rt := q, bk := fun ρ' S' => sRet (wFn (fA1 fTuple) (aCons (wCall (Γ 20) (aCons (wComp (iEnu (wVar 3)) (.tp [(.nm 4), (.nm 8)]) (tVal (wOp fNotInA (wVar 8) (wSl (wVar 3) (oNo) (oAt (wVar 4))))) (wVar 8) [4, 8]) (aCons (wC (.glo "_law_facts_key")) (aNil)))) (aNil))) (endK q e) ρ' S', ct := K, ex := fun x _ S => e x S } ρ' S', rt := q, bk := fun ρ' S' => sRet (wFn (fA1 fTuple) (aCons (wCall (Γ 20) (aCons (wComp (iEnu (wVar 3)) (.tp [(.nm 4), (.nm 8)]) (tVal (wOp fNotInA (wVar 8) (wSl (wVar 3) (oNo) (oAt (wVar 4))))) (wVar 8) [4, 8]) (aCons (wC (.glo "_law_facts_key")) (aNil)))) (aNil))) (endK q e) ρ' S', ct := K, ex := fun x _ S => e x S } items [some (.ref b), some (.ref nl), some (.int most), some (.ref S.length), some d, some (.str lk), some (.ref S3.length), y7, y8] S4 := by
      intro items S4 hi e4
      subst e4
      refine forL_do (fun ds ρ S5 => ∃ (ts : List Tm) (z : Option D), ρ = [some (.ref b), some (.ref nl), some (.int most), some (.ref S.length), some d, some (.str lk), some (.ref S3.length), z, y8] ∧ ts.length + ds.length ≤ 2 ∧ (∀ t ∈ ts, t.ok ∧ ∀ s, t = .vr s → s ∈ ns) ∧ Bag b m S5 ∧ Pb b S S5 ∧ S5[S.length]? = some (.lst (l.map Fact.d)) ∧ S5[S3.length]? = some (.lst (ts.map Tm.d))) ?_ ?_ _ _ _
        ⟨[], y7, rfl, by simpa using hi, by simp, b3.pf (Pf.app _ _), q3.trans (Pb.app b _ _), (Pf.app _ _) _ _ h3, by simp⟩
      · rintro ρ S5 ⟨ts, z, rfl, ht, hto, b5, p5, h5, g5⟩
        refine ⟨True.intro, ?_⟩
        have hltb5 := b5.lt
        have hltm5 := b5.ltm
        dsimp only
        refine drop_end (mt_app rfl h5 ?_)
        have h2l : (2 : Nat) ≤ sizeLine := by decide
        simp [bodyG, sSeq, sAsg, sDrop, sRet, sIf, sNext, wOp, wUn, wVar, wC, aNil, aCons, wFn, wTup, wLst, wIf, tVal, tAnd, tOr, tNot, wAnd, wOr, wNot, wCall, fA1, fIx, fIsiA, fIsi, typeD, kit_int_int, kit_int_str, kit_int_tuple, kit_int_bool, kit_str_int, kit_str_str, kit_str_tuple, kit_str_bool, kit_tuple_int, kit_tuple_str, kit_tuple_tuple, kit_tuple_bool, kit_bool_int, kit_bool_str, kit_bool_tuple, kit_bool_bool, kit_list_int, kit_list_str, kit_list_tuple, kit_list_bool, kit_dict_int, kit_dict_str, kit_dict_tuple, kit_dict_bool, atSq, atI0, atI1, endK, startR, Pat.go, Pat.gos, fI, fI0, fIB, wChain, oB_some, fTuple, atSq, g5, h2l]
        have hl2 : l.length + (ds.length + 1) ≤ 2 := by simpa using hl
        refine atN_of h5 ⟨by rw [List.length_map]; omega, hK _ _ ⟨l ++ [(lk, ts)], _, _, _, _, _, rfl, by rw [List.length_append, List.length_singleton]; omega, fun f hf => ?_, b5.setn (by omega) ?_ _, p5.setn (Nat.le_refl _) _, ?_⟩⟩
        · rcases List.mem_append.mp hf with hf | hf
          · exact ho f hf
          · rw [List.mem_singleton.mp hf]
            exact ⟨⟨hlk, by show ts.length ≤ 3; simp at ht; omega, fun t ht => (hto t ht).1⟩, fun s hs => (hto _ (mem_vnT.mp hs)).2 s rfl⟩
        · omega
        · rw [List.getElem?_set_self (List.getElem?_eq_some_iff.mp h5).1]; simp [Fact.d]
      · rintro d7 ds7 ρ S5 ⟨ts, z, rfl, ht, hto, b5, p5, h5, g5⟩
        refine ⟨True.intro, _, rfl, fun K7 hK7 => ?_⟩
        refine drop_end (mt_app rfl g5 ?_)
        have hs5 : S5[nl]? = some (.lst (ns.map D.str)) := p5.keep _ _ hn hs
        refine term_ok c17 c18 b5 hn hs5 h0 h1 hin fun t S6 t1 t2 b6 p6 => ?_
        have g6 : S6[S3.length]? = some (.lst (ts.map Tm.d)) := p6.keep _ _ (by omega) g5
        have h6 : S6[S.length]? = some (.lst (l.map Fact.d)) := p6.keep _ _ (by omega) h5
        simp at ht
        refine atN_of g6 ⟨by rw [List.length_map]; omega, hK7 _ _ ⟨ts ++ [t], _, rfl, by rw [List.length_append, List.length_singleton]; omega, fun u hu => ?_, b6.setn (by omega) (by omega) _, (p5.trans p6).setn (by omega) _, ?_, ?_⟩⟩
        · rcases List.mem_append.mp hu with hu | hu
          · exact hto u hu
          · rw [List.mem_singleton.mp hu]; exact ⟨t1, t2⟩
        · rw [List.getElem?_set_ne (by omega)]; exact h6
        · rw [List.getElem?_set_self (List.getElem?_eq_some_iff.mp g6).1]; simp
    refine for_seq (rng1_of ?_)
    show tVal (wOp (fEq true) (wVar 5) (wC (.str "p"))) _ _ _ _
    have sl : SeqAt.shaped (.str lk) = true := by simp [SeqAt.shaped, PyData.canLay0, PyData.depth, words_ok lk hlk]
    refine t_eqC rfl (.str lk) (.str "p") sl (by decide +kernel) ?_
    rw [if_pos rfl]
    cases PyData.eqv (.str lk) (.str "p") with
    | true =>
      rw [if_pos rfl]
      exact ⟨by decide, body _ _ (by rw [rng_len]; decide) rfl⟩
    | false =>
      rw [if_neg Bool.false_ne_true]
      exact ⟨by decide, body _ _ (by rw [rng_len]; decide) rfl⟩
end
end Zz
set_option Elab.async false
set_option linter.all false
set_option maxRecDepth 100000
namespace Zz
open PySem PySem.Spec PyProof.Rows L2
/-- an expression does: post -/
def Ev (w : WE) (ρ : Rho) (S : Sto) (post : D → Sto → Prop) : Prop := ∀ (Q : QD) (E : QX), (∀ d S', post d S' → Q d S') → w ρ S Q E
def sixL : List Str := ["x", "y", "z", "w", "t", "s"]
theorem xy_six : ∀ s ∈ ((["x", "y"] : List Str)), s ∈ sixL := by decide +kernel
theorem six_names : ∀ s ∈ sixL, s ∈ namesL := by decide +kernel
section
variable {t : List Node}
theorem nd_lt {n : Node} {j : Nat} (h : j < t.length) : nd (t ++ [n]) j = nd t j := by
  unfold nd
  rw [List.getD_eq_getElem?_getD, List.getD_eq_getElem?_getD, List.getElem?_append_left h]
theorem nd_last {n : Node} : nd (t ++ [n]) t.length = n := by
  unfold nd
  rw [List.getD_eq_getElem?_getD]
  simp
theorem TreeOk.snoc (ht : TreeOk t) {p : Nat} (hp : p < t.length) {fs : List Fact} (hf : ∀ f ∈ fs, f.ok) (hl : fs.length ≤ 3) (hfew : t.length + 1 ≤ 6) (hh : ∀ s ∈ vnF fs, s ∈ vnF (nd t p).2 ∨ ∀ j, j < t.length → s ∉ vnF (nd t j).2) : TreeOk (t ++ [((p : Int), fs)]) := by
  have hpos := ht.root.1
  refine ⟨⟨by simp, by rw [nd_lt hpos]; exact ht.root.2⟩, fun i hi h0 => ?_, fun n hn => ?_, by rw [List.length_append]; exact hfew, fun i s hi h0 hs => ?_⟩
  · rw [List.length_append, List.length_singleton] at hi
    by_cases h : i < t.length
    · rw [nd_lt h]; exact ht.par i h h0
    · have : i = t.length := by omega
      subst this
      rw [nd_last]
      exact ⟨Int.natCast_nonneg p, by show (p : Int) < _; omega⟩
  · rcases List.mem_append.mp hn with hn | hn
    · exact ht.facts n hn
    · rw [List.mem_singleton.mp hn]; exact ⟨hf, hl⟩
  · rw [List.length_append, List.length_singleton] at hi
    by_cases h : i < t.length
    · rw [nd_lt h] at hs ⊢
      obtain ⟨u1, u2⟩ := ht.up_lt h h0
      have hu : (nd t i).1.toNat < t.length := by unfold up at u1; omega
      rw [nd_lt hu]
      rcases ht.hang i s h h0 hs with z | z
      · exact .inl z
      · exact .inr fun j hj => by rw [nd_lt (by omega)]; exact z j hj
    · have : i = t.length := by omega
      subst this
      rw [nd_last] at hs ⊢
      have e : ((p : Int)).toNat = p := by omega
      show s ∈ vnF (nd _ ((p : Int)).toNat).2 ∨ _
      rw [e, nd_lt hp]
      rcases hh s hs with z | z
      · exact .inl z
      · exact .inr fun j hj => by rw [nd_lt hj]; exact z j hj
/-- all names of a tree -/
def inT (ns : List Str) (t : List Node) : Prop := ∀ j, j < t.length → ∀ s ∈ vnF (nd t j).2, s ∈ ns
theorem inT.snoc {ns : List Str} (h : inT ns t) {n : Node} (hn : ∀ s ∈ vnF n.2, s ∈ ns) : inT ns (t ++ [n]) := fun j hj s hs => by
  rw [List.length_append, List.length_singleton] at hj
  by_cases h' : j < t.length
  · rw [nd_lt h'] at hs; exact h j h' s hs
  · have : j = t.length := by omega
    subst this
    rw [nd_last] at hs
    exact hn s hs
end
section
variable {ρ : Rho} {S : Sto} {Q : QD} {E : QX} {k : Kt}
theorem ix2_list {i n kk : Nat} {t : List Node} (hi : ρ[i]?.join = some (.ref n)) (hs : S[n]? = some (.lst (t.map Node.d))) (hk : kk < t.length) (h : Q (.tup ((nd t kk).2.map Fact.d)) S) : wOp fIx (wOp fIx (wVar i) (wC (.int (kk : Int)))) (wC (.int 1)) ρ S Q E := by
  simp only [wOp, wVar, wC, hi, oB_some, fIx, atSq, hs, ix_node hk, Node.d, atI1]
  exact h
theorem ix2_listV {i j n kk : Nat} {t : List Node} (hi : ρ[i]?.join = some (.ref n)) (hj : ρ[j]?.join = some (.int (kk : Int))) (hs : S[n]? = some (.lst (t.map Node.d))) (hk : kk < t.length) (h : Q (.tup ((nd t kk).2.map Fact.d)) S) : wOp fIx (wOp fIx (wVar i) (wVar j)) (wC (.int 1)) ρ S Q E := by
  simp only [wOp, wVar, wC, hi, hj, oB_some, fIx, atSq, hs, ix_node hk, Node.d, atI1]
  exact h
theorem notin_call {i : Nat} {γ : Ga} {w : WE} {d : D} {K : Bool → Sto → Prop} (hi : ρ[i]?.join = some d) (h : w ρ S (fun x S1 => γ [x] S1 (fun y S2 => fNotInA S2 d y (fun r S3 => match r with | .bl c => K c S3 | _ => False)) E) E) : tVal (wOp fNotInA (wVar i) (wCall γ (aCons w aNil))) ρ S K E := by
  simp only [tVal, wOp, wVar, hi, oB_some, wCall, aCons, aNil]
  exact h
/-- x not in the row of keys at n -/
theorem notin_ref {n : Nat} {x : Key} {ks : List Key} {K : Bool → Sto → Prop} (hs : S[n]? = some (.lst (ks.map kD))) (h1 : ∀ s, x = .inr s → PyData.strOk s = true) (h2 : ∀ s, Sum.inr s ∈ ks → PyData.strOk s = true) (h : K (!decide (x ∈ ks)) S) :
    fNotInA S (kD x) (.ref n) (fun r S3 => match r with | .bl c => K c S3 | _ => False) :=
  inA_ref hs (in_keys h1 h2 (by simp only [bz]; exact h))
theorem par_seq {i j : Nat} {w : WA} {r : WS} (h : w ρ S (fun ds S1 => match ds with | [a, b] => r k ((ρ.set i (some a)).set j (some b)) S1 | _ => False) (fun x S1 => k.ex x ρ S1)) : sSeq (sPar i j w) r k ρ S := h
theorem fsub {α : Type} {l : List α} {p : α → Bool} {x : α} (h : x ∈ l.filter p) : x ∈ l := (List.mem_filter.mp h).1
end
section
variable {tb : List MO} {k b m : Nat} {S : Sto}
theorem free_len {p : Str → Bool} (h : ∀ s, s ∈ (["z", "w", "t", "s"] : List Str) → p s = true) : 4 ≤ (sixL.filter p).length := by
  have e : sixL = (["x", "y"] : List Str) ++ (["z", "w", "t", "s"] : List Str) := rfl
  rw [e, List.filter_append, List.filter_eq_self.mpr h, List.length_append]
  show 4 ≤ _ + 4
  omega
theorem ltree_ok (hb : Bag b m S) : Ok (Gm tb (k + 5) 25) [.ref b, .int 3] S (fun d S' => ∃ t : List Node, d = .tup (t.map Node.d) ∧ TreeOk t ∧ t.length ≤ 3 ∧ inT sixL t ∧ Bag b m S' ∧ Pb b S S') := by
  intro q e hq
  have h300 : (300 : Nat) < sizeLine := by decide
  have hlt := hb.lt
  have hltm := hb.ltm
  have c17 : ∀ (S : Sto) (n : Int), Bag b m S → 0 < n → n < 1000 → Ok (Gm tb (k + 4) 17) [.ref b, .int n] S (fun d S' => ∃ r : Int, d = .int r ∧ 0 ≤ r ∧ r < n ∧ Bag b m S' ∧ Pb b S S') := fun S n h a c => take_ok (k := k + 3) h a c
  have c20 : ∀ (S : Sto) (x : D) (l : List Fact), SqAt S x (l.map Fact.d) → (∀ f ∈ l, f.ok) → l.length ≤ 100 → Ok (Gm tb (k + 4) 20) [x, .glo "_law_facts_key"] S (fun d S' => ∃ (m : Nat) (l' : List Fact), d = .ref m ∧ S'[m]? = some (.lst (l'.map Fact.d)) ∧ l'.Perm l ∧ Pf S S') := fun S x l h a c => by_ok (k := k + 1) h a c
  have c23 : ∀ (S : Sto) (nl : Nat) (ns : List Str) (most : Int), Bag b m S → nl ≠ b → S[nl]? = some (.lst (ns.map D.str)) → 0 < ns.length → ns.length < 1000 → (∀ s ∈ ns, s ∈ namesL) → 0 < most → most ≤ 2 →
      Ok (Gm tb (k + 4) 23) [.ref b, .ref nl, .int most] S (fun d S' => ∃ l : List Fact, d = .tup (l.map Fact.d) ∧ l.length ≤ 2 ∧ (∀ f ∈ l, f.ok ∧ inN ns f) ∧ Bag b m S' ∧ Pb b S S') := fun S nl ns most a c d e f g h i => facts_ok a c d e f g h i
  have c24 : ∀ (S : Sto) (l : List Fact), (∀ f ∈ l, f.ok) → l.length ≤ 100 → Ok (Gm tb (k + 4) 24) [.tup (l.map Fact.d)] S (fun d S' => ∃ m, d = .ref m ∧ S'[m]? = some (.lst ((srtN (vnF l)).map kD)) ∧ Pf S S') := fun S l a c => lvars_ok (k := k + 3) a c
  show bodyG 11 2 (b_law_tree (Gm tb (k + 4))) _ _ _ _
  generalize Gm tb (k + 4) = Γ at c17 c20 c23 c24 ⊢
  refine ⟨rfl, ?_⟩
  unfold b_law_tree
  refine asg_seq ?_
  refine ⟨by decide, by decide, by show (2 : Nat) ≤ sizeLine; decide, ?_⟩
  show oB (some _) _
  rw [oB_some]
  have e0 : (S ++ [MO.lst [D.str "x", D.str "y", D.str "z", D.str "w", D.str "t", D.str "s"]]).length = S.length + 1 := by simp
  generalize hS1 : (S ++ [MO.lst [D.str "x", D.str "y", D.str "z", D.str "w", D.str "t", D.str "s"]]) ++ [MO.lst []] = S1
  have b1 : Bag b m S1 := by rw [← hS1]; exact (hb.pf (Pf.app _ _)).pf (Pf.app _ _)
  have p1 : Pb b S S1 := by rw [← hS1]; exact (Pb.app b _ _).trans (Pb.app b _ _)
  have n1 : S1[S.length]? = some (.lst (sixL.map D.str)) := by rw [← hS1]; simp [sixL]
  have g1 : S1[S.length + 1]? = some (.lst (([] : List Node).map Node.d)) := by rw [← hS1]; simp
  have l1 : S1.length = S.length + 2 := by rw [← hS1]; simp
  rw [e0]
  -- the root
  have ev1 : Ev (wTup (aCons (wUn fNeg (wC (.int 1))) (aCons (wCall (Γ 23) (aCons (wVar 0) (aCons (wSl (wVar 4) (oNo) (oAt (wOp fAdd (wC (.int 1)) (wCall (Γ 17) (aCons (wVar 0) (aCons (wC (.int 2)) (aNil))))))) (aCons (wC (.int 1)) (aNil))))) (aNil))))
      [some (.ref b), some (.int 3), none, none, some (.ref S.length), some (.ref (S.length + 1)), none, none, none, none, none] S1 (fun d S2 => ∃ l : List Fact, d = Node.d (-1, l) ∧ l.length ≤ 2 ∧ (∀ f ∈ l, f.ok ∧ inN ["x", "y"] f) ∧ Bag b m S2 ∧ Pb b S1 S2) := by
    intro Q E hQ
    simp [bodyG, sSeq, sAsg, sDrop, sRet, sIf, sNext, wOp, wUn, wVar, wC, aNil, aCons, wFn, wTup, wLst, wIf, tVal, tAnd, tOr, tNot, wAnd, wOr, wNot, wCall, fA1, fIx, fIsiA, fIsi, typeD, kit_int_int, kit_int_str, kit_int_tuple, kit_int_bool, kit_str_int, kit_str_str, kit_str_tuple, kit_str_bool, kit_tuple_int, kit_tuple_str, kit_tuple_tuple, kit_tuple_bool, kit_bool_int, kit_bool_str, kit_bool_tuple, kit_bool_bool, kit_list_int, kit_list_str, kit_list_tuple, kit_list_bool, kit_dict_int, kit_dict_str, kit_dict_tuple, kit_dict_bool, atSq, atI0, atI1, endK, startR, Pat.go, Pat.gos, fI, fI0, fIB, wChain, oB_some, fNeg, wSl, oNo, oAt]
    refine c17 S1 2 b1 (by decide) (by decide) _ _ fun d S2 ⟨r, e1, r0, r1, b2, p2⟩ => ?_
    subst e1
    refine fAdd_int ?_
    have n2 : S2[S.length]? = some (.lst (sixL.map D.str)) := p2.keep _ _ (by omega) n1
    simp only [fSl, n2]
    rw [cut_map]
    have hcut : cutD sixL none (some (1 + r)) = (["x"] : List Str) ∨ cutD sixL none (some (1 + r)) = (["x", "y"] : List Str) := by
      have : r = 0 ∨ r = 1 := by omega
      rcases this with rfl | rfl
      · exact .inl (by decide +kernel)
      · exact .inr (by decide +kernel)
    have hb2 := b2.lt
    have hsub : ∀ s ∈ cutD sixL none (some (1 + r)), s ∈ (["x", "y"] : List Str) := by
      rcases hcut with h | h <;> rw [h] <;> simp
    refine c23 _ S2.length (cutD sixL none (some (1 + r))) 1 (b2.pf (Pf.app _ _)) (by omega) (by simp) (by rcases hcut with h | h <;> rw [h] <;> simp) (by rcases hcut with h | h <;> rw [h] <;> simp) (fun s hs => six_names s (xy_six s (hsub s hs))) (by decide) (by decide) _ _ fun d S3 ⟨l, e1, hl, ho, b3, p3⟩ => ?_
    subst e1
    exact ⟨by decide, hQ _ _ ⟨l, rfl, hl, fun f hf => ⟨(ho f hf).1, fun s hs => hsub s ((ho f hf).2 s hs)⟩, b3, p2.trans ((Pb.app b _ _).trans p3)⟩⟩
  refine drop_seq (mt_app (n := S.length + 1) rfl g1 (ev1 _ _ fun d S2 ⟨l, e1, hl, ho, b2, p2⟩ => ?_))
  subst e1
  have hb2 := b2.lt
  have hbm2 := b2.ltm
  have g2 : S2[S.length + 1]? = some (.lst (([] : List Node).map Node.d)) := p2.keep _ _ (by omega) g1
  refine atN_of g2 ⟨by show 0 < _; omega, ?_⟩
  generalize hS3 : S2.set (S.length + 1) (.lst (([] : List Node).map Node.d ++ [Node.d (-1, l)])) = S3
  have b3 : Bag b m S3 := by rw [← hS3]; exact b2.setn (by omega) (by omega) _
  have p3 : Pb b S S3 := by rw [← hS3]; exact (p1.trans p2).setn (by omega) _
  have n3 : S3[S.length]? = some (.lst (sixL.map D.str)) := by rw [← hS3, List.getElem?_set_ne (by omega)]; exact p2.keep _ _ (by omega) n1
  have g3 : S3[S.length + 1]? = some (.lst ([((-1 : Int), l)].map Node.d)) := by rw [← hS3, List.getElem?_set_self (List.getElem?_eq_some_iff.mp g2).1]; rfl
  have hlo : ∀ f ∈ l, f.ok := fun f hf => (ho f hf).1
  have hlv : ∀ s ∈ vnF l, s ∈ (["x", "y"] : List Str) := vnF_in fun f hf => (ho f hf).2
  have t0 : TreeOk [((-1 : Int), l)] := ⟨⟨by simp, rfl⟩, fun i hi h0 => by simp at hi; omega, fun n hn => by rw [List.mem_singleton.mp hn]; exact ⟨hlo, by show l.length ≤ 3; omega⟩, by simp, fun i s hi h0 => by simp at hi; omega⟩
  have i0 : inT sixL [((-1 : Int), l)] := fun j hj s hs => by
    have : j = 0 := by simp at hj; omega
    subst this
    exact xy_six s (hlv s hs)
  have hw := vnF_names hlo
  have hkeys : ∀ s, Sum.inr s ∈ srtN (vnF l) → PyData.strOk s = true := names_str (uq_words hw)
  refine asg_seq (comp_of (n := S.length) rfl n3 ?_)
  refine comp_map S3 D.str (fun s => !decide ((Sum.inr s : Key) ∈ srtN (vnF l))) D.str sixL (by decide) (fun S' p => p _ _ n3) (fun s hs => ⟨_, rfl, fun S4 K p4 hK => ?_, fun _ S4 K _ hK => ?_⟩) fun S4 p4 f4 => ?_
  · refine notin_call (d := .str s) rfl (ix2_list (n := S.length + 1) (kk := 0) (t := [((-1 : Int), l)]) rfl (p4 _ _ g3) (by simp) ?_)
    refine c24 S4 l hlo (by omega) _ _ fun d S5 ⟨n5, e5, h5, p5⟩ => ?_
    subst e5
    exact notin_ref (x := .inr s) h5 (fun s' e => by cases e; exact words_ok s (List.mem_append_left _ (six_names s hs))) hkeys (hK S5 p5)
  · simp [bodyG, sSeq, sAsg, sDrop, sRet, sIf, sNext, wOp, wUn, wVar, wC, aNil, aCons, wFn, wTup, wLst, wIf, tVal, tAnd, tOr, tNot, wAnd, wOr, wNot, wCall, fA1, fIx, fIsiA, fIsi, typeD, kit_int_int, kit_int_str, kit_int_tuple, kit_int_bool, kit_str_int, kit_str_str, kit_str_tuple, kit_str_bool, kit_tuple_int, kit_tuple_str, kit_tuple_tuple, kit_tuple_bool, kit_bool_int, kit_bool_str, kit_bool_tuple, kit_bool_bool, kit_list_int, kit_list_str, kit_list_tuple, kit_list_bool, kit_dict_int, kit_dict_str, kit_dict_tuple, kit_dict_bool, atSq, atI0, atI1, endK, startR, Pat.go, Pat.gos, fI, fI0, fIB, wChain, oB_some, wipeR]; exact hK S4 (.refl _)
  show oB (some _) _
  rw [oB_some]
  have hfree : ∀ s ∈ sixL.filter (fun s => !decide ((Sum.inr s : Key) ∈ srtN (vnF l))), s ∈ sixL ∧ ∀ j, j < [((-1 : Int), l)].length → s ∉ vnF (nd [((-1 : Int), l)] j).2 := fun s hs => by
    obtain ⟨h1, h2⟩ := List.mem_filter.mp hs
    refine ⟨h1, fun j hj hm => ?_⟩
    have : j = 0 := by simp at hj; omega
    subst this
    have : (Sum.inr s : Key) ∈ srtN (vnF l) := mem_srtN.mpr ⟨s, hm, rfl⟩
    simp [this] at h2
  have hfl : 4 ≤ (sixL.filter (fun s => !decide ((Sum.inr s : Key) ∈ srtN (vnF l)))).length := free_len fun s hs => by
    have : ¬ (Sum.inr s : Key) ∈ srtN (vnF l) := fun hm => by
      obtain ⟨s', h1, h2⟩ := mem_srtN.mp hm
      cases h2
      have h3 := hlv s h1
      simp only [List.mem_cons, List.not_mem_nil, or_false] at hs h3
      rcases hs with rfl | rfl | rfl | rfl <;> rcases h3 with h | h <;> exact absurd h (by decide)
    simp [this]
  have hnd : (sixL.filter (fun s => !decide ((Sum.inr s : Key) ∈ srtN (vnF l)))).Nodup := List.Pairwise.filter _ (show sixL.Nodup by decide)
  generalize hfr : sixL.filter (fun s => !decide ((Sum.inr s : Key) ∈ srtN (vnF l))) = free at f4 hfree hfl hnd
  have b4 := b3.pf p4
  refine for_seq (rng1_of (call2 (d := .ref b) (e := .int 3) rfl rfl ?_))
  refine c17 S4 3 b4 (by decide) (by decide) _ _ fun d S5 ⟨r, e1, r0, r1, b5, p5⟩ => ?_
  subst e1
  refine ⟨by omega, ?_⟩
  have q5 : Pb b S S5 := p3.trans ((p4.pb b).trans p5)
  have hl3 : S.length + 1 < S3.length := (List.getElem?_eq_some_iff.mp g3).1
  refine forL_do (fun ds ρ S6 => ∃ (t : List Node) (fre : List Str) (fr : Nat) (y3 y6 y7 y8 y9 y10 : Option D), ρ = [some (.ref b), some (.int 3), some (.ref fr), y3, some (.ref S.length), some (.ref (S.length + 1)), y6, y7, y8, y9, y10] ∧ TreeOk t ∧ inT sixL t ∧ t.length + ds.length ≤ 3 ∧ S6[S.length + 1]? = some (.lst (t.map Node.d)) ∧
    S6[fr]? = some (.lst (fre.map D.str)) ∧ fr ≠ b ∧ fr ≠ S.length + 1 ∧ (∀ s ∈ fre, s ∈ sixL ∧ ∀ j, j < t.length → s ∉ vnF (nd t j).2) ∧ fre.Nodup ∧ ds.length < fre.length ∧ Bag b m S6 ∧ Pb b S S6) ?_ ?_ _ _ _
    ⟨[((-1 : Int), l)], free, S3.length, none, none, none, none, none, none, rfl, t0, i0, by rw [rng_len]; show 1 + _ ≤ 3; omega, p5.keep _ _ (by omega) (p4 _ _ g3), p5.keep _ _ (by have := b3.lt; omega) f4, by have := b3.lt; omega, by omega, hfree, hnd, by rw [rng_len]; omega, b5, q5⟩
  · rintro ρ S6 ⟨t, fre, fr, y3, y6, y7, y8, y9, y10, rfl, ht, hi, hl, g6, f6, h1, h2, hf, hn, hd, b6, p6⟩
    refine ⟨True.intro, ?_⟩
    dsimp only
    simp [bodyG, sSeq, sAsg, sDrop, sRet, sIf, sNext, wOp, wUn, wVar, wC, aNil, aCons, wFn, wTup, wLst, wIf, tVal, tAnd, tOr, tNot, wAnd, wOr, wNot, wCall, fA1, fIx, fIsiA, fIsi, typeD, kit_int_int, kit_int_str, kit_int_tuple, kit_int_bool, kit_str_int, kit_str_str, kit_str_tuple, kit_str_bool, kit_tuple_int, kit_tuple_str, kit_tuple_tuple, kit_tuple_bool, kit_bool_int, kit_bool_str, kit_bool_tuple, kit_bool_bool, kit_list_int, kit_list_str, kit_list_tuple, kit_list_bool, kit_dict_int, kit_dict_str, kit_dict_tuple, kit_dict_bool, atSq, atI0, atI1, endK, startR, Pat.go, Pat.gos, fI, fI0, fIB, wChain, oB_some, fTuple, atSq, g6]
    exact hq _ _ ⟨t, rfl, ht, by simpa using hl, hi, b6, p6⟩
  · rintro d ds ρ S6 ⟨t, fre, fr, y3, y6, y7, y8, y9, y10, rfl, ht, hi, hl, g6, f6, h1, h2, hf, hn, hd, b6, p6⟩
    refine ⟨True.intro, _, rfl, fun K hK => ?_⟩
    simp only [List.length_cons] at hl hd
    obtain ⟨own, rest, rfl⟩ : ∃ own rest, fre = own :: rest := by
      cases fre with
      | nil => simp at hd
      | cons a r => exact ⟨a, r, rfl⟩
    have hpos := ht.root.1
    have hown := hf own List.mem_cons_self
    have hown6 := six_names own hown.1
    have hb6 := b6.lt
    have hbm6 := b6.ltm
    have hg6 := (List.getElem?_eq_some_iff.mp g6).1
    -- the parent
    have ev1 : Ev (wCall (Γ 17) (aCons (wVar 0) (aCons (wFn (fA1 fLen) (aCons (wVar 5) (aNil))) (aNil)))) [some (.ref b), some (.int 3), some (.ref fr), some d, some (.ref S.length), some (.ref (S.length + 1)), y6, y7, y8, y9, y10] S6
        (fun d S7 => ∃ p : Nat, d = .int (p : Int) ∧ p < t.length ∧ Bag b m S7 ∧ Pb b S6 S7) := by
      intro Q E hQ
      simp [bodyG, sSeq, sAsg, sDrop, sRet, sIf, sNext, wOp, wUn, wVar, wC, aNil, aCons, wFn, wTup, wLst, wIf, tVal, tAnd, tOr, tNot, wAnd, wOr, wNot, wCall, fA1, fIx, fIsiA, fIsi, typeD, kit_int_int, kit_int_str, kit_int_tuple, kit_int_bool, kit_str_int, kit_str_str, kit_str_tuple, kit_str_bool, kit_tuple_int, kit_tuple_str, kit_tuple_tuple, kit_tuple_bool, kit_bool_int, kit_bool_str, kit_bool_tuple, kit_bool_bool, kit_list_int, kit_list_str, kit_list_tuple, kit_list_bool, kit_dict_int, kit_dict_str, kit_dict_tuple, kit_dict_bool, atSq, atI0, atI1, endK, startR, Pat.go, Pat.gos, fI, fI0, fIB, wChain, oB_some, fLen, g6]
      refine c17 S6 (t.length : Int) b6 (by omega) (by omega) _ _ fun d S7 ⟨r, e1, r0, r1, b7, p7⟩ => ?_
      subst e1
      exact hQ _ _ ⟨r.toNat, by congr 1; omega, by omega, b7, p7⟩
    refine asg_seq (ev1 _ _ fun d S7 ⟨p, e1, hp, b7, p7⟩ => ?_)
    subst e1
    show oB (some _) _
    rw [oB_some]
    have g7 : S7[S.length + 1]? = some (.lst (t.map Node.d)) := p7.keep _ _ (by omega) g6
    have f7 : S7[fr]? = some (.lst ((own :: rest).map D.str)) := p7.keep _ _ h1 f6
    have hpl : (nd t p).2.length ≤ 100 := ht.ffew hp
    -- own, old
    have ev2 : ∀ (Q : List D → Sto → Prop) (E : QX), (∀ n7 S8, S8[n7]? = some (.lst ((vs t p).map kD)) → Pf S7 S8 → Q [.str own, .ref n7] S8) →
        (aCons (wOp fIx (wVar 2) (wC (.int 0))) (aCons (wCall (Γ 24) (aCons (wOp fIx (wOp fIx (wVar 5) (wVar 6)) (wC (.int 1))) (aNil))) (aNil))) [some (.ref b), some (.int 3), some (.ref fr), some d, some (.ref S.length), some (.ref (S.length + 1)), some (.int (p : Int)), y7, y8, y9, y10] S7 Q E := by
      intro Q E hQ
      rw [List.map_cons] at f7
      simp [bodyG, sSeq, sAsg, sDrop, sRet, sIf, sNext, wOp, wUn, wVar, wC, aNil, aCons, wFn, wTup, wLst, wIf, tVal, tAnd, tOr, tNot, wAnd, wOr, wNot, wCall, fA1, fIx, fIsiA, fIsi, typeD, kit_int_int, kit_int_str, kit_int_tuple, kit_int_bool, kit_str_int, kit_str_str, kit_str_tuple, kit_str_bool, kit_tuple_int, kit_tuple_str, kit_tuple_tuple, kit_tuple_bool, kit_bool_int, kit_bool_str, kit_bool_tuple, kit_bool_bool, kit_list_int, kit_list_str, kit_list_tuple, kit_list_bool, kit_dict_int, kit_dict_str, kit_dict_tuple, kit_dict_bool, atSq, atI0, atI1, endK, startR, Pat.go, Pat.gos, fI, fI0, fIB, wChain, oB_some, fIx, f7, g7, ix_node hp, Node.d, atI0, atI1]
      refine c24 S7 _ (ht.fok hp) hpl _ _ fun d S8 ⟨n8, e1, h8, p8⟩ => ?_
      subst e1
      exact hQ n8 S8 h8 p8
    refine par_seq (ev2 _ _ fun n7 S8 h8 p8 => ?_)
    dsimp only
    have g8 := p8 _ _ g7
    have f8 := p8 _ _ f7
    have b8 := b7.pf p8
    -- the rest of the free ones
    have ev3 : Ev (wSl (wVar 2) (oAt (wC (.int 1))) (oNo)) [some (.ref b), some (.int 3), some (.ref fr), some d, some (.ref S.length), some (.ref (S.length + 1)), some (.int (p : Int)), y7, y8, some (.str own), some (.ref n7)] S8
        (fun d S9 => d = .ref S8.length ∧ S9 = S8 ++ [.lst (rest.map D.str)]) := by
      intro Q E hQ
      simp only [wSl, wVar, oAt, oNo, wC]
      show oB (some _) _
      rw [oB_some]
      simp only [fSl, f8]
      rw [cut_map, cut1]
      exact hQ _ _ ⟨rfl, rfl⟩
    refine asg_seq (ev3 _ _ fun d9 S9 ⟨e1, e2⟩ => ?_)
    subst e1
    show oB (some _) _
    rw [oB_some]
    have p9 : Pf S8 S9 := by rw [e2]; exact Pf.app _ _
    have g9 := p9 _ _ g8
    have h9 := p9 _ _ h8
    have f9 : S9[S8.length]? = some (.lst (rest.map D.str)) := by rw [e2]; simp
    have b9 := b8.pf p9
    have hl8 : S.length + 1 < S8.length := (List.getElem?_eq_some_iff.mp g8).1
    have hb8 := b8.lt
    have hbm8 := b8.ltm
    -- the facts
    have ev4 : Ev (wCall (Γ 23) (aCons (wVar 0) (aCons (wOp fAdd (wLst (aCons (wVar 9) (aNil))) (wIf (tVal (wOp (fEq false) (wVar 10) (wLst (aNil)))) (wSl (wVar 10) (oNo) (oAt (wC (.int 1)))) (wLst (aCons (wVar 9) (aNil))))) (aCons (wC (.int 1)) (aNil)))))
        [some (.ref b), some (.int 3), some (.ref S8.length), some d, some (.ref S.length), some (.ref (S.length + 1)), some (.int (p : Int)), y7, y8, some (.str own), some (.ref n7)] S9
        (fun d S10 => ∃ (l : List Fact) (o : Str), d = .tup (l.map Fact.d) ∧ l.length ≤ 2 ∧ (o = own ∨ o ∈ vnF (nd t p).2) ∧ (∀ f ∈ l, f.ok ∧ inN [own, o] f) ∧ Bag b m S10 ∧ Pb b S9 S10) := by
      intro Q E hQ
      have h1l : (1 : Nat) ≤ sizeLine := by decide
      simp [bodyG, sSeq, sAsg, sDrop, sRet, sIf, sNext, wOp, wUn, wVar, wC, aNil, aCons, wFn, wTup, wLst, wIf, tVal, tAnd, tOr, tNot, wAnd, wOr, wNot, wCall, fA1, fIx, fIsiA, fIsi, typeD, kit_int_int, kit_int_str, kit_int_tuple, kit_int_bool, kit_str_int, kit_str_str, kit_str_tuple, kit_str_bool, kit_tuple_int, kit_tuple_str, kit_tuple_tuple, kit_tuple_bool, kit_bool_int, kit_bool_str, kit_bool_tuple, kit_bool_bool, kit_list_int, kit_list_str, kit_list_tuple, kit_list_bool, kit_dict_int, kit_dict_str, kit_dict_tuple, kit_dict_bool, atSq, atI0, atI1, endK, startR, Pat.go, Pat.gos, fI, fI0, fIB, wChain, oB_some, h1l, fEq]
      have k9 := (Pf.app S9 [MO.lst [D.str own], MO.lst []]) _ _ h9
      refine ⟨_, .lst k9 (sns_keys _ _), _, .lst (xs := []) (by simp) .nil, keysL_shaped (names_str (ht.names hp)), shaped_nil, ?_⟩
      rw [eqv_nilL]
      have fin : ∀ (o : Str) (n : Nat) (S10 : Sto), o ∈ namesL → (o = own ∨ o ∈ vnF (nd t p).2) → Pf S9 S10 → S10[S9.length]? = some (.lst [D.str own]) → S10[n]? = some (.lst [D.str o]) → fAdd S10 (.ref S9.length) (.ref n) (fun d S1 => Γ 23 [D.ref b, d, D.int 1] S1 Q E) := by
        intro o n S10 ho1 ho2 p10 x1 x2
        refine .inr (.inr (.inr ?_))
        simp only [fAddL, atL, x1, x2]
        refine ⟨by show 2 ≤ sizeLine; decide, ?_⟩
        have b10 := b9.pf p10
        refine c23 (S10 ++ [.lst [D.str own, D.str o]]) S10.length [own, o] 1 (b10.pf (Pf.app _ _)) (by have := b10.lt; omega) (by simp) (by simp) (by simp) (fun s hs => ?_) (by decide) (by decide) _ _ fun d S11 ⟨l, e1, hl, hlo', b11, p11⟩ => ?_
        · simp only [List.mem_cons, List.not_mem_nil, or_false] at hs
          rcases hs with rfl | rfl
          · exact hown6
          · exact ho1
        · exact hQ _ _ ⟨l, o, e1, hl, ho2, hlo', b11, (p10.pb b).trans ((Pb.app b _ _).trans p11)⟩
      cases hk : vs t p with
      | nil =>
        simp
        refine fin own _ _ hown6 (.inl rfl) (Pf.app _ _) (by simp) (by simp)
      | cons x ks =>
        simp
        obtain ⟨s, rfl, hs⟩ := ht.names hp x (by rw [hk]; simp)
        have hs2 : s ∈ vnF (nd t p).2 := by
          obtain ⟨s', h1, h2⟩ := mem_srtN.mp (show (Sum.inr s : Key) ∈ srtN (vnF (nd t p).2) by show _ ∈ vs t p; rw [hk]; simp)
          cases h2
          exact h1
        rw [hk] at k9
        simp only [wSl, wVar, oAt, oNo, wC]
        show oB (some _) _
        rw [oB_some]
        simp only [fSl, k9]
        have hc : cutD ((Sum.inr s :: ks).map kD) none (some 1) = [D.str s] := by
          unfold cutD HT.sIx
          simp [kD]
        rw [hc]
        refine fin s _ _ hs (.inr hs2) ((Pf.app S9 [MO.lst [D.str own], MO.lst []]).trans (Pf.app _ _)) ?_ ?_
        · simp
        · simp
    refine asg_seq (ev4 _ _ fun d10 S10 ⟨l, o, e1, hl10, ho, hlo', b10, p10⟩ => ?_)
    subst e1
    show oB (some _) _
    rw [oB_some]
    have g10 : S10[S.length + 1]? = some (.lst (t.map Node.d)) := p10.keep _ _ (by omega) g9
    have f10 : S10[S8.length]? = some (.lst (rest.map D.str)) := p10.keep _ _ (by omega) f9
    have q10 : Pb b S S10 := p6.trans (p7.trans ((p8.pb b).trans ((p9.pb b).trans p10)))
    have fin2 : ∀ (l2 : List Fact) (S12 : Sto) (y : Option D), (∀ f ∈ l2, f.ok ∧ inN [own, o] f) → l2.length ≤ 3 → Pf S10 S12 →
        wMt isLst fApp (wVar 5) (aCons (wTup (aCons (wVar 6) (aCons (wVar 7) (aNil)))) (aNil)) [some (.ref b), some (.int 3), some (.ref S8.length), some d, some (.ref S.length), some (.ref (S.length + 1)), some (.int (p : Int)), some (.tup (l2.map Fact.d)), y, some (.str own), some (.ref n7)] S12
          (fun _ S1 => K [some (.ref b), some (.int 3), some (.ref S8.length), some d, some (.ref S.length), some (.ref (S.length + 1)), some (.int (p : Int)), some (.tup (l2.map Fact.d)), y, some (.str own), some (.ref n7)] S1) (fun x S1 => e x S1) := by
      intro l2 S12 y hl2 hlen p12
      have g12 := p12 _ _ g10
      have f12 := p12 _ _ f10
      have b12 := b10.pf p12
      have hb12 := b12.lt
      have hbm12 := b12.ltm
      refine mt_app rfl g12 ?_
      have h2l : (2 : Nat) ≤ sizeLine := by decide
      simp [bodyG, sSeq, sAsg, sDrop, sRet, sIf, sNext, wOp, wUn, wVar, wC, aNil, aCons, wFn, wTup, wLst, wIf, tVal, tAnd, tOr, tNot, wAnd, wOr, wNot, wCall, fA1, fIx, fIsiA, fIsi, typeD, kit_int_int, kit_int_str, kit_int_tuple, kit_int_bool, kit_str_int, kit_str_str, kit_str_tuple, kit_str_bool, kit_tuple_int, kit_tuple_str, kit_tuple_tuple, kit_tuple_bool, kit_bool_int, kit_bool_str, kit_bool_tuple, kit_bool_bool, kit_list_int, kit_list_str, kit_list_tuple, kit_list_bool, kit_dict_int, kit_dict_str, kit_dict_tuple, kit_dict_bool, atSq, atI0, atI1, endK, startR, Pat.go, Pat.gos, fI, fI0, fIB, wChain, oB_some, h2l]
      have hv2 : ∀ s ∈ vnF l2, s ∈ ([own, o] : List Str) := vnF_in fun f hf => (hl2 f hf).2
      have hsix : ∀ s ∈ vnF l2, s ∈ sixL := fun s hs => by
        have h := hv2 s hs
        simp only [List.mem_cons, List.not_mem_nil, or_false] at h
        rcases h with rfl | rfl
        · exact hown.1
        · rcases ho with z | z
          · rw [z]; exact hown.1
          · exact hi p hp _ z
      refine atN_of g12 ⟨by rw [List.length_map]; omega, hK _ _ ⟨t ++ [((p : Int), l2)], rest, S8.length, _, _, _, _, _, _, rfl, ht.snoc hp (fun f hf => (hl2 f hf).1) hlen (by omega) (fun s hs => ?_), hi.snoc hsix, by rw [List.length_append, List.length_singleton]; omega, ?_, ?_, by omega, by omega, fun s hs => ⟨(hf s (List.mem_cons_of_mem _ hs)).1, fun j hj hm => ?_⟩, (List.nodup_cons.mp hn).2, by simp only [List.length_cons] at hd; omega, b12.setn (by omega) (by omega) _, (q10.trans (p12.pb b)).setn (by omega) _⟩⟩
      · have h := hv2 s hs
        simp only [List.mem_cons, List.not_mem_nil, or_false] at h
        rcases h with rfl | rfl
        · exact .inr hown.2
        · rcases ho with z | z
          · rw [z]; exact .inr hown.2
          · exact .inl z
      · rw [List.getElem?_set_self (List.getElem?_eq_some_iff.mp g12).1]; simp [Node.d]
      · rw [List.getElem?_set_ne (by omega)]; exact f12
      · rw [List.length_append, List.length_singleton] at hj
        by_cases h' : j < t.length
        · rw [nd_lt h'] at hm
          exact (hf s (List.mem_cons_of_mem _ hs)).2 j h' hm
        · have : j = t.length := by omega
          subst this
          rw [nd_last] at hm
          have h := hv2 s hm
          have hne : s ≠ own := fun z => (List.nodup_cons.mp hn).1 (z ▸ hs)
          simp only [List.mem_cons, List.not_mem_nil, or_false] at h
          rcases h with z | z
          · exact hne z
          · rcases ho with w | w
            · exact hne (z.trans w)
            · rw [← z] at w
              exact (hf s (List.mem_cons_of_mem _ hs)).2 p hp w
    have hl10ok : ∀ f ∈ l, f.ok := fun f hf => (hlo' f hf).1
    refine if_seq (notin_call (d := .str own) rfl (var_of (d := .tup (l.map Fact.d)) rfl ?_))
    refine c24 S10 l hl10ok (by omega) _ _ fun d11 S11 ⟨n11, e1, h11, p11⟩ => ?_
    subst e1
    refine notin_ref (x := .inr own) h11 (fun s' e => by cases e; exact words_ok own (List.mem_append_left _ hown6)) (names_str (uq_words (vnF_names hl10ok))) ?_
    cases hc : (!decide ((Sum.inr own : Key) ∈ srtN (vnF l))) with
    | false =>
      rw [if_neg Bool.false_ne_true]
      exact fin2 l S11 _ hlo' (by omega) p11
    | true =>
      rw [if_pos rfl]
      have hnew : ∀ f ∈ l ++ [(("q", [Tm.vr own]) : Fact)], f.ok ∧ inN [own, o] f := fun f hf => by
        rcases List.mem_append.mp hf with h | h
        · exact hlo' f h
        · rw [List.mem_singleton.mp h]
          refine ⟨⟨by show ("q" : Str) ∈ wordsL; decide +kernel, by show (1 : Nat) ≤ 3; decide, fun t ht => by rw [List.mem_singleton.mp ht]; exact hown6⟩, fun s hs => ?_⟩
          have := mem_vnT.mp hs
          simp at this
          rw [this]; simp
      have ev5 : Ev (wFn (fA1 fTuple) (aCons (wCall (Γ 20) (aCons (wOp fAdd (wVar 7) (wTup (aCons (wTup (aCons (wC (.str "q")) (aCons (wTup (aCons (wTup (aCons (wC (.str "var")) (aCons (wVar 9) (aNil)))) (aNil))) (aNil)))) (aNil)))) (aCons (wC (.glo "_law_facts_key")) (aNil)))) (aNil)))
          [some (.ref b), some (.int 3), some (.ref S8.length), some d, some (.ref S.length), some (.ref (S.length + 1)), some (.int (p : Int)), some (.tup (l.map Fact.d)), y8, some (.str own), some (.ref n7)] S11
          (fun d S12 => ∃ l2 : List Fact, d = .tup (l2.map Fact.d) ∧ l2.Perm (l ++ [(("q", [Tm.vr own]) : Fact)]) ∧ Pf S11 S12) := by
        intro Q E hQ
        have h1l : (1 : Nat) ≤ sizeLine := by decide
        have h2l : (2 : Nat) ≤ sizeLine := by decide
        simp [bodyG, sSeq, sAsg, sDrop, sRet, sIf, sNext, wOp, wUn, wVar, wC, aNil, aCons, wFn, wTup, wLst, wIf, tVal, tAnd, tOr, tNot, wAnd, wOr, wNot, wCall, fA1, fIx, fIsiA, fIsi, typeD, kit_int_int, kit_int_str, kit_int_tuple, kit_int_bool, kit_str_int, kit_str_str, kit_str_tuple, kit_str_bool, kit_tuple_int, kit_tuple_str, kit_tuple_tuple, kit_tuple_bool, kit_bool_int, kit_bool_str, kit_bool_tuple, kit_bool_bool, kit_list_int, kit_list_str, kit_list_tuple, kit_list_bool, kit_dict_int, kit_dict_str, kit_dict_tuple, kit_dict_bool, atSq, atI0, atI1, endK, startR, Pat.go, Pat.gos, fI, fI0, fIB, wChain, oB_some, h1l, h2l]
        refine .inr (.inr (.inl ⟨by rw [List.length_map]; show l.length + 1 ≤ _; omega, ?_⟩))
        refine c20 S11 _ (l ++ [(("q", [Tm.vr own]) : Fact)]) (.inl (by simp [Fact.d, Tm.d])) (fun f hf => (hnew f hf).1) (by simp; omega) _ _ fun d12 S12 ⟨n12, l2, e1, h12, pm, p12⟩ => ?_
        subst e1
        simp [fTuple, atSq, h12]
        exact hQ _ _ ⟨l2, rfl, pm, p12⟩
      refine ev5 _ _ fun d12 S12 ⟨l2, e1, pm, p12⟩ => ?_
      subst e1
      show oB (some _) _
      rw [oB_some]
      exact fin2 l2 S12 _ (fun f hf => hnew f (pm.mem_iff.mp hf)) (by rw [pm.length_eq]; simp; omega) (p11.trans p12)
end
end Zz
set_option Elab.async false
set_option linter.all false
set_option maxRecDepth 100000
namespace Zz
open PySem PySem.Spec PyProof.Rows L2
section
variable {ρ : Rho} {S : Sto} {Q : QD} {E : QX} {k : Kt}
theorem t_eq_call {γ : Ga} {i : Nat} {d c z : D} {K : Bool → Sto → Prop} (hi : ρ[i]?.join = some d) (h : γ [d, c] S (fun x S1 => fEq true S1 x z (fun r S3 => match r with | .bl c => K c S3 | _ => False)) E) : tVal (wOp (fEq true) (wCall γ (aCons (wVar i) (aCons (wC c) aNil))) (wC z)) ρ S K E := by
  simp only [tVal, wOp, wVar, wC, hi, oB_some, wCall, aCons, aNil]
  exact h
theorem tupV {i j : Nat} {d e : D} (hi : ρ[i]?.join = some d) (hj : ρ[j]?.join = some e) (h : Q (.tup [d, e]) S) : wTup (aCons (wVar i) (aCons (wVar j) aNil)) ρ S Q E := by
  simp only [wTup, aCons, aNil, wVar, hi, hj, oB_some]
  exact ⟨by show (2 : Nat) ≤ sizeLine; decide, h⟩
theorem if_end {t : WT} {a b : WS} (h : t ρ S (fun c S1 => if c = true then a k ρ S1 else b k ρ S1) (fun x S1 => k.ex x ρ S1)) : sIf t a b k ρ S := h
theorem eq_int {i j : Int} {bb : Bool} {K : Bool → Sto → Prop} (h : K (if bb then decide (i = j) else !decide (i = j)) S) : fEq bb S (.int i) (.int j) (fun r S3 => match r with | .bl c => K c S3 | _ => False) := by
  refine ⟨_, _, .int i, .int j, shaped_int _, shaped_int _, ?_⟩
  have e : PyData.eqv (.int i) (.int j) = decide (i = j) := by
    rw [Bool.eq_iff_iff, decide_eq_true_eq]
    simp [PyData.eqv]
  rw [e]
  exact h
end
section
variable {tb : List MO} {k b m : Nat} {S : Sto}
theorem atree_ok (hb : Bag b m S) : Ok (Gm tb (k + 6) 26) [.ref b] S (fun d S' => ∃ t : List Node, d = .tup (t.map Node.d) ∧ TreeOk t ∧ Bag b m S' ∧ Pb b S S') := by
  intro q e hq
  have h300 : (300 : Nat) < sizeLine := by decide
  have c17 : ∀ (S : Sto) (n : Int), Bag b m S → 0 < n → n < 1000 → Ok (Gm tb (k + 5) 17) [.ref b, .int n] S (fun d S' => ∃ r : Int, d = .int r ∧ 0 ≤ r ∧ r < n ∧ Bag b m S' ∧ Pb b S S') := fun S n h a c => take_ok (k := k + 4) h a c
  have c23 : ∀ (S : Sto) (nl : Nat) (ns : List Str) (most : Int), Bag b m S → nl ≠ b → S[nl]? = some (.lst (ns.map D.str)) → 0 < ns.length → ns.length < 1000 → (∀ s ∈ ns, s ∈ namesL) → 0 < most → most ≤ 2 →
      Ok (Gm tb (k + 5) 23) [.ref b, .ref nl, .int most] S (fun d S' => ∃ l : List Fact, d = .tup (l.map Fact.d) ∧ l.length ≤ 2 ∧ (∀ f ∈ l, f.ok ∧ inN ns f) ∧ Bag b m S' ∧ Pb b S S') := fun S nl ns most a c d e f g h i => facts_ok (k := k + 1) a c d e f g h i
  have c24 : ∀ (S : Sto) (l : List Fact), (∀ f ∈ l, f.ok) → l.length ≤ 100 → Ok (Gm tb (k + 5) 24) [.tup (l.map Fact.d)] S (fun d S' => ∃ m, d = .ref m ∧ S'[m]? = some (.lst ((srtN (vnF l)).map kD)) ∧ Pf S S') := fun S l a c => lvars_ok (k := k + 4) a c
  have c25 : Ok (Gm tb (k + 5) 25) [.ref b, .int 3] S (fun d S' => ∃ t : List Node, d = .tup (t.map Node.d) ∧ TreeOk t ∧ t.length ≤ 3 ∧ inT sixL t ∧ Bag b m S' ∧ Pb b S S') := ltree_ok hb
  show bodyG 5 1 (b_law_any_tree (Gm tb (k + 5))) _ _ _ _
  generalize Gm tb (k + 5) = Γ at c17 c23 c24 c25 ⊢
  refine ⟨rfl, ?_⟩
  unfold b_law_any_tree
  have hlt := hb.lt
  have ev1 : Ev (wFn (fA1 fList) (aCons (wCall (Γ 25) (aCons (wVar 0) (aCons (wC (.int 3)) (aNil)))) (aNil))) [some (.ref b), none, none, none, none] S (fun d S' => ∃ (t : List Node) (n : Nat), d = .ref n ∧ S.length ≤ n ∧ S'[n]? = some (.lst (t.map Node.d)) ∧ TreeOk t ∧ t.length ≤ 3 ∧ inT sixL t ∧ Bag b m S' ∧ Pb b S S') := by
    intro Q E hQ
    simp [bodyG, sSeq, sAsg, sDrop, sRet, sIf, sNext, wOp, wUn, wVar, wC, aNil, aCons, wFn, wTup, wLst, wIf, tVal, tAnd, tOr, tNot, wAnd, wOr, wNot, wCall, fA1, fIx, fIsiA, fIsi, typeD, kit_int_int, kit_int_str, kit_int_tuple, kit_int_bool, kit_str_int, kit_str_str, kit_str_tuple, kit_str_bool, kit_tuple_int, kit_tuple_str, kit_tuple_tuple, kit_tuple_bool, kit_bool_int, kit_bool_str, kit_bool_tuple, kit_bool_bool, kit_list_int, kit_list_str, kit_list_tuple, kit_list_bool, kit_dict_int, kit_dict_str, kit_dict_tuple, kit_dict_bool, atSq, atI0, atI1, endK, startR, Pat.go, Pat.gos, fI, fI0, fIB, wChain, oB_some]
    refine c25 _ _ fun d S1 ⟨t, e1, ht, hl, hi, b1, p1⟩ => ?_
    subst e1
    simp [fList]
    exact hQ _ _ ⟨t, S1.length, rfl, p1.len, by simp, ht, hl, hi, b1.pf (Pf.app _ _), p1.trans (Pb.app b _ _)⟩
  refine asg_seq (ev1 _ _ fun d S1 ⟨t, n, e1, hn, h1, ht, hl, hi, b1, p1⟩ => ?_)
  subst e1
  show oB (some _) _
  rw [oB_some]
  have last : ∀ (t2 : List Node) (S2 : Sto) (y2 y3 y4 : Option D), TreeOk t2 → S2[n]? = some (.lst (t2.map Node.d)) → Bag b m S2 → Pb b S S2 → sRet (wFn (fA1 fTuple) (aCons (wVar 1) (aNil))) (endK q e) [some (.ref b), some (.ref n), y2, y3, y4] S2 := fun t2 S2 y2 y3 y4 a1 a2 a3 a4 => by
    simp [bodyG, sSeq, sAsg, sDrop, sRet, sIf, sNext, wOp, wUn, wVar, wC, aNil, aCons, wFn, wTup, wLst, wIf, tVal, tAnd, tOr, tNot, wAnd, wOr, wNot, wCall, fA1, fIx, fIsiA, fIsi, typeD, kit_int_int, kit_int_str, kit_int_tuple, kit_int_bool, kit_str_int, kit_str_str, kit_str_tuple, kit_str_bool, kit_tuple_int, kit_tuple_str, kit_tuple_tuple, kit_tuple_bool, kit_bool_int, kit_bool_str, kit_bool_tuple, kit_bool_bool, kit_list_int, kit_list_str, kit_list_tuple, kit_list_bool, kit_dict_int, kit_dict_str, kit_dict_tuple, kit_dict_bool, atSq, atI0, atI1, endK, startR, Pat.go, Pat.gos, fI, fI0, fIB, wChain, oB_some, fTuple, atSq, a2]
    exact hq _ _ ⟨t2, rfl, a1, a3, a4⟩
  refine if_seq (t_eq_call (d := .ref b) rfl ?_)
  refine c17 S1 2 b1 (by decide) (by decide) _ _ fun d S2 ⟨r, e1, r0, r1, b2, p2⟩ => ?_
  subst e1
  refine eq_int ?_
  have h2 := p2.keep _ _ (by omega : n ≠ b) h1
  have q2 := p1.trans p2
  rw [if_pos rfl]
  by_cases hr : r = 0
  case neg =>
    rw [decide_eq_false hr, if_neg Bool.false_ne_true]
    exact last t S2 none none none ht h2 b2 q2
  rw [decide_eq_true hr, if_pos rfl]
  have hpos := ht.root.1
  have ev2 : Ev (wCall (Γ 17) (aCons (wVar 0) (aCons (wFn (fA1 fLen) (aCons (wVar 1) (aNil))) (aNil)))) [some (.ref b), some (.ref n), none, none, none] S2 (fun d S3 => ∃ p : Nat, d = .int (p : Int) ∧ p < t.length ∧ Bag b m S3 ∧ Pb b S2 S3) := by
    intro Q E hQ
    simp [bodyG, sSeq, sAsg, sDrop, sRet, sIf, sNext, wOp, wUn, wVar, wC, aNil, aCons, wFn, wTup, wLst, wIf, tVal, tAnd, tOr, tNot, wAnd, wOr, wNot, wCall, fA1, fIx, fIsiA, fIsi, typeD, kit_int_int, kit_int_str, kit_int_tuple, kit_int_bool, kit_str_int, kit_str_str, kit_str_tuple, kit_str_bool, kit_tuple_int, kit_tuple_str, kit_tuple_tuple, kit_tuple_bool, kit_bool_int, kit_bool_str, kit_bool_tuple, kit_bool_bool, kit_list_int, kit_list_str, kit_list_tuple, kit_list_bool, kit_dict_int, kit_dict_str, kit_dict_tuple, kit_dict_bool, atSq, atI0, atI1, endK, startR, Pat.go, Pat.gos, fI, fI0, fIB, wChain, oB_some, fLen, h2]
    refine c17 S2 (t.length : Int) b2 (by omega) (by omega) _ _ fun d S3 ⟨r, e1, r0, r1, b3, p3⟩ => ?_
    subst e1
    exact hQ _ _ ⟨r.toNat, by congr 1; omega, by omega, b3, p3⟩
  refine asg_seq (ev2 _ _ fun d S3 ⟨p, e1, hp, b3, p3⟩ => ?_)
  subst e1
  show oB (some _) _
  rw [oB_some]
  have h3 := p3.keep _ _ (by omega : n ≠ b) h2
  have q3 := q2.trans p3
  have ev3 : Ev (wCall (Γ 24) (aCons (wOp fIx (wOp fIx (wVar 1) (wVar 2)) (wC (.int 1))) (aNil))) [some (.ref b), some (.ref n), some (.int (p : Int)), none, none] S3 (fun d S4 => ∃ n4, d = .ref n4 ∧ S4[n4]? = some (.lst ((vs t p).map kD)) ∧ Pf S3 S4) := by
    intro Q E hQ
    simp [bodyG, sSeq, sAsg, sDrop, sRet, sIf, sNext, wOp, wUn, wVar, wC, aNil, aCons, wFn, wTup, wLst, wIf, tVal, tAnd, tOr, tNot, wAnd, wOr, wNot, wCall, fA1, fIx, fIsiA, fIsi, typeD, kit_int_int, kit_int_str, kit_int_tuple, kit_int_bool, kit_str_int, kit_str_str, kit_str_tuple, kit_str_bool, kit_tuple_int, kit_tuple_str, kit_tuple_tuple, kit_tuple_bool, kit_bool_int, kit_bool_str, kit_bool_tuple, kit_bool_bool, kit_list_int, kit_list_str, kit_list_tuple, kit_list_bool, kit_dict_int, kit_dict_str, kit_dict_tuple, kit_dict_bool, atSq, atI0, atI1, endK, startR, Pat.go, Pat.gos, fI, fI0, fIB, wChain, oB_some, fIx, h3, ix_node hp, Node.d, atI1]
    exact c24 S3 _ (ht.fok hp) (ht.ffew hp) _ _ fun d S4 ⟨n4, e1, h4, p4⟩ => hQ _ _ ⟨n4, e1, h4, p4⟩
  refine asg_seq (ev3 _ _ fun d S4 ⟨n4, e1, k4, p4⟩ => ?_)
  subst e1
  show oB (some _) _
  rw [oB_some]
  have h4 := p4 _ _ h3
  have b4 := b3.pf p4
  have q4 := q3.trans (p4.pb b)
  have hn4 : n4 ≠ b := by
    rintro rfl
    obtain ⟨x, y, z, cs, ha⟩ := b4
    have e := ha.at_.symm.trans k4
    simp only [Option.some.injEq, MO.lst.injEq] at e
    have : D.int x ∈ (vs t p).map kD := by rw [← e]; exact List.mem_cons_self
    obtain ⟨w, hw, eq⟩ := List.mem_map.mp this
    obtain ⟨s, rfl, _⟩ := ht.names hp w hw
    cases eq
  have ev4 : Ev (wIf (tVal (wOp (fIB fun i j => decide (j < i)) (wCall (Γ 17) (aCons (wVar 0) (aCons (wC (.int 4)) (aNil)))) (wC (.int 0)))) (wCall (Γ 23) (aCons (wVar 0) (aCons (wIf (tVal (wOp (fEq false) (wVar 3) (wLst (aNil)))) (wVar 3) (wLst (aCons (wC (.str "q1")) (aNil)))) (aCons (wC (.int 2)) (aNil))))) (wTup (aNil)))
      [some (.ref b), some (.ref n), some (.int (p : Int)), some (.ref n4), none] S4 (fun d S5 => ∃ l : List Fact, d = .tup (l.map Fact.d) ∧ l.length ≤ 2 ∧ (∀ f ∈ l, f.ok) ∧ (∀ s ∈ vnF l, s ∈ vnF (nd t p).2 ∨ s = "q1") ∧ Bag b m S5 ∧ Pb b S4 S5) := by
    intro Q E hQ
    simp [bodyG, sSeq, sAsg, sDrop, sRet, sIf, sNext, wOp, wUn, wVar, wC, aNil, aCons, wFn, wTup, wLst, wIf, tVal, tAnd, tOr, tNot, wAnd, wOr, wNot, wCall, fA1, fIx, fIsiA, fIsi, typeD, kit_int_int, kit_int_str, kit_int_tuple, kit_int_bool, kit_str_int, kit_str_str, kit_str_tuple, kit_str_bool, kit_tuple_int, kit_tuple_str, kit_tuple_tuple, kit_tuple_bool, kit_bool_int, kit_bool_str, kit_bool_tuple, kit_bool_bool, kit_list_int, kit_list_str, kit_list_tuple, kit_list_bool, kit_dict_int, kit_dict_str, kit_dict_tuple, kit_dict_bool, atSq, atI0, atI1, endK, startR, Pat.go, Pat.gos, fI, fI0, fIB, wChain, oB_some, fEq]
    refine c17 S4 4 b4 (by decide) (by decide) _ _ fun d S5 ⟨r, e1, r0, r1, b5, p5⟩ => ?_
    subst e1
    by_cases h0 : 0 < r
    · simp [h0]
      have k5 := (Pf.app S5 [MO.lst []]) _ _ (p5.keep _ _ hn4 k4)
      refine ⟨_, .lst k5 (sns_keys _ _), _, .lst (xs := []) (by simp) .nil, keysL_shaped (names_str (ht.names hp)), shaped_nil, ?_⟩
      rw [eqv_nilL]
      have b6 : Bag b m (S5 ++ [MO.lst []]) := b5.pf (Pf.app _ _)
      have p6 : Pb b S4 (S5 ++ [MO.lst []]) := p5.trans (Pb.app b _ _)
      by_cases hk : vs t p = []
      · rw [decide_eq_true hk]
        simp
        have hb6 := b6.lt
        refine ⟨by decide, ?_⟩
        rw [show S5 ++ [MO.lst [], MO.lst [D.str "q1"]] = (S5 ++ [MO.lst []]) ++ [MO.lst [D.str "q1"]] by simp]
        refine c23 _ (S5.length + 1) ["q1"] 2 (b6.pf (Pf.app _ [.lst [.str "q1"]])) ?_ (by simp) (by simp) (by simp) (by decide +kernel) (by decide) (by decide) _ _ fun d S7 ⟨l, e1, hl, ho, b7, p7⟩ => ?_
        · have := b5.lt; omega
        · exact hQ _ _ ⟨l, e1, hl, fun f hf => (ho f hf).1, fun s hs => .inr (by have := vnF_in (fun f hf => (ho f hf).2) s hs; simpa using this), b7, p6.trans ((Pb.app b _ _).trans p7)⟩
      · rw [decide_eq_false hk]
        simp
        obtain ⟨ns, hns⟩ : ∃ ns : List Str, vs t p = ns.map Sum.inr := by
          have h := ht.names hp
          generalize vs t p = ks at h
          clear hk
          induction ks with
          | nil => exact ⟨[], rfl⟩
          | cons x ks ih =>
            obtain ⟨ns, e⟩ := ih fun y hy => h y (List.mem_cons_of_mem _ hy)
            obtain ⟨s, rfl, _⟩ := h x List.mem_cons_self
            exact ⟨s :: ns, by rw [e]; rfl⟩
        have hmn : ∀ s ∈ ns, s ∈ vnF (nd t p).2 := fun s hs => by
          have : (Sum.inr s : Key) ∈ srtN (vnF (nd t p).2) := by show _ ∈ vs t p; rw [hns]; exact List.mem_map.mpr ⟨s, hs, rfl⟩
          obtain ⟨s', h1, h2⟩ := mem_srtN.mp this
          cases h2
          exact h1
        have hfew := ht.vs_few hp
        rw [hns] at k5 hfew hk
        rw [List.length_map] at hfew
        have e7 : (ns.map (Sum.inr : Str → Key)).map kD = ns.map D.str := by rw [List.map_map]; rfl
        rw [e7] at k5
        refine c23 _ n4 ns 2 b6 hn4 k5 (List.length_pos_iff.mpr fun z => hk (by rw [z]; rfl)) (by omega) (fun s hs => vnF_names (ht.fok hp) s (hmn s hs)) (by decide) (by decide) _ _ fun d S7 ⟨l, e1, hl, ho, b7, p7⟩ => ?_
        exact hQ _ _ ⟨l, e1, hl, fun f hf => (ho f hf).1, fun s hs => .inl (hmn s (vnF_in (fun f hf => (ho f hf).2) s hs)), b7, p6.trans p7⟩
    · simp [h0]
      exact hQ _ _ ⟨[], rfl, by simp, by simp, by simp [vnF], b5, p5⟩
  refine asg_seq (ev4 _ _ fun d S5 ⟨l, e1, hl5, ho, hv, b5, p5⟩ => ?_)
  subst e1
  show oB (some _) _
  rw [oB_some]
  have h5 := p5.keep _ _ (by omega : n ≠ b) h4
  have q5 := q4.trans p5
  have q1six : ("q1" : Str) ∉ sixL := by decide +kernel
  have t2 : TreeOk (t ++ [((p : Int), l)]) := ht.snoc hp ho (by omega) (by omega) fun s hs => by
    rcases hv s hs with z | rfl
    · exact .inl z
    · exact .inr fun j hj hm => q1six (hi j hj _ hm)
  have i2 : inT (("q1" : Str) :: sixL) (t ++ [((p : Int), l)]) := inT.snoc (fun j hj s hs => List.mem_cons_of_mem _ (hi j hj s hs)) fun s hs => by
    rcases hv s hs with z | rfl
    · exact List.mem_cons_of_mem _ (hi p hp s z)
    · exact List.mem_cons_self
  have h2l : (2 : Nat) ≤ sizeLine := by decide
  have h1l : (1 : Nat) ≤ sizeLine := by decide
  have hbm5 := b5.ltm
  have hb5 := b5.lt
  have hnm : n ≠ m := by
    have := hb.ltm
    omega
  refine drop_seq (mt_app (n := n) rfl h5 (tupV (d := .int (p : Int)) (e := .tup (l.map Fact.d)) rfl rfl ?_))
  refine atN_of h5 ⟨by rw [List.length_map]; omega, ?_⟩
  generalize hS6 : S5.set n (.lst (t.map Node.d ++ [.tup [.int (p : Int), .tup (l.map Fact.d)]])) = S6
  have h6 : S6[n]? = some (.lst ((t ++ [((p : Int), l)]).map Node.d)) := by
    rw [← hS6, List.getElem?_set_self (List.getElem?_eq_some_iff.mp h5).1]
    simp [Node.d]
  have b6 : Bag b m S6 := by rw [← hS6]; exact b5.setn (by omega) hnm _
  have q6 : Pb b S S6 := by rw [← hS6]; exact q5.setn hn _
  refine if_end (t_eq_call (d := .ref b) rfl ?_)
  refine c17 S6 2 b6 (by decide) (by decide) _ _ fun d S7 ⟨r, e1, r0, r1, b7, p7⟩ => ?_
  subst e1
  have h7 := p7.keep _ _ (by omega : n ≠ b) h6
  have q7 := q6.trans p7
  refine eq_int ?_
  rw [if_pos rfl]
  by_cases hr2 : r = 0
  case neg =>
    rw [decide_eq_false hr2, if_neg Bool.false_ne_true]
    exact last _ S7 (some (.int (p : Int))) (some (.ref n4)) (some (.tup (l.map Fact.d))) t2 h7 b7 q7
  rw [decide_eq_true hr2, if_pos rfl]
  have kf : Fact.ok ("r", [Tm.vr "k"]) := ⟨by show ("r" : Str) ∈ wordsL; decide +kernel, by decide, fun t ht => by rw [List.mem_singleton.mp ht]; show ("k" : Str) ∈ namesL; decide +kernel⟩
  have ksix : ("k" : Str) ∉ (("q1" : Str) :: sixL) := by decide +kernel
  have hl2 : (t ++ [((p : Int), l)]).length = t.length + 1 := by simp
  have t3 : TreeOk ((t ++ [((p : Int), l)]) ++ [(((t.length : Nat) : Int), ([("r", [Tm.vr "k"])] : List Fact))]) := t2.snoc (p := t.length) (by omega) (fun f hf => by rw [List.mem_singleton.mp hf]; exact kf) (by decide) (by omega) fun s hs => .inr fun j hj hm => by
    have : s = "k" := by simpa [vnF, vnT] using hs
    subst this
    exact ksix (i2 j hj _ hm)
  have ev6 : Ev (wTup (aCons (wOp fSub (wFn (fA1 fLen) (aCons (wVar 1) (aNil))) (wC (.int 1))) (aCons (wTup (aCons (wTup (aCons (wC (.str "r")) (aCons (wTup (aCons (wTup (aCons (wC (.str "var")) (aCons (wC (.str "k")) (aNil)))) (aNil))) (aNil)))) (aNil))) (aNil))))
      [some (.ref b), some (.ref n), some (.int (p : Int)), some (.ref n4), some (.tup (l.map Fact.d))] S7 (fun d S8 => d = Node.d (((t.length : Nat) : Int), ([("r", [Tm.vr "k"])] : List Fact)) ∧ S8 = S7) := by
    intro Q E hQ
    simp [bodyG, sSeq, sAsg, sDrop, sRet, sIf, sNext, wOp, wUn, wVar, wC, aNil, aCons, wFn, wTup, wLst, wIf, tVal, tAnd, tOr, tNot, wAnd, wOr, wNot, wCall, fA1, fIx, fIsiA, fIsi, typeD, kit_int_int, kit_int_str, kit_int_tuple, kit_int_bool, kit_str_int, kit_str_str, kit_str_tuple, kit_str_bool, kit_tuple_int, kit_tuple_str, kit_tuple_tuple, kit_tuple_bool, kit_bool_int, kit_bool_str, kit_bool_tuple, kit_bool_bool, kit_list_int, kit_list_str, kit_list_tuple, kit_list_bool, kit_dict_int, kit_dict_str, kit_dict_tuple, kit_dict_bool, atSq, atI0, atI1, endK, startR, Pat.go, Pat.gos, fI, fI0, fIB, wChain, oB_some, fLen, fSub, h7, h1l, h2l]
    exact hQ _ _ ⟨rfl, rfl⟩
  refine drop_end (mt_app (n := n) rfl h7 (ev6 _ _ fun d S8 ⟨e1, e2⟩ => ?_))
  subst e1 e2
  refine atN_of h7 ⟨by rw [List.length_map]; omega, ?_⟩
  refine last _ _ (some (.int (p : Int))) (some (.ref n4)) (some (.tup (l.map Fact.d))) t3 ?_ (b7.setn (by omega) hnm _) (q7.setn hn _)
  rw [List.getElem?_set_self (List.getElem?_eq_some_iff.mp h7).1]
  simp [Node.d]
end
end Zz
set_option Elab.async false
set_option linter.all false
set_option maxRecDepth 100000
namespace Zz
open PySem PySem.Spec PyProof.Rows L2
open PySem.W (dataLe dataLt alike AllAlike alikeAll)
/-- no number of a node -/
def Odd (n : Int) (x : D) : Prop := x = .int (-1) ∨ x = .int n ∨ x = .bl true ∨ x = .non ∨ x = .str "0"
theorem kit_none_int : kitB "NoneType" "int" = some false := by decide +kernel
theorem kit_none_bool : kitB "NoneType" "bool" = some false := by decide +kernel
section
variable {ρ : Rho} {S : Sto} {Q : QD} {E : QX} {k : Kt}
theorem drop_bad {γ : Ga} {a c : D} {post : Sto → Prop} {r : WS} (h : Rz γ [a, c] S post) (h0 : ρ[0]?.join = some a) (h1 : ρ[1]?.join = some c) (hk : ∀ S', post S' → k.ex ⟨"Nothing", []⟩ ρ S') : sSeq (sDrop (wCall γ (aCons (wVar 0) (aCons (wVar 1) aNil)))) r k ρ S :=
  drop_seq (call2 h0 h1 (h _ _ hk))
end
section
variable {tb : List MO} {k : Nat} {S : Sto} {t : List Node} {x : D}
theorem number_bad (hx : x = .bl true ∨ x = .non ∨ x = .str "0") : Ok (Gm tb (k + 1) 0) [x] S (fun d S' => d = .bl false ∧ S' = S) := by
  intro q e hq
  rcases hx with rfl | rfl | rfl
  · simp [Gm, b_is_number, bodyG, sSeq, sAsg, sDrop, sRet, sIf, sNext, wOp, wUn, wVar, wC, aNil, aCons, wFn, wTup, wLst, wIf, tVal, tAnd, tOr, tNot, wAnd, wOr, wNot, wCall, fA1, fIx, fIsiA, fIsi, typeD, kit_int_int, kit_int_str, kit_int_tuple, kit_int_bool, kit_str_int, kit_str_str, kit_str_tuple, kit_str_bool, kit_tuple_int, kit_tuple_str, kit_tuple_tuple, kit_tuple_bool, kit_bool_int, kit_bool_str, kit_bool_tuple, kit_bool_bool, kit_list_int, kit_list_str, kit_list_tuple, kit_list_bool, kit_dict_int, kit_dict_str, kit_dict_tuple, kit_dict_bool, atSq, atI, ixN, endK, startR, Pat.go, Pat.gos, fI, fI0, fIB, wChain, oB_some, Tm.d]; exact hq _ _ ⟨rfl, rfl⟩
  · simp [Gm, b_is_number, bodyG, sSeq, sAsg, sDrop, sRet, sIf, sNext, wOp, wUn, wVar, wC, aNil, aCons, wFn, wTup, wLst, wIf, tVal, tAnd, tOr, tNot, wAnd, wOr, wNot, wCall, fA1, fIx, fIsiA, fIsi, typeD, kit_int_int, kit_int_str, kit_int_tuple, kit_int_bool, kit_str_int, kit_str_str, kit_str_tuple, kit_str_bool, kit_tuple_int, kit_tuple_str, kit_tuple_tuple, kit_tuple_bool, kit_bool_int, kit_bool_str, kit_bool_tuple, kit_bool_bool, kit_list_int, kit_list_str, kit_list_tuple, kit_list_bool, kit_dict_int, kit_dict_str, kit_dict_tuple, kit_dict_bool, atSq, atI, ixN, endK, startR, Pat.go, Pat.gos, fI, fI0, fIB, wChain, oB_some, Tm.d, kit_none_int, kit_none_bool]; exact hq _ _ ⟨rfl, rfl⟩
  · simp [Gm, b_is_number, bodyG, sSeq, sAsg, sDrop, sRet, sIf, sNext, wOp, wUn, wVar, wC, aNil, aCons, wFn, wTup, wLst, wIf, tVal, tAnd, tOr, tNot, wAnd, wOr, wNot, wCall, fA1, fIx, fIsiA, fIsi, typeD, kit_int_int, kit_int_str, kit_int_tuple, kit_int_bool, kit_str_int, kit_str_str, kit_str_tuple, kit_str_bool, kit_tuple_int, kit_tuple_str, kit_tuple_tuple, kit_tuple_bool, kit_bool_int, kit_bool_str, kit_bool_tuple, kit_bool_bool, kit_list_int, kit_list_str, kit_list_tuple, kit_list_bool, kit_dict_int, kit_dict_str, kit_dict_tuple, kit_dict_bool, atSq, atI, ixN, endK, startR, Pat.go, Pat.gos, fI, fI0, fIB, wChain, oB_some, Tm.d]; exact hq _ _ ⟨rfl, rfl⟩
theorem index_bad (hx : x = .bl true ∨ x = .non ∨ x = .str "0") : Ok (Gm tb (k + 2) 1) [x] S (fun d S' => d = .bl false ∧ S' = S) := by
  intro q e hq
  have c := number_bad (tb := tb) (k := k) (S := S) hx
  show bodyG 1 1 (b_is_index (Gm tb (k + 1))) _ _ _ _
  generalize Gm tb (k + 1) = Γ at c ⊢
  simp [b_is_index, bodyG, sSeq, sAsg, sDrop, sRet, sIf, sNext, wOp, wUn, wVar, wC, aNil, aCons, wFn, wTup, wLst, wIf, tVal, tAnd, tOr, tNot, wAnd, wOr, wNot, wCall, fA1, fIx, fIsiA, fIsi, typeD, kit_int_int, kit_int_str, kit_int_tuple, kit_int_bool, kit_str_int, kit_str_str, kit_str_tuple, kit_str_bool, kit_tuple_int, kit_tuple_str, kit_tuple_tuple, kit_tuple_bool, kit_bool_int, kit_bool_str, kit_bool_tuple, kit_bool_bool, kit_list_int, kit_list_str, kit_list_tuple, kit_list_bool, kit_dict_int, kit_dict_str, kit_dict_tuple, kit_dict_bool, atSq, atI, ixN, endK, startR, Pat.go, Pat.gos, fI, fI0, fIB, wChain, oB_some]
  refine c _ _ fun d S' ⟨h1, h2⟩ => ?_
  subst h1 h2
  simp
  exact hq _ _ ⟨rfl, rfl⟩
theorem check_bad (hx : Odd t.length x) : Rz (Gm tb (k + 3) 7) [.tup (t.map Node.d), x] S (fun S' => S' = S) := by
  intro q e he
  have c0 : ∀ i : Int, Ok (Gm tb (k + 2) 1) [.int i] S (fun d S' => d = .bl (decide (0 ≤ i)) ∧ S' = S) := fun i => index_ok i
  have c1 : ∀ x, (x = .bl true ∨ x = .non ∨ x = .str "0") → Ok (Gm tb (k + 2) 1) [x] S (fun d S' => d = .bl false ∧ S' = S) := fun x hx => index_bad hx
  show bodyG 2 2 (b_check_node (Gm tb (k + 2))) _ _ _ _
  generalize Gm tb (k + 2) = Γ at c0 c1 ⊢
  have bad : ∀ x, (x = .bl true ∨ x = .non ∨ x = .str "0") → bodyG 2 2 (b_check_node Γ) [.tup (t.map Node.d), x] S q e := fun x hx => by
    simp [b_check_node, bodyG, sSeq, sAsg, sDrop, sRet, sIf, sNext, wOp, wUn, wVar, wC, aNil, aCons, wFn, wTup, wLst, wIf, tVal, tAnd, tOr, tNot, wAnd, wOr, wNot, wCall, fA1, fIx, fIsiA, fIsi, typeD, kit_int_int, kit_int_str, kit_int_tuple, kit_int_bool, kit_str_int, kit_str_str, kit_str_tuple, kit_str_bool, kit_tuple_int, kit_tuple_str, kit_tuple_tuple, kit_tuple_bool, kit_bool_int, kit_bool_str, kit_bool_tuple, kit_bool_bool, kit_list_int, kit_list_str, kit_list_tuple, kit_list_bool, kit_dict_int, kit_dict_str, kit_dict_tuple, kit_dict_bool, atSq, atI, ixN, endK, startR, Pat.go, Pat.gos, fI, fI0, fIB, wChain, oB_some, fLen]
    refine c1 x hx _ _ fun d S' ⟨h1, h2⟩ => ?_
    subst h1 h2
    simp [sRaise]
    exact he _ rfl
  rcases hx with rfl | rfl | hx
  · simp [b_check_node, bodyG, sSeq, sAsg, sDrop, sRet, sIf, sNext, wOp, wUn, wVar, wC, aNil, aCons, wFn, wTup, wLst, wIf, tVal, tAnd, tOr, tNot, wAnd, wOr, wNot, wCall, fA1, fIx, fIsiA, fIsi, typeD, kit_int_int, kit_int_str, kit_int_tuple, kit_int_bool, kit_str_int, kit_str_str, kit_str_tuple, kit_str_bool, kit_tuple_int, kit_tuple_str, kit_tuple_tuple, kit_tuple_bool, kit_bool_int, kit_bool_str, kit_bool_tuple, kit_bool_bool, kit_list_int, kit_list_str, kit_list_tuple, kit_list_bool, kit_dict_int, kit_dict_str, kit_dict_tuple, kit_dict_bool, atSq, atI, ixN, endK, startR, Pat.go, Pat.gos, fI, fI0, fIB, wChain, oB_some, fLen]
    refine c0 (-1) _ _ fun d S' ⟨h1, h2⟩ => ?_
    subst h1 h2
    simp [sRaise]
    exact he _ rfl
  · simp [b_check_node, bodyG, sSeq, sAsg, sDrop, sRet, sIf, sNext, wOp, wUn, wVar, wC, aNil, aCons, wFn, wTup, wLst, wIf, tVal, tAnd, tOr, tNot, wAnd, wOr, wNot, wCall, fA1, fIx, fIsiA, fIsi, typeD, kit_int_int, kit_int_str, kit_int_tuple, kit_int_bool, kit_str_int, kit_str_str, kit_str_tuple, kit_str_bool, kit_tuple_int, kit_tuple_str, kit_tuple_tuple, kit_tuple_bool, kit_bool_int, kit_bool_str, kit_bool_tuple, kit_bool_bool, kit_list_int, kit_list_str, kit_list_tuple, kit_list_bool, kit_dict_int, kit_dict_str, kit_dict_tuple, kit_dict_bool, atSq, atI, ixN, endK, startR, Pat.go, Pat.gos, fI, fI0, fIB, wChain, oB_some, fLen]
    refine c0 _ _ _ fun d S' ⟨h1, h2⟩ => ?_
    subst h1 h2
    simp [sRaise, bodyG, sSeq, sAsg, sDrop, sRet, sIf, sNext, wOp, wUn, wVar, wC, aNil, aCons, wFn, wTup, wLst, wIf, tVal, tAnd, tOr, tNot, wAnd, wOr, wNot, wCall, fA1, fIx, fIsiA, fIsi, typeD, kit_int_int, kit_int_str, kit_int_tuple, kit_int_bool, kit_str_int, kit_str_str, kit_str_tuple, kit_str_bool, kit_tuple_int, kit_tuple_str, kit_tuple_tuple, kit_tuple_bool, kit_bool_int, kit_bool_str, kit_bool_tuple, kit_bool_bool, kit_list_int, kit_list_str, kit_list_tuple, kit_list_bool, kit_dict_int, kit_dict_str, kit_dict_tuple, kit_dict_bool, atSq, atI, ixN, endK, startR, Pat.go, Pat.gos, fI, fI0, fIB, wChain, oB_some, fLen]
    exact he _ rfl
  · exact bad x hx
theorem nodev_bad (hx : Odd t.length x) : Rz (Gm tb (k + 4) 8) [.tup (t.map Node.d), x] S (fun S' => S' = S) := by
  intro q e he
  have c := check_bad (tb := tb) (k := k) (S := S) hx
  show bodyG 2 2 (b_node_variables (Gm tb (k + 3))) _ _ _ _
  generalize Gm tb (k + 3) = Γ at c ⊢
  exact ⟨rfl, drop_bad c rfl rfl he⟩
theorem ownv_bad (hx : Odd t.length x) : Rz (Gm tb (k + 5) 9) [.tup (t.map Node.d), x] S (fun S' => S' = S) := by
  intro q e he
  have c := nodev_bad (tb := tb) (k := k) (S := S) hx
  show bodyG 6 2 (b_own_variables (Gm tb (k + 4))) _ _ _ _
  generalize Gm tb (k + 4) = Γ at c ⊢
  refine ⟨rfl, par_seq ?_⟩
  show wCall _ _ _ _ _ _
  exact call2 rfl rfl (c _ _ he)
theorem wayto_bad (hx : Odd t.length x) : Rz (Gm tb (k + 4) 13) [.tup (t.map Node.d), x] S (fun S' => S' = S) := by
  intro q e he
  have c := check_bad (tb := tb) (k := k) (S := S) hx
  show bodyG 3 2 (b_way_to (Gm tb (k + 3))) _ _ _ _
  generalize Gm tb (k + 3) = Γ at c ⊢
  exact ⟨rfl, drop_bad c rfl rfl he⟩
theorem inner_bad (hx : Odd t.length x) : Rz (Gm tb (k + 4) 14) [.tup (t.map Node.d), x] S (fun S' => S' = S) := by
  intro q e he
  have c := check_bad (tb := tb) (k := k) (S := S) hx
  show bodyG 5 2 (b_inner_nodes (Gm tb (k + 3))) _ _ _ _
  generalize Gm tb (k + 3) = Γ at c ⊢
  exact ⟨rfl, drop_bad c rfl rfl he⟩
theorem below_bad (hx : Odd t.length x) : Rz (Gm tb (k + 4) 15) [.tup (t.map Node.d), x] S (fun S' => S' = S) := by
  intro q e he
  have c := check_bad (tb := tb) (k := k) (S := S) hx
  show bodyG 3 2 (b_below (Gm tb (k + 3))) _ _ _ _
  generalize Gm tb (k + 3) = Γ at c ⊢
  exact ⟨rfl, drop_bad c rfl rfl he⟩
/-- a law's call of a lambda -/
theorem thunk_of {Γ : Cs} {n : Nat} {o : MO} {w : WE} {ρ : Rho} {Q : QD} {E : QX} (hT : S[n]? = some o) (h : ∀ (Qt : QD) (Et : QX), (∀ d S', Q (.tup [.str "told", d]) S' → Qt d S') → (∀ S', Q (.tup [.str "nothing"]) S' → Et ⟨"Nothing", []⟩ S') → w ρ S Qt Et) :
    wThunk n o (TG Γ 30) w ρ S Q E := by
  refine ⟨hT, fun cl => ⟨rfl, ?_⟩⟩
  have h1l : (1 : Nat) ≤ sizeLine := by decide
  have h2l : (2 : Nat) ≤ sizeLine := by decide
  refine ⟨rfl, h _ _ (fun d S' z => ⟨h2l, z⟩) fun S' z => ?_⟩
  have hc : catF_Nothing "Nothing" = some true := by decide
  dsimp only
  rw [hc]
  exact ⟨h1l, z⟩
/-! ### the first of the tops -/
theorem way_min (ht : TreeOk t) {s : Str} {m : Nat} (hm : m < t.length) (hs : s ∈ vnF (nd t m).2) (hmin : ∀ j, j < m → s ∉ vnF (nd t j).2) : ∀ (n i : Nat), i ≤ n → i < t.length → s ∈ vnF (nd t i).2 → i = m ∨ (way t m).length < (way t i).length
  | n, 0, _, _, h => by
    left
    by_cases hz : m = 0
    · exact hz.symm
    · exact absurd h (hmin 0 (by omega))
  | 0, i + 1, h, _, _ => by omega
  | n + 1, i + 1, h, hi, hsi => by
    by_cases hz : i + 1 = m
    · exact .inl hz
    · have hgt : m < i + 1 := by
        apply Nat.lt_of_not_le
        intro hle
        exact hmin (i + 1) (by omega) hsi
      obtain ⟨u1, _⟩ := ht.up_lt hi (by omega)
      have hw := way_succ ht hi (by omega)
      rcases ht.hang (i + 1) s hi (by omega) hsi with z | z
      · rcases way_min ht hm hs hmin n (up t (i + 1)) (by omega) (by omega) z with e | e
        · right
          rw [hw, List.length_append, e]
          simp
        · right
          rw [hw, List.length_append]
          omega
      · exact absurd hs (z m hgt)
def topD (t : List Node) (i : Nat) : D := .tup [.int (((way t i).length : Nat) : Int), .int (i : Int)]
theorem top_p (i : Nat) : toP (topD t i) = .tuple [.int (((way t i).length : Nat) : Int), .int (i : Int)] := rfl
theorem lt_tops {a i c j : Int} (h : a < c) : dataLt (.tuple [.int a, .int i]) (.tuple [.int c, .int j]) = true := by
  unfold dataLt
  simp only [PySem.W.keyToks, PySem.W.keyToksAll, List.cons_append, List.nil_append]
  have e1 := PySem.W.lex_pre [.inl 1] (Sum.inl a :: Sum.inl 1 :: Sum.inl i :: [Sum.inl 0]) (Sum.inl c :: Sum.inl 1 :: Sum.inl j :: [Sum.inl 0])
  simp only [List.cons_append, List.nil_append] at e1
  rw [e1, PySem.W.lex_atom (by simp; omega)]
  simp [PyProof.Rows.lexLt, itemOrd, itemLt, h]
end
end Zz
set_option Elab.async false
set_option linter.all false
set_option maxRecDepth 100000
namespace Zz
open PySem PySem.Spec PyProof.Rows L2
open PySem.W (dataLe dataLt alike AllAlike alikeAll)
def law_B (Γ : Cs) : WS :=
    sSeq (sPar 14 15 (aCons (wCall (Γ 24) (aCons (wOp fIx (wOp fIx (wVar 3) (wVar 4)) (wC (.int 1))) (aNil))) (aCons (wCall (Γ 29) (aCons (wVar 3) (aCons (wVar 4) (aNil)))) (aNil))))
    (sSeq (sAsg (wFn (fA1 fTuple) (aCons (wComp (iRange1 (wFn (fA1 fLen) (aCons (wVar 3) (aNil)))) (.nm 17) (tAnd (tVal (wOp (fIB fun i j => decide (j < i)) (wVar 17) (wC (.int 0)))) (tVal (wOp (fEq true) (wOp fIx (wOp fIx (wVar 3) (wVar 17)) (wC (.int 0))) (wVar 4)))) (wVar 17) [17]) (aNil))) (.nm 10))
    (sSeq (sAsg (wFn (fA1 fTuple) (aCons (wComp (iRange1 (wFn (fA1 fLen) (aCons (wVar 3) (aNil)))) (.nm 17) (tVal (wOp fInA (wVar 4) (wCall (Γ 29) (aCons (wVar 3) (aCons (wVar 17) (aNil)))))) (wVar 17) [17]) (aNil))) (.nm 11))
    (sSeq (sAsg (wLst (aCons (wCall (Γ 8) (aCons (wVar 3) (aCons (wVar 4) (aNil)))) (aCons (wCall (Γ 9) (aCons (wVar 3) (aCons (wVar 4) (aNil)))) (aCons (wCall (Γ 13) (aCons (wVar 3) (aCons (wVar 4) (aNil)))) (aCons (wCall (Γ 14) (aCons (wVar 3) (aCons (wVar 4) (aNil)))) (aCons (wCall (Γ 15) (aCons (wVar 3) (aCons (wVar 4) (aNil)))) (aNil))))))) (.nm 12))
    (sSeq (sIf (tNot (tVal (wCall (Γ 19) (aCons (wVar 12) (aCons (wLst (aCons (wFn (fA1 fTuple) (aCons (wVar 14) (aNil))) (aCons (wFn (fA1 fTuple) (aCons (wCall (Γ 27) (aCons (wVar 3) (aCons (wVar 4) (aNil)))) (aNil))) (aCons (wVar 15) (aCons (wVar 10) (aCons (wVar 11) (aNil))))))) (aNil)))))) (sRet (wC (.bl false))) (sNext))
    (sFor (wSeq (wVar 14)) (.nm 13) (sSeq (sAsg (wFn fSorted (aCons (wComp (iRange1 (wFn (fA1 fLen) (aCons (wVar 3) (aNil)))) (.nm 17) (tVal (wOp fInA (wVar 13) (wCall (Γ 24) (aCons (wOp fIx (wOp fIx (wVar 3) (wVar 17)) (wC (.int 1))) (aNil))))) (wTup (aCons (wFn (fA1 fLen) (aCons (wCall (Γ 29) (aCons (wVar 3) (aCons (wVar 17) (aNil)))) (aNil))) (aCons (wVar 17) (aNil)))) [17]) aNil)) (.nm 16))
    (sIf (tNot (tVal (wCall (Γ 19) (aCons (wCall (Γ 10) (aCons (wVar 3) (aCons (wVar 13) (aNil)))) (aCons (wOp fIx (wOp fIx (wVar 16) (wC (.int 0))) (wC (.int 1))) (aNil)))))) (sRet (wC (.bl false))) (sNext))))))))
def law_lap (Γ : Cs) (tb : List MO) : WS :=
    sSeq (sAsg (wCall (Γ 26) (aCons (wVar 1) (aNil))) (.nm 3))
    (sSeq (sFor (iRange1 (wFn (fA1 fLen) (aCons (wVar 3) (aNil)))) (.nm 4) (law_B Γ))
    (sSeq (sAsg (wCall (Γ 28) (aCons (wVar 3) (aNil))) (.nm 5))
    (sSeq (sAsg (wThunk 0 (tb.getD 0 .off) (TG Γ 30) (wCall (Γ 12) (aCons (wVar 3) (aNil)))) (.nm 6))
    (sSeq (sIf (tOr (tNot (tVal (wCall (Γ 19) (aCons (wCall (Γ 11) (aCons (wVar 3) (aNil))) (aCons (wVar 5) (aNil)))))) (tVal (wOp (fEq false) (wOp (fEq true) (wVar 6) (wTup (aCons (wC (.str "nothing")) (aNil)))) (wNot (wVar 5))))) (sRet (wC (.bl false))) (sNext))
    (sSeq (sAsg (wCall (Γ 18) (aCons (wVar 1) (aCons (wLst (aCons (wUn fNeg (wC (.int 1))) (aCons (wFn (fA1 fLen) (aCons (wVar 3) (aNil))) (aCons (wC (.bl true)) (aCons (wC .non) (aCons (wC (.str "0")) (aNil))))))) (aNil)))) (.nm 7))
    (sSeq (sAsg (wLst (aNil)) (.nm 8))
    (sSeq (sFor (wSeq (wTup (aCons (wC (.glo "node_variables")) (aCons (wC (.glo "own_variables")) (aCons (wC (.glo "way_to")) (aCons (wC (.glo "inner_nodes")) (aCons (wC (.glo "below")) (aNil)))))))) (.nm 9) (sDrop (wMt isLst fApp (wVar 8) (aCons (wThunk 0 (tb.getD 0 .off) (TG Γ 30) (wCallV (addG "node_variables" (Γ 8) (addG "own_variables" (Γ 9) (addG "way_to" (Γ 13) (addG "inner_nodes" (Γ 14) (addG "below" (Γ 15) (addG "_law_facts_key" (Γ 22) (fun _ => none))))))) 9 (aCons (wVar 3) (aCons (wVar 7) (aNil))))) (aNil)))))
    (sSeq (sDrop (wMt isLst fApp (wVar 8) (aCons (wThunk 0 (tb.getD 0 .off) (TG Γ 30) (wCall (Γ 10) (aCons (wVar 3) (aCons (wCall (Γ 18) (aCons (wVar 1) (aCons (wLst (aCons (wC (.str "zz")) (aCons (wC .non) (aCons (wC (.int 0)) (aCons (wC (.str "A")) (aNil)))))) (aNil)))) (aNil))))) (aNil))))
    (sIf (tVal (wOp (fEq false) (wVar 8) (wOp fRepL (wLst (aCons (wTup (aCons (wC (.str "nothing")) (aNil))) (aNil))) (wC (.int 6))))) (sRet (wC (.bl false))) (sNext))))))))))
theorem b_law_eq (Γ : Cs) (tb : List MO) : b_law Γ tb = sSeq (sAsg (wCall (Γ 16) (aCons (wVar 0) (aNil))) (.nm 1)) (sSeq (sFor (iRange1 (wC (.int 6))) (.nm 2) (law_lap Γ tb)) (sRet (wC (.bl true)))) := rfl
structure Cs26 (Γ : Cs) : Prop where
  c8 : ∀ (t : List Node) (n : Nat) (S : Sto), TreeOk t → n < t.length → Ok (Γ 8) [.tup (t.map Node.d), .int n] S (fun d S' => d = .tup ((vs t n).map kD) ∧ Pf S S')
  c9 : ∀ (t : List Node) (n : Nat) (S : Sto), TreeOk t → n < t.length → Ok (Γ 9) [.tup (t.map Node.d), .int n] S (fun d S' => d = .tup ((own t n).map kD) ∧ Pf S S')
  c13 : ∀ (t : List Node) (n : Nat) (S : Sto), TreeOk t → n < t.length → Ok (Γ 13) [.tup (t.map Node.d), .int n] S (fun d S' => d = .tup (nI (way t n)) ∧ Pf S S')
  c14 : ∀ (t : List Node) (n : Nat) (S : Sto), TreeOk t → n < t.length → Ok (Γ 14) [.tup (t.map Node.d), .int n] S (fun d S' => d = .tup (nI (innerN t n)) ∧ Pf S S')
  c15 : ∀ (t : List Node) (n : Nat) (S : Sto), TreeOk t → n < t.length → Ok (Γ 15) [.tup (t.map Node.d), .int n] S (fun d S' => d = .tup (nI (under t n)) ∧ Pf S S')
  b8 : ∀ (t : List Node) (x : D) (S : Sto), Odd t.length x → Rz (Γ 8) [.tup (t.map Node.d), x] S (fun S' => S' = S)
  b9 : ∀ (t : List Node) (x : D) (S : Sto), Odd t.length x → Rz (Γ 9) [.tup (t.map Node.d), x] S (fun S' => S' = S)
  b13 : ∀ (t : List Node) (x : D) (S : Sto), Odd t.length x → Rz (Γ 13) [.tup (t.map Node.d), x] S (fun S' => S' = S)
  b14 : ∀ (t : List Node) (x : D) (S : Sto), Odd t.length x → Rz (Γ 14) [.tup (t.map Node.d), x] S (fun S' => S' = S)
  b15 : ∀ (t : List Node) (x : D) (S : Sto), Odd t.length x → Rz (Γ 15) [.tup (t.map Node.d), x] S (fun S' => S' = S)
  c10 : ∀ (t : List Node) (x : D) (bx : Nat → Bool) (S : Sto), TreeOk t → (∀ (S : Sto) (i : Nat) (Q : QD), i < t.length → Q (.bl (bx i)) S → fInA S x (.tup ((vs t i).map kD)) Q) → ∀ (q : QD) (e : QX),
    (∀ m l S', (List.range t.length).filter bx = m :: l → Pf S S' → q (.int ((m : Nat) : Int)) S') → (∀ S', (List.range t.length).filter bx = [] → Pf S S' → e ⟨"Nothing", []⟩ S') → Γ 10 [.tup (t.map Node.d), x] S q e
  c11 : ∀ (t : List Node) (S : Sto), TreeOk t → Ok (Γ 11) [.tup (t.map Node.d)] S (fun d S' => d = .bl (plainB t) ∧ Pf S S')
  c12 : ∀ (t : List Node) (S : Sto), TreeOk t → ∀ (q : QD) (e : QX), (plainB t = true → ∀ S', Pf S S' → q .non S') → (plainB t = false → ∀ S', Pf S S' → e ⟨"Nothing", []⟩ S') → Γ 12 [.tup (t.map Node.d)] S q e
  c16 : ∀ (ns : List Int) (S : Sto), ns.length ≤ 63 → Ok (Γ 16) [.rol (ns.map D.int)] S (fun d S' => ∃ b m, d = .ref b ∧ S.length ≤ b ∧ Bag b m S' ∧ Pf S S')
  c17 : ∀ (b m : Nat) (S : Sto) (n : Int), Bag b m S → 0 < n → n < 1000 → Ok (Γ 17) [.ref b, .int n] S (fun d S' => ∃ r : Int, d = .int r ∧ 0 ≤ r ∧ r < n ∧ Bag b m S' ∧ Pb b S S')
  c18 : ∀ (b m : Nat) (S : Sto) (n : Nat) (xs : List D), Bag b m S → n ≠ b → S[n]? = some (.lst xs) → 0 < xs.length → xs.length < 1000 → Ok (Γ 18) [.ref b, .ref n] S (fun d S' => d ∈ xs ∧ Bag b m S' ∧ Pb b S S')
  c19L : ∀ (S : Sto) (n m : Nat) (p : PyData), Sn S (.ref n) p → Sn S (.ref m) p → Showy p → Ok (Γ 19) [.ref n, .ref m] S (fun d S' => d = .bl true ∧ S' = S)
  c19I : ∀ (S : Sto) (i : Nat), i < 8 → Ok (Γ 19) [.int i, .int i] S (fun d S' => d = .bl true ∧ S' = S)
  c19B : ∀ (S : Sto) (b : Bool), Ok (Γ 19) [.bl b, .bl b] S (fun d S' => d = .bl true ∧ S' = S)
  c24 : ∀ (S : Sto) (l : List Fact), (∀ f ∈ l, f.ok) → l.length ≤ 100 → Ok (Γ 24) [.tup (l.map Fact.d)] S (fun d S' => ∃ m, d = .ref m ∧ S'[m]? = some (.lst ((srtN (vnF l)).map kD)) ∧ Pf S S')
  c26 : ∀ (b m : Nat) (S : Sto), Bag b m S → Ok (Γ 26) [.ref b] S (fun d S' => ∃ t : List Node, d = .tup (t.map Node.d) ∧ TreeOk t ∧ Bag b m S' ∧ Pb b S S')
  c27 : ∀ (t : List Node) (n : Nat) (S : Sto), TreeOk t → n < t.length → Ok (Γ 27) [.tup (t.map Node.d), .int n] S (fun d S' => ∃ m, d = .ref m ∧ S'[m]? = some (.lst ((own t n).map kD)) ∧ Pf S S')
  c28 : ∀ (t : List Node) (S : Sto), TreeOk t → Ok (Γ 28) [.tup (t.map Node.d)] S (fun d S' => d = .bl (plainB t) ∧ Pf S S')
  c29 : ∀ (t : List Node) (n : Nat) (S : Sto), TreeOk t → n < t.length → Ok (Γ 29) [.tup (t.map Node.d), .int n] S (fun d S' => d = .tup (nI (way t n)) ∧ Pf S S')
theorem cs26 (tb : List MO) (k : Nat) : Cs26 (Gm tb (k + 9)) where
  c8 := fun t n S h hn => nodev_ok (k := k + 5) h hn
  c9 := fun t n S h hn => ownv_ok (k := k + 4) h hn
  c13 := fun t n S h hn => wayto_ok (k := k + 5) h hn
  c14 := fun t n S h hn => innerN_ok (k := k + 5) h hn
  c15 := fun t n S h hn => below_ok (k := k + 4) h hn
  b8 := fun t x S h => nodev_bad (k := k + 5) h
  b9 := fun t x S h => ownv_bad (k := k + 4) h
  b13 := fun t x S h => wayto_bad (k := k + 5) h
  b14 := fun t x S h => inner_bad (k := k + 5) h
  b15 := fun t x S h => below_bad (k := k + 5) h
  c10 := fun t x bx S h hx q e h1 h0 => firstF (k := k + 4) h hx q e h1 h0
  c11 := fun t S h => plain_ok (k := k + 3) h
  c12 := fun t S h q e h1 h0 => checkp_ok (k := k + 2) h q e h1 h0
  c16 := fun ns S h => bag_ok (k := k + 8) ns h
  c17 := fun b m S n h a c => take_ok (k := k + 8) h a c
  c18 := fun b m S n xs h a c e f => some_ok (k := k + 7) h a c e f
  c19L := fun S n m p a c e => alikeL (k := k + 8) a c e
  c19I := fun S i h => alikeI (k := k + 8) h
  c19B := fun S b => alikeB (k := k + 8) b
  c24 := fun S l a c => lvars_ok (k := k + 8) a c
  c26 := fun b m S h => atree_ok (k := k + 3) h
  c27 := fun t n S h hn => lown_ok (k := k + 7) h hn
  c28 := fun t S h => lplain_ok (k := k + 6) h
  c29 := fun t n S h hn => lway_ok (k := k + 8) h hn
end Zz
set_option Elab.async false
set_option linter.all false
set_option maxRecDepth 100000
namespace Zz
open PySem PySem.Spec PyProof.Rows L2
open PySem.W (dataLe dataLt alike AllAlike alikeAll)
theorem perm_head {t : List Node} {m : Nat} {l : List Nat} (h : ∀ i ∈ l, (way t m).length < (way t i).length) : ∃ r, (((m :: l).map (topD t)).mergeSort (dataLe false toP)) = topD t m :: r := by
  have hp := List.mergeSort_perm ((m :: l).map (topD t)) (dataLe false toP)
  have hs := List.pairwise_mergeSort (dle_trans toP) (dle_total toP) ((m :: l).map (topD t))
  cases hM : ((m :: l).map (topD t)).mergeSort (dataLe false toP) with
  | nil =>
    rw [hM] at hp
    have := hp.length_eq
    simp at this
  | cons x r =>
    rw [hM] at hp hs
    have hx : x ∈ (m :: l).map (topD t) := hp.mem_iff.mp List.mem_cons_self
    obtain ⟨i, hi, rfl⟩ := List.mem_map.mp hx
    rcases List.mem_cons.mp hi with rfl | hi
    · exact ⟨r, rfl⟩
    · have hm : topD t m ∈ topD t i :: r := hp.mem_iff.mpr (List.mem_map.mpr ⟨m, List.mem_cons_self, rfl⟩)
      have hlt := h i hi
      rcases List.mem_cons.mp hm with e | hm
      · exfalso
        have e1 : D.int (((way t m).length : Nat) : Int) = D.int (((way t i).length : Nat) : Int) := by
          have := congrArg (fun d : D => match d with | .tup [a, _] => a | _ => .non) e
          exact this
        have := D.int.inj e1
        omega
      · exfalso
        have h1 := (List.pairwise_cons.mp hs).1 _ hm
        rw [dle_iff] at h1
        have h2 : dataLt (toP (topD t m)) (toP (topD t i)) = true := by rw [top_p, top_p]; exact lt_tops (by omega)
        have h3 := (dlt_iff (kf := toP) (a := topD t m) (b := topD t i)).mp h2
        have h4 : TO.blt (PySem.W.keyToks (toP (topD t m))) (PySem.W.keyToks (toP (topD t i))) = false := h1
        have h5 : TO.blt (PySem.W.keyToks (toP (topD t m))) (PySem.W.keyToks (toP (topD t i))) = true := h3
        rw [h4] at h5
        cases h5
/-! ### small rows of keys -/
def KeyS (x : Key) : Prop := (∃ s, x = Sum.inr s ∧ s ∈ namesL) ∨ ∃ n : Nat, n < 8 ∧ x = Sum.inl (n : Int)
theorem ints8 : ∀ n : Nat, n < 8 → PyData.intsShort 13 (.int (n : Int)) = true ∧ PyData.showable (.int (n : Int)) = true ∧ PyData.weight (.int (n : Int)) ≤ 8 ∧ PyData.strOk (PyData.shown (.int (n : Int))) = true := by decide +kernel
theorem sz_key {x : Key} (h : KeyS x) : Sz 8 (kP x) := by
  rcases h with ⟨s, rfl, hs⟩ | ⟨n, hn, rfl⟩
  · exact sz_word (List.mem_append_left _ hs)
  · obtain ⟨a, b, c, d⟩ := ints8 n hn
    exact ⟨by simp [kP, PyData.canLay0], a, b, d, c⟩
theorem sz_keys {ks : List Key} (h : ∀ x ∈ ks, KeyS x) (hl : ks.length ≤ 8) : Sz 72 (.tuple (ks.map kP)) :=
  Sz.tupW (n := 8) (w := 8) (fun p hp => by obtain ⟨x, hx, rfl⟩ := List.mem_map.mp hp; exact sz_key (h x hx)) (by rw [List.length_map]; exact hl)
theorem names_keyS {ks : List Key} (h : ∀ x ∈ ks, ∃ s, x = Sum.inr s ∧ s ∈ namesL) : ∀ x ∈ ks, KeyS x := fun x hx => .inl (h x hx)
theorem iks_keyS {l : List Nat} (h : ∀ n ∈ l, n < 8) : ∀ x ∈ iks l, KeyS x := fun x hx => by
  obtain ⟨n, hn, rfl⟩ := List.mem_map.mp hx
  exact .inr ⟨n, h n hn, rfl⟩
/-- what is found of a node -/
def foundL (t : List Node) (n : Nat) : List (List Key) := [vs t n, own t n, iks (way t n), iks (innerN t n), iks (under t n)]
theorem found_sn (S : Sto) : ∀ ls : List (List Key), Sns S (ls.map fun ks => D.tup (ks.map kD)) (ls.map fun ks => PyData.tuple (ks.map kP))
  | [] => .nil
  | ks :: ls => .cons (.tup (sns_keys _ _)) (found_sn S ls)
theorem found_showy {t : List Node} (ht : TreeOk t) {n : Nat} (h : n < t.length) : Showy (.list ((foundL t n).map fun ks => PyData.tuple (ks.map kP))) := by
  have hfew := ht.few
  have hv := ht.vs_few h
  have ho : (own t n).length ≤ 8 := by
    unfold own
    split
    · exact ht.vs_few ht.root.1
    · exact Nat.le_trans (List.length_filter_le _ _) hv
  have hw := way_len ht n n (Nat.le_refl _) h
  have hall : ∀ ks ∈ foundL t n, (∀ x ∈ ks, KeyS x) ∧ ks.length ≤ 8 := by
    intro ks hk
    have hfl : ∀ p : Nat → Bool, (∀ i ∈ (List.range t.length).filter p, i < 8) ∧ ((List.range t.length).filter p).length ≤ 8 := fun p => by
      refine ⟨fun i hi => ?_, ?_⟩
      · have := List.mem_range.mp (List.mem_filter.mp hi).1
        omega
      · have := List.length_filter_le p (List.range t.length)
        rw [List.length_range] at this
        omega
    simp only [foundL, List.mem_cons, List.not_mem_nil, or_false] at hk
    rcases hk with rfl | rfl | rfl | rfl | rfl
    · exact ⟨names_keyS (ht.names h), hv⟩
    · exact ⟨names_keyS (own_names ht h), ho⟩
    · exact ⟨iks_keyS fun i hi => by have := way_lt ht n n (Nat.le_refl _) h i hi; omega, by simp [iks]; omega⟩
    · exact ⟨iks_keyS (hfl _).1, by simp only [iks, List.length_map]; exact (hfl _).2⟩
    · exact ⟨iks_keyS (hfl _).1, by simp only [iks, List.length_map]; exact (hfl _).2⟩
  refine Sz.showy (w := 5 * 73) (Sz.listW (n := 5) (w := 72) (fun p hp => ?_) (by simp [foundL])) (by decide) ?_
  · obtain ⟨ks, hk, rfl⟩ := List.mem_map.mp hp
    exact sz_keys (hall ks hk).1 (hall ks hk).2
  · rw [PyData.depth]
    have := depAll (l := (foundL t n).map fun ks => PyData.tuple (ks.map kP)) (n := 9) fun p hp => by
      obtain ⟨ks, hk, rfl⟩ := List.mem_map.mp hp
      rw [PyData.depth]
      have := keys_dep ks
      omega
    omega
theorem its_eq {t : List Node} (ht : TreeOk t) (n : Nat) : ((List.range t.length).filter fun i => decide (0 < i) && decide ((nd t i).1 = (n : Int))) = innerN t n := by
  unfold innerN
  apply List.filter_congr
  intro i hi
  by_cases h : i = 0
  · subst h
    rw [ht.root.2]
    have : ¬ ((-1 : Int) = (n : Int)) := by omega
    simp [this]
  · simp [Nat.pos_of_ne_zero h]
section
variable {Γ : Cs} {S : Sto} {t : List Node} {n : Nat} {r0 r1 r2 r5 r6 r7 r8 r9 r10 r11 r12 r13 r14 r15 r16 r17 : Option D}
theorem ev_its (ht : TreeOk t) (hn : n < t.length) : Ev (wFn (fA1 fTuple) (aCons (wComp (iRange1 (wFn (fA1 fLen) (aCons (wVar 3) (aNil)))) (.nm 17) (tAnd (tVal (wOp (fIB fun i j => decide (j < i)) (wVar 17) (wC (.int 0)))) (tVal (wOp (fEq true) (wOp fIx (wOp fIx (wVar 3) (wVar 17)) (wC (.int 0))) (wVar 4)))) (wVar 17) [17]) (aNil)))
    [r0, r1, r2, some (.tup (t.map Node.d)), some (.int (n : Int)), r5, r6, r7, r8, r9, r10, r11, r12, r13, r14, r15, r16, r17] S (fun d S' => d = .tup (nI (innerN t n)) ∧ Pf S S') := by
  intro Q E hQ
  have h3 : (301 : Nat) < sizeLine := by decide
  have hfew := ht.few
  simp [bodyG, sSeq, sAsg, sDrop, sRet, sIf, sNext, wOp, wUn, wVar, wC, aNil, aCons, wFn, wTup, wLst, wIf, tVal, tAnd, tOr, tNot, wAnd, wOr, wNot, wCall, fA1, fIx, fIsiA, fIsi, typeD, kit_int_int, kit_int_str, kit_int_tuple, kit_int_bool, kit_str_int, kit_str_str, kit_str_tuple, kit_str_bool, kit_tuple_int, kit_tuple_str, kit_tuple_tuple, kit_tuple_bool, kit_bool_int, kit_bool_str, kit_bool_tuple, kit_bool_bool, kit_list_int, kit_list_str, kit_list_tuple, kit_list_bool, kit_dict_int, kit_dict_str, kit_dict_tuple, kit_dict_bool, atSq, atI0, atI1, endK, startR, Pat.go, Pat.gos, fI, fI0, fIB, wChain, oB_some, wComp, iRange1, fLen]
  refine ⟨by omega, ?_⟩
  rw [rng0]
  refine comp_map S (fun i : Nat => D.int (i : Int)) (fun i => decide (0 < i) && decide ((nd t i).1 = (n : Int))) (fun (i : Nat) => .int (i : Int)) (List.range t.length) (by rw [List.length_range]; omega) (fun S2 p => True.intro) (fun i hi => ⟨_, rfl, fun S3 K _ hK => ?_, fun _ S3 K _ hK => ?_⟩) fun S3 p3 h => ?_
  · have hi := List.mem_range.mp hi
    by_cases h0 : 0 < i
    · have e0 : PyData.eqv (.int (nd t i).1) (.int (n : Int)) = decide ((nd t i).1 = (n : Int)) := by
        rw [Bool.eq_iff_iff, decide_eq_true_eq]
        simp [PyData.eqv]
      simp [bodyG, sSeq, sAsg, sDrop, sRet, sIf, sNext, wOp, wUn, wVar, wC, aNil, aCons, wFn, wTup, wLst, wIf, tVal, tAnd, tOr, tNot, wAnd, wOr, wNot, wCall, fA1, fIx, fIsiA, fIsi, typeD, kit_int_int, kit_int_str, kit_int_tuple, kit_int_bool, kit_str_int, kit_str_str, kit_str_tuple, kit_str_bool, kit_tuple_int, kit_tuple_str, kit_tuple_tuple, kit_tuple_bool, kit_bool_int, kit_bool_str, kit_bool_tuple, kit_bool_bool, kit_list_int, kit_list_str, kit_list_tuple, kit_list_bool, kit_dict_int, kit_dict_str, kit_dict_tuple, kit_dict_bool, atSq, atI0, atI1, endK, startR, Pat.go, Pat.gos, fI, fI0, fIB, wChain, oB_some, wipeR, fIx, ix_node hi, Node.d, h0, fEq]
      refine ⟨_, .int _, _, .int _, shaped_int _, shaped_int _, ?_⟩
      rw [e0]
      have := hK S3 (.refl _)
      simpa [h0] using this
    · have : i = 0 := by omega
      subst this
      simp [bodyG, sSeq, sAsg, sDrop, sRet, sIf, sNext, wOp, wUn, wVar, wC, aNil, aCons, wFn, wTup, wLst, wIf, tVal, tAnd, tOr, tNot, wAnd, wOr, wNot, wCall, fA1, fIx, fIsiA, fIsi, typeD, kit_int_int, kit_int_str, kit_int_tuple, kit_int_bool, kit_str_int, kit_str_str, kit_str_tuple, kit_str_bool, kit_tuple_int, kit_tuple_str, kit_tuple_tuple, kit_tuple_bool, kit_bool_int, kit_bool_str, kit_bool_tuple, kit_bool_bool, kit_list_int, kit_list_str, kit_list_tuple, kit_list_bool, kit_dict_int, kit_dict_str, kit_dict_tuple, kit_dict_bool, atSq, atI0, atI1, endK, startR, Pat.go, Pat.gos, fI, fI0, fIB, wChain, oB_some, wipeR]
      have := hK S3 (.refl _)
      simpa using this
  · simp [bodyG, sSeq, sAsg, sDrop, sRet, sIf, sNext, wOp, wUn, wVar, wC, aNil, aCons, wFn, wTup, wLst, wIf, tVal, tAnd, tOr, tNot, wAnd, wOr, wNot, wCall, fA1, fIx, fIsiA, fIsi, typeD, kit_int_int, kit_int_str, kit_int_tuple, kit_int_bool, kit_str_int, kit_str_str, kit_str_tuple, kit_str_bool, kit_tuple_int, kit_tuple_str, kit_tuple_tuple, kit_tuple_bool, kit_bool_int, kit_bool_str, kit_bool_tuple, kit_bool_bool, kit_list_int, kit_list_str, kit_list_tuple, kit_list_bool, kit_dict_int, kit_dict_str, kit_dict_tuple, kit_dict_bool, atSq, atI0, atI1, endK, startR, Pat.go, Pat.gos, fI, fI0, fIB, wChain, oB_some, wipeR]; exact hK S3 (.refl _)
  · simp [fTuple, atSq, h]
    refine hQ _ _ ⟨?_, p3⟩
    rw [its_eq ht n]
    congr 1
    simp [nI, iks, kD]
theorem ev_under (C : Cs26 Γ) (ht : TreeOk t) (hn : n < t.length) : Ev (wFn (fA1 fTuple) (aCons (wComp (iRange1 (wFn (fA1 fLen) (aCons (wVar 3) (aNil)))) (.nm 17) (tVal (wOp fInA (wVar 4) (wCall (Γ 29) (aCons (wVar 3) (aCons (wVar 17) (aNil)))))) (wVar 17) [17]) (aNil)))
    [r0, r1, r2, some (.tup (t.map Node.d)), some (.int (n : Int)), r5, r6, r7, r8, r9, r10, r11, r12, r13, r14, r15, r16, r17] S (fun d S' => d = .tup (nI (under t n)) ∧ Pf S S') := by
  intro Q E hQ
  have h3 : (301 : Nat) < sizeLine := by decide
  have hfew := ht.few
  have c := C.c29
  simp [bodyG, sSeq, sAsg, sDrop, sRet, sIf, sNext, wOp, wUn, wVar, wC, aNil, aCons, wFn, wTup, wLst, wIf, tVal, tAnd, tOr, tNot, wAnd, wOr, wNot, wCall, fA1, fIx, fIsiA, fIsi, typeD, kit_int_int, kit_int_str, kit_int_tuple, kit_int_bool, kit_str_int, kit_str_str, kit_str_tuple, kit_str_bool, kit_tuple_int, kit_tuple_str, kit_tuple_tuple, kit_tuple_bool, kit_bool_int, kit_bool_str, kit_bool_tuple, kit_bool_bool, kit_list_int, kit_list_str, kit_list_tuple, kit_list_bool, kit_dict_int, kit_dict_str, kit_dict_tuple, kit_dict_bool, atSq, atI0, atI1, endK, startR, Pat.go, Pat.gos, fI, fI0, fIB, wChain, oB_some, wComp, iRange1, fLen]
  refine ⟨by omega, ?_⟩
  rw [rng0]
  refine comp_map S (fun i : Nat => D.int (i : Int)) (fun i => decide (n ∈ way t i)) (fun (i : Nat) => .int (i : Int)) (List.range t.length) (by rw [List.length_range]; omega) (fun S2 p => True.intro) (fun i hi => ⟨_, rfl, fun S3 K _ hK => ?_, fun _ S3 K _ hK => ?_⟩) fun S3 p3 h => ?_
  · have hi := List.mem_range.mp hi
    refine in_call (d := .int n) rfl (args2 (d := .tup (t.map Node.d)) (e := .int i) rfl rfl ?_)
    refine c t i S3 ht hi _ _ fun d S4 ⟨e1, p4⟩ => ?_
    subst e1
    show fInA S4 (kD (.inl (n : Int))) (.tup ((iks (way t i)).map kD)) _
    refine inA_keys (in_keys (b := true) (fun s' e => by cases e) (ints_str _) ?_)
    have e0 : bz true (decide ((Sum.inl (n : Int) : Key) ∈ iks (way t i))) = decide (n ∈ way t i) := by
      rw [Bool.eq_iff_iff]
      simp [bz, mem_iks]
    rw [e0]
    exact hK S4 p4
  · simp [bodyG, sSeq, sAsg, sDrop, sRet, sIf, sNext, wOp, wUn, wVar, wC, aNil, aCons, wFn, wTup, wLst, wIf, tVal, tAnd, tOr, tNot, wAnd, wOr, wNot, wCall, fA1, fIx, fIsiA, fIsi, typeD, kit_int_int, kit_int_str, kit_int_tuple, kit_int_bool, kit_str_int, kit_str_str, kit_str_tuple, kit_str_bool, kit_tuple_int, kit_tuple_str, kit_tuple_tuple, kit_tuple_bool, kit_bool_int, kit_bool_str, kit_bool_tuple, kit_bool_bool, kit_list_int, kit_list_str, kit_list_tuple, kit_list_bool, kit_dict_int, kit_dict_str, kit_dict_tuple, kit_dict_bool, atSq, atI0, atI1, endK, startR, Pat.go, Pat.gos, fI, fI0, fIB, wChain, oB_some, wipeR]; exact hK S3 (.refl _)
  · simp [fTuple, atSq, h]
    refine hQ _ _ ⟨?_, p3⟩
    congr 1
    simp [nI, iks, under, kD]
theorem ev_found (C : Cs26 Γ) (ht : TreeOk t) (hn : n < t.length) : Ev (wLst (aCons (wCall (Γ 8) (aCons (wVar 3) (aCons (wVar 4) (aNil)))) (aCons (wCall (Γ 9) (aCons (wVar 3) (aCons (wVar 4) (aNil)))) (aCons (wCall (Γ 13) (aCons (wVar 3) (aCons (wVar 4) (aNil)))) (aCons (wCall (Γ 14) (aCons (wVar 3) (aCons (wVar 4) (aNil)))) (aCons (wCall (Γ 15) (aCons (wVar 3) (aCons (wVar 4) (aNil)))) (aNil)))))))
    [r0, r1, r2, some (.tup (t.map Node.d)), some (.int (n : Int)), r5, r6, r7, r8, r9, r10, r11, r12, r13, r14, r15, r16, r17] S (fun d S' => ∃ f, d = .ref f ∧ S'[f]? = some (.lst ((foundL t n).map fun ks => D.tup (ks.map kD))) ∧ Pf S S') := by
  intro Q E hQ
  obtain ⟨c8, c9, c13, c14, c15⟩ : _ ∧ _ ∧ _ ∧ _ ∧ _ := ⟨C.c8 t n, C.c9 t n, C.c13 t n, C.c14 t n, C.c15 t n⟩
  simp [bodyG, sSeq, sAsg, sDrop, sRet, sIf, sNext, wOp, wUn, wVar, wC, aNil, aCons, wFn, wTup, wLst, wIf, tVal, tAnd, tOr, tNot, wAnd, wOr, wNot, wCall, fA1, fIx, fIsiA, fIsi, typeD, kit_int_int, kit_int_str, kit_int_tuple, kit_int_bool, kit_str_int, kit_str_str, kit_str_tuple, kit_str_bool, kit_tuple_int, kit_tuple_str, kit_tuple_tuple, kit_tuple_bool, kit_bool_int, kit_bool_str, kit_bool_tuple, kit_bool_bool, kit_list_int, kit_list_str, kit_list_tuple, kit_list_bool, kit_dict_int, kit_dict_str, kit_dict_tuple, kit_dict_bool, atSq, atI0, atI1, endK, startR, Pat.go, Pat.gos, fI, fI0, fIB, wChain, oB_some]
  refine c8 S ht hn _ _ fun d S1 ⟨e1, p1⟩ => ?_
  subst e1
  refine c9 S1 ht hn _ _ fun d S2 ⟨e1, p2⟩ => ?_
  subst e1
  refine c13 S2 ht hn _ _ fun d S3 ⟨e1, p3⟩ => ?_
  subst e1
  refine c14 S3 ht hn _ _ fun d S4 ⟨e1, p4⟩ => ?_
  subst e1
  refine c15 S4 ht hn _ _ fun d S5 ⟨e1, p5⟩ => ?_
  subst e1
  exact ⟨by decide, hQ _ _ ⟨S5.length, rfl, by simp [foundL, nI], p1.trans (p2.trans (p3.trans (p4.trans (p5.trans (Pf.app _ _)))))⟩⟩
end
end Zz
set_option Elab.async false
set_option linter.all false
set_option maxRecDepth 100000
namespace Zz
open PySem PySem.Spec PyProof.Rows L2
open PySem.W (dataLe dataLt alike AllAlike alikeAll)
section
variable {ρ : Rho} {S : Sto} {Q : QD} {E : QX} {k : Kt}
theorem in_callW {i : Nat} {γ : Ga} {w : WE} {d : D} {K : Bool → Sto → Prop} (hi : ρ[i]?.join = some d) (h : w ρ S (fun x S1 => γ [x] S1 (fun y S2 => fInA S2 d y (fun r S3 => match r with | .bl c => K c S3 | _ => False)) E) E) : tVal (wOp fInA (wVar i) (wCall γ (aCons w aNil))) ρ S K E := by
  simp only [tVal, wOp, wVar, hi, oB_some, wCall, aCons, aNil]
  exact h
theorem ix2_tup {i j kk : Nat} {t : List Node} (hi : ρ[i]?.join = some (.tup (t.map Node.d))) (hj : ρ[j]?.join = some (.int (kk : Int))) (hk : kk < t.length) (h : Q (.tup ((nd t kk).2.map Fact.d)) S) : wOp fIx (wOp fIx (wVar i) (wVar j)) (wC (.int 1)) ρ S Q E := by
  simp only [wOp, wVar, wC, hi, hj, oB_some, fIx, atSq, ix_node hk, Node.d, atI1]
  exact h
theorem in_ref {n : Nat} {x : Key} {ks : List Key} {K : Bool → Sto → Prop} (hs : S[n]? = some (.lst (ks.map kD))) (h1 : ∀ s, x = .inr s → PyData.strOk s = true) (h2 : ∀ s, Sum.inr s ∈ ks → PyData.strOk s = true) (h : K (decide (x ∈ ks)) S) :
    fInA S (kD x) (.ref n) (fun r S3 => match r with | .bl c => K c S3 | _ => False) :=
  inA_ref hs (in_keys h1 h2 (by simp only [bz]; exact h))
theorem not_if {t : WT} {a b : WS} (h : t ρ S (fun c S1 => if (!c) = true then a k ρ S1 else b k ρ S1) (fun x S1 => k.ex x ρ S1)) : sIf (tNot t) a b k ρ S := h
theorem not_if_seq {t : WT} {a b r : WS} (h : t ρ S (fun c S1 => if (!c) = true then a { k with nx := r k } ρ S1 else b { k with nx := r k } ρ S1) (fun x S1 => k.ex x ρ S1)) : sSeq (sIf (tNot t) a b) r k ρ S := h
/-- a value that is true or not -/
theorem tv_of {w : WE} {K : Bool → Sto → Prop} (h : w ρ S (fun d S1 => match d with | .bl b => K b S1 | _ => False) E) : tVal w ρ S K E := h
theorem yes_seq {w : WE} {a r : WS} {post : Sto → Prop} (h : Ev w ρ S (fun d S' => d = .bl true ∧ post S')) (hb : ∀ S', post S' → r k ρ S') : sSeq (sIf (tNot (tVal w)) a sNext) r k ρ S :=
  not_if_seq (tv_of (h _ _ fun d S' ⟨e, p⟩ => by subst e; exact hb S' p))
theorem yes_end {w : WE} {a : WS} {post : Sto → Prop} (h : Ev w ρ S (fun d S' => d = .bl true ∧ post S')) (hb : ∀ S', post S' → k.nx ρ S') : sIf (tNot (tVal w)) a sNext k ρ S :=
  not_if (tv_of (h _ _ fun d S' ⟨e, p⟩ => by subst e; exact hb S' p))
theorem sorted_of {w : WE} (h : w ρ S (fun d S1 => fSorted S1 [d] Q) E) : wFn fSorted (aCons w aNil) ρ S Q E := h
end
section
variable {Γ : Cs} {S : Sto} {t : List Node} {n : Nat} {r0 r1 r2 r5 r6 r7 r8 r9 r10 r11 r12 r13 r14 r15 r16 r17 : Option D}
theorem ev_alike (C : Cs26 Γ) (ht : TreeOk t) (hn : n < t.length) {f mn : Nat} (hf : S[f]? = some (.lst ((foundL t n).map fun ks => D.tup (ks.map kD)))) (hm : S[mn]? = some (.lst ((vs t n).map kD))) :
    Ev (wCall (Γ 19) (aCons (wVar 12) (aCons (wLst (aCons (wFn (fA1 fTuple) (aCons (wVar 14) (aNil))) (aCons (wFn (fA1 fTuple) (aCons (wCall (Γ 27) (aCons (wVar 3) (aCons (wVar 4) (aNil)))) (aNil))) (aCons (wVar 15) (aCons (wVar 10) (aCons (wVar 11) (aNil))))))) (aNil))))
      [r0, r1, r2, some (.tup (t.map Node.d)), some (.int (n : Int)), r5, r6, r7, r8, r9, some (.tup (nI (innerN t n))), some (.tup (nI (under t n))), some (.ref f), r13, some (.ref mn), some (.tup (nI (way t n))), r16, r17] S (fun d S' => d = .bl true ∧ Pf S S') := by
  intro Q E hQ
  have c := C.c27 t n
  have c19 := C.c19L
  simp [bodyG, sSeq, sAsg, sDrop, sRet, sIf, sNext, wOp, wUn, wVar, wC, aNil, aCons, wFn, wTup, wLst, wIf, tVal, tAnd, tOr, tNot, wAnd, wOr, wNot, wCall, fA1, fIx, fIsiA, fIsi, typeD, kit_int_int, kit_int_str, kit_int_tuple, kit_int_bool, kit_str_int, kit_str_str, kit_str_tuple, kit_str_bool, kit_tuple_int, kit_tuple_str, kit_tuple_tuple, kit_tuple_bool, kit_bool_int, kit_bool_str, kit_bool_tuple, kit_bool_bool, kit_list_int, kit_list_str, kit_list_tuple, kit_list_bool, kit_dict_int, kit_dict_str, kit_dict_tuple, kit_dict_bool, atSq, atI0, atI1, endK, startR, Pat.go, Pat.gos, fI, fI0, fIB, wChain, oB_some, fTuple, atSq, hm]
  refine c S ht hn _ _ fun d S1 ⟨m', e1, h1, p1⟩ => ?_
  subst e1
  simp [bodyG, sSeq, sAsg, sDrop, sRet, sIf, sNext, wOp, wUn, wVar, wC, aNil, aCons, wFn, wTup, wLst, wIf, tVal, tAnd, tOr, tNot, wAnd, wOr, wNot, wCall, fA1, fIx, fIsiA, fIsi, typeD, kit_int_int, kit_int_str, kit_int_tuple, kit_int_bool, kit_str_int, kit_str_str, kit_str_tuple, kit_str_bool, kit_tuple_int, kit_tuple_str, kit_tuple_tuple, kit_tuple_bool, kit_bool_int, kit_bool_str, kit_bool_tuple, kit_bool_bool, kit_list_int, kit_list_str, kit_list_tuple, kit_list_bool, kit_dict_int, kit_dict_str, kit_dict_tuple, kit_dict_bool, atSq, atI0, atI1, endK, startR, Pat.go, Pat.gos, fI, fI0, fIB, wChain, oB_some, fTuple, atSq, h1]
  refine ⟨by decide, ?_⟩
  have hl : S1 ++ [MO.lst [D.tup ((vs t n).map kD), D.tup ((own t n).map kD), D.tup (nI (way t n)), D.tup (nI (innerN t n)), D.tup (nI (under t n))]] = S1 ++ [MO.lst ((foundL t n).map fun ks => D.tup (ks.map kD))] := rfl
  rw [hl]
  refine c19 _ f S1.length (.list ((foundL t n).map fun ks => PyData.tuple (ks.map kP))) (.lst (Pf.app S1 _ _ _ (p1 _ _ hf)) (found_sn _ _)) (.lst (by simp) (found_sn _ _)) (found_showy ht hn) _ _ fun d S2 ⟨e1, e2⟩ => ?_
  subst e1 e2
  exact hQ _ _ ⟨rfl, p1.trans (Pf.app _ _)⟩
def bxF (t : List Node) (s : Str) (i : Nat) : Bool := decide ((Sum.inr s : Key) ∈ vs t i)
theorem ev_tops (C : Cs26 Γ) (ht : TreeOk t) {s : Str} (hs : s ∈ namesL) : Ev (wFn fSorted (aCons (wComp (iRange1 (wFn (fA1 fLen) (aCons (wVar 3) (aNil)))) (.nm 17) (tVal (wOp fInA (wVar 13) (wCall (Γ 24) (aCons (wOp fIx (wOp fIx (wVar 3) (wVar 17)) (wC (.int 1))) (aNil))))) (wTup (aCons (wFn (fA1 fLen) (aCons (wCall (Γ 29) (aCons (wVar 3) (aCons (wVar 17) (aNil)))) (aNil))) (aCons (wVar 17) (aNil)))) [17]) aNil))
    [r0, r1, r2, some (.tup (t.map Node.d)), some (.int (n : Int)), r5, r6, r7, r8, r9, r10, r11, r12, some (.str s), r14, r15, r16, r17] S (fun d S' => ∃ f, d = .ref f ∧ S'[f]? = some (.lst ((((List.range t.length).filter (bxF t s)).map (topD t)).mergeSort (dataLe false toP))) ∧ Pf S S') := by
  intro Q E hQ
  have h3 : (301 : Nat) < sizeLine := by decide
  have hfew := ht.few
  have c24 := C.c24
  have c29 := C.c29
  refine sorted_of ?_
  have hcomp : ∀ (Q : QD) (E : QX), (∀ f S', S'[f]? = some (.lst (((List.range t.length).filter (bxF t s)).map (topD t))) → Pf S S' → Q (.ref f) S') → (wComp (iRange1 (wFn (fA1 fLen) (aCons (wVar 3) (aNil)))) (.nm 17) (tVal (wOp fInA (wVar 13) (wCall (Γ 24) (aCons (wOp fIx (wOp fIx (wVar 3) (wVar 17)) (wC (.int 1))) (aNil))))) (wTup (aCons (wFn (fA1 fLen) (aCons (wCall (Γ 29) (aCons (wVar 3) (aCons (wVar 17) (aNil)))) (aNil))) (aCons (wVar 17) (aNil)))) [17])
      [r0, r1, r2, some (.tup (t.map Node.d)), some (.int (n : Int)), r5, r6, r7, r8, r9, r10, r11, r12, some (.str s), r14, r15, r16, r17] S Q E := by
    intro Q E hQ
    simp [bodyG, sSeq, sAsg, sDrop, sRet, sIf, sNext, wOp, wUn, wVar, wC, aNil, aCons, wFn, wTup, wLst, wIf, tVal, tAnd, tOr, tNot, wAnd, wOr, wNot, wCall, fA1, fIx, fIsiA, fIsi, typeD, kit_int_int, kit_int_str, kit_int_tuple, kit_int_bool, kit_str_int, kit_str_str, kit_str_tuple, kit_str_bool, kit_tuple_int, kit_tuple_str, kit_tuple_tuple, kit_tuple_bool, kit_bool_int, kit_bool_str, kit_bool_tuple, kit_bool_bool, kit_list_int, kit_list_str, kit_list_tuple, kit_list_bool, kit_dict_int, kit_dict_str, kit_dict_tuple, kit_dict_bool, atSq, atI0, atI1, endK, startR, Pat.go, Pat.gos, fI, fI0, fIB, wChain, oB_some, wComp, iRange1, fLen]
    refine ⟨by omega, ?_⟩
    rw [rng0]
    refine comp_map S (fun i : Nat => D.int (i : Int)) (bxF t s) (topD t) (List.range t.length) (by rw [List.length_range]; omega) (fun S2 p => True.intro) (fun i hi => ⟨_, rfl, fun S3 K _ hK => ?_, fun _ S3 K _ hK => ?_⟩) fun S3 p3 h => ?_
    · have hi := List.mem_range.mp hi
      refine in_callW (d := .str s) rfl (ix2_tup (t := t) (kk := i) rfl rfl hi ?_)
      refine c24 S3 _ (ht.fok hi) (ht.ffew hi) _ _ fun d S4 ⟨n4, e1, h4, p4⟩ => ?_
      subst e1
      exact in_ref (x := .inr s) h4 (fun s' e => by cases e; exact words_ok s (List.mem_append_left _ hs)) (names_str (ht.names hi)) (hK S4 p4)
    · have hi := List.mem_range.mp hi
      simp [bodyG, sSeq, sAsg, sDrop, sRet, sIf, sNext, wOp, wUn, wVar, wC, aNil, aCons, wFn, wTup, wLst, wIf, tVal, tAnd, tOr, tNot, wAnd, wOr, wNot, wCall, fA1, fIx, fIsiA, fIsi, typeD, kit_int_int, kit_int_str, kit_int_tuple, kit_int_bool, kit_str_int, kit_str_str, kit_str_tuple, kit_str_bool, kit_tuple_int, kit_tuple_str, kit_tuple_tuple, kit_tuple_bool, kit_bool_int, kit_bool_str, kit_bool_tuple, kit_bool_bool, kit_list_int, kit_list_str, kit_list_tuple, kit_list_bool, kit_dict_int, kit_dict_str, kit_dict_tuple, kit_dict_bool, atSq, atI0, atI1, endK, startR, Pat.go, Pat.gos, fI, fI0, fIB, wChain, oB_some, wipeR]
      refine c29 t i S3 ht hi _ _ fun d S4 ⟨e1, p4⟩ => ?_
      subst e1
      simp [bodyG, sSeq, sAsg, sDrop, sRet, sIf, sNext, wOp, wUn, wVar, wC, aNil, aCons, wFn, wTup, wLst, wIf, tVal, tAnd, tOr, tNot, wAnd, wOr, wNot, wCall, fA1, fIx, fIsiA, fIsi, typeD, kit_int_int, kit_int_str, kit_int_tuple, kit_int_bool, kit_str_int, kit_str_str, kit_str_tuple, kit_str_bool, kit_tuple_int, kit_tuple_str, kit_tuple_tuple, kit_tuple_bool, kit_bool_int, kit_bool_str, kit_bool_tuple, kit_bool_bool, kit_list_int, kit_list_str, kit_list_tuple, kit_list_bool, kit_dict_int, kit_dict_str, kit_dict_tuple, kit_dict_bool, atSq, atI0, atI1, endK, startR, Pat.go, Pat.gos, fI, fI0, fIB, wChain, oB_some, fLen, nI_len]
      exact ⟨by decide, hK S4 p4⟩
    · exact hQ _ _ h p3
  refine hcomp _ _ fun f S1 h1 p1 => ?_
  have hfl : ∀ i : Nat, flatP (.tuple [.int (((way t i).length : Nat) : Int), .int (i : Int)]) = true := fun i => rfl
  refine ⟨((List.range t.length).filter (bxF t s)).map (topD t), toP, by simp only [itsD, h1], fun d hd => ?_, ?_, fun d hd => ?_, ?_, hQ _ _ ⟨S1.length, rfl, by simp, p1.trans (Pf.app _ _)⟩⟩
  · obtain ⟨i, _, rfl⟩ := List.mem_map.mp hd
    exact .tup (.cons (.int _) (.cons (.int _) .nil))
  · rw [List.map_map]
    intro p hp p' hp'
    obtain ⟨i, _, rfl⟩ := List.mem_map.mp hp
    obtain ⟨j, _, rfl⟩ := List.mem_map.mp hp'
    simp only [Function.comp, top_p, alike, alikeAll, Bool.and_self]
  · obtain ⟨i, _, rfl⟩ := List.mem_map.mp hd
    rw [top_p]
    exact ⟨by simp, by simp [PyData.depth, PyData.depthAll]⟩
  · rw [List.length_map]
    have := List.length_filter_le (bxF t s) (List.range t.length)
    rw [List.length_range] at this
    omega
theorem ev_first (C : Cs26 Γ) (ht : TreeOk t) (hn : n < t.length) {s : Str} (hs : s ∈ namesL) (hsn : (Sum.inr s : Key) ∈ vs t n) {f : Nat} (hf : S[f]? = some (.lst ((((List.range t.length).filter (bxF t s)).map (topD t)).mergeSort (dataLe false toP)))) :
    Ev (wCall (Γ 19) (aCons (wCall (Γ 10) (aCons (wVar 3) (aCons (wVar 13) (aNil)))) (aCons (wOp fIx (wOp fIx (wVar 16) (wC (.int 0))) (wC (.int 1))) (aNil))))
      [r0, r1, r2, some (.tup (t.map Node.d)), some (.int (n : Int)), r5, r6, r7, r8, r9, r10, r11, r12, some (.str s), r14, r15, some (.ref f), r17] S (fun d S' => d = .bl true ∧ Pf S S') := by
  intro Q E hQ
  have h3 : (301 : Nat) < sizeLine := by decide
  have hfew := ht.few
  have c10 := C.c10
  have c19 := C.c19I
  have hmem : ∀ i, i < t.length → bxF t s i = true → s ∈ vnF (nd t i).2 := fun i _ h => by
    unfold bxF at h
    obtain ⟨s', h1, h2⟩ := mem_srtN.mp (of_decide_eq_true h)
    cases h2
    exact h1
  simp [bodyG, sSeq, sAsg, sDrop, sRet, sIf, sNext, wOp, wUn, wVar, wC, aNil, aCons, wFn, wTup, wLst, wIf, tVal, tAnd, tOr, tNot, wAnd, wOr, wNot, wCall, fA1, fIx, fIsiA, fIsi, typeD, kit_int_int, kit_int_str, kit_int_tuple, kit_int_bool, kit_str_int, kit_str_str, kit_str_tuple, kit_str_bool, kit_tuple_int, kit_tuple_str, kit_tuple_tuple, kit_tuple_bool, kit_bool_int, kit_bool_str, kit_bool_tuple, kit_bool_bool, kit_list_int, kit_list_str, kit_list_tuple, kit_list_bool, kit_dict_int, kit_dict_str, kit_dict_tuple, kit_dict_bool, atSq, atI0, atI1, endK, startR, Pat.go, Pat.gos, fI, fI0, fIB, wChain, oB_some]
  refine c10 t (.str s) (bxF t s) S ht (fun S i Q hi h => ?_) _ _ (fun m l S1 hl p1 => ?_) (fun S1 hl p1 => ?_)
  · show fInA S (kD (.inr s)) (.tup ((vs t i).map kD)) Q
    refine inA_keys (in_keys (b := true) (fun s' e => by cases e; exact words_ok s (List.mem_append_left _ hs)) (names_str (ht.names hi)) ?_)
    exact h
  · have hf1 := p1 _ _ hf
    have hmf : m ∈ (List.range t.length).filter (bxF t s) := by rw [hl]; exact List.mem_cons_self
    obtain ⟨m1, m2⟩ := List.mem_filter.mp hmf
    have m1 := List.mem_range.mp m1
    have hpw : ((List.range t.length).filter (bxF t s)).Pairwise (· < ·) := List.Pairwise.filter _ List.pairwise_lt_range
    rw [hl] at hpw hf1
    have hlt := (List.pairwise_cons.mp hpw).1
    have hmin : ∀ j, j < m → s ∉ vnF (nd t j).2 := fun j hj hs' => by
      have hj2 : j ∈ (List.range t.length).filter (bxF t s) := List.mem_filter.mpr ⟨List.mem_range.mpr (by omega), by
        unfold bxF
        exact decide_eq_true (mem_srtN.mpr ⟨s, hs', rfl⟩)⟩
      rw [hl] at hj2
      rcases List.mem_cons.mp hj2 with e | hj2
      · omega
      · have := hlt j hj2
        omega
    obtain ⟨r, hr⟩ := perm_head (t := t) (m := m) (l := l) fun i hi => by
      have hi2 : i ∈ (List.range t.length).filter (bxF t s) := by rw [hl]; exact List.mem_cons_of_mem _ hi
      obtain ⟨i1, i2⟩ := List.mem_filter.mp hi2
      have i1 := List.mem_range.mp i1
      rcases way_min ht m1 (hmem m m1 m2) hmin i i (Nat.le_refl _) i1 (hmem i i1 i2) with e | e
      · have := hlt i hi
        omega
      · exact e
    rw [hr] at hf1
    simp [fIx, hf1, atI0, topD, atI1]
    exact c19 S1 m (by omega) _ _ fun d S2 ⟨e1, e2⟩ => by subst e1 e2; exact hQ _ _ ⟨rfl, p1⟩
  · exfalso
    have : n ∈ (List.range t.length).filter (bxF t s) := List.mem_filter.mpr ⟨List.mem_range.mpr hn, decide_eq_true hsn⟩
    rw [hl] at this
    cases this
theorem bodyB_ok (C : Cs26 Γ) (ht : TreeOk t) (hn : n < t.length) : Do (law_B Γ) [r0, r1, r2, some (.tup (t.map Node.d)), some (.int (n : Int)), r5, r6, r7, r8, r9, r10, r11, r12, r13, r14, r15, r16, r17] S
    (fun ρ' S' => ∃ r10' r11' r12' r13' r14' r15' r16', ρ' = [r0, r1, r2, some (.tup (t.map Node.d)), some (.int (n : Int)), r5, r6, r7, r8, r9, r10', r11', r12', r13', r14', r15', r16', r17] ∧ Pf S S') := by
  intro kt hk
  unfold law_B
  have c24 := C.c24
  have c29 := C.c29
  have ev1 : ∀ (Q : List D → Sto → Prop) (E : QX), (∀ m S1, S1[m]? = some (.lst ((vs t n).map kD)) → Pf S S1 → Q [.ref m, .tup (nI (way t n))] S1) →
      (aCons (wCall (Γ 24) (aCons (wOp fIx (wOp fIx (wVar 3) (wVar 4)) (wC (.int 1))) (aNil))) (aCons (wCall (Γ 29) (aCons (wVar 3) (aCons (wVar 4) (aNil)))) (aNil))) [r0, r1, r2, some (.tup (t.map Node.d)), some (.int (n : Int)), r5, r6, r7, r8, r9, r10, r11, r12, r13, r14, r15, r16, r17] S Q E := by
    intro Q E hQ
    simp [bodyG, sSeq, sAsg, sDrop, sRet, sIf, sNext, wOp, wUn, wVar, wC, aNil, aCons, wFn, wTup, wLst, wIf, tVal, tAnd, tOr, tNot, wAnd, wOr, wNot, wCall, fA1, fIx, fIsiA, fIsi, typeD, kit_int_int, kit_int_str, kit_int_tuple, kit_int_bool, kit_str_int, kit_str_str, kit_str_tuple, kit_str_bool, kit_tuple_int, kit_tuple_str, kit_tuple_tuple, kit_tuple_bool, kit_bool_int, kit_bool_str, kit_bool_tuple, kit_bool_bool, kit_list_int, kit_list_str, kit_list_tuple, kit_list_bool, kit_dict_int, kit_dict_str, kit_dict_tuple, kit_dict_bool, atSq, atI0, atI1, endK, startR, Pat.go, Pat.gos, fI, fI0, fIB, wChain, oB_some, fIx, ix_node hn, Node.d, atI1]
    refine c24 S _ (ht.fok hn) (ht.ffew hn) _ _ fun d S1 ⟨m, e1, h1, p1⟩ => ?_
    subst e1
    refine c29 t n S1 ht hn _ _ fun d S2 ⟨e1, p2⟩ => ?_
    subst e1
    exact hQ m S2 (p2 _ _ h1) (p1.trans p2)
  refine par_seq (ev1 _ _ fun mn S1 h1 p1 => ?_)
  dsimp only
  refine asg_seq (ev_its (n := n) ht hn _ _ fun d S2 ⟨e1, p2⟩ => ?_)
  subst e1
  show oB (some _) _
  rw [oB_some]
  refine asg_seq (ev_under (n := n) C ht hn _ _ fun d S3 ⟨e1, p3⟩ => ?_)
  subst e1
  show oB (some _) _
  rw [oB_some]
  refine asg_seq (ev_found (n := n) C ht hn _ _ fun d S4 ⟨f, e1, h4, p4⟩ => ?_)
  subst e1
  show oB (some _) _
  rw [oB_some]
  have q4 := p1.trans (p2.trans (p3.trans p4))
  have m4 := p4 _ _ (p3 _ _ (p2 _ _ h1))
  refine yes_seq (ev_alike (n := n) C ht hn h4 m4) fun S5 p5 => ?_
  have m5 := p5 _ _ m4
  have q5 := q4.trans p5
  refine for_end (seq_ref (n := mn) rfl m5 ?_)
  refine forL_do (fun ds ρ S6 => ∃ (xs : List Key) (y13 y16 : Option D), ds = xs.map kD ∧ (∀ x ∈ xs, x ∈ vs t n) ∧ ρ = [r0, r1, r2, some (.tup (t.map Node.d)), some (.int (n : Int)), r5, r6, r7, r8, r9, some (.tup (nI (innerN t n))), some (.tup (nI (under t n))), some (.ref f), y13, some (.ref mn), some (.tup (nI (way t n))), y16, r17] ∧ Pf S S6 ∧ S6[mn]? = some (.lst ((vs t n).map kD))) ?_ ?_ _ _ _
    ⟨vs t n, r13, r16, rfl, fun _ h => h, rfl, q5, m5⟩
  · rintro ρ S6 ⟨xs, y13, y16, e1, hx, rfl, p6, m6⟩
    exact ⟨m6, hk _ _ ⟨_, _, _, _, _, _, _, rfl, p6⟩⟩
  · rintro d ds ρ S6 ⟨xs, y13, y16, e1, hx, rfl, p6, m6⟩
    cases xs with
    | nil => cases e1
    | cons x xs =>
      rw [List.map_cons] at e1
      injection e1 with e1 e3
      subst e1 e3
      have hxv := hx x List.mem_cons_self
      obtain ⟨s, rfl, hs⟩ := ht.names hn x hxv
      refine ⟨m6, _, rfl, fun K hK => ?_⟩
      refine asg_seq (ev_tops (n := n) C ht hs _ _ fun d S7 ⟨f7, e1, h7, p7⟩ => ?_)
      subst e1
      show oB (some _) _
      rw [oB_some]
      refine yes_end (ev_first (n := n) C ht hn hs hxv h7) fun S8 p8 => ?_
      have q8 := p7.trans p8
      exact hK _ _ ⟨xs, _, _, rfl, fun x hx' => hx x (List.mem_cons_of_mem _ hx'), rfl, p6.trans q8, q8 _ _ m6⟩
end
end Zz
set_option Elab.async false
set_option linter.all false
set_option maxRecDepth 100000
namespace Zz
open PySem PySem.Spec PyProof.Rows L2
abbrev nothD : D := .tup [.str "nothing"]
abbrev nothP : PyData := .tuple [.str "nothing"]
theorem noth_sn (S : Sto) : ∀ n : Nat, Sns S (List.replicate n nothD) (List.replicate n nothP)
  | 0 => .nil
  | n + 1 => .cons (.tup (.cons (.str _) .nil)) (noth_sn S n)
theorem nothL_shaped : SeqAt.shaped (.list (List.replicate 6 nothP)) = true := by decide +kernel
theorem nothL_eqv : PyData.eqv (.list (List.replicate 6 nothP)) (.list (List.replicate 6 nothP)) = true := by decide +kernel
theorem not_names : ("zz" : Str) ∉ namesL ∧ ("A" : Str) ∉ namesL ∧ PyData.strOk ("zz" : Str) = true ∧ PyData.strOk ("A" : Str) = true := by decide +kernel
section
variable {ρ : Rho} {S : Sto} {Q : QD} {E : QX} {k : Kt}
theorem callV_of {γs : Str → Option Ga} {i : Nat} {x : Str} {γ : Ga} {wa : WA} (hi : ρ[i]?.join = some (.glo x)) (hγ : γs x = some γ) (h : wa ρ S (fun ds S1 => γ ds S1 Q E) E) : wCallV γs i wa ρ S Q E := by
  simp only [wCallV, hi, oB_some, hγ]
  exact h
end
section
variable {Γ : Cs} {S : Sto} {t : List Node} {r0 r1 r2 r3 r4 r5 r6 r7 r8 r9 r10 r11 r12 r13 r14 r15 r16 r17 : Option D} {b m : Nat}
def toldD (p : Bool) : D := if p then .tup [.str "told", .non] else nothD
theorem ev_told (C : Cs26 Γ) (ht : TreeOk t) {o : MO} (hT : S[0]? = some o) : Ev (wThunk 0 o (TG Γ 30) (wCall (Γ 12) (aCons (wVar 3) (aNil)))) [r0, r1, r2, some (.tup (t.map Node.d)), r4, r5, r6, r7, r8, r9, r10, r11, r12, r13, r14, r15, r16, r17] S (fun d S' => d = toldD (plainB t) ∧ Pf S S') := by
  intro Q E hQ
  refine thunk_of hT fun Qt Et hqt het => ?_
  refine call1 (d := .tup (t.map Node.d)) rfl (C.c12 t S ht Qt Et (fun hp S' p => hqt _ _ ?_) fun hp S' p => het _ ?_)
  · exact hQ _ _ ⟨by rw [hp]; rfl, p⟩
  · exact hQ _ _ ⟨by rw [hp]; rfl, p⟩
theorem ev_plainT (C : Cs26 Γ) (ht : TreeOk t) (K : Bool → Sto → Prop) (E : QX) (hK : ∀ S', Pf S S' → K false S') :
    (tOr (tNot (tVal (wCall (Γ 19) (aCons (wCall (Γ 11) (aCons (wVar 3) (aNil))) (aCons (wVar 5) (aNil)))))) (tVal (wOp (fEq false) (wOp (fEq true) (wVar 6) (wTup (aCons (wC (.str "nothing")) (aNil)))) (wNot (wVar 5)))))
      [r0, r1, r2, some (.tup (t.map Node.d)), r4, some (.bl (plainB t)), some (toldD (plainB t)), r7, r8, r9, r10, r11, r12, r13, r14, r15, r16, r17] S K E := by
  have c11 := C.c11 t
  have c19 := C.c19B
  have h1l : (1 : Nat) ≤ sizeLine := by decide
  have s1 : SeqAt.shaped (.tuple [.str "told", .none]) = true := by decide +kernel
  have s2 : SeqAt.shaped nothP = true := by decide +kernel
  have e1 : PyData.eqv (.tuple [.str "told", .none]) nothP = false := by decide +kernel
  have e2 : PyData.eqv nothP nothP = true := by decide +kernel
  simp [bodyG, sSeq, sAsg, sDrop, sRet, sIf, sNext, wOp, wUn, wVar, wC, aNil, aCons, wFn, wTup, wLst, wIf, tVal, tAnd, tOr, tNot, wAnd, wOr, wNot, wCall, fA1, fIx, fIsiA, fIsi, typeD, kit_int_int, kit_int_str, kit_int_tuple, kit_int_bool, kit_str_int, kit_str_str, kit_str_tuple, kit_str_bool, kit_tuple_int, kit_tuple_str, kit_tuple_tuple, kit_tuple_bool, kit_bool_int, kit_bool_str, kit_bool_tuple, kit_bool_bool, kit_list_int, kit_list_str, kit_list_tuple, kit_list_bool, kit_dict_int, kit_dict_str, kit_dict_tuple, kit_dict_bool, atSq, atI0, atI1, endK, startR, Pat.go, Pat.gos, fI, fI0, fIB, wChain, oB_some]
  refine c11 S ht _ _ fun d S1 ⟨x1, p1⟩ => ?_
  subst x1
  refine c19 S1 _ _ _ fun d S2 ⟨x1, x2⟩ => ?_
  subst x1 x2
  simp [bodyG, sSeq, sAsg, sDrop, sRet, sIf, sNext, wOp, wUn, wVar, wC, aNil, aCons, wFn, wTup, wLst, wIf, tVal, tAnd, tOr, tNot, wAnd, wOr, wNot, wCall, fA1, fIx, fIsiA, fIsi, typeD, kit_int_int, kit_int_str, kit_int_tuple, kit_int_bool, kit_str_int, kit_str_str, kit_str_tuple, kit_str_bool, kit_tuple_int, kit_tuple_str, kit_tuple_tuple, kit_tuple_bool, kit_bool_int, kit_bool_str, kit_bool_tuple, kit_bool_bool, kit_list_int, kit_list_str, kit_list_tuple, kit_list_bool, kit_dict_int, kit_dict_str, kit_dict_tuple, kit_dict_bool, atSq, atI0, atI1, endK, startR, Pat.go, Pat.gos, fI, fI0, fIB, wChain, oB_some, h1l, fEq]
  cases hp : plainB t with
  | true =>
    refine ⟨_, .tup (.cons (.str _) (.cons .non .nil)), _, .tup (.cons (.str _) .nil), s1, s2, ?_⟩
    rw [e1]
    simp
    refine ⟨_, .bl _, _, .bl _, shaped_bool _, shaped_bool _, ?_⟩
    rw [eqv_bool]
    exact hK _ p1
  | false =>
    refine ⟨_, .tup (.cons (.str _) .nil), _, .tup (.cons (.str _) .nil), s2, s2, ?_⟩
    rw [e2]
    simp
    refine ⟨_, .bl _, _, .bl _, shaped_bool _, shaped_bool _, ?_⟩
    rw [eqv_bool]
    exact hK _ p1
theorem ev_odd (C : Cs26 Γ) (hb : Bag b m S) : Ev (wCall (Γ 18) (aCons (wVar 1) (aCons (wLst (aCons (wUn fNeg (wC (.int 1))) (aCons (wFn (fA1 fLen) (aCons (wVar 3) (aNil))) (aCons (wC (.bl true)) (aCons (wC .non) (aCons (wC (.str "0")) (aNil))))))) (aNil))))
    [r0, some (.ref b), r2, some (.tup (t.map Node.d)), r4, r5, r6, r7, r8, r9, r10, r11, r12, r13, r14, r15, r16, r17] S (fun d S' => Odd t.length d ∧ Bag b m S' ∧ Pb b S S') := by
  intro Q E hQ
  have c18 := C.c18 b m
  have hlt := hb.lt
  simp [bodyG, sSeq, sAsg, sDrop, sRet, sIf, sNext, wOp, wUn, wVar, wC, aNil, aCons, wFn, wTup, wLst, wIf, tVal, tAnd, tOr, tNot, wAnd, wOr, wNot, wCall, fA1, fIx, fIsiA, fIsi, typeD, kit_int_int, kit_int_str, kit_int_tuple, kit_int_bool, kit_str_int, kit_str_str, kit_str_tuple, kit_str_bool, kit_tuple_int, kit_tuple_str, kit_tuple_tuple, kit_tuple_bool, kit_bool_int, kit_bool_str, kit_bool_tuple, kit_bool_bool, kit_list_int, kit_list_str, kit_list_tuple, kit_list_bool, kit_dict_int, kit_dict_str, kit_dict_tuple, kit_dict_bool, atSq, atI0, atI1, endK, startR, Pat.go, Pat.gos, fI, fI0, fIB, wChain, oB_some, fNeg, fLen]
  refine ⟨by decide, ?_⟩
  refine c18 (S ++ [.lst [.int (-1), .int (t.length : Int), .bl true, .non, .str "0"]]) S.length [.int (-1), .int (t.length : Int), .bl true, .non, .str "0"] (hb.pf (Pf.app _ _)) (by omega) (by simp) (by simp) (by simp) _ _ fun d S1 ⟨hd, b1, p1⟩ => hQ _ _ ⟨?_, b1, (Pb.app b _ _).trans p1⟩
  simpa [Odd] using hd
/-- the five -/
def five : List Str := ["node_variables", "own_variables", "way_to", "inner_nodes", "below"]
abbrev gsV (Γ : Cs) : Str → Option Ga := (addG "node_variables" (Γ 8) (addG "own_variables" (Γ 9) (addG "way_to" (Γ 13) (addG "inner_nodes" (Γ 14) (addG "below" (Γ 15) (addG "_law_facts_key" (Γ 22) (fun _ => none)))))))
theorem five_bad (C : Cs26 Γ) {x : Str} (hx : x ∈ five) : ∃ γ, gsV Γ x = some γ ∧ ∀ (t : List Node) (y : D) (S : Sto), Odd t.length y → Rz γ [.tup (t.map Node.d), y] S (fun S' => S' = S) := by
  simp only [five, List.mem_cons, List.not_mem_nil, or_false] at hx
  rcases hx with rfl | rfl | rfl | rfl | rfl
  · exact ⟨Γ 8, by unfold gsV addG; rw [if_pos rfl], C.b8⟩
  · exact ⟨Γ 9, by unfold gsV addG; rw [if_neg (by decide), if_pos rfl], C.b9⟩
  · exact ⟨Γ 13, by unfold gsV addG; rw [if_neg (by decide), if_neg (by decide), if_pos rfl], C.b13⟩
  · exact ⟨Γ 14, by unfold gsV addG; rw [if_neg (by decide), if_neg (by decide), if_neg (by decide), if_pos rfl], C.b14⟩
  · exact ⟨Γ 15, by unfold gsV addG; rw [if_neg (by decide), if_neg (by decide), if_neg (by decide), if_neg (by decide), if_pos rfl], C.b15⟩
theorem ev_five (C : Cs26 Γ) {o : MO} (hT : S[0]? = some o) {x : Str} (hx : x ∈ five) {y : D} (hy : Odd t.length y) : Ev (wThunk 0 o (TG Γ 30) (wCallV (gsV Γ) 9 (aCons (wVar 3) (aCons (wVar 7) (aNil))))) [r0, r1, r2, some (.tup (t.map Node.d)), r4, r5, r6, some (y), r8, some (.glo x), r10, r11, r12, r13, r14, r15, r16, r17] S (fun d S' => d = nothD ∧ S' = S) := by
  intro Q E hQ
  obtain ⟨γ, h1, h2⟩ := five_bad C hx
  refine thunk_of hT fun Qt Et hqt het => callV_of (x := x) rfl h1 (args2 (d := .tup (t.map Node.d)) (e := y) rfl rfl (h2 t y S hy _ _ fun S' e => het _ (hQ _ _ ⟨rfl, e⟩)))
theorem ev_last (C : Cs26 Γ) (ht : TreeOk t) (hb : Bag b m S) {o : MO} (hT : S[0]? = some o) : Ev (wThunk 0 o (TG Γ 30) (wCall (Γ 10) (aCons (wVar 3) (aCons (wCall (Γ 18) (aCons (wVar 1) (aCons (wLst (aCons (wC (.str "zz")) (aCons (wC .non) (aCons (wC (.int 0)) (aCons (wC (.str "A")) (aNil)))))) (aNil)))) (aNil)))))
    [r0, some (.ref b), r2, some (.tup (t.map Node.d)), r4, r5, r6, r7, r8, r9, r10, r11, r12, r13, r14, r15, r16, r17] S (fun d S' => d = nothD ∧ Bag b m S' ∧ Pb b S S') := by
  intro Q E hQ
  have c18 := C.c18 b m
  have c10 := C.c10 t
  have hlt := hb.lt
  refine thunk_of hT fun Qt Et hqt het => ?_
  simp [bodyG, sSeq, sAsg, sDrop, sRet, sIf, sNext, wOp, wUn, wVar, wC, aNil, aCons, wFn, wTup, wLst, wIf, tVal, tAnd, tOr, tNot, wAnd, wOr, wNot, wCall, fA1, fIx, fIsiA, fIsi, typeD, kit_int_int, kit_int_str, kit_int_tuple, kit_int_bool, kit_str_int, kit_str_str, kit_str_tuple, kit_str_bool, kit_tuple_int, kit_tuple_str, kit_tuple_tuple, kit_tuple_bool, kit_bool_int, kit_bool_str, kit_bool_tuple, kit_bool_bool, kit_list_int, kit_list_str, kit_list_tuple, kit_list_bool, kit_dict_int, kit_dict_str, kit_dict_tuple, kit_dict_bool, atSq, atI0, atI1, endK, startR, Pat.go, Pat.gos, fI, fI0, fIB, wChain, oB_some]
  refine ⟨by decide, ?_⟩
  refine c18 (S ++ [.lst [.str "zz", .non, .int 0, .str "A"]]) S.length [.str "zz", .non, .int 0, .str "A"] (hb.pf (Pf.app _ _)) (by omega) (by simp) (by simp) (by simp) _ _ fun d S1 ⟨hd, b1, p1⟩ => ?_
  have p : Pb b S S1 := (Pb.app b _ _).trans p1
  obtain ⟨n1, n2, n3, n4⟩ := not_names
  have hkey : ∀ (x : Key), d = kD x → (∀ s, x = .inr s → PyData.strOk s = true) → (∀ i, i < t.length → x ∉ vs t i) → ∀ (S : Sto) (i : Nat) (Q : QD), i < t.length → Q (.bl false) S → fInA S d (.tup ((vs t i).map kD)) Q := by
    rintro x rfl h1 h2 S i Q hi h
    refine inA_keys (in_keys (b := true) h1 (names_str (ht.names hi)) ?_)
    rw [decide_eq_false (h2 i hi)]
    exact h
  have hx : ∀ (S : Sto) (i : Nat) (Q : QD), i < t.length → Q (.bl ((fun _ => false : Nat → Bool) i)) S → fInA S d (.tup ((vs t i).map kD)) Q := by
    simp only [List.mem_cons, List.not_mem_nil, or_false] at hd
    rcases hd with rfl | rfl | rfl | rfl
    · exact hkey (.inr "zz") rfl (fun s e => by cases e; exact n3) fun i hi hm => by
        obtain ⟨s, e, hs⟩ := ht.names hi _ hm
        cases e; exact n1 hs
    · intro S i Q hi h
      have hn : ∀ ks : List Key, anyEq .none (ks.map kP) = false := fun ks => by
        induction ks with
        | nil => rfl
        | cons x ks ih =>
          simp only [anyEq, List.map_cons, List.any_cons] at ih ⊢
          rw [ih]
          cases x <;> rfl
      exact ⟨.none, (vs t i).map kP, .non, sns_keys _ _, by decide +kernel, keys_lay (names_str (ht.names hi)), by rw [hn]; exact h⟩
    · exact hkey (.inl 0) rfl (fun s e => by cases e) fun i hi hm => by
        obtain ⟨s, e, hs⟩ := ht.names hi _ hm
        cases e
    · exact hkey (.inr "A") rfl (fun s e => by cases e; exact n4) fun i hi hm => by
        obtain ⟨s, e, hs⟩ := ht.names hi _ hm
        cases e; exact n2 hs
  refine c10 d (fun _ => false) S1 ht hx _ _ (fun m' l S2 hl p2 => ?_) fun S2 hl p2 => het _ (hQ _ _ ⟨rfl, b1.pf p2, p.trans (p2.pb b)⟩)
  have e : (List.range t.length).filter (fun _ => false) = [] := List.filter_eq_nil_iff.mpr (fun _ _ h => by cases h)
  have hl2 : ([] : List Nat) = m' :: l := e.symm.trans hl
  cases hl2
end
end Zz
set_option Elab.async false
set_option linter.all false
set_option maxRecDepth 100000
namespace Zz
open PySem PySem.Spec PyProof.Rows L2
section
variable {ρ : Rho} {S : Sto} {Q : QD} {E : QX} {k : Kt}
theorem if_no {t : WT} {a : WS} {r : WS} (h : t ρ S (fun c S1 => if c = true then a { k with nx := r k } ρ S1 else r k ρ S1) (fun x S1 => k.ex x ρ S1)) : sSeq (sIf t a sNext) r k ρ S := h
theorem if_no_end {t : WT} {a : WS} (h : t ρ S (fun c S1 => if c = true then a k ρ S1 else k.nx ρ S1) (fun x S1 => k.ex x ρ S1)) : sIf t a sNext k ρ S := h
theorem no_seq {t : WT} {a r : WS} {post : Sto → Prop} (h : ∀ (K : Bool → Sto → Prop) (E : QX), (∀ S', post S' → K false S') → t ρ S K E) (hb : ∀ S', post S' → r k ρ S') : sSeq (sIf t a sNext) r k ρ S :=
  if_no (h _ _ fun S' p => hb S' p)
theorem no_end {t : WT} {a : WS} {post : Sto → Prop} (h : ∀ (K : Bool → Sto → Prop) (E : QX), (∀ S', post S' → K false S') → t ρ S K E) (hb : ∀ S', post S' → k.nx ρ S') : sIf t a sNext k ρ S :=
  if_no_end (h _ _ fun S' p => hb S' p)
end
section
variable {Γ : Cs} {S : Sto} {tb : List MO} {r0 r2 r3 r4 r5 r6 r7 r8 r9 r10 r11 r12 r13 r14 r15 r16 r17 : Option D} {b m : Nat}
theorem ev_six {r1 : Option D} {n : Nat} (hs : S[n]? = some (.lst (List.replicate 6 nothD))) (K : Bool → Sto → Prop) (E : QX) (hK : ∀ S', Pf S S' → K false S') :
    (tVal (wOp (fEq false) (wVar 8) (wOp fRepL (wLst (aCons (wTup (aCons (wC (.str "nothing")) (aNil))) (aNil))) (wC (.int 6))))) [r0, r1, r2, r3, r4, r5, r6, r7, some (.ref n), r9, r10, r11, r12, r13, r14, r15, r16, r17] S K E := by
  have h1l : (1 : Nat) ≤ sizeLine := by decide
  simp [bodyG, sSeq, sAsg, sDrop, sRet, sIf, sNext, wOp, wUn, wVar, wC, aNil, aCons, wFn, wTup, wLst, wIf, tVal, tAnd, tOr, tNot, wAnd, wOr, wNot, wCall, fA1, fIx, fIsiA, fIsi, typeD, kit_int_int, kit_int_str, kit_int_tuple, kit_int_bool, kit_str_int, kit_str_str, kit_str_tuple, kit_str_bool, kit_tuple_int, kit_tuple_str, kit_tuple_tuple, kit_tuple_bool, kit_bool_int, kit_bool_str, kit_bool_tuple, kit_bool_bool, kit_list_int, kit_list_str, kit_list_tuple, kit_list_bool, kit_dict_int, kit_dict_str, kit_dict_tuple, kit_dict_bool, atSq, atI0, atI1, endK, startR, Pat.go, Pat.gos, fI, fI0, fIB, wChain, oB_some, h1l, fRepL, atL]
  refine ⟨by decide, ?_⟩
  have hs2 := (Pf.app S [MO.lst [nothD], MO.lst (List.replicate 6 [nothD]).flatten]) _ _ hs
  have e6 : (List.replicate 6 [nothD]).flatten = List.replicate 6 nothD := rfl
  refine ⟨.list (List.replicate 6 nothP), .list (List.replicate 6 nothP), .lst hs2 (noth_sn _ 6), .lst (xs := List.replicate 6 nothD) (by simp) (noth_sn _ 6), nothL_shaped, nothL_shaped, ?_⟩
  rw [nothL_eqv]
  exact hK _ (Pf.app _ _)
theorem lap_ok (C : Cs26 Γ) (hb : Bag b m S) (h0 : 0 < b) (hT : S[0]? = some (tb.getD 0 .off)) : Do (law_lap Γ tb) [r0, some (.ref b), r2, r3, r4, r5, r6, r7, r8, r9, r10, r11, r12, r13, r14, r15, r16, r17] S
    (fun ρ' S' => ∃ r3' r4' r5' r6' r7' r8' r9' r10' r11' r12' r13' r14' r15' r16', ρ' = [r0, some (.ref b), r2, r3', r4', r5', r6', r7', r8', r9', r10', r11', r12', r13', r14', r15', r16', r17] ∧ Bag b m S' ∧ Pb b S S') := by
  intro kt hk
  unfold law_lap
  have h300 : (300 : Nat) < sizeLine := by decide
  refine asg_seq (call1 (d := .ref b) rfl ?_)
  refine C.c26 b m S hb _ _ fun d S1 ⟨t, e1, ht, b1, p1⟩ => ?_
  subst e1
  show oB (some _) _
  rw [oB_some]
  have hfew := ht.few
  -- node by node
  have evl : Ev (wFn (fA1 fLen) (aCons (wVar 3) (aNil))) [r0, some (.ref b), r2, some (.tup (t.map Node.d)), r4, r5, r6, r7, r8, r9, r10, r11, r12, r13, r14, r15, r16, r17] S1 (fun d S' => d = .int (t.length : Int) ∧ S' = S1) := by
    intro Q E hQ
    simp [bodyG, sSeq, sAsg, sDrop, sRet, sIf, sNext, wOp, wUn, wVar, wC, aNil, aCons, wFn, wTup, wLst, wIf, tVal, tAnd, tOr, tNot, wAnd, wOr, wNot, wCall, fA1, fIx, fIsiA, fIsi, typeD, kit_int_int, kit_int_str, kit_int_tuple, kit_int_bool, kit_str_int, kit_str_str, kit_str_tuple, kit_str_bool, kit_tuple_int, kit_tuple_str, kit_tuple_tuple, kit_tuple_bool, kit_bool_int, kit_bool_str, kit_bool_tuple, kit_bool_bool, kit_list_int, kit_list_str, kit_list_tuple, kit_list_bool, kit_dict_int, kit_dict_str, kit_dict_tuple, kit_dict_bool, atSq, atI0, atI1, endK, startR, Pat.go, Pat.gos, fI, fI0, fIB, wChain, oB_some, fLen]
    exact hQ _ _ ⟨rfl, rfl⟩
  refine for_seq (rng1_of (evl _ _ fun d S2 ⟨e1, e2⟩ => ?_))
  subst e1 e2
  refine ⟨by omega, ?_⟩
  have e5 : ((t.length : Nat) : Int).toNat = t.length := by omega
  rw [e5, rng0]
  refine forL_do (fun ds ρ S3 => ∃ (is : List Nat) (r4 r10 r11 r12 r13 r14 r15 r16 : Option D), ds = is.map (fun (i : Nat) => D.int (i : Int)) ∧ (∀ i ∈ is, i < t.length) ∧ ρ = [r0, some (.ref b), r2, some (.tup (t.map Node.d)), r4, r5, r6, r7, r8, r9, r10, r11, r12, r13, r14, r15, r16, r17] ∧ Pf S2 S3) ?_ ?_ _ _ _
    ⟨List.range t.length, r4, r10, r11, r12, r13, r14, r15, r16, rfl, fun i hi => List.mem_range.mp hi, rfl, .refl _⟩
  case refine_2 =>
    rintro d ds ρ S3 ⟨is, r4, r10, r11, r12, r13, r14, r15, r16, e1, hi, rfl, p3⟩
    cases is with
    | nil => cases e1
    | cons i is =>
      rw [List.map_cons] at e1
      injection e1 with e1 e3
      subst e1 e3
      refine ⟨True.intro, _, rfl, fun K hK => ?_⟩
      refine bodyB_ok C ht (hi i List.mem_cons_self) _ fun ρ' S4 ⟨r10', r11', r12', r13', r14', r15', r16', e, p4⟩ => ?_
      subst e
      exact hK _ _ ⟨is, _, _, _, _, _, _, _, _, rfl, fun j hj => hi j (List.mem_cons_of_mem _ hj), rfl, p3.trans p4⟩
  rintro ρ S3 ⟨is, r4, r10, r11, r12, r13, r14, r15, r16, e1, hi, rfl, p3⟩
  refine ⟨True.intro, ?_⟩
  dsimp only
  have b3 := b1.pf p3
  have q3 : Pb b S S3 := p1.trans (p3.pb b)
  have T3 : S3[0]? = some (tb.getD 0 .off) := q3.keep _ _ (by omega) hT
  refine asg_seq (call1 (d := .tup (t.map Node.d)) rfl ?_)
  refine C.c28 t S3 ht _ _ fun d S4 ⟨e1, p4⟩ => ?_
  subst e1
  show oB (some _) _
  rw [oB_some]
  refine asg_seq (ev_told C ht (p4 _ _ T3) _ _ fun d S5 ⟨e1, p5⟩ => ?_)
  subst e1
  show oB (some _) _
  rw [oB_some]
  refine no_seq (post := fun S' => Pf S5 S') (ev_plainT C ht) fun S6 p6 => ?_
  have q36 := p4.trans (p5.trans p6)
  have b6 := b3.pf q36
  have q6 : Pb b S S6 := q3.trans (q36.pb b)
  refine asg_seq (ev_odd C b6 _ _ fun y S7 ⟨hy, b7, p7⟩ => ?_)
  show oB (some _) _
  rw [oB_some]
  refine asg_seq (lst0 ?_)
  show oB (some _) _
  rw [oB_some]
  have hb7 := b7.lt
  have hm7 := b7.ltm
  have b8 : Bag b m (S7 ++ [.lst []]) := b7.pf (Pf.app _ _)
  have q7 : Pb b S S7 := q6.trans p7
  have T7 : S7[0]? = some (tb.getD 0 .off) := q7.keep _ _ (by omega) hT
  have h07 : 0 < S7.length := by omega
  refine for_seq ?_
  have evt : ∀ (ρ : Rho) (S : Sto) (Q : Src → Sto → Prop) (E : QX), Q ⟨five.map D.glo, fun _ => True⟩ S → wSeq (wTup (aCons (wC (.glo "node_variables")) (aCons (wC (.glo "own_variables")) (aCons (wC (.glo "way_to")) (aCons (wC (.glo "inner_nodes")) (aCons (wC (.glo "below")) (aNil))))))) ρ S Q E := fun ρ S Q E h => by
    simp [wSeq, wTup, aCons, aNil, wC, srcOf]
    exact ⟨by decide, h⟩
  refine evt _ _ _ _ ?_
  refine forL_do (fun ds ρ S9 => ∃ (xs : List Str) (r9 : Option D) (c : Nat), ds = xs.map D.glo ∧ (∀ x ∈ xs, x ∈ five) ∧ c + xs.length = 5 ∧ ρ = [r0, some (.ref b), r2, some (.tup (t.map Node.d)), r4, some (.bl (plainB t)), some (toldD (plainB t)), some (y), some (.ref S7.length), r9, r10, r11, r12, r13, r14, r15, r16, r17] ∧ S9[S7.length]? = some (.lst (List.replicate c nothD)) ∧ Bag b m S9 ∧ Pb b S S9 ∧ S9[0]? = some (tb.getD 0 .off)) ?_ ?_ _ _ _
    ⟨five, r9, 0, rfl, fun _ h => h, rfl, rfl, by simp, b8, q7.trans (Pb.app b _ _), (Pf.app _ _) _ _ T7⟩
  case refine_2 =>
    rintro d ds ρ S9 ⟨xs, r9, c, e1, hx, hc, rfl, h9, b9, q9, T9⟩
    cases xs with
    | nil => cases e1
    | cons x xs =>
      rw [List.map_cons] at e1
      injection e1 with e1 e3
      subst e1 e3
      refine ⟨True.intro, _, rfl, fun K hK => ?_⟩
      simp only [List.length_cons] at hc
      refine drop_end (mt_app (n := S7.length) rfl h9 (ev_five C T9 (hx x List.mem_cons_self) hy _ _ fun d S10 ⟨e1, e2⟩ => ?_))
      subst e1 e2
      refine atN_of h9 ⟨by rw [List.length_replicate]; omega, hK _ _ ⟨xs, _, c + 1, rfl, fun z hz => hx z (List.mem_cons_of_mem _ hz), by omega, rfl, ?_, b9.setn (by omega) (by omega) _, q9.setn (by have := q7.len; omega) _, by rw [List.getElem?_set_ne (by omega)]; exact T9⟩⟩
      rw [List.getElem?_set_self (List.getElem?_eq_some_iff.mp h9).1, List.replicate_succ']
  rintro ρ S9 ⟨xs, r9, c, e1, hx, hc, rfl, h9, b9, q9, T9⟩
  refine ⟨True.intro, ?_⟩
  dsimp only
  have hxs : xs = [] := by
    cases xs with
    | nil => rfl
    | cons _ _ => cases e1
  subst hxs
  obtain rfl : c = 5 := by simpa using hc
  refine drop_seq (mt_app (n := S7.length) rfl h9 (ev_last C ht b9 T9 _ _ fun d S10 ⟨e1, b10, p10⟩ => ?_))
  subst e1
  have h10 := p10.keep _ _ (by omega : S7.length ≠ b) h9
  refine atN_of h10 ⟨by rw [List.length_replicate]; omega, ?_⟩
  have hl7 : S.length ≤ S7.length := q7.len
  generalize hS11 : S10.set S7.length (.lst (List.replicate 5 nothD ++ [nothD])) = S11
  have h11 : S11[S7.length]? = some (.lst (List.replicate 6 nothD)) := by
    rw [← hS11, List.getElem?_set_self (List.getElem?_eq_some_iff.mp h10).1]
    rfl
  have b11 : Bag b m S11 := by rw [← hS11]; exact b10.setn (by omega) (by omega) _
  have q11 : Pb b S S11 := by rw [← hS11]; exact (q9.trans p10).setn hl7 _
  refine no_end (post := fun S' => Pf S11 S') (ev_six h11) fun S12 p12 => ?_
  exact hk _ _ ⟨_, _, _, _, _, _, _, _, _, _, _, _, _, _, rfl, b11.pf p12, q11.trans (p12.pb b)⟩
end
theorem law_ok (Γ : Cs) (C : Cs26 Γ) (ns : List Int) (T : List MO) (hT : T.length = 1) (hl : ns.length ≤ 63) : bodyG 18 1 (b_law Γ T) [.rol (ns.map D.int)] T (fun d _ => d = .bl true) (fun _ _ => False) := by
  refine ⟨rfl, ?_⟩
  rw [b_law_eq]
  refine asg_seq (call1 (d := .rol (ns.map D.int)) rfl ?_)
  refine C.c16 ns T hl _ _ fun d S1 ⟨b, m, e1, hb, B, p1⟩ => ?_
  subst e1
  show oB (some _) _
  rw [oB_some]
  have T1 : S1[0]? = some (T.getD 0 .off) := p1 _ _ (by rw [List.getD_eq_getElem?_getD, List.getElem?_eq_getElem (by omega)]; rfl)
  refine for_seq (rng1_of ?_)
  refine ⟨by decide, ?_⟩
  refine forL_do (fun ds ρ S => ∃ r0 r2 r3 r4 r5 r6 r7 r8 r9 r10 r11 r12 r13 r14 r15 r16 r17, ρ = [r0, some (.ref b), r2, r3, r4, r5, r6, r7, r8, r9, r10, r11, r12, r13, r14, r15, r16, r17] ∧ Bag b m S ∧ S[0]? = some (T.getD 0 .off)) ?_ ?_ _ _ _ ⟨_, _, _, _, _, _, _, _, _, _, _, _, _, _, _, _, _, rfl, B, T1⟩
  · rintro ρ S ⟨r0, r2, r3, r4, r5, r6, r7, r8, r9, r10, r11, r12, r13, r14, r15, r16, r17, rfl, B, hT1⟩
    exact ⟨True.intro, rfl⟩
  · rintro d ds ρ S ⟨r0, r2, r3, r4, r5, r6, r7, r8, r9, r10, r11, r12, r13, r14, r15, r16, r17, rfl, B, hT1⟩
    refine ⟨True.intro, _, rfl, fun K hK => ?_⟩
    refine lap_ok C B (by omega) hT1 _ fun ρ' S' ⟨r3', r4', r5', r6', r7', r8', r9', r10', r11', r12', r13', r14', r15', r16', e, B', p⟩ => ?_
    subst e
    exact hK _ _ ⟨_, _, _, _, _, _, _, _, _, _, _, _, _, _, _, _, _, rfl, B', p.keep _ _ (by omega) hT1⟩
theorem gm_law (T : List MO) (k : Nat) : Gm T (k + 1) 31 = bodyG 18 1 (b_law (Gm T k) T) := by rw [Gm]
theorem pure_law (ns : List Int) (T : List MO) (hT : T.length = 1) (hl : ns.length ≤ 63) : Gm T 10 31 [.rol (ns.map D.int)] T (fun d _ => d = .bl true) (fun _ _ => False) := by
  have h := law_ok (Gm T (0 + 9)) (cs26 T 0) ns T hT hl
  rw [← gm_law] at h
  exact h
end Zz
set_option Elab.async false
set_option linter.all false
set_option maxRecDepth 100000
set_option maxHeartbeats 0
open PySem PySem.W PySem.Calls PyProof.Rows
theorem PySem.Challenge.cw_maybeparts_k26_words_of_trees_holds : PySem.Challenge.rw_maybeparts_k26_words_of_trees.Holds := by
  w_on; o_law
  refine HandSHeadRun.head_any (r := OpenLaw.row PySem.Challenge.rw_maybeparts_k26_words_of_trees) (q := view (OpenLaw.row PySem.Challenge.rw_maybeparts_k26_words_of_trees).prog [43]) (H := Zz.hk) (ob := Zz.ob) (M := 4000) (loose := Zz.loL) (d := HandSHeadRun.topDef (OpenLaw.row PySem.Challenge.rw_maybeparts_k26_words_of_trees).prog 43) (kwd := []) Zz.ob_eq
    (by kernel_rfl) (fun s => by kernel_rfl) Zz.run (by kernel_rfl) (by kernel_rfl) (by kernel_rfl) (by rfl) (by first | assumption | decide +kernel) (by decide +kernel) ⟨rfl, rfl, rfl, rfl, rfl, by decide +kernel⟩ ?hw ?hc
  case hw => w_witness2
  case hc =>
    refine Zz.walk_GT (l := PySem.Challenge.rw_maybeparts_k26_words_of_trees) (n := 63) (k := 4 * 10) (x := "script") (qs := Zz.qsL) (γ := fun tb => Zz.Gm tb 10 31) rfl (by decide) (by kernel_rfl) ⟨rfl, by decide, by decide⟩ ?F ?S
    case F =>
      intro w mg fa h Y G hmg0
      obtain ⟨K, KX, c⟩ := Y
      have hmg : mg ("law" : PySem.Str) = some (.ref fa) := by
        have e : (HandSHeadRun.topDef (OpenLaw.row PySem.Challenge.rw_maybeparts_k26_words_of_trees).prog 43).name = ("law" : PySem.Str) := by kernel_rfl
        rw [← e]
        exact hmg0
      obtain ⟨fd, T⟩ := Zz.facts (P := (PySem.Challenge.rw_maybeparts_k26_words_of_trees).prog) (w := w) KX G c
      have e := hmg.symm.trans T.m31
      cases e
      refine ⟨K, fd 31, Zz.tfL.map (He.cT K), KX, fun p hp => ?_, fun p hp => ?_, fun p hp => ?_, ?_, rfl, fun s u => Zz.fun_bindsTo T.F31 (ps := ["script"]) (fun _ _ _ _ _ _ us hl => match us, hl with | [_], _ => rfl) s [u] rfl, fun base _ _ TB => ?_⟩
      · obtain ⟨p', hp', rfl⟩ := List.mem_map.mp hp
        exact c.empty p' hp'
      · obtain ⟨p', hp', rfl⟩ := List.mem_map.mp hp
        exact c.out p' hp'
      · obtain ⟨p', hp', rfl⟩ := List.mem_map.mp hp
        exact codeHd_of_K KX (c.hd p' hp')
      · rw [List.map_map]
        exact (Zz.exB_all c.more).1
      · obtain ⟨TB', htb⟩ := Zz.tab_hyps TB (qs := Zz.qsL) rfl
        exact Zz.lev T TB' htb 10 31
    case S =>
      intro ns T hT hl _
      exact Zz.pure_law ns T hT hl
