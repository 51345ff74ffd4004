import PyProof.Rows.All
import Wide.All
import OpenK.AllK
import Wide.FinOn
import HandS.ForMost
import HandS.Zip
import HandS.Rev
import HandS.RevRange
import HandS.Conv
import HandS.IsInst
import HandS.TupAny
import HandS.SortInts
import PyProof.LongRange
import HandS.SetFor
import HandS.SetKeys
import HandS.Strs
import HandS.SortKw
import PyProof.Rows.SortShellAny
import KE.GoesMore
import PySem.Challenge.RW_ateverymoment_k70_horizon
set_option Elab.async false
set_option linter.all false
set_option maxRecDepth 100000
set_option autoImplicit false
set_option maxHeartbeats 4000000
/-! DSet: sorted(set(list)) over ints and texts. -/
namespace DL
open PySem PySem.Spec PyProof.Rows L2
/-- an entry's key -/
def keyM (e : Int × Value) : Key := match e.2 with
  | .int k _ => .inl k
  | .str x _ => .inr x
  | _ => .inl 0
def GoodM (w : World) (e : Int × Value) : Prop := ∃ k : Key, RelV (kV k) e.2 ∧ e.1 = keyH w k
/-- at a: the set of the keys ks; its table can be walked -/
def SetM (w : World) (h : Heap) (a : Addr) (ks : List Key) : Prop :=
  ∃ o es ep t, h.get? a = some o ∧ o.ExactSet ∧ o.data = .set es ep t ∧ (∀ e ∈ es.toList, GoodM w e) ∧ (es.toList.map keyM).Nodup ∧ (∀ k, k ∈ ks ↔ k ∈ es.toList.map keyM) ∧
    es.size ≤ ks.length ∧ t.fits es.size = true ∧ Ris t.place.toList ∧ (w.params.followText "set-order" = true ∨ t.led = true)
section
variable {P : Program} {w : World} {h h' : Heap} {a : Addr} {ks : List Key}
theorem SetM.at (R : SetM w h a ks) (k : ∀ o, h.get? a = some o → h'.get? a = some o) : SetM w h' a ks :=
  let ⟨o, es, ep, t, ho, r⟩ := R
  ⟨o, es, ep, t, k o ho, r⟩
theorem goodM_key {e : Int × Value} (g : GoodM w e) {k : Key} : (mixKind P w).is k e.2 = true ↔ keyM e = k := by
  obtain ⟨k0, r, _⟩ := g
  have h0 : keyM e = k0 := by
    unfold keyM
    cases k0 with
    | inl i => obtain ⟨t, z⟩ := r; rw [z]
    | inr x => obtain ⟨t, z⟩ := r; rw [z]
  rw [h0]
  refine ⟨fun z => (mixKind P w).inj e.2 k0 k (kV_is r) z, fun z => ?_⟩
  rw [← z]
  exact kV_is r
theorem goodM_elems {l : List (Int × Value)} (g : ∀ e ∈ l, GoodM w e) : ElemsOf (mixKind P w) l := fun e he => by
  obtain ⟨k, r, hh⟩ := g e he
  exact ⟨⟨k, kV_is r, hh⟩, key_scan r⟩
theorem goodM_mem {l : List (Int × Value)} (g : ∀ e ∈ l, GoodM w e) (k : Key) : k ∈ l.map keyM ↔ ∃ e ∈ l, (mixKind P w).is k e.2 = true := by
  rw [List.mem_map]
  exact ⟨fun ⟨e, he, q⟩ => ⟨e, he, (goodM_key (g e he)).2 q⟩, fun ⟨e, he, q⟩ => ⟨e, he, (goodM_key (g e he)).1 q⟩⟩
end
section
variable {P : Program} {w : World} {A : Around} {E : Value → Shared → Prop} {s : Shared} {a : Addr} {ks : List Key}
/-- the end of an addition: stored, and laid anew when too full -/
theorem addM_end {g : Bool → Sem Unit} (hg : ∀ (b : Bool) (s₁ : Shared) (R : Unit → Shared → Prop), R () s₁ → wpAny (model P w) A (g b) R E s₁)
    {o : Obj} {es : Array (Int × Value)} {ep : Nat} {t : SetTable} (ho : s.heap.get? a = some o) (hex : o.ExactSet) (hd : o.data = .set es ep t)
    {es1 : Array (Int × Value)} {t2 : SetTable} (hb : ks.length < scanBound) (g1 : ∀ e ∈ es1.toList, GoodM w e) (nd1 : (es1.toList.map keyM).Nodup) (m1 : ∀ k, k ∈ ks ↔ k ∈ es1.toList.map keyM)
    (hb1 : es1.size ≤ ks.length) (hf2 : t2.fits es1.size = true) (hr : Ris t2.place.toList) (hl : w.params.followText "set-order" = true ∨ t2.led = true) {was : Bool} {R : Option Bool → Shared → Prop}
    (hR : ∀ h', Heap.SameBut a s.heap h' → SetM w h' a ks → R (some true) { s with heap := h' }) :
    wpAny (model P w) A (do
        storeSet a es1 t2
        if (!was && t2.tooFull) = true then do
            g (relayAll t2 es1 (SetTable.grown es1.size)).2.2
            storeSet a (relayAll t2 es1 (SetTable.grown es1.size)).1 (relayAll t2 es1 (SetTable.grown es1.size)).2.1
            pure (some true)
          else pure (some true)) R E s := by
  have hb1' : es1.size < scanBound := Nat.lt_of_le_of_lt hb1 hb
  refine wpAny_bind (wpAny_storeSet_of ho hd ?_ (fits_of_scanBound hb1'))
  have ho1 := store_at (es' := es1) (t' := t2) ho hd
  have sb1 := Heap.SameBut.update s.heap a (Obj.putSet es1 t2)
  by_cases hc : (!was && t2.tooFull) = true
  · rw [if_pos hc]
    have p0 := relayAll_perm t2 es1 (SetTable.grown es1.size)
    have p1 := relayAll_fits t2 es1 (SetTable.grown es1.size)
    have p2 := relayAll_ris t2 es1 (SetTable.grown es1.size)
    have p3 := relayAll_led t2 es1 (SetTable.grown es1.size)
    revert p0 p1 p2 p3
    generalize relayAll t2 es1 (SetTable.grown es1.size) = Z
    obtain ⟨es2, t3, gave⟩ := Z
    dsimp only
    intro p0 p1 p2 p3
    have hsz : es2.size = es1.size := by rw [← Array.length_toList, p0.length_eq, Array.length_toList]
    refine wpAny_bind (hg _ _ _ (wpAny_bind (wpAny_storeSet_of ho1 rfl ?_ (fits_of_scanBound (by rw [hsz]; exact hb1')))))
    refine wpAny_pure (hR _ (sb1.trans (Heap.SameBut.update _ a _)) ?_)
    exact ⟨_, es2, _, t3, store_at (es' := es2) (t' := t3) ho1 rfl, hex, rfl, fun e he => g1 e (p0.mem_iff.mp he), (p0.map keyM).nodup_iff.mpr nd1, fun k => (m1 k).trans (p0.map keyM).mem_iff.symm, by rw [hsz]; exact hb1, by rw [hsz] at p1 ⊢; exact p1, p2, hl.imp id fun z => by rw [p3]; exact z⟩
  · rw [if_neg hc]
    exact wpAny_pure (hR _ sb1 ⟨_, es1, _, t2, ho1, hex, rfl, g1, nd1, m1, hb1, hf2, hr, hl⟩)
/-- one key more -/
theorem addM {k : Key} {u : Value} (ru : RelV (kV k) u) {Q : Bool → Shared → Prop} (R : SetM w s.heap a ks) (room : ks.length + 1 < scanBound)
    (hQ : ∀ b h', Heap.SameBut a s.heap h' → SetM w h' a (ks ++ [k]) → Q b { s with heap := h' }) :
    wpAny (model P w) A (setAddHashed a u ((mixKind P w).hash k)) Q E s := by
  obtain ⟨o, es, ep, t, ho, hex, hd, g, nd, hm, hz, hf, hr, hl⟩ := R
  have hkey : (mixKind P w).is k u = true := kV_is ru
  have hsc : u.scannable = true := key_scan ru
  have hel : ElemsOf (mixKind P w) es.toList := goodM_elems g
  have hb : es.size < scanBound := by omega
  unfold setAddHashed setAddHashedIn
  refine wpAny_holding (wpAny_bind (wpAny_setState_of ho hd hf ?_))
  dsimp only
  rw [byScan_of hsc hb hel]
  simp only [↓reduceIte]
  unfold setAddByScan
  refine wpAny_bind (wpAny_bind (wpAny_rule (wpAny_bind (wpAny_setScan_of hkey ho hd hf hel ?_))))
  cases hfi : List.findIdx? (fun e => (mixKind P w).is k e.2) es.toList with
  | some j =>
    dsimp only
    obtain ⟨hj, pj, _⟩ := List.findIdx?_eq_some_iff_getElem.mp hfi
    have hin : k ∈ es.toList.map keyM := (goodM_mem (P := P) g k).2 ⟨es.toList[j], List.getElem_mem hj, pj⟩
    refine wpAny_pure (wpAny_pure (hQ false s.heap (Heap.SameBut.refl a s.heap) ⟨o, es, ep, t, ho, hex, hd, g, nd, fun i => ?_, ?_, hf, hr, hl⟩))
    · rw [List.mem_append, List.mem_singleton, ← hm i]
      exact ⟨fun z => z.elim id fun e => e ▸ (hm k).2 hin, .inl⟩
    · rw [List.length_append, List.length_singleton]; omega
  | none =>
    dsimp only
    have hnk : k ∉ es.toList.map keyM := fun z => by
      obtain ⟨e, he, q⟩ := (goodM_mem (P := P) g k).1 z
      have c := List.findIdx?_eq_none_iff.mp hfi e he
      rw [q] at c
      cases c
    have hgw : ∀ (b : Bool) {s₁ : Shared} {R : Unit → Shared → Prop}, R () s₁ → wpAny (model P w) A (match b with | true => rule "set.scan.the-table-gave-way" | false => pure ()) R E s₁ :=
      fun b s₁ R q => by cases b <;> first | exact wpAny_pure q | exact wpAny_rule q
    have p0 := layNew_perm t es ((mixKind P w).hash k) u
    have p1 := layNew_fits t es ((mixKind P w).hash k) u
    have p2 := layNew_ris t es ((mixKind P w).hash k) u hr
    have p3 := layNew_led t es ((mixKind P w).hash k) u
    revert p0 p1 p2 p3
    generalize layNew t es ((mixKind P w).hash k) u = Z
    obtain ⟨es1, t1, was, gave⟩ := Z
    dsimp only
    intro p0 p1 p2 p3
    rw [Array.toList_push] at p0
    have pc : es1.toList.Perm (((mixKind P w).hash k, u) :: es.toList) := p0.trans (List.perm_append_singleton _ _)
    have kn : keyM ((mixKind P w).hash k, u) = k := (goodM_key (P := P) (e := ((mixKind P w).hash k, u)) ⟨k, ru, rfl⟩).1 hkey
    have pk : (es1.toList.map keyM).Perm (k :: es.toList.map keyM) := by
      have := pc.map keyM
      rw [List.map_cons, kn] at this
      exact this
    have g1 : ∀ e ∈ es1.toList, GoodM w e := fun e he => by
      rcases List.mem_cons.mp (pc.mem_iff.mp he) with z | z
      · rw [z]; exact ⟨k, ru, rfl⟩
      · exact g e z
    have nd1 : (es1.toList.map keyM).Nodup := pk.nodup_iff.mpr (List.nodup_cons.mpr ⟨hnk, nd⟩)
    have m1 : ∀ i, i ∈ ks ++ [k] ↔ i ∈ es1.toList.map keyM := fun i => by
      rw [pk.mem_iff, List.mem_append, List.mem_singleton, List.mem_cons, hm i]
      exact Or.comm
    have hsz : es1.size = es.size + 1 := by rw [← Array.length_toList, pc.length_eq, List.length_cons, Array.length_toList]
    have hb1 : es1.size ≤ (ks ++ [k]).length := by rw [List.length_append, List.length_singleton]; omega
    have hbl : (ks ++ [k]).length < scanBound := by rw [List.length_append, List.length_singleton]; exact room
    have hled : w.params.followText "set-order" = true ∨ t1.led = true := hl.imp id fun z => by rw [p3]; exact z
    refine wpAny_bind (hgw _ ?_)
    split
    · refine wpAny_bind ?_
      rw [hashByValue_scannable 8 hsc]
      refine wpAny_pure ?_
      refine addM_end (ks := ks ++ [k]) ?_ ho hex hd hbl g1 nd1 m1 hb1 ?_ ?_ ?_ ?_
      · intro b s₁ R q; cases b <;> first | exact wpAny_pure q | exact wpAny_rule q
      · first | (split <;> first | exact p1 | exact SetTable.fits_plain_off p1) | exact p1
      · first | (split <;> exact p2) | exact p2
      · first | (split <;> exact hled) | exact hled
      · intro h' sb r; dsimp only; exact wpAny_pure (hQ true h' sb r)
    · refine wpAny_bind (wpAny_pure ?_)
      simp only [↓reduceIte]
      refine addM_end (ks := ks ++ [k]) ?_ ho hex hd hbl g1 nd1 m1 hb1 p1 p2 hled ?_
      · intro b s₁ R q; cases b <;> first | exact wpAny_pure q | exact wpAny_rule q
      · intro h' sb r; dsimp only; exact wpAny_pure (hQ true h' sb r)
/-- the walk that adds -/
theorem updateM {I : Addr} {fp wr : List Addr} {G : Array GenState → Array GenState → Prop} {n : Nat} {Pv : Nat → Value → Prop} {St : Nat → Shared → Prop} {R : Result → Shared → Prop}
    (W : WalksS P w A.in1 I fp wr G n Pv St) (S : Addr) (hSf : S ∉ fp) (ks : List Key) (hn : n = ks.length) (hb : ks.length + 1 < scanBound) (hval : ∀ i v, Pv i v → ∃ k, ks[i]? = some k ∧ RelV (kV k) v) :
    ∀ (d i : Nat) (s : Shared), n - i = d → i ≤ n → St i s → SetM w s.heap S (ks.take i) →
      (∀ s', Moved (S :: wr) G s s' → SetM w s'.heap S ks → R (.ok (.ret .none)) s') →
      codeAny (model P w) A (.builtin "set.update.loop" ⟨[.ref S, .ref I], []⟩) R s := by
  have hSw : S ∉ wr := fun h => hSf (W.sub _ h)
  have hsub : ∀ b ∈ wr, b ∈ S :: wr := fun b hb => List.mem_cons_of_mem _ hb
  intro d
  induction d with
  | zero =>
    intro i s hd hi hst hS hR
    have hin : i = n := by omega
    subst hin
    refine codeAny_builtin F.entry_set_update_loop ?_
    rw [Around.under_plainId F.plain_set_update_loop _]
    refine wpAny_bind (W.done s _ _ hst fun s' hm => ?_)
    rw [List.take_of_length_le (by omega)] at hS
    exact wpAny_pure (hR s' (hm.mono hsub) (hS.at fun o e => hm.heap S o hSw e))
  | succ d ih =>
    intro i s hd hi hst hS hR
    have hlt : i < n := by omega
    refine codeAny_builtin F.entry_set_update_loop ?_
    rw [Around.under_plainId F.plain_set_update_loop _]
    refine wpAny_bind (W.item i s _ _ hlt hst fun v s' hP hst' hm => ?_)
    obtain ⟨k, hk, rv⟩ := hval i v hP
    have hS' : SetM w s'.heap S (ks.take i) := hS.at fun o e => hm.heap S o hSw e
    refine wpAny_bind (wpAny_holding ?_)
    unfold setAdd
    refine wpAny_holding (wpAny_bind ((mixKind P w).pyHash (k := k) (kV_is rv) ?_))
    refine addM (s := { s' with toks := s'.toks + 1 }) rv hS' (by rw [List.length_take]; omega) fun b h' hsb hS2 => ?_
    have e3 : ks.take i ++ [k] = ks.take (i + 1) := by rw [List.take_add_one, hk]; rfl
    rw [e3] at hS2
    refine wpAny_pure ⟨plainId_quiet F.plain_set_update_loop _, ih (i + 1) _ (by omega) hlt (W.frame _ s' _ _ hst' (Nat.le_succ _) fun b hb o e => ?_) hS2 fun s2 hm2 hS4 => ?_⟩
    · rw [hsb.2 b (fun h : b = S => hSf (by rw [← h]; exact hb))]; exact e
    · refine hR s2 (Moved.trans W.gtrans ((hm.mono hsub).then_heap (Nat.le_succ _) fun b o hb e => ?_) hm2) hS4
      rw [hsb.2 b (fun h : b = S => hb (by rw [h]; exact List.mem_cons_self))]; exact e
end
section
variable {P : Program} {w : World} {A : Around} {E : Value → Shared → Prop} {s : Shared}
/-- a set just made -/
abbrev set0 (w : World) : Obj := { cls := .type "set", dict := none, data := .set #[] 0 (.fresh 0 0 (!w.params.followText "set-order")) }
theorem setM_nil {h : Heap} {a : Addr} (ho : h.get? a = some (set0 w)) : SetM w h a [] :=
  ⟨_, #[], 0, _, ho, ⟨rfl, rfl, rfl⟩, rfl, (fun e he => by simp at he), (by simp), (fun k => by simp), Nat.le_refl 0, (by rfl), List.Pairwise.nil, by
    show _ ∨ (!w.params.followText "set-order") = true
    cases w.params.followText "set-order"
    · exact .inr rfl
    · exact .inl rfl⟩
set_option maxHeartbeats 3200000 in
theorem call_setG {T itT : String} (hsls : isSubtype (.type T) (.type "set") = pure false) (hslf : isSubtype (.type T) (.type "frozenset") = pure false) (hne : (Value.type T == Value.type "dict") = false) {l : Addr} {items : Array Value}
    (it : ∀ {A' : Around} {E' : Value → Shared → Prop} {s' : Shared} {R : Value → Shared → Prop}, (∃ o, s'.heap.get? l = some o ∧ o.cls = .type T ∧ ∃ n, o.data = .seq items n) → R (.ref s'.heap.objs.size) { s' with heap := s'.heap.push { cls := .type itT, data := .fields #[.ref l, .int 0 0] } } → wpAny (model P w) A' (pyIter (.ref l)) R E' s')
    (wk : ∀ {A' : Around} (I : Addr), A'.handled = none → l ≠ I → ∃ St : Nat → Heap → Prop, WalksS P w A' I [I, l] [I] (fun a b => b = a) items.size (fun i v => items[i]? = some v) (fun i s => St i s.heap) ∧ ∀ h : Heap, h.get? I = some { cls := .type itT, data := .fields #[.ref l, .int 0 0] } → (∃ o, h.get? l = some o ∧ o.cls = .type T ∧ ∃ n, o.data = .seq items n) → St 0 h)
    (ks : List Key) {Q : Value → Shared → Prop} (hh : A.handled = none) (hl : ∃ o, s.heap.get? l = some o ∧ o.cls = .type T ∧ ∃ n, o.data = .seq items n) (hv : Vals (ks.map kV) items.toList) (hb : ks.length + 1 < scanBound)
    (h : ∀ (h' : Heap) (tk : Nat), SetM w h' s.heap.objs.size ks → (∀ b o, s.heap.get? b = some o → h'.get? b = some o) → Q (.ref s.heap.objs.size) { s with heap := h', toks := tk }) :
    wpAny (model P w) A (call (.type "set") [.ref l]) Q E s := by
  have hisz : items.size = ks.length := by
    have q := hv.length
    rw [List.length_map, Array.length_toList] at q
    exact q.symm
  obtain ⟨c, tl, hmro⟩ := F.called_set.mro
  have hmade := F.called_set.made
  have hsub := F.called_set.sub
  refine wpAny_call (codeAny_of_tree ?_)
  show wpAny _ _ (callAny (.type "set") _) _ _ _
  refine wpAny_pure ⟨Code.quiet_builtin _ (by decide +kernel), codeAny_builtin F.entry_type_call ?_⟩
  rw [Around.under_plain (weight_type_call_type "set" [.ref l] []) rfl]
  have h1 := F.called_set.notType
  have h2 := F.called_set.canCreate
  have hct := F.typeCall_set_1 (.ref l)
  repeat (any_goals (first | assumption | wp_step))
  refine codeAny_mono (code_set_led1 (.ref l) (E := E) (Q₁ := fun obj s₁ => obj = .ref s.heap.objs.size ∧ s₁ = { s with heap := s.heap.push (set0 w) }) ⟨rfl, rfl⟩) fun r s₁ hr => ?_
  cases r with
  | error e => exact hr
  | ok fl =>
    cases fl with
    | ret obj =>
      obtain ⟨rfl, rfl⟩ := hr
      have hS : (s.heap.push (set0 w)).get? s.heap.objs.size = some (set0 w) := Heap.get?_push_size _ rfl
      have hT : Shared.TypeIs { s with heap := s.heap.push (set0 w) } (.ref s.heap.objs.size) "set" := ⟨_, hS, rfl⟩
      have hli := F.called_set.init.lookup
      have hbi := F.called_set.init.bind (.ref s.heap.objs.size)
      repeat (any_goals (first | assumption | wp_step))
      refine codeAny_mono (codeAny_call_builtin (R := wants (fun r s₂ => r = .none ∧ ∃ h' tk, s₂ = { s with heap := h', toks := tk } ∧ SetM w h' s.heap.objs.size ks ∧ (∀ b o, s.heap.get? b = some o → h'.get? b = some o)) E) F.called_set.init.plain F.entry_set_init (check_set_init_1 hT ?_)) fun r₂ s₂ hr₂ => ?_
      · obtain ⟨ol, hol, hcl, nl, hdl⟩ := hl
        obtain ⟨ocls, odict, odata, oslots⟩ := ol
        simp only at hcl hdl
        subst hcl; subst hdl
        have hol' : (s.heap.push (set0 w)).get? l = some { cls := .type T, dict := odict, data := .seq items nl, slots := oslots } := Heap.get?_push_of_some _ hol
        have hl1 : ∃ o, (s.heap.push (set0 w)).get? l = some o ∧ o.cls = .type T ∧ ∃ n, o.data = .seq items n := ⟨_, hol', rfl, nl, rfl⟩
        unfold Builtin.«set.__init__» noKeywords Builtin.Frozenset.updateFrom
        generalize hPI : pyIter = PI
        wp_walk
        subst hPI
        refine it hl1 (wpAny_bind (wpAny_runValue ?_))
        have hlS : l < s.heap.objs.size := Heap.lt_size hol
        have hh3 : A.in1.in1.in1.handled = none := by simp [hh]
        have hneI : l ≠ (s.heap.push (set0 w)).objs.size := by
          rw [Heap.size_push]; exact Nat.ne_of_lt (Nat.lt_succ_of_lt hlS)
        have hSf : s.heap.objs.size ∉ [(s.heap.push (set0 w)).objs.size, l] := by
          rw [Heap.size_push]; simp only [List.mem_cons, List.mem_singleton, List.not_mem_nil, or_false, not_or]
          exact ⟨Nat.ne_of_lt (Nat.lt_succ_self _), Nat.ne_of_gt hlS⟩
        have hval : ∀ (i : Nat) (v : Value), items[i]? = some v → ∃ k, ks[i]? = some k ∧ RelV (kV k) v := fun i v hi => by
          have hi' : items.toList[i]? = some v := by rw [Array.getElem?_toList]; exact hi
          have hk : i < ks.length := by rw [← hisz]; exact (Array.getElem?_eq_some_iff.mp hi).1
          obtain ⟨u, e1, e2⟩ := hv.get (i := i) (x := kV ks[i]) (by rw [List.getElem?_map, List.getElem?_eq_getElem hk]; rfl)
          rw [hi'] at e1
          cases e1
          exact ⟨ks[i], List.getElem?_eq_getElem hk, e2⟩
        obtain ⟨St, W, hst⟩ := wk _ hh3 hneI
        refine updateM W s.heap.objs.size
          hSf ks hisz hb hval (items.size - 0) 0 _ (by omega) (Nat.zero_le _)
          (hst _ (Heap.get?_push_size _ rfl) ⟨_, Heap.get?_push_of_some _ hol', rfl, nl, rfl⟩) ?hS0 ?hR
        case hS0 => exact setM_nil (Heap.get?_push_of_some _ hS)
        case hR =>
          intro s' hm hS'
          obtain ⟨h', g2, d', tk', os'⟩ := s'
          have eg : g2 = s.gens := hm.gens
          have ed : d' = s.drawn := hm.drawn
          have eo : os' = s.os := hm.os
          subst eg; subst ed; subst eo
          show wpAny _ _ _ _ _ _
          refine wpAny_pure ?_
          show wpAny _ _ (ret Value.none) _ _ _
          refine wpAny_pure ⟨rfl, h', tk', rfl, hS', fun b o e => ?_⟩
          have hb0 : b < s.heap.objs.size := Heap.lt_size e
          have hb1 : b ≠ s.heap.objs.size := Nat.ne_of_lt hb0
          have hb2 : b ≠ (s.heap.push (set0 w)).objs.size := by
            rw [Heap.size_push]; exact Nat.ne_of_lt (Nat.lt_succ_of_lt hb0)
          exact hm.heap b o (by simp only [List.mem_cons, List.mem_singleton, List.not_mem_nil, or_false, not_or]; exact ⟨hb1, hb2⟩) (Heap.get?_push_of_some _ (Heap.get?_push_of_some _ e))
      · cases r₂ with
        | error e => exact hr₂
        | ok fl₂ =>
          cases fl₂ with
          | ret r =>
            obtain ⟨rfl, h', tk, rfl, hS', hk'⟩ := hr₂
            repeat (any_goals (first | assumption | wp_step))
            exact h _ _ hS' hk'
          | _ => exact hr₂.elim
    | _ => exact hr.elim
theorem call_setM {l : Addr} {items : Array Value} (ks : List Key) {Q : Value → Shared → Prop} (hh : A.handled = none) (hl : s.heap.IsList l items ∨ s.heap.IsTuple l items) (hv : Vals (ks.map kV) items.toList) (hb : ks.length + 1 < scanBound)
    (h : ∀ (h' : Heap) (tk : Nat), SetM w h' s.heap.objs.size ks → (∀ b o, s.heap.get? b = some o → h'.get? b = some o) → Q (.ref s.heap.objs.size) { s with heap := h', toks := tk }) :
    wpAny (model P w) A (call (.type "set") [.ref l]) Q E s := by
  rcases hl with hl | hl
  · exact call_setG (T := "list") (itT := "list_iterator") F.sub_list_set F.sub_list_frozenset (by decide) (fun hl h => wpAny_pyIter_list hl h) (fun I hh hne => ⟨fun i h => h.IsListIter I l i ∧ h.IsList l items, (Walks.list hh I l hne items).toS, fun h h1 h2 => ⟨⟨_, h1, rfl, rfl⟩, h2⟩⟩) ks hh hl hv hb h
  · exact call_setG (T := "tuple") (itT := "tuple_iterator") F.sub_tuple_set F.sub_tuple_frozenset (by decide) (fun hl h => wpAny_pyIter_tuple hl h) (fun I hh hne => ⟨fun i h => h.IsTupleIter I l i ∧ h.IsTuple l items, (Walks.tuple hh I l hne items).toS, fun h h1 h2 => ⟨⟨_, h1, rfl, rfl⟩, h2⟩⟩) ks hh hl hv hb h
/-- the members, in a list, in order -/
theorem sortedM {a : Addr} {ks : List Key} {Q : Value → Shared → Prop} (R : SetM w s.heap a ks) (hh : A.handled = none) (hb : ks.length < scanBound)
    (hQ : ∀ s' p (out : Array Value) (c : Nat) (ms : List Key), (∀ b o, s.heap.get? b = some o → s'.heap.get? b = some o) → s'.gens = s.gens → s'.os = s.os → s.heap.objs.size ≤ p →
      s'.heap.get? p = some (seqObj "list" out c) → Vals (ms.map kV) out.toList → ms.Nodup → (∀ k, k ∈ ms ↔ k ∈ ks) → ms.length ≤ ks.length →
      ((∃ ns : List Int, ms = ns.map Sum.inl ∧ ns.Pairwise (· ≤ ·)) ∨ (∃ ss : List Str, ms = ss.map Sum.inr ∧ sortedS ss = true)) → Q (.ref p) s')
    (ty : (∃ ns : List Int, ks = ns.map Sum.inl) ∨ (∃ ss : List Str, ks = ss.map Sum.inr)) :
    wpAny (model P w) A (call (.builtin "sorted") [.ref a]) Q E s := by
  obtain ⟨o, es, ep, t, ho, hex, hd, g, nd, hm, hz, hf, hr, hl⟩ := R
  refine Calls.call_function_entry kind_sorted plain_sorted entry_sorted (args_sorted1 _) ?_
  unfold Builtin.«sorted»
  refine wpAny_bind (m := checkCount "sorted" 1 1 _) (wpAny_pure ?_)
  refine wpAny_bind (collect_set (A := A.in1) hh ⟨o, ho, hex.1, hd⟩ hf (Nat.lt_of_le_of_lt hz hb) hr hl fun s1 vs k1 hs1 g1 o1 pm => ?_)
  have hvl : vs.length ≤ ks.length := by rw [pm.length_eq, List.length_map, Array.length_toList]; exact hz
  have hvz : vs.length ≤ sizeLine := Nat.le_trans hvl (by unfold scanBound at hb; rw [sizeLine_eq]; omega)
  refine wpAny_bind (wpAny_newList ?_ (by exact hvz))
  have hoL : (s1.heap.push (seqObj "list" vs.toArray 0)).get? s1.heap.objs.size = some (seqObj "list" vs.toArray 0) := Heap.get?_push_size _ rfl
  have old : ∀ (out : Array Value) b u, s.heap.get? b = some u → (sortedHeap (s1.heap.push (seqObj "list" vs.toArray 0)) s1.heap.objs.size vs out).get? b = some u := fun out b u e => by
    have q := k1 b u e
    have hlt := Heap.lt_size q
    rw [sortedHeap_old (Nat.ne_of_lt hlt) (by rw [size_push']; exact Nat.lt_succ_of_lt hlt)]
    exact Heap.get?_push_of_some _ q
  have kvs : ∀ l : List (Int × Value), (∀ e ∈ l, GoodM w e) → Vals ((l.map keyM).map kV) (l.map (·.2)) := fun l => by
    induction l with
    | nil => exact fun _ => .nil
    | cons e l ih =>
      intro hg
      obtain ⟨k, r, e1⟩ := hg e List.mem_cons_self
      have : keyM e = k := (goodM_key (P := P) ⟨k, r, e1⟩).1 (kV_is r)
      rw [List.map_cons, List.map_cons, List.map_cons, this]
      exact .cons r (ih fun x hx => hg x (List.mem_cons_of_mem _ hx))
  rcases ty with ⟨ns, rfl⟩ | ⟨ss, rfl⟩
  · have gInt : ∀ l : List (Int × Value), (∀ e ∈ l, GoodM w e) → (∀ e ∈ l, keyM e ∈ ns.map Sum.inl) → ∃ ms : List Int, l.map keyM = ms.map Sum.inl := fun l => by
      induction l with
      | nil => exact fun _ _ => ⟨[], rfl⟩
      | cons e l ih =>
        intro hg hk
        obtain ⟨ms, e2⟩ := ih (fun x hx => hg x (List.mem_cons_of_mem _ hx)) fun x hx => hk x (List.mem_cons_of_mem _ hx)
        obtain ⟨n, _, e3⟩ := List.mem_map.mp (hk e List.mem_cons_self)
        exact ⟨n :: ms, by rw [List.map_cons, e2, ← e3]; rfl⟩
    obtain ⟨ms, ems⟩ := gInt es.toList g fun e he => (hm _).2 (List.mem_map.mpr ⟨e, he, rfl⟩)
    have vi : Vals (ms.map V.int) (es.toList.map (·.2)) := by
      have := kvs _ g
      rw [ems, List.map_map] at this
      exact this
    obtain ⟨ms', hv', pm'⟩ : ∃ ms' : List Int, IntsAre vs ms' ∧ ms'.Perm ms := by
      refine ⟨vs.map Builtin.Re.reRawOf, ints_of vs fun v hv => ?_, ?_⟩
      · obtain ⟨i, hi, e⟩ := List.mem_iff_getElem.mp (pm.mem_iff.mp hv)
        have hil : i < ms.length := by have := vi.length; rw [List.length_map] at this; omega
        obtain ⟨u, e1, tk, e2⟩ := vi.get (i := i) (x := .int ms[i]) (by rw [List.getElem?_map, List.getElem?_eq_getElem hil]; rfl)
        rw [List.getElem?_eq_getElem hi, e] at e1
        cases e1
        exact ⟨_, tk, e2⟩
      · have hraw : ∀ (ms : List Int) (us : List Value), Vals (ms.map V.int) us → us.map Builtin.Re.reRawOf = ms := fun ms => by
          induction ms with
          | nil => intro us h; cases h; rfl
          | cons m ms ih =>
            intro us h
            cases h with
            | cons r t => obtain ⟨tk, rfl⟩ := r; rw [List.map_cons, ih _ t]; rfl
        have := pm.map Builtin.Re.reRawOf
        rw [hraw _ _ vi] at this
        exact this
    refine wpAny_bind (wpAny_holding (wpAny_call_entry slot_list_sort ⟨_, hoL, rfl⟩ entry_list_sort (list_sort_treeAny hoL hv' hvz fun out ns' a1 a2 a3 => ⟨_, rfl, ?_⟩) (args_list_sort _)))
    obtain ⟨c, hc⟩ := sortedHeap_at (vs := vs) (out := out) hoL
    have pn : ns'.Perm ms := a2.trans pm'
    have pk : (ns'.map Sum.inl).Perm (es.toList.map keyM) := by rw [ems]; exact pn.map _
    refine wpAny_pure ⟨_, rfl, hQ _ s1.heap.objs.size out c (ns'.map Sum.inl) (old out) g1 o1 hs1 hc ?_ (pk.nodup_iff.mpr nd) (fun k => by rw [pk.mem_iff, hm k]) ?_ (.inl ⟨ns', rfl, a3⟩)⟩
    · rw [List.map_map]; exact vals_of_ints a1
    · rw [pk.length_eq, List.length_map, Array.length_toList]; exact hz
  · have gStr : ∀ l : List (Int × Value), (∀ e ∈ l, GoodM w e) → (∀ e ∈ l, keyM e ∈ ss.map Sum.inr) → ∃ ms : List Str, l.map keyM = ms.map Sum.inr := fun l => by
      induction l with
      | nil => exact fun _ _ => ⟨[], rfl⟩
      | cons e l ih =>
        intro hg hk
        obtain ⟨ms, e2⟩ := ih (fun x hx => hg x (List.mem_cons_of_mem _ hx)) fun x hx => hk x (List.mem_cons_of_mem _ hx)
        obtain ⟨n, _, e3⟩ := List.mem_map.mp (hk e List.mem_cons_self)
        exact ⟨n :: ms, by rw [List.map_cons, e2, ← e3]; rfl⟩
    obtain ⟨ms, ems⟩ := gStr es.toList g fun e he => (hm _).2 (List.mem_map.mpr ⟨e, he, rfl⟩)
    have vi : Vals (ms.map V.str) (es.toList.map (·.2)) := by
      have := kvs _ g
      rw [ems, List.map_map] at this
      exact this
    have perm_vals : ∀ {us vs : List Value} {ms : List Str}, vs.Perm us → Vals (ms.map V.str) us → ∃ ms' : List Str, ms'.Perm ms ∧ Vals (ms'.map V.str) vs := by
      intro us vs ms p
      induction p generalizing ms with
      | nil => intro h; cases ms with | nil => exact ⟨[], .nil, h⟩ | cons m ms => cases h
      | cons x p ih =>
        intro h
        cases ms with
        | nil => cases h
        | cons m ms =>
          cases h with
          | cons r t => obtain ⟨ms', p', v'⟩ := ih t; exact ⟨m :: ms', p'.cons m, .cons r v'⟩
      | swap x y l =>
        intro h
        match ms, h with
        | m1 :: m2 :: ms, .cons r1 (.cons r2 t) => exact ⟨m2 :: m1 :: ms, .swap _ _ _, .cons r2 (.cons r1 t)⟩
      | trans p q ih1 ih2 =>
        intro h
        obtain ⟨m1, p1, v1⟩ := ih2 h
        obtain ⟨m2, p2, v2⟩ := ih1 v1
        exact ⟨m2, p2.trans p1, v2⟩
    obtain ⟨ms', pm', hv'⟩ := perm_vals pm vi
    refine wpAny_bind (wpAny_holding (wpAny_call_entry slot_list_sort ⟨_, hoL, rfl⟩ entry_list_sort (list_sort_treeKAny strKind_oneLt hoL hv'.strs.keysOf (fun v₁ v₂ rest e => keyKind_strs (by rw [← e]; exact hv'.strs)) hvz fun st' hp hs => ?_) (args_list_sort _)))
    obtain ⟨ss', a1, a2, a3⟩ := sorted_out_str hv'.strs hp hs
    refine ⟨_, rfl, ?_⟩
    obtain ⟨c, hc⟩ := sortedHeap_at (vs := vs) (out := _) hoL
    have pn : ss'.Perm ms := a2.trans pm'
    have pk : (ss'.map Sum.inr).Perm (es.toList.map keyM) := by rw [ems]; exact pn.map _
    refine wpAny_pure ⟨_, rfl, hQ _ s1.heap.objs.size _ c (ss'.map Sum.inr) (old _) g1 o1 hs1 hc ?_ (pk.nodup_iff.mpr nd) (fun k => by rw [pk.mem_iff, hm k]) ?_ (.inr ⟨ss', rfl, a3⟩)⟩
    · rw [List.map_map]; exact vals_of_strs a1
    · rw [pk.length_eq, List.length_map, Array.length_toList]; exact hz
end
end DL

/-! DExt: rules that the hand layer lacks: set(list), sorted(set), enumerate of a tuple, reversed(range) of any size, max with a default. -/
namespace DL
open PySem PySem.Spec PyProof.Rows L2
/-! ### sets -/
theorem map_inj' {α β : Type} {f : α → β} (hf : ∀ a b, f a = f b → a = b) : ∀ {l m : List α}, l.map f = m.map f → l = m
  | [], [], _ => rfl
  | [], _ :: _, h => by cases h
  | _ :: _, [], h => by cases h
  | a :: l, b :: m, h => by
    rw [List.map_cons, List.map_cons] at h
    injection h with h1 h2
    rw [hf _ _ h1, map_inj' hf h2]
/-- the set of the keys at a -/
def SetH (w : World) (a : Addr) (ks : List Key) : HO := .ext fun h => SetM w h a ks
theorem setH_new {w : World} {P : Program} {H : Hp} {h : Heap} {a : Addr} {ks : List Key} (R : SetM w h a ks) : ObjOk P w H h a (SetH w a ks) :=
  ⟨R, (let ⟨o, _, _, _, ho, _⟩ := R; ⟨o, ho⟩), fun h1 h2 p k => SetM.at p k⟩
section
variable {X : Cx}
def rSetL (K : PySem.W.Frag) (w : World) : List V → Hp → VK → Prop := fun vs H Q => ∃ (l : Addr) (ks : List Key), vs = [V.ref l] ∧ (SqL K H l (ks.map kV) ∨ SqT K H l (ks.map kV)) ∧ ks.length + 1 < scanBound ∧ ∀ p, H p = none → Q (.ref p) (upd H p (SetH w p ks))
theorem cr_setL (hc : X.calm = true) : CallR X (.type "set") (rSetL X.K X.w) := by
  intro pins s σ H vs us Q I r h
  obtain ⟨l, ks, rfl, hs, hb, q⟩ := h
  rw [Vals.ref1 r]
  have key : ∃ its : List Value, Vals (ks.map kV) its ∧ (s.heap.IsList l its.toArray ∨ s.heap.IsTuple l its.toArray) := by
    rcases hs with hs | hs
    · obtain ⟨its, rv, pl, _⟩ := I.list hs
      exact ⟨its, rv, .inl pl.isList⟩
    · obtain ⟨its, rv, pl, _⟩ := I.tuple hs
      exact ⟨its, rv, .inr pl⟩
  obtain ⟨its, rv, pl⟩ := key
  refine call_setM ks (I.ok.hd hc) pl (by simpa using rv) hb fun h' tk R k => ?_
  exact ⟨.ref _, _, I.laid (t' := tk) k (Nat.le_refl _) (setH_new R), rfl, q _ (I.hok.fresh (Nat.le_refl _))⟩
def rSortedSt (w : World) : List V → Hp → VK → Prop := fun vs H Q => ∃ (a : Addr) (ks : List Key), vs = [V.ref a] ∧ H a = some (SetH w a ks) ∧ ks.length < scanBound ∧
  ((∃ ns : List Int, ks = ns.map Sum.inl ∧ ∀ (ms : List Int) (p : Addr), ms.Pairwise (· < ·) → (∀ k, k ∈ ms ↔ k ∈ ns) → H p = none → Q (.ref p) (upd H p (.lst (ms.map V.int)))) ∨
   (∃ ss : List Str, ks = ss.map Sum.inr ∧ ∀ (ms : List Str) (p : Addr), sortedS ms = true → ms.Nodup → (∀ k, k ∈ ms ↔ k ∈ ss) → H p = none → Q (.ref p) (upd H p (.lst (ms.map V.str)))))
theorem cr_sortedSt (hc : X.calm = true) : CallR X (.builtin "sorted") (rSortedSt X.w) := by
  intro pins s σ H vs us Q I r h
  obtain ⟨a, ks, rfl, ha, hb, q⟩ := h
  have R : SetM X.w s.heap a ks := (I.hok a _ ha).1
  rw [Vals.ref1 r]
  refine sortedM R (I.ok.hd hc) hb (fun s' p out c ms k g o hp hg rv nd hm hl ty => ?_) (by rcases q with ⟨ns, e, _⟩ | ⟨ss, e, _⟩; exact .inl ⟨ns, e⟩; exact .inr ⟨ss, e⟩)
  have hlen : (ms.map kV).length ≤ sizeLine := by rw [List.length_map]; unfold scanBound at hb; rw [sizeLine_eq]; omega
  have hn : H p = none := I.hok.fresh hp
  have J : Inv X pins σ (upd H p (.lst (ms.map kV))) { s with heap := s'.heap, gens := s'.gens, drawn := s'.drawn, toks := s'.toks } :=
    I.call (ch := []) (Un.laid k hp hn) (I.hok.laid k hp ⟨hlen, out.toList, c, rv, hg⟩) (by rw [g]; exact I.bare) (fun _ z => nomatch z)
  have e : s' = { s with heap := s'.heap, gens := s'.gens, drawn := s'.drawn, toks := s'.toks } := by
    cases s'
    cases s
    cases o
    rfl
  rw [e]
  refine ⟨.ref p, _, J, rfl, ?_⟩
  rcases q with ⟨ns, rfl, q⟩ | ⟨ss, rfl, q⟩
  · have key : ∃ ms' : List Int, ms = ms'.map Sum.inl := by
      rcases ty with ⟨m, e, _⟩ | ⟨m, e, _⟩
      · exact ⟨m, e⟩
      · cases m with
        | nil => exact ⟨[], e⟩
        | cons x m =>
          have := (hm (Sum.inr x)).1 (by rw [e]; exact List.mem_cons_self)
          obtain ⟨n, _, z⟩ := List.mem_map.mp this
          cases z
    have sr : ∀ ms' : List Int, ms = ms'.map Sum.inl → ms'.Pairwise (· ≤ ·) := fun ms' e => by
      rcases ty with ⟨m, e2, h2⟩ | ⟨m, e2, _⟩
      · have : ms' = m := by
          rw [e] at e2
          exact map_inj' (fun _ _ h => Sum.inl.inj h) e2
        rw [this]; exact h2
      · cases m with
        | nil => rw [e2] at e; cases ms' with | nil => exact .nil | cons _ _ => cases e
        | cons x m => rw [e2] at e; cases ms' <;> cases e
    obtain ⟨ms', rfl⟩ := key
    have h1 := sr ms' rfl
    have nd' : ms'.Nodup := (List.pairwise_map.mp nd).imp fun h e => h (congrArg _ e)
    have := q ms' p (lt_of_le_nodup ms' h1 nd') (fun k => by
      have := hm (Sum.inl k)
      rw [List.mem_map, List.mem_map] at this
      exact ⟨fun h => by obtain ⟨_, z, e⟩ := this.1 ⟨k, h, rfl⟩; cases e; exact z, fun h => by obtain ⟨_, z, e⟩ := this.2 ⟨k, h, rfl⟩; cases e; exact z⟩) hn
    rw [List.map_map]
    exact this
  · have key : ∃ ms' : List Str, ms = ms'.map Sum.inr := by
      rcases ty with ⟨m, e, _⟩ | ⟨m, e, _⟩
      · cases m with
        | nil => exact ⟨[], e⟩
        | cons x m =>
          have := (hm (Sum.inl x)).1 (by rw [e]; exact List.mem_cons_self)
          obtain ⟨n, _, z⟩ := List.mem_map.mp this
          cases z
      · exact ⟨m, e⟩
    have sr : ∀ ms' : List Str, ms = ms'.map Sum.inr → sortedS ms' = true := fun ms' e => by
      rcases ty with ⟨m, e2, _⟩ | ⟨m, e2, h2⟩
      · cases m with
        | nil => rw [e2] at e; cases ms' with | nil => rfl | cons _ _ => cases e
        | cons x m => rw [e2] at e; cases ms' <;> cases e
      · have : ms' = m := by
          rw [e] at e2
          exact map_inj' (fun _ _ h => Sum.inr.inj h) e2
        rw [this]; exact h2
    obtain ⟨ms', rfl⟩ := key
    have nd' : ms'.Nodup := (List.pairwise_map.mp nd).imp fun h e => h (congrArg _ e)
    have := q ms' p (sr ms' rfl) nd' (fun k => by
      have := hm (Sum.inr k)
      rw [List.mem_map, List.mem_map] at this
      exact ⟨fun h => by obtain ⟨_, z, e⟩ := this.1 ⟨k, h, rfl⟩; cases e; exact z, fun h => by obtain ⟨_, z, e⟩ := this.2 ⟨k, h, rfl⟩; cases e; exact z⟩) hn
    rw [List.map_map]
    exact this
end
/-! ### enumerate of a tuple -/
theorem meets_enumT (l : Addr) (items : Array Value) (n : Nat) (dct : Option Addr) (sl : Array (Option Value)) :
    Meets (Builtin.«enumerate.__new__» ⟨[.type "enumerate", .ref l], []⟩) (fun _ R s => s.heap.get? l = some { cls := .type "tuple", dict := dct, data := .seq items n, slots := sl } ∧
      R (.ok (.ret (.ref (s.heap.push { cls := .type "tuple_iterator", data := .fields #[.ref l, .int 0 0] }).objs.size)))
        { s with heap := (s.heap.push { cls := .type "tuple_iterator", data := .fields #[.ref l, .int 0 0] }).push { cls := .type "enumerate", data := .fields #[.none, .bool false, .ref s.heap.objs.size, rawInt 0, .none, .none] } }) :=
  .of_wp fun prog w A R s h => by
    obtain ⟨hp, g, d, tk, os⟩ := s; obtain ⟨hl, h⟩ := h
    have hsub := sub_enumerate
    have hL : Heap.IsTuple (Shared.heap ⟨hp, g, d, tk, os⟩) l items := ⟨_, hl, rfl, n, rfl⟩
    wp_walk using AutoSeq1.wpAny_loadPart' hl
    refine wpAny_stack_any fun st => wpAny_pure ?_
    split
    · rename_i c _ _ _ _ _
      cases (c == Value.type "enumerate")
      all_goals
        wp_walk using AutoSeq1.wpAny_loadPart' hl, wpAny_pyIter_tuple hL
        exact ⟨_, rfl, h⟩
    · wp_walk using AutoSeq1.wpAny_loadPart' hl, wpAny_pyIter_tuple hL
      exact ⟨_, rfl, h⟩
theorem call_enumT {prog : Program} {w : World} {A : Around} {E : Value → Shared → Prop} {s : Shared} {l : Addr} {items : Array Value} {Q : Value → Shared → Prop} (hL : s.heap.IsTuple l items)
    (h : ∀ h', IsEnum h' (s.heap.objs.size + 1) s.heap.objs.size 0 .none → h'.IsTupleIter s.heap.objs.size l 0 → h'.objs.size = s.heap.objs.size + 2 →
      (∀ b o, s.heap.get? b = some o → h'.get? b = some o) → Q (.ref (s.heap.objs.size + 1)) { s with heap := h' }) :
    wpAny (model prog w) A (call (.type "enumerate") [.ref l]) Q E s := by
  obtain ⟨⟨c, dct, dt, sl⟩, hl, hc, n, hd⟩ := hL
  replace hc : c = .type "tuple" := hc
  replace hd : dt = .seq items n := hd
  subst hc hd
  refine callType_new F.called_enumerate (by decide) (F.typeCall_enumerate_1 _) (F.newCall_enumerate_1 _) (fun obj => F.args_object_init_2 obj _) F.entry_enumerate_new
    (meets_enumT l items n dct sl) ⟨hl, ?_⟩
  have hz : (s.heap.push { cls := .type "tuple_iterator", data := .fields #[.ref l, .int 0 0] }).objs.size = s.heap.objs.size + 1 := Heap.size_push ..
  show _ ∧ _
  rw [hz]
  have he : IsEnum ((s.heap.push { cls := .type "tuple_iterator", data := .fields #[.ref l, .int 0 0] }).push
      { cls := .type "enumerate", data := .fields #[.none, .bool false, .ref s.heap.objs.size, rawInt 0, .none, .none] }) (s.heap.objs.size + 1) s.heap.objs.size 0 .none := by
    have := Heap.get?_push_size (s.heap.push { cls := .type "tuple_iterator", data := .fields #[.ref l, .int 0 0] })
      (o := { cls := .type "enumerate", data := .fields #[.none, .bool false, .ref s.heap.objs.size, rawInt 0, .none, .none] }) rfl
    rw [hz] at this; exact this
  exact ⟨⟨_, he, rfl⟩, h _ he ⟨_, Heap.get?_push_of_some _ (Heap.get?_push_size _ rfl), rfl, rfl⟩ (by rw [Heap.size_push, hz]) fun b o x => Heap.get?_push_of_some _ (Heap.get?_push_of_some _ x)⟩
/-! ### reversed(range(a, b)), whatever the bounds are -/
/-- a range beyond the machine's words -/
theorem turn_long {P : Program} {w : World} {K : PySem.W.Frag} {tg : Expr} (it : Addr) (lo c : Int) (n : Nat) : Turn P w K tg (Itc lo c n) [it] it (fun i h => IsLongIter h it (lo + (i : Nat) * c) ((n : Int) - (i : Nat)) c) where
  mem := by simp
  obj := fun i h st b hb => by
    have e : b = it := by simpa using hb
    subst e
    exact ⟨_, st, fun v z => nomatch z⟩
  keep := fun i h h' st k => k it (by simp) _ st
  item := by
    intro X hP hw hK hc i pins s σ H E I hf st hg
    subst hP hw hK
    obtain ⟨f0, f1, f2, f3, f4, f5⟩ := hf it (by simp)
    have W := Walks.longrange (prog := X.prog) (w := X.w) (I.ok.hd hc) it lo c n
    refine W.item i s _ _ hg st fun v h' tk hv st' kk => ?_
    obtain ⟨t, rfl⟩ := hv
    have I1 : Inv X pins σ H { s with heap := h', toks := tk } := I.turned (fun b o hb e => kk b o (by simpa using hb) e) f0 f1 f3 f4 f5
    exact ⟨_, rfl, go_of (s := { s with heap := h', toks := tk }) (n := "longrange_iterator") st' rfl rfl (by decide) ⟨.int (lo + (i : Nat) * c), H, I1, ⟨t, rfl⟩, ⟨rfl, rfl⟩, st', fun b hb => (hf b hb).1⟩⟩
  done := by
    intro X hP hw hK hc i pins s σ H E I hf st hg
    subst hP hw hK
    obtain ⟨f0, f1, f2, f3, f4, f5⟩ := hf it (by simp)
    exact wpAny_pyNext_long_end (I.ok.hd hc) st (by have : n ≤ i := hg; omega) fun h' eb => ⟨rfl, I.turned (t' := s.toks) (fun b o hb e => eb b o hb e) f0 f1 f3 f4 f5⟩
  self := fun A i s Q E st h => wpAny_pyIter_longiter st h

abbrev fitR (a b c : Int) : Bool := Builtin.Range.rangeFitsLong a && Builtin.Range.rangeFitsLong b && Builtin.Range.rangeFitsLong c && Builtin.Range.rangeFitsLong (-c) && Builtin.Range.rangeFitsLong (a - c) && Builtin.Range.rangeFitsLong (Builtin.Range.rangeSize a b c)
theorem rev_long_meets (r : Addr) (a b c : Int) (t u v : Tok) (hc0 : (!fitR a b c) = true) :
    Meets (Builtin.«range.__reversed__» ⟨[.ref r], []⟩) (fun _ R s => s.heap.get? r = some { cls := .type "range", dict := none, data := .fields #[.int a t, .int b u, .int c v], slots := #[] } ∧ R (.ok (.ret (Value.ref s.heap.objs.size))) { s with heap := s.heap.push { cls := Value.type (if fitR a b c = true then "range_iterator" else "longrange_iterator"), data := Data.fields #[rawInt (a + (Builtin.Range.rangeSize a b c - 1) * c), rawInt (Builtin.Range.rangeSize a b c), rawInt (-c)] }, toks := s.toks }) :=
  .of_wp fun prog w A R s h => by obtain ⟨hp, g, d, tk, os⟩ := s; obtain ⟨hl, h⟩ := h; wp_walk; exact ⟨_, rfl, h⟩
abbrev revLong (a b c : Int) : Obj := { cls := .type "longrange_iterator", data := .fields #[rawInt (a + (Builtin.Range.rangeSize a b c - 1) * c), rawInt (Builtin.Range.rangeSize a b c), rawInt (-c)] }
theorem sub_lrit_rev : isSubtype (.type "longrange_iterator") (.type "reversed") = pure false := by rw [isSubtype_type]; kernel_rfl
section
variable {prog : Program} {w : World} {A : Around} {E : Value → Shared → Prop} {s : Shared} {r : Addr} {a b c : Int} {t u v : Tok}
theorem call_rev_long0 {Q : Value → Shared → Prop} (hr : IsRange s.heap r a b c t u v) (hs : fitR a b c = false) (hQ : Q (.ref s.heap.objs.size) { s with heap := s.heap.push (revLong a b c) }) :
    wpAny (model prog w) A (call (.builtin "range.__reversed__") [.ref r]) Q E s := by
  have hT : s.TypeIs (.ref r) "range" := ⟨_, hr, rfl⟩
  refine call_meets F.slot_range_reversed hT F.entry_range_reversed (F.args_range_reversed_1 _) (rev_long_meets r a b c t u v (by rw [hs]; rfl)) ⟨hr, ?_⟩
  simp only [hs]
  exact hQ
theorem new_rev_long {Q₁ : Value → Shared → Prop} (hr : IsRange s.heap r a b c t u v) (hs : fitR a b c = false)
    (h : Q₁ (.ref s.heap.objs.size) { s with heap := s.heap.push (revLong a b c) }) :
    codeAny (model prog w) A (.call (.builtin "reversed.__new__") ⟨[.type "reversed", .ref r], []⟩) (wants Q₁ E) s := by
  have hT : s.TypeIs (.ref r) "range" := ⟨_, hr, rfl⟩
  refine codeAny_of_tree ?_
  show wpAny _ A.in1 (do checkBuiltinCall "reversed.__new__" ⟨[.type "reversed", .ref r], []⟩; again (.builtin "reversed.__new__" ⟨[.type "reversed", .ref r], []⟩)) _ _ s
  refine wpAny_bind (wpAny_of_eq (F.newCall_reversed_1 _) (wpAny_pure ⟨plainId_quiet F.plain_reversed_new _, codeAny_builtin F.entry_reversed_new ?_⟩))
  rw [Around.under_plainId F.plain_reversed_new _]
  unfold Builtin.«reversed.__new__»
  refine wpAny_bind (wpAny_of_eq (newClass_reversed _) ?_)
  try dsimp only
  refine wpAny_bind (wpAny_of_eq (a := ()) (by first | rfl | kernel_rfl) ?_)
  refine wpAny_bind (wpAny_of_eq (a := ()) (by first | rfl | kernel_rfl) ?_)
  try dsimp only
  refine wpAny_bind (wpAny_specialOf hT F.slot_range_reversed.lookup ?_)
  try dsimp only
  refine wpAny_bind (wpAny_of_eq (F.slot_range_reversed.bind _) ?_)
  try dsimp only
  first
  | rw [if_neg (show ¬ ((Value.builtin "range.__reversed__" == Value.none) = true) from Bool.false_ne_true)]
  | (show wpAny _ _ (if (Value.builtin "range.__reversed__" == Value.none) = true then _ else _) _ _ _; rw [if_neg (show ¬ ((Value.builtin "range.__reversed__" == Value.none) = true) from Bool.false_ne_true)])
  refine wpAny_bind (wpAny_rule ?_)
  refine wpAny_bind (m := runValue (.call (.builtin "range.__reversed__") ⟨[.ref r], []⟩)) (show wpAny _ _ (call (.builtin "range.__reversed__") [.ref r]) _ _ _ from call_rev_long0 hr hs ?_)
  first
  | exact wpAny_pure h
  | exact wpAny_bind (wpAny_pure (wpAny_pure h))
theorem call_rev_long {Q : Value → Shared → Prop} (hr : IsRange s.heap r a b c t u v) (hs : fitR a b c = false)
    (h : Q (.ref s.heap.objs.size) { s with heap := s.heap.push (revLong a b c) }) : wpAny (model prog w) A (call (.type "reversed") [.ref r]) Q E s := by
  refine callType_other (U := "longrange_iterator") (Q₁ := fun obj s₁ => obj = .ref s.heap.objs.size ∧ s₁ = { s with heap := s.heap.push (revLong a b c) }) (by decide +kernel) F.create_reversed ⟨_, _, F.mro_reversed⟩ F.made_reversed sub_lrit_rev (F.typeCall_reversed_1 _) (new_rev_long hr hs ⟨rfl, rfl⟩) ?_
  rintro obj s₁ ⟨rfl, rfl⟩
  exact ⟨⟨_, Heap.get?_push_size _ rfl, rfl⟩, h⟩
end
def iRevW (tr : L2.St → Hp → (Int → Int → Hp → Prop) → Prop) : TI := fun σ H R => tr σ H fun a b H1 => R (Itc (a + (((b - a).toNat : Nat) : Int) - 1) (-1) (b - a).toNat) H1
theorem pi_revW {X : Cx} {tg e : Expr} {tr : L2.St → Hp → (Int → Int → Hp → Prop) → Prop} {p pos : Pos} (hg : Gl X "reversed") (hm : X.mg "reversed" = none) (he : PRg X e tr) (hs : starEach [e] X.env = (false, eval e X.env) :: starEach [] X.env) :
    PI X tg (.Call (.Name "reversed" p) [e] [] pos) (iRevW tr) := by
  refine ⟨fun pins s σ H R I h => ?_⟩
  refine Call_ (ld_blt I hg hm PyProof.Rows.boot_reversed (PyProof.Rows.callWith_type1 (args_cons (thn (he pins s σ H _ I h) fun u s1 hx => args_nil ?_) hs) hs rfl))
  obtain ⟨r, a, b, t, w1, v, H1, eu, hr, I1, q⟩ := hx
  subst eu
  have hn : Builtin.Range.rangeSize a b 1 = (((b - a).toNat : Nat) : Int) := rangeSize_nat a b
  have e1 : a + (((b - a).toNat : Nat) : Int) - 1 + ((0 : Nat) : Int) * (-1) = a + (Builtin.Range.rangeSize a b 1 - 1) * 1 := by rw [hn]; omega
  have e2 : (((b - a).toNat : Nat) : Int) - ((0 : Nat) : Int) = Builtin.Range.rangeSize a b 1 := by rw [hn]; omega
  cases hf : fitR a b 1 with
  | true =>
    refine call_reversed_range hr hf (wpAny_pyIter_rangeiter (Heap.get?_push_size _ rfl) ?_)
    refine pi_one (tk := s1.toks) I1 _ (turn_rangeC _ (a + (((b - a).toNat : Nat) : Int) - 1) (-1) (b - a).toNat) ?_ q
    show IsRangeIter _ _ (a + (((b - a).toNat : Nat) : Int) - 1 + ((0 : Nat) : Int) * (-1)) ((((b - a).toNat : Nat) : Int) - ((0 : Nat) : Int)) (-1)
    rw [e1, e2]
    exact Heap.get?_push_size _ rfl
  | false =>
    refine call_rev_long hr hf (wpAny_pyIter_longiter (Heap.get?_push_size _ rfl) ?_)
    refine pi_one (tk := s1.toks) I1 _ (turn_long _ (a + (((b - a).toNat : Nat) : Int) - 1) (-1) (b - a).toNat) ?_ q
    show IsLongIter _ _ (a + (((b - a).toNat : Nat) : Int) - 1 + ((0 : Nat) : Int) * (-1)) ((((b - a).toNat : Nat) : Int) - ((0 : Nat) : Int)) (-1)
    rw [e1, e2]
    exact Heap.get?_push_size _ rfl
/-! ### max(list, default=d) -/
section
variable {prog : Program} {w : World} {A : Around} {R : Result → Shared → Prop} {I : Addr} {fp wr : List Addr} {n : Nat} {P : Nat → Value → Prop} {St : Nat → Heap → Prop}
theorem maxD_loop (kw : List (Str × Value)) (W : Walks prog w A.in1 I fp wr n P St) (bt : Nat → Nat → Bool) (hcmp : CmpOf prog w A.in1 .Gt P bt) (S : Addr) (hSf : S ∉ fp) :
    ∀ (k j : Nat) (s : Shared) (vb : Value) (c : Nat), n - (j + 1) = k → j + 1 ≤ n → St (j + 1) s.heap → P (argBest bt j) vb →
    s.heap.get? S = some { cls := .type "list", dict := none, data := .seq #[vb, vb] c, slots := #[] } →
    (∀ v h' tk, P (argBest bt (n - 1)) v → (∀ b o, b ∉ wr → b ≠ S → s.heap.get? b = some o → h'.get? b = some o) → R (.ok (.ret v)) { s with heap := h', toks := tk }) →
    codeAny (model prog w) A (.builtin "max.loop" ⟨[.ref I, .none, .ref S], kw⟩) R s := by
  have hSw : S ∉ wr := fun h => hSf (W.sub _ h)
  have hname : (toString "max" ++ toString ".loop" : String) = "max.loop" := by decide
  intro k
  induction k with
  | zero =>
    intro j s vb c hk hj hst hPb hS hR
    have hin : j + 1 = n := by omega
    refine codeAny_builtin F.entry_max_loop ?_
    rw [Around.under_plainId F.plain_max_loop _]
    refine wpAny_bind (wpAny_seqItems hS rfl ?_)
    refine wpAny_bind (wpAny_tryCatch (W.done s _ _ (hin ▸ hst) fun h' tk hk' => ?_))
    refine wpAny_bind (wpAny_updateSeq (hk' S _ hSw hS) rfl (wpAny_bind (wpAny_letGo (wpAny_pure ?_))))
    exact hR vb _ tk (by rw [← hin]; exact hPb) fun b o hbw hbS e => (Heap.get?_update_other _ _ (Ne.symm hbS)).trans (hk' b o hbw e)
  | succ k ih =>
    intro j s vb c hk hj hst hPb hS hR
    have hlt : j + 1 < n := by omega
    refine codeAny_builtin F.entry_max_loop ?_
    rw [Around.under_plainId F.plain_max_loop _]
    refine wpAny_bind (wpAny_seqItems hS rfl ?_)
    refine wpAny_bind (wpAny_tryCatch (W.item (j + 1) s _ _ hlt hst fun v h' tk hP hst' hk' => ?_))
    have hS' := hk' S _ hSw hS
    show wpAny _ A.in1 (tryCatch (holding [v, v] (richCompare .Gt v vb >>= _)) _ >>= _) _ _ _
    refine wpAny_bind (wpAny_tryCatch (wpAny_holding (wpAny_bind (hcmp (j + 1) (argBest bt j) v vb _ _ _ hP hPb ?_))))
    refine wpAny_bind (wpAny_holding (wpAny_truthy_bool ?_))
    refine wpAny_bind (wpAny_letGo (wpAny_pure ?_))
    cases hb : bt (j + 1) (argBest bt j) with
    | true =>
      simp only [if_true]
      refine wpAny_bind (wpAny_updateSeq hS' rfl (wpAny_bind (wpAny_letGo ?_)))
      rw [hname]
      refine wpAny_pure ⟨plainId_quiet F.plain_max_loop _, ih (j + 1) _ v _ (by omega) hlt (W.frame _ _ _ hst' fun b hbf o e => (Heap.get?_update_other _ _ (fun h : S = b => hSf (by rw [h]; exact hbf))).trans e) (by simp only [argBest, hb, if_true]; exact hP) (Heap.get?_update_self _ hS' rfl)
        fun v' h'' tk'' hP' hk'' => hR v' h'' tk'' hP' fun b o hbw hbS e => hk'' b o hbw hbS ((Heap.get?_update_other _ _ (Ne.symm hbS)).trans (hk' b o hbw e))⟩
    | false =>
      simp only [Bool.false_eq_true, if_false]
      refine wpAny_bind (wpAny_letGo ?_)
      rw [hname]
      exact wpAny_pure ⟨plainId_quiet F.plain_max_loop _, ih (j + 1) _ vb c (by omega) hlt hst' (by simp only [argBest, hb, Bool.false_eq_true, if_false]; exact hPb) hS' fun v' h'' tk'' hP' hk'' => hR v' h'' tk'' hP' fun b o hbw hbS e => hk'' b o hbw hbS (hk' b o hbw e)⟩
theorem maxD_first (kw : List (Str × Value)) (W : Walks prog w A.in1 I fp wr n P St) (bt : Nat → Nat → Bool) (hcmp : CmpOf prog w A.in1 .Gt P bt) (S : Addr) (hSf : S ∉ fp) (hn : 0 < n) {s : Shared} {c : Nat} (hst : St 0 s.heap)
    (hS : s.heap.get? S = some { cls := .type "list", dict := none, data := .seq #[] c, slots := #[] })
    (hR : ∀ v h' tk, P (argBest bt (n - 1)) v → (∀ b o, b ∉ wr → b ≠ S → s.heap.get? b = some o → h'.get? b = some o) → R (.ok (.ret v)) { s with heap := h', toks := tk }) :
    codeAny (model prog w) A (.builtin "max.loop" ⟨[.ref I, .none, .ref S], kw⟩) R s := by
  have hSw : S ∉ wr := fun h => hSf (W.sub _ h)
  have hname : (toString "max" ++ toString ".loop" : String) = "max.loop" := by decide
  refine codeAny_builtin F.entry_max_loop ?_
  rw [Around.under_plainId F.plain_max_loop _]
  refine wpAny_bind (wpAny_seqItems hS rfl ?_)
  refine wpAny_bind (wpAny_tryCatch (W.item 0 s _ _ hn hst fun v h' tk hP hst' hk' => ?_))
  have hS' := hk' S _ hSw hS
  show wpAny _ A.in1 (updateSeq S (fun _ => #[v, v]) >>= _) _ _ _
  refine wpAny_bind ?_
  refine wpAny_updateSeq hS' rfl ?_
  rw [hname]
  refine wpAny_pure ⟨plainId_quiet F.plain_max_loop _, maxD_loop kw W bt hcmp S hSf _ 0 _ v _ rfl hn (W.frame _ _ _ hst' fun b hbf o e => (Heap.get?_update_other _ _ (fun h : S = b => hSf (by rw [h]; exact hbf))).trans e) hP (Heap.get?_update_self _ hS' rfl) fun v' h2 tk2 hP' hk2 => ?_⟩
  exact hR v' h2 tk2 hP' fun b o hbw hbS e => hk2 b o hbw hbS ((Heap.get?_update_other _ _ (Ne.symm hbS)).trans (hk' b o hbw e))
theorem maxD_none (d : Value) (W : Walks prog w A.in1 I fp wr 0 P St) (S : Addr) {s : Shared} {c : Nat} (hst : St 0 s.heap) (hS : s.heap.get? S = some { cls := .type "list", dict := none, data := .seq #[] c, slots := #[] })
    (hR : ∀ h' tk, (∀ b o, b ∉ wr → s.heap.get? b = some o → h'.get? b = some o) → R (.ok (.ret d)) { s with heap := h', toks := tk }) :
    codeAny (model prog w) A (.builtin "max.loop" ⟨[.ref I, .none, .ref S], [("default", d)]⟩) R s := by
  refine codeAny_builtin F.entry_max_loop ?_
  rw [Around.under_plainId F.plain_max_loop _]
  refine wpAny_bind (wpAny_seqItems hS rfl ?_)
  refine wpAny_bind (wpAny_tryCatch (W.done s _ _ hst fun h' tk hk' => ?_))
  refine wpAny_bind (wpAny_rule (wpAny_pure ?_))
  exact hR h' tk hk'
end
theorem call_treeK {prog : Program} {w : World} {A : Around} {E : Value → Shared → Prop} {s : Shared} {id : String} {b : Builtin} {args : List Value} {kw : List (Str × Value)} {Q : Value → Shared → Prop} (hk : builtinKind id = none) (hp : plainId id = true) (hb : entryFor table id = some b) (ha : argsOk id ⟨args, kw⟩)
    (hc : wpAny (model prog w) A.in1 (b ⟨args, kw⟩) (fun fin s' => match fin with
      | .done f => (match (Except.ok f : Result) with | .ok (.ret v) => Q v s' | .ok _ => False | .error e => E e s')
      | .again c' => c'.quiet = true ∧ codeAny (model prog w) A c' (fun r s' => match r with | .ok (.ret v) => Q v s' | .ok _ => False | .error e => E e s') s') E s) :
    wpAny (model prog w) A (call (.builtin id) args kw) Q E s := by
  refine wpAny_call (codeAny_call_builtin hp hb ?_)
  simp only [checkBuiltinCall, hk]
  cases hsig : Manifest.signature? id with
  | none => exact wpAny_pure hc
  | some sig =>
    have h2 : Bind.checkArgs id sig ⟨args, kw⟩ = pure () := by simpa only [argsOk, hsig] using ha
    simp only [h2]
    exact wpAny_pure hc
theorem args_maxD (a d : Value) : argsOk "max" ⟨[a], [("default", d)]⟩ := by unfold argsOk; kernel_rfl
theorem argBest_top (xs : List Int) (n : Nat) : ∀ j, j ≤ n → (xs.getD j 0) ≤ xs.getD (argBest (fun i j => decide (xs.getD i 0 > xs.getD j 0)) n) 0 := by
  induction n with
  | zero => intro j hj; have : j = 0 := by omega
            subst this; exact Int.le_refl _
  | succ n ih =>
    intro j hj
    unfold argBest
    by_cases h : decide (xs.getD (n + 1) 0 > xs.getD (argBest (fun i j => decide (xs.getD i 0 > xs.getD j 0)) n) 0) = true
    · rw [if_pos h]
      have h := of_decide_eq_true h
      by_cases e : j = n + 1
      · subst e; exact Int.le_refl _
      · have := ih j (by omega); omega
    · rw [if_neg h]
      have h : ¬ _ := fun z => h (decide_eq_true z)
      by_cases e : j = n + 1
      · subst e; omega
      · exact ih j (by omega)
theorem argBest_le (bt : Nat → Nat → Bool) : ∀ n, argBest bt n ≤ n
  | 0 => Nat.le_refl 0
  | n + 1 => by
    unfold argBest
    split
    · exact Nat.le_refl _
    · exact Nat.le_succ_of_le (argBest_le bt n)
section
variable {X : Cx}
def rMaxD (K : PySem.W.Frag) : List V → List V → Hp → VK → Prop := fun vs zs H Q => ∃ (a : Addr) (ns : List Int) (d : Int), vs = [V.ref a] ∧ zs = [V.int d] ∧ SqL K H a (ns.map V.int) ∧ (ns = [] → Q (.int d) H) ∧ ∀ m, m ∈ ns → (∀ y, y ∈ ns → y ≤ m) → Q (.int m) H
theorem cr_maxD (hc : X.calm = true) : CallRK X (.builtin "max") ["default"] (rMaxD X.K) := by
  intro pins s σ H vs zs us ws Q I r rz h
  obtain ⟨a, ns, d, rfl, rfl, hs, q0, q⟩ := h
  obtain ⟨its, rv, hl, _⟩ := I.list hs
  rw [Vals.ref1 r]
  cases rz with
  | cons rd t =>
    cases t
    obtain ⟨td, rfl⟩ := rd
    have hh := I.ok.hd hc
    have hname : (toString "max" ++ toString ".loop" : String) = "max.loop" := by decide
    refine call_treeK F.kind_max F.plain_max F.entry_max (args_maxD _ _) ?_
    show wpAny _ X.A.in1 (Builtin.Builtins.bindParams "max" ["key", "default"] 0 ⟨[], [("default", .int d td)]⟩ >>= _) _ _ s
    refine wpAny_bind (wpAny_of_eq (show Builtin.Builtins.bindParams "max" ["key", "default"] 0 ⟨[], [("default", .int d td)]⟩ = pure [none, some (.int d td)] from rfl) ?_)
    refine wpAny_bind (wpAny_pure ?_)
    have hL : s.heap.IsList a its.toArray := hl.isList
    have hlt : a < s.heap.objs.size := by obtain ⟨_, e, _⟩ := hL; exact Heap.lt_size e
    refine wpAny_bind (wpAny_pyIter_list hL (wpAny_bind (wpAny_newObj_type ?_)))
    have W := Walks.list (prog := X.prog) (w := X.w) (A := X.A.in1) (by simpa using hh) s.heap.objs.size a (Nat.ne_of_lt hlt) its.toArray
    have hSf : (s.heap.push { cls := .type "list_iterator", data := .fields #[.ref a, .int 0 0] }).objs.size ∉ [s.heap.objs.size, a] := by
      rw [Heap.size_push]; simp only [List.mem_cons, List.not_mem_nil, or_false, not_or]
      exact ⟨Nat.succ_ne_self _, fun e => absurd hlt (by rw [← e]; exact Nat.not_lt_of_le (Nat.le_succ _))⟩
    have hst : ∀ o, Heap.IsListIter ((s.heap.push { cls := .type "list_iterator", data := .fields #[.ref a, .int 0 0] }).push o) s.heap.objs.size a 0 ∧ Heap.IsList ((s.heap.push { cls := .type "list_iterator", data := .fields #[.ref a, .int 0 0] }).push o) a its.toArray := fun o =>
      ⟨⟨_, Heap.get?_push_of_some _ (Heap.get?_push_size _ rfl), rfl, rfl⟩, (hL.push _).push _⟩
    rw [hname]
    have hlen := rv.length
    rw [List.length_map] at hlen
    have keep : ∀ (h' : Heap), (∀ b o, b ∉ [s.heap.objs.size] → b ≠ (s.heap.push { cls := .type "list_iterator", data := .fields #[.ref a, .int 0 0] }).objs.size →
        ((s.heap.push { cls := .type "list_iterator", data := .fields #[.ref a, .int 0 0] }).push { cls := .type "list", data := .seq ([] : List Value).toArray }).get? b = some o → h'.get? b = some o) → ∀ b o, s.heap.get? b = some o → h'.get? b = some o := fun h' hk b o e => by
      have hb := Heap.lt_size e
      refine hk b o (by simpa using Nat.ne_of_lt hb) (by rw [Heap.size_push]; exact Nat.ne_of_lt (Nat.lt_succ_of_lt hb)) (Heap.get?_push_of_some _ (Heap.get?_push_of_some _ e))
    refine wpAny_pure ⟨plainId_quiet F.plain_max_loop _, ?_⟩
    by_cases hne : ns = []
    · subst hne
      have hz : its = [] := by cases its with | nil => rfl | cons _ _ => simp at hlen
      subst hz
      refine maxD_none (A := X.A) (.int d td) W _ (hst _) (Heap.get?_push_size _ rfl) fun h' tk hk' => ?_
      exact ⟨.int d, H, I.kept (keep h' fun b o h1 h2 e => hk' b o h1 e), ⟨td, rfl⟩, q0 rfl⟩
    · have hn : 0 < its.toArray.size := by
        rw [List.size_toArray, ← hlen]
        cases ns with
        | nil => exact absurd rfl hne
        | cons _ _ => simp
      have val : ∀ (i : Nat) (v : Value), its.toArray[i]? = some v → ∃ t, v = .int (ns.getD i 0) t := fun i v hv => by
        have hv : its[i]? = some v := by simpa using hv
        have hi : i < ns.length := by rw [hlen]; exact (List.getElem?_eq_some_iff.mp hv).1
        obtain ⟨u, e1, t, e2⟩ := rv.get (i := i) (x := .int ns[i]) (by rw [List.getElem?_map, List.getElem?_eq_getElem hi]; rfl)
        rw [hv] at e1; cases e1
        exact ⟨t, by rw [e2, List.getD_eq_getElem?_getD, List.getElem?_eq_getElem hi]; rfl⟩
      have cmp : CmpOf X.prog X.w X.A.in1 .Gt (fun i v => its.toArray[i]? = some v) (fun i j => decide (ns.getD i 0 > ns.getD j 0)) := CmpOf.ints_gt (fun i => ns.getD i 0) val
      refine maxD_first (A := X.A) [("default", .int d td)] W _ cmp _ hSf hn (hst _) (Heap.get?_push_size _ rfl) fun v' h2 tk2 hP' hk2 => ?_
      obtain ⟨t', rfl⟩ := val _ _ hP'
      refine ⟨.int _, H, I.kept (keep h2 hk2), ⟨t', rfl⟩, q _ ?_ fun y hy => ?_⟩
      · have hb := argBest_le (fun i j => decide (ns.getD i 0 > ns.getD j 0)) (its.toArray.size - 1)
        rw [List.size_toArray] at hn hb ⊢
        have hb' : argBest (fun i j => decide (ns.getD i 0 > ns.getD j 0)) (its.length - 1) < ns.length := by omega
        rw [List.getD_eq_getElem?_getD, List.getElem?_eq_getElem hb']
        exact List.getElem_mem hb'
      · obtain ⟨j, hj, rfl⟩ := List.mem_iff_getElem.mp hy
        have := argBest_top ns (its.toArray.size - 1) j (by rw [List.size_toArray]; omega)
        rw [List.getD_eq_getElem?_getD (l := ns) (i := j), List.getElem?_eq_getElem hj] at this
        exact this
end
end DL

/-! DTup: new tuples whose object is known (they have no dict of their own), so that their methods can be called. -/
namespace DL
open PySem PySem.Spec PyProof.Rows L2
/-- a tuple's object -/
abbrev tob (its : Array Value) : Obj := { cls := .type "tuple", data := .seq its }
theorem tupN_ok {P : Program} {w : World} {H : Hp} {h : Heap} {p : Addr} {xs : List V} {its : List Value} (z : xs.length ≤ sizeLine) (r : Vals xs its) (e : h.get? p = some (tob its.toArray)) : ObjOk P w H h p (.frz (tob its.toArray) (.tup xs)) :=
  ⟨e, z, its, r, ⟨_, e, rfl, _, rfl⟩⟩
/-- what is wanted of a new tuple -/
abbrev NewT (H : Hp) (xs : List V) (Q : VK) : Prop := ∀ (p : Addr) (o : Obj), o.dict = none → H p = none → Q (.ref p) (upd H p (.frz o (.tup xs)))
section
variable {X : Cx}
theorem pe_tupN {es : List Expr} {t : TA} {x1 : Nat} {pos : Pos} (h : PA X es t) : PE X (.Tuple es x1 pos) (fun σ H Q => t σ H fun xs H1 => xs.length ≤ sizeLine ∧ NewT H1 xs Q) := by
  refine ⟨fun pins s σ H Q I hq => ?_⟩
  refine wpAny_Tuple_spliced (thn (h.run pos pins s σ H _ I hq) fun us s1 ⟨xs, H1, I1, r, z, q⟩ => ⟨by rw [← r.length]; exact z, ?_⟩)
  exact ⟨.ref s1.heap.objs.size, _, I1.laid (t' := s1.toks) (fun b u e => Heap.get?_push_of_some _ e) (Nat.le_refl _) (tupN_ok z r (Heap.get?_push_size _ rfl)), rfl, q _ _ rfl (I1.hok.fresh (Nat.le_refl _))⟩
def rCatN (K : PySem.W.Frag) : R2 := fun x y H Q => ∃ a b xs ys, x = .ref a ∧ y = .ref b ∧ SqT K H a xs ∧ SqT K H b ys ∧ xs.length + ys.length ≤ sizeLine ∧
  (xs = [] → Q (.ref b) H) ∧ (xs ≠ [] → ys = [] → Q (.ref a) H) ∧ NewT H (xs ++ ys) Q
theorem op_catN : OpR X (binaryOp .Add) (rCatN X.K) := by
  intro pins s σ H x y v u Q I rx ry h
  obtain ⟨a, b, xs, ys, rfl, rfl, ha, hb, hz, q0, q1, q2⟩ := h
  cases rx
  cases ry
  obtain ⟨its, r1, p1, _⟩ := I.tuple ha
  obtain ⟨its2, r2, p2, _⟩ := I.tuple hb
  by_cases hx : xs = []
  · subst hx
    cases r1
    exact L2.cat_tup0 p1 p2 ⟨.ref b, H, I, rfl, q0 rfl⟩
  · refine HT.cat_tup p1 p2 (fun z => hx (r1.nil_iff.mp z)) (fun z => ⟨.ref a, H, I, rfl, q1 hx (r2.nil_iff.mp z)⟩) (fun z => ?_) (by rw [← r1.length, ← r2.length]; exact hz)
    exact ⟨.ref s.heap.objs.size, _, I.laid (t' := s.toks) (fun b ob q => Heap.get?_push_of_some _ q) (Nat.le_refl _) (tupN_ok (by rw [List.length_append]; exact hz) (r1.append r2) (Heap.get?_push_size _ rfl)), rfl, q2 _ _ rfl (I.hok.fresh (Nat.le_refl _))⟩
def rSlN (K : PySem.W.Frag) : V → Option Int → Option Int → Hp → VK → Prop := fun x lo hi H Q => ∃ a xs, x = .ref a ∧ SqT K H a xs ∧
  (HT.sIx xs.length 0 lo = 0 ∧ HT.sIx xs.length xs.length hi = xs.length → Q (.ref a) H) ∧ NewT H (cutV xs lo hi) Q
theorem sl_tupN : SlR X (rSlN X.K) := by
  intro pins s σ H x v vl vu lo hi sl Q I rx hs pl pu h
  obtain ⟨a, xs, rfl, hx, q1, q2⟩ := h
  cases rx
  obtain ⟨its, r, ht, hz⟩ := I.tuple hx
  have hlen : its.toArray.size = xs.length := by rw [List.size_toArray]; exact r.length.symm
  refine ⟨"tuple", _, PyProof.Rows.slot_tuple_getitem.lookup, ht.typeIs, ?_⟩
  by_cases hw : HT.sIx xs.length 0 lo = 0 ∧ HT.sIx xs.length xs.length hi = xs.length
  · exact L2.getItem_tuple_whole ht hs pl pu (by rw [hlen]; exact hw) ⟨.ref a, H, I, rfl, q1 hw⟩
  · refine HT.getItem_tuple_cut ht hs pl pu (by rw [hlen]; exact hw) ?_ (by rw [hlen]; exact hz)
    rw [hlen]
    exact ⟨.ref s.heap.objs.size, _, I.laid (t' := s.toks) (fun b ob q => Heap.get?_push_of_some _ q) (Nat.le_refl _) (tupN_ok (Nat.le_trans (cutV_length xs lo hi) hz) ((r.drop (HT.sIx xs.length 0 lo)).take (HT.sIx xs.length xs.length hi - HT.sIx xs.length 0 lo)) (Heap.get?_push_size _ rfl)), rfl, q2 _ _ rfl (I.hok.fresh (Nat.le_refl _))⟩
theorem call_tupleN : CallR X (.type "tuple") (fun xs H Q => ∃ p ys, xs = [.ref p] ∧ ((SqL X.K H p ys ∧ NewT H ys Q) ∨ (SqT X.K H p ys ∧ Q (.ref p) H))) := by
  intro pins s σ H xs us Q I r h
  obtain ⟨p, ys, rfl, h⟩ := h
  obtain ⟨u, rfl, rx⟩ := vals1 r
  cases rx
  rcases h with ⟨hq, q⟩ | ⟨hq, q⟩
  · obtain ⟨its, r', pl, hz⟩ := I.list hq
    have hlen := r'.length
    refine call_tuple_list pl.isList (fun h' kp => ?_) (by simp only [List.size_toArray] <;> omega)
    have I1 : Inv X pins σ H { s with heap := h' } := I.kept (t' := s.toks) kp
    exact ⟨.ref h'.objs.size, _, I1.laid (t' := s.toks) (fun b o e => Heap.get?_push_of_some _ e) (Nat.le_refl _) (tupN_ok hz r' (Heap.get?_push_size _ rfl)), rfl, q _ _ rfl (I1.hok.fresh (Nat.le_refl _))⟩
  · obtain ⟨its, r', pl, hz⟩ := I.tuple hq
    exact call_tuple_same pl ⟨.ref p, H, I, rfl, q⟩
end
/-! ### walks that give new pairs -/
/-- a list (false) or a tuple (true) -/
def SqB (b : Bool) (K : PySem.W.Frag) (H : Hp) (a : Addr) (xs : List V) : Prop := match b with | true => SqT K H a xs | false => SqL K H a xs
def IsB (b : Bool) (h : Heap) (a : Addr) (its : Array Value) : Prop := match b with | true => h.IsTuple a its | false => h.IsList a its
def ItB (b : Bool) (h : Heap) (it a : Addr) (i : Nat) : Prop := match b with | true => h.IsTupleIter it a i | false => h.IsListIter it a i
section
variable {X : Cx} {pins : List (Addr × Obj)} {σ : L2.St} {H : Hp} {s : Shared} {b : Bool} {a it : Addr} {xs ys : List V} {h h' : Heap} {its : Array Value} {i : Nat}
theorem sqB_get (I : Inv X pins σ H s) (h : SqB b X.K H a xs) : ∃ its : List Value, Vals xs its ∧ IsB b s.heap a its.toArray := by
  cases b with
  | true => obtain ⟨its, r, p, _⟩ := I.tuple h; exact ⟨its, r, p⟩
  | false => obtain ⟨its, r, p, _⟩ := I.list h; exact ⟨its, r, p.isList⟩
theorem sqB_inj (I : Inv X pins σ H s) (h : SqB b X.K H a xs) (h' : SqB b X.K H a ys) : xs = ys := by
  cases b with
  | true => exact I.tuple_inj h h'
  | false => exact I.list_inj h h'
theorem itB_ob (h0 : ItB b h it a i) : ∃ o, h.get? it = some o ∧ ∃ v, o.data = .fields v := by
  cases b with
  | true => obtain ⟨o, ho, _, hd⟩ := h0; exact ⟨o, ho, _, hd⟩
  | false => obtain ⟨o, ho, _, hd⟩ := h0; exact ⟨o, ho, _, hd⟩
theorem itB_at (h0 : ItB b h it a i) (k : ∀ o, h.get? it = some o → h'.get? it = some o) : ItB b h' it a i := by
  cases b with
  | true => exact Heap.IsTupleIter.at h0 k
  | false => exact Heap.IsListIter.at h0 k
theorem isB_ob (h0 : IsB b h a its) : ∃ o n, h.get? a = some o ∧ o.data = .seq its n := by
  cases b with
  | true => obtain ⟨o, ho, _, n, hd⟩ := h0; exact ⟨o, n, ho, hd⟩
  | false => obtain ⟨o, ho, _, n, hd⟩ := h0; exact ⟨o, n, ho, hd⟩
theorem itB_ne (h0 : ItB b h it a i) {b' : Bool} {c : Addr} (h1 : IsB b' h c its) : c ≠ it := fun z => by
  obtain ⟨o, ho, v, hv⟩ := itB_ob h0
  obtain ⟨o2, n, ho2, hd⟩ := isB_ob h1
  rw [z, ho] at ho2
  cases ho2
  rw [hd] at hv
  cases hv
theorem drawsB {prog : Program} {w : World} {A : Around} (b : Bool) (hh : A.handled = none) (it l : Addr) (hne : l ≠ it) (items : Array Value) :
    Draws prog w A it [it, l] items.size (fun i v => items[i]? = some v) (fun i h => ItB b h it l i ∧ IsB b h l items) := by
  cases b with
  | true => exact Draws.tuple hh it l hne items
  | false => exact Draws.list hh it l hne items
end
def IteN (b : Bool) (K : PySem.W.Frag) (a : Addr) : It :=
  ⟨fun i H => ∃ (xs : List V) (x : V), SqB b K H a xs ∧ xs[i]? = some x, fun i H v H' => ∃ T x o, v = .ref T ∧ o.dict = none ∧ H T = none ∧ H' = upd H T (.frz o (.tup [.int (i : Nat), x])) ∧ ∀ xs, SqB b K H a xs → xs[i]? = some x, fun i H => ∃ xs : List V, SqB b K H a xs ∧ xs.length = i⟩
theorem turn_enumN {P : Program} {w : World} {K : PySem.W.Frag} {elts : List Expr} {kk : Nat} {tpos : Pos} (b : Bool) (a e it : Addr) :
    Turn P w K (.Tuple elts kk tpos) (IteN b K a) [e, it] e (fun i h => (∃ old, IsEnum h e it ((i : Nat) : Int) old) ∧ ItB b h it a i ∧ e ≠ it) where
  mem := by simp
  obj := fun i h st c hb => by
    obtain ⟨⟨old, he⟩, hi, _⟩ := st
    have e' : c = e ∨ c = it := by simpa using hb
    rcases e' with z | z
    · rw [z]; exact ⟨_, he, fun v q => nomatch q⟩
    · obtain ⟨o, ho, v, hv⟩ := itB_ob hi
      rw [z]; exact ⟨o, ho, fun v q => by rw [hv] at q; cases q⟩
  keep := fun i h h' st k => let ⟨⟨old, he⟩, hi, hne⟩ := st; ⟨⟨old, k e (by simp) _ he⟩, itB_at hi fun o q => k it (by simp) o q, hne⟩
  item := by
    intro X hP hw hK hc i pins s σ H E I hf st hg
    subst hP hw hK
    obtain ⟨⟨old, he⟩, hit, hne⟩ := st
    obtain ⟨xs, x, hq, hx⟩ := hg
    obtain ⟨its, rv, p⟩ := sqB_get I hq
    obtain ⟨u, hu, ru⟩ := rv.get hx
    have hil : i < its.toArray.size := by rw [List.size_toArray]; exact (List.getElem?_eq_some_iff.mp hu).1
    have hel : e < s.heap.objs.size := Heap.lt_size he
    have hitl : it < s.heap.objs.size := by obtain ⟨_, q, _⟩ := itB_ob hit; exact Heap.lt_size q
    have hai : a ≠ it := itB_ne hit p
    have hea : e ≠ a := fun z => by
      obtain ⟨o2, n, ho2, hd⟩ := isB_ob p
      have he' : s.heap.get? e = _ := he
      rw [z, ho2] at he'; cases he'
      cases hd
    refine wpAny_pyNext_enum_itemD (drawsB (prog := X.prog) (w := X.w) (A := X.A.in1) b (by simpa using I.ok.hd hc) it a hai its.toArray) he ⟨hit, p⟩ hil hne (by simp [hne, hea]) fun x' h' tk hP ho st' hT hsz hk => ?_
    obtain ⟨hit2, _⟩ := st'
    have ex : x' = u := by
      have : its.toArray[i]? = some u := by simpa using hu
      rw [hP] at this; cases this; rfl
    subst ex
    refine ⟨_, rfl, wpAny_letOwnedTupleGo_enum (s := { s with heap := h', toks := tk + 1 }) ho fun h'' he' sb => ?_⟩
    have hT2 : h''.get? s.heap.objs.size = some (tob [.int i tk, x'].toArray) := (sb.2 _ (Nat.ne_of_gt hel)).trans hT
    have I1 := I.turnedNew (t' := tk + 1) (ch := [e, it]) (fun c ob hb q => (sb.2 c (fun z => hb (by simp [z]))).trans (hk c ob (fun z => hb (by simp [z])) (fun z => hb (by simp [z])) q)) hf (Nat.le_refl _)
      (tupN_ok (P := X.prog) (w := X.w) (xs := [.int (i : Nat), x]) (by show 2 ≤ sizeLine; decide) (.cons ⟨_, rfl⟩ (.cons ru .nil)) hT2)
    refine ⟨.ref s.heap.objs.size, _, I1, rfl, ⟨_, x, _, rfl, rfl, I.hok.fresh (Nat.le_refl _), rfl, fun ys hy => by rw [sqB_inj I hy hq]; exact hx⟩, ⟨⟨x', ?_⟩, itB_at hit2 fun o q => (sb.2 it (Ne.symm hne)).trans q, hne⟩, fun c hb => ?_⟩
    · have e1 : ((i + 1 : Nat) : Int) = (i : Int) + 1 := by omega
      rw [e1]; exact he'
    · have hb' : c < s.heap.objs.size := by
        have e' : c = e ∨ c = it := by simpa using hb
        rcases e' with z | z
        · rw [z]; exact hel
        · rw [z]; exact hitl
      rw [upd_ne (Nat.ne_of_lt hb')]
      exact (hf c hb).1
  done := by
    intro X hP hw hK hc i pins s σ H E I hf st hg
    subst hP hw hK
    obtain ⟨⟨old, he⟩, hit, hne⟩ := st
    obtain ⟨xs, hq, hx⟩ := hg
    obtain ⟨its, rv, p⟩ := sqB_get I hq
    obtain ⟨f0, f1, f2, f3, f4, f5⟩ := hf it (by simp)
    have hl := rv.length
    have hii : i = its.toArray.size := by rw [List.size_toArray]; omega
    subst hii
    exact wpAny_pyNext_enum_endD (drawsB (prog := X.prog) (w := X.w) (A := X.A.in1) b (by simpa using I.ok.hd hc) it a (itB_ne hit p) its.toArray) he ⟨hit, p⟩ fun h' eb => ⟨rfl, I.turned (t' := s.toks) (fun b o hb q => eb b o hb q) f0 f1 f3 f4 f5⟩
  self := fun A i s Q E st h => let ⟨⟨_, he⟩, _⟩ := st; wpAny_pyIter_enum he h
def iEnumN (K : PySem.W.Frag) (ta : TA) : TI := fun σ H R => ta σ H fun vs H1 => ∃ b a xs, vs = [.ref a] ∧ SqB b K H1 a xs ∧ R (IteN b K a) H1
theorem pi_enumN {X : Cx} {e : Expr} {ta : TA} {p pos tpos : Pos} {elts : List Expr} {kk : Nat} (hg : Gl X "enumerate") (hm : X.mg "enumerate" = none) (ha : PA X [e] ta) (hs : starEach [e] X.env = [(false, eval e X.env)]) :
    PI X (.Tuple elts kk tpos) (.Call (.Name "enumerate" p) [e] [] pos) (iEnumN X.K ta) := by
  refine ⟨fun pins s σ H R I h => ?_⟩
  refine Call_ (ld_blt I hg hm boot_enumerate (PyProof.Rows.callWith_type1 (thn (ha.run pos pins s σ H _ I h) fun us s1 ⟨vs, H1, I1, r1, q1⟩ => ?_) hs rfl))
  obtain ⟨b, a, xs, ex, hq, q⟩ := q1
  subst ex
  rw [Vals.ref1 r1]
  have fp : ∀ b ∈ [s1.heap.objs.size + 1, s1.heap.objs.size], FpOk X pins H1 b := fun b hb => by
    have e' : b = s1.heap.objs.size + 1 ∨ b = s1.heap.objs.size := by simpa using hb
    have hle : s1.heap.objs.size ≤ b := by
      rcases e' with z | z
      · rw [z]; exact Nat.le_add_right _ _
      · rw [z]; exact Nat.le_refl _
    exact I1.fpOk hle (I1.hok.fresh hle)
  obtain ⟨its, rv, p'⟩ := sqB_get I1 hq
  cases b with
  | false => exact call_enumerate_list p' fun h' he hit hsz hk => wpAny_pyIter_enum he ⟨s1.heap.objs.size + 1, [s1.heap.objs.size + 1, s1.heap.objs.size], _, _, H1, rfl, I1.kept (t' := s1.toks) hk, turn_enumN false a (s1.heap.objs.size + 1) s1.heap.objs.size, ⟨⟨.none, he⟩, hit, Nat.succ_ne_self _⟩, fp, q⟩
  | true => exact call_enumT p' fun h' he hit hsz hk => wpAny_pyIter_enum he ⟨s1.heap.objs.size + 1, [s1.heap.objs.size + 1, s1.heap.objs.size], _, _, H1, rfl, I1.kept (t' := s1.toks) hk, turn_enumN true a (s1.heap.objs.size + 1) s1.heap.objs.size, ⟨⟨.none, he⟩, hit, Nat.succ_ne_self _⟩, fp, q⟩
def ItzN (b : Bool) (K : PySem.W.Frag) (a c : Addr) : It :=
  ⟨fun i H => ∃ (xs ys : List V) (x y : V), SqB b K H a xs ∧ SqB b K H c ys ∧ xs[i]? = some x ∧ ys[i]? = some y,
    fun i H v H' => ∃ T x y o, v = .ref T ∧ o.dict = none ∧ H T = none ∧ H' = upd H T (.frz o (.tup [x, y])) ∧ (∀ xs, SqB b K H a xs → xs[i]? = some x) ∧ ∀ ys, SqB b K H c ys → ys[i]? = some y,
    fun i H => ∃ xs ys : List V, SqB b K H a xs ∧ SqB b K H c ys ∧ (xs.length ≤ i ∨ ys.length ≤ i)⟩
section
variable {prog : Program} {w : World} {A : Around} {E : Value → Shared → Prop} {s : Shared} {z TI TO i1 i2 a c : Addr} {i : Nat} {b : Bool} {items items2 : Array Value} {x y x0 y0 : Value} {Q : Option Value → Shared → Prop}
theorem zipB_item (D : ZipApart z TI TO i1 i2 a c) (hz : IsZip s.heap z TI TO .none) (hTI : IsPair s.heap TI (.ref i1) (.ref i2)) (hTO : IsPair s.heap TO x0 y0)
    (h1 : ItB b s.heap i1 a i) (h2 : ItB b s.heap i2 c i) (p1 : IsB b s.heap a items) (p2 : IsB b s.heap c items2) (hx : items[i]? = some x) (hy : items2[i]? = some y)
    (hQ : ∀ h', IsZip h' z TI TO (rawInt s.heap.objs.size) → IsPair h' TO x y → ItB b h' i1 a (i + 1) → ItB b h' i2 c (i + 1) → IsPair h' s.heap.objs.size x y → h'.objs.size = s.heap.objs.size + 1 →
      (∀ q o, q ≠ z → q ≠ TO → q ≠ i1 → q ≠ i2 → s.heap.get? q = some o → h'.get? q = some o) → Q (some (.ref s.heap.objs.size)) { s with heap := h' }) : wpAny (model prog w) A (pyNext (.ref z)) Q E s := by
  cases b with
  | false => exact wpAny_pyNext_zip_item D hz hTI hTO h1 h2 p1 p2 hx hy hQ
  | true => exact RZ.pyNext_zipT_item D hz hTI hTO h1 h2 p1 p2 hx hy hQ
theorem zipB_end (hh : A.handled = none) (D : ZipApart z TI TO i1 i2 a c) (hz : IsZip s.heap z TI TO .none) (hTI : IsPair s.heap TI (.ref i1) (.ref i2)) (hTO : IsPair s.heap TO x0 y0)
    (h1 : ItB b s.heap i1 a i) (h2 : ItB b s.heap i2 c i) (p1 : IsB b s.heap a items) (p2 : IsB b s.heap c items2) (he : items[i]? = none ∨ items2[i]? = none)
    (hQ : ∀ h', (∀ q o, q ≠ z → q ≠ TO → q ≠ i1 → q ≠ i2 → s.heap.get? q = some o → h'.get? q = some o) → Q none { s with heap := h' }) : wpAny (model prog w) A (pyNext (.ref z)) Q E s := by
  cases b with
  | false => exact wpAny_pyNext_zip_end hh D hz hTI hTO h1 h2 p1 p2 he hQ
  | true => exact RZ.pyNext_zipT_end hh D hz hTI hTO h1 h2 p1 p2 he hQ
end
theorem turn_zipN {P : Program} {w : World} {K : PySem.W.Frag} {elts : List Expr} {kk : Nat} {tpos : Pos} (b : Bool) {a c z TI TO i1 i2 : Addr} (D : ZipApart z TI TO i1 i2 a c) :
    Turn P w K (.Tuple elts kk tpos) (ItzN b K a c) [z, TI, TO, i1, i2] z (fun i h => IsZip h z TI TO .none ∧ IsPair h TI (.ref i1) (.ref i2) ∧ (∃ x y, IsPair h TO x y) ∧ ItB b h i1 a i ∧ ItB b h i2 c i) where
  mem := by simp
  obj := fun i h st q hq => by
    obtain ⟨hz, hTI, ⟨x, y, hTO⟩, h1, h2⟩ := st
    obtain ⟨o1, e1, v1, d1⟩ := itB_ob h1
    obtain ⟨o2, e2, v2, d2⟩ := itB_ob h2
    have e' : q = z ∨ q = TI ∨ q = TO ∨ q = i1 ∨ q = i2 := by simpa using hq
    rcases e' with e | e | e | e | e <;> rw [e]
    · exact ⟨_, hz, fun v q => nomatch q⟩
    · exact ⟨_, hTI, fun v q => nomatch q⟩
    · exact ⟨_, hTO, fun v q => nomatch q⟩
    · exact ⟨o1, e1, fun v q => by rw [d1] at q; cases q⟩
    · exact ⟨o2, e2, fun v q => by rw [d2] at q; cases q⟩
  keep := fun i h h' st k => by
    obtain ⟨hz, hTI, ⟨x, y, hTO⟩, h1, h2⟩ := st
    exact ⟨k z (by simp) _ hz, k TI (by simp) _ hTI, ⟨x, y, k TO (by simp) _ hTO⟩, itB_at h1 fun o q => k i1 (by simp) o q, itB_at h2 fun o q => k i2 (by simp) o q⟩
  item := by
    intro X hP hw hK hc i pins s σ H E I hf st hg
    subst hP hw hK
    obtain ⟨hz, hTI, ⟨x0, y0, hTO⟩, h1, h2⟩ := st
    obtain ⟨xs, ys, x, y, hqx, hqy, hx, hy⟩ := hg
    obtain ⟨its, rv, p⟩ := sqB_get I hqx
    obtain ⟨its2, rv2, p2⟩ := sqB_get I hqy
    obtain ⟨u, hu, ru⟩ := rv.get hx
    obtain ⟨u2, hu2, ru2⟩ := rv2.get hy
    have hzl : z < s.heap.objs.size := Heap.lt_size hz
    have lt5 : ∀ q ∈ [z, TI, TO, i1, i2], q < s.heap.objs.size := fun q hq => by
      have e' : q = z ∨ q = TI ∨ q = TO ∨ q = i1 ∨ q = i2 := by simpa using hq
      obtain ⟨_, e1, _⟩ := itB_ob h1
      obtain ⟨_, e2, _⟩ := itB_ob h2
      rcases e' with e | e | e | e | e <;> rw [e]
      · exact hzl
      · exact Heap.lt_size hTI
      · exact Heap.lt_size hTO
      · exact Heap.lt_size e1
      · exact Heap.lt_size e2
    refine zipB_item D hz hTI hTO h1 h2 p p2 (x := u) (y := u2) (by simpa using hu) (by simpa using hu2) fun h' z' TO' h1' h2' hT hsz hk => ?_
    refine ⟨_, rfl, wpAny_letOwnedTupleGo_zip (s := { s with heap := h' }) z' fun h'' z'' sb => ?_⟩
    have hT2 : h''.get? s.heap.objs.size = some (tob [u, u2].toArray) := (sb.2 _ (Nat.ne_of_gt hzl)).trans hT
    have I1 := I.turnedNew (t' := s.toks) (ch := [z, TI, TO, i1, i2]) (fun q o hb e => (sb.2 q (fun q' => hb (by simp [q']))).trans (hk q o (fun q' => hb (by simp [q'])) (fun q' => hb (by simp [q'])) (fun q' => hb (by simp [q'])) (fun q' => hb (by simp [q'])) e)) hf (Nat.le_refl _)
      (tupN_ok (P := X.prog) (w := X.w) (xs := [x, y]) (by show 2 ≤ sizeLine; decide) (.cons ru (.cons ru2 .nil)) hT2)
    refine ⟨.ref s.heap.objs.size, _, I1, rfl, ⟨_, x, y, _, rfl, rfl, I.hok.fresh (Nat.le_refl _), rfl, fun l hl => by rw [sqB_inj I hl hqx]; exact hx, fun l hl => by rw [sqB_inj I hl hqy]; exact hy⟩, ⟨z'', ?_, ⟨u, u2, ?_⟩, ?_, ?_⟩, fun q hq => ?_⟩
    · exact (sb.2 _ D.TIz).trans (hk _ _ D.TIz D.TITO D.TIi1 D.TIi2 hTI)
    · exact (sb.2 _ D.TOz).trans TO'
    · exact itB_at h1' fun o q => (sb.2 _ D.i1z).trans q
    · exact itB_at h2' fun o q => (sb.2 _ D.i2z).trans q
    · rw [upd_ne (Nat.ne_of_lt (lt5 q hq))]
      exact (hf q hq).1
  done := by
    intro X hP hw hK hc i pins s σ H E I hf st hg
    subst hP hw hK
    obtain ⟨hz, hTI, ⟨x0, y0, hTO⟩, h1, h2⟩ := st
    obtain ⟨xs, ys, hqx, hqy, hend⟩ := hg
    obtain ⟨its, rv, p⟩ := sqB_get I hqx
    obtain ⟨its2, rv2, p2⟩ := sqB_get I hqy
    have l1 := rv.length
    have l2 := rv2.length
    have he : its.toArray[i]? = none ∨ its2.toArray[i]? = none := by
      rcases hend with q | q
      · exact .inl (by simp; omega)
      · exact .inr (by simp; omega)
    exact zipB_end (I.ok.hd hc) D hz hTI hTO h1 h2 p p2 he fun h' hk => ⟨rfl, I.turnedL (t' := s.toks) (ch := [z, TI, TO, i1, i2]) (fun q o hb e =>
      hk q o (fun q' => hb (by simp [q'])) (fun q' => hb (by simp [q'])) (fun q' => hb (by simp [q'])) (fun q' => hb (by simp [q'])) e) hf⟩
  self := fun A i s Q E st h => wpAny_pyIter_zip st.1 h
def iZipN (K : PySem.W.Frag) (ta : TA) : TI := fun σ H R => ta σ H fun vs H1 => ∃ b a c xs ys, vs = [.ref a, .ref c] ∧ SqB b K H1 a xs ∧ SqB b K H1 c ys ∧ R (ItzN b K a c) H1
theorem pi_zipN {X : Cx} {e e2 : Expr} {ta : TA} {p pos tpos : Pos} {elts : List Expr} {kk : Nat} (hg : Gl X "zip") (hm : X.mg "zip" = none) (ha : PA X [e, e2] ta)
    (hs : starEach [e, e2] X.env = (false, eval e X.env) :: starEach [e2] X.env) (hpl : (backTo pos (starEach [e2] X.env)).any (·.1) = false) :
    PI X (.Tuple elts kk tpos) (.Call (.Name "zip" p) [e, e2] [] pos) (iZipN X.K ta) := by
  refine ⟨fun pins s σ H R I h => ?_⟩
  refine Call_ (ld_blt I hg hm PyProof.Rows.boot_zip (PyProof.Rows.callWith_type1 (thn (ha.run pos pins s σ H _ I h) fun us s1 ⟨vs, H1, I1, r1, q1⟩ => ?_) hs hpl))
  obtain ⟨b, a, c, xs, ys, ex, hqx, hqy, q⟩ := q1
  subst ex
  obtain ⟨u, u', rfl, r, r'⟩ := vals2 r1
  cases r
  cases r'
  have fresh5 : ∀ c, c ∈ [s1.heap.objs.size + 4, s1.heap.objs.size + 2, s1.heap.objs.size + 3, s1.heap.objs.size, s1.heap.objs.size + 1] → FpOk X pins H1 c := fun c hcm => by
    have hle : s1.heap.objs.size ≤ c := by
      have e' : c = s1.heap.objs.size + 4 ∨ c = s1.heap.objs.size + 2 ∨ c = s1.heap.objs.size + 3 ∨ c = s1.heap.objs.size ∨ c = s1.heap.objs.size + 1 := by simpa using hcm
      rcases e' with z | z | z | z | z <;> rw [z] <;> first | exact Nat.le_refl _ | exact Nat.le_add_right _ _
    exact I1.fpOk hle (I1.hok.fresh hle)
  obtain ⟨its, rv, p1⟩ := sqB_get I1 hqx
  obtain ⟨its2, rv2, p2⟩ := sqB_get I1 hqy
  obtain ⟨o1, _, ho1, _⟩ := isB_ob p1
  obtain ⟨o2, _, ho2, _⟩ := isB_ob p2
  cases b with
  | false => exact call_zip_2 p1 p2 fun h' hz hTI hTO h1 h2 hsz hk => wpAny_pyIter_zip hz ⟨s1.heap.objs.size + 4, [s1.heap.objs.size + 4, s1.heap.objs.size + 2, s1.heap.objs.size + 3, s1.heap.objs.size, s1.heap.objs.size + 1], _, _, H1, rfl, I1.kept (t' := s1.toks) hk, turn_zipN false (PySem.W.ktu_apart s1.heap.objs.size a c (Heap.lt_size ho1) (Heap.lt_size ho2)), ⟨hz, hTI, ⟨_, _, hTO⟩, h1, h2⟩, fresh5, q⟩
  | true => exact RZ.call_zipT p1 p2 fun h' hz hTI hTO h1 h2 hsz hk => wpAny_pyIter_zip hz ⟨s1.heap.objs.size + 4, [s1.heap.objs.size + 4, s1.heap.objs.size + 2, s1.heap.objs.size + 3, s1.heap.objs.size, s1.heap.objs.size + 1], _, _, H1, rfl, I1.kept (t' := s1.toks) hk, turn_zipN true (PySem.W.ktu_apart s1.heap.objs.size a c (Heap.lt_size ho1) (Heap.lt_size ho2)), ⟨hz, hTI, ⟨_, _, hTO⟩, h1, h2⟩, fresh5, q⟩
/-! ### x.index(y) -/
/-- a list, or a tuple without a dict of its own -/
def NoD (K : PySem.W.Frag) (H : Hp) (a : Addr) : Prop := (∃ o u, H a = some (.frz o u) ∧ o.dict = none) ∨ (∃ o, K.lookup a = some o ∧ o.dict = none)
def rIdxB (b : Bool) (K : PySem.W.Frag) : V → List V → Hp → VK → Prop := fun x xs H Q => ∃ (a : Addr) (ys : List Str) (z : Str) (j : Nat), x = .ref a ∧ xs = [.str z] ∧ ys[j]? = some z ∧ (∀ m, m < j → ys[m]? ≠ some z) ∧ Q (.int (j : Nat)) H ∧ SqB b K H a (ys.map V.str)
theorem pe_index {X : Cx} {o e : Expr} {to : TE} {t : TA} {apos cpos : Pos} (ho : PE X o to) (ha : PA X [e] t)
    (hbase : attributeBase o "index" X.env (eval o X.env) = eval o X.env) (hline : (apos.endLine == cpos.line) = true) (hs : starEach [e] X.env = (false, eval e X.env) :: starEach [] X.env) :
    PE X (.Call (.Attribute o "index" apos) [e] [] cpos) (fun σ H Q => to σ H fun x H1 => ∃ b a xs, x = .ref a ∧ SqB b X.K H1 a xs ∧ (b = true → NoD X.K H1 a) ∧ t σ H1 fun xs H2 => rIdxB b X.K x xs H2 Q) := by
  refine ⟨fun pins s σ H Q I h => ?_⟩
  refine wpAny_Call_method_late hbase (by rw [hs]; rfl) hline rfl (thn (ho.run pins s σ H _ I h) fun v s1 ⟨x, H1, I1, r1, b, a, xs, ex, hq, hn, q1⟩ => ?_)
  subst ex
  cases r1
  have hA := ha.run cpos pins s1 σ H1 _ I1 q1
  have run : ∀ (id : String), (∀ (s2 : Shared) (H2 : Hp) (xs : List V) (us : List Value), Inv X pins σ H2 s2 → Vals xs us → rIdxB b X.K (.ref a) xs H2 Q → wpAny (model X.prog X.w) X.A (call (.builtin id) (.ref a :: us)) (EP X pins σ Q) X.xe s2) →
      wpAny (model X.prog X.w) X.A (callWith cpos (.builtin id) [.ref a] (backTo cpos (starEach [e] X.env)) (backToKw cpos (keywordEach [] X.env))) (EP X pins σ Q) X.xe s1 := fun id hm => by
    rw [hs] at hA ⊢
    refine Calls.callWith_builtin (by rfl) (Calls.evalArgs_plain ?_)
    exact thn hA fun us s2 ⟨vs, H2, I2, r2, q2⟩ => hm s2 H2 vs us I2 r2 q2
  cases b with
  | false =>
    obtain ⟨its, rv, pl, _⟩ := I1.list hq
    refine ⟨"list", "list.index", PySem.F.plainAttrs_list, PySem.F.slot_list_index, PySem.F.type_list_index, pl.isList.typeIs, fun a' e => ?_, run _ fun s2 H2 vs us I2 r2 q2 => ?_⟩
    · cases e
      obtain ⟨o, n, e, c, hd, _⟩ := pl
      exact ⟨o, e, hd⟩
    · obtain ⟨a', ys, z, j, e1, rfl, h1, h2, q, w⟩ := q2
      cases e1
      refine mt_index pins s2 σ H2 (.ref a) _ _ _ Q I2 rfl r2 ⟨a, ys.map V.str, .str z, j, .str z, rfl, rfl, w, rfl, ?_, ?_, ?_, fun m z' hm hz' => ?_, q⟩
      · rw [List.all_map, List.all_eq_true]
        exact fun _ _ => rfl
      · rw [List.getElem?_map, h1]; rfl
      · unfold eqV; simp
      · rw [List.getElem?_map] at hz'
        cases e : ys[m]? with
        | none => rw [e] at hz'; cases hz'
        | some y =>
          rw [e] at hz'
          cases hz'
          have : y ≠ z := fun z' => h2 m hm (by rw [e, z'])
          unfold eqV
          simpa using this
  | true =>
    obtain ⟨its, rv, pt, _⟩ := I1.tuple hq
    refine ⟨"tuple", "tuple.index", PySem.F.plainAttrs_tuple, PySem.F.slot_tuple_index, PySem.F.type_tuple_index, ?_, fun a' e => ?_, run _ fun s2 H2 vs us I2 r2 q2 => ?_⟩
    · obtain ⟨o, ho, hc, _⟩ := pt
      exact ⟨o, ho, hc⟩
    · cases e
      rcases hn rfl with ⟨o, u, h1, h2⟩ | ⟨o, h1, h2⟩
      · obtain ⟨e, _⟩ := I1.hok a _ h1
        exact ⟨o, e, h2⟩
      · exact ⟨o, I1.kIn a o h1, h2⟩
    · obtain ⟨a', ys, z, j, e1, rfl, h1, h2, q, w⟩ := q2
      cases e1
      exact mt_tup_index pins s2 σ H2 (.ref a) _ _ _ Q I2 rfl r2 ⟨a, ys, z, j, rfl, rfl, w, h1, h2, q⟩
end DL

/-! DL1: Python data as D, what stands for it in the abstract heap (Rep), how states follow one another (Step), readings over D. -/
namespace DL
open PySem PySem.Spec PyProof.Rows L2

/-- Python data; scr: the script; opq: a list whose contents do not matter (kind k) -/
inductive D where
  | non | bl (b : Bool) | int (i : Int) | str (s : Str) | tup (ds : List D) | lst (ds : List D) | scr (ns : List Int) | opq (k : Nat)

/-- the frozen part of the heap, the opaque addresses -/
structure FS where
  fz : Hp
  op : Addr → Option Nat
/-- the law's draws: ints from 0 -/
def OpInv (k : Nat) (o : HO) : Prop := ∃ ns : List Int, o = .lst (ns.map V.int) ∧ ∀ n ∈ ns, 0 ≤ n
structure Good (F : FS) (H : Hp) : Prop where
  fz : ∀ a o, F.fz a = some o → H a = some o
  op : ∀ a k, F.op a = some k → F.fz a = none ∧ ∃ o, H a = some o ∧ OpInv k o
structure Step (F : FS) (H : Hp) (F' : FS) (H' : Hp) : Prop where
  fz : ∀ a o, F.fz a = some o → F'.fz a = some o
  op : ∀ a k, F.op a = some k → F'.op a = some k
  hp : ∀ a o, H a = some o → F.op a = none → H' a = some o
  nf : ∀ a, F.fz a = none → F.op a = none → H a ≠ none → F'.fz a = none ∧ F'.op a = none
theorem Step.refl (F : FS) (H : Hp) : Step F H F H := ⟨fun _ _ h => h, fun _ _ h => h, fun _ _ h _ => h, fun _ h1 h2 _ => ⟨h1, h2⟩⟩
theorem Good.opn {F : FS} {H : Hp} (g : Good F H) {a : Addr} {o : HO} (h : F.fz a = some o) : F.op a = none := by
  cases e : F.op a with
  | none => rfl
  | some k => have := (g.op a k e).1; rw [h] at this; cases this
theorem Step.trans {F F1 F2 : FS} {H H1 H2 : Hp} (a : Step F H F1 H1) (g : Good F1 H1) (b : Step F1 H1 F2 H2) : Step F H F2 H2 where
  fz := fun x o h => b.fz x o (a.fz x o h)
  op := fun x k h => b.op x k (a.op x k h)
  hp := fun x o h n => by
    have h1 := a.hp x o h n
    refine b.hp x o h1 ?_
    cases e : F.fz x with
    | none => exact (a.nf x e n (by rw [h]; simp)).2
    | some u => exact g.opn (a.fz x u e)
  nf := fun x h1 h2 h3 => by
    obtain ⟨n1, n2⟩ := a.nf x h1 h2 h3
    refine b.nf x n1 n2 ?_
    cases e : H x with
    | none => exact absurd e h3
    | some o => rw [a.hp x o e h2]; simp

mutual
inductive Rep (K : PySem.W.Frag) (F : FS) : V → D → Prop
  | non : Rep K F .non .non
  | bl (b : Bool) : Rep K F (.bl b) (.bl b)
  | int (i : Int) : Rep K F (.int i) (.int i)
  | str (x : Str) (h : PyData.strOk x = true) : Rep K F (.str x) (.str x)
  | tup {a : Addr} {xs : List V} {ds : List D} : SqT K F.fz a xs → NoD K F.fz a → RepL K F xs ds → Rep K F (.ref a) (.tup ds)
  | lst {a : Addr} {xs : List V} {ds : List D} : F.fz a = some (.lst xs) → RepL K F xs ds → Rep K F (.ref a) (.lst ds)
  | scr {a : Addr} {ns : List Int} : SqL K F.fz a (ns.map V.int) → Rep K F (.ref a) (.scr ns)
  | opq {a : Addr} {k : Nat} : F.op a = some k → Rep K F (.ref a) (.opq k)
inductive RepL (K : PySem.W.Frag) (F : FS) : List V → List D → Prop
  | nil : RepL K F [] []
  | cons {v : V} {d : D} {vs : List V} {ds : List D} : Rep K F v d → RepL K F vs ds → RepL K F (v :: vs) (d :: ds)
end
theorem rd_mono {H H' : Hp} (e : ∀ b o, H b = some o → H' b = some o) {a : Addr} {u : HO} (r : Rd H a u) : Rd H' a u := by
  rcases r with r | ⟨o, r⟩
  · exact .inl (e _ _ r)
  · exact .inr ⟨o, e _ _ r⟩
theorem sqT_mono {K : PySem.W.Frag} {H H' : Hp} (e : ∀ b o, H b = some o → H' b = some o) {a : Addr} {xs : List V} (h : SqT K H a xs) : SqT K H' a xs := by
  rcases h with h | h
  · exact .inl (rd_mono e h)
  · exact .inr h
theorem sqL_mono {K : PySem.W.Frag} {H H' : Hp} (e : ∀ b o, H b = some o → H' b = some o) {a : Addr} {xs : List V} (h : SqL K H a xs) : SqL K H' a xs := by
  rcases h with h | h
  · exact .inl (rd_mono e h)
  · exact .inr h
theorem noD_mono {K : PySem.W.Frag} {H H' : Hp} (e : ∀ b o, H b = some o → H' b = some o) {a : Addr} (h : NoD K H a) : NoD K H' a := by
  rcases h with ⟨o, u, h1, h2⟩ | h
  · exact .inl ⟨o, u, e _ _ h1, h2⟩
  · exact .inr h
section
variable {K : PySem.W.Frag} {F F' : FS}
mutual
theorem Rep.mono (e : ∀ b o, F.fz b = some o → F'.fz b = some o) (f : ∀ b k, F.op b = some k → F'.op b = some k) : ∀ {v : V} {d : D}, Rep K F v d → Rep K F' v d
  | _, _, .non => .non
  | _, _, .bl b => .bl b
  | _, _, .int i => .int i
  | _, _, .str x h => .str x h
  | _, _, .tup h n r => .tup (sqT_mono e h) (noD_mono e n) (RepL.mono e f r)
  | _, _, .lst h r => .lst (e _ _ h) (RepL.mono e f r)
  | _, _, .scr h => .scr (sqL_mono e h)
  | _, _, .opq h => .opq (f _ _ h)
theorem RepL.mono (e : ∀ b o, F.fz b = some o → F'.fz b = some o) (f : ∀ b k, F.op b = some k → F'.op b = some k) : ∀ {vs : List V} {ds : List D}, RepL K F vs ds → RepL K F' vs ds
  | _, _, .nil => .nil
  | _, _, .cons h r => .cons (Rep.mono e f h) (RepL.mono e f r)
end
theorem Rep.step {H H' : Hp} {v : V} {d : D} (r : Rep K F v d) (s : Step F H F' H') : Rep K F' v d := r.mono s.fz s.op
theorem RepL.step {H H' : Hp} {vs : List V} {ds : List D} (r : RepL K F vs ds) (s : Step F H F' H') : RepL K F' vs ds := r.mono s.fz s.op
theorem RepL.length : ∀ {vs : List V} {ds : List D}, RepL K F vs ds → vs.length = ds.length
  | _, _, .nil => rfl
  | _, _, .cons _ r => congrArg Nat.succ (RepL.length r)
theorem RepL.get : ∀ {vs : List V} {ds : List D} {i : Nat} {v : V}, RepL K F vs ds → vs[i]? = some v → ∃ d, ds[i]? = some d ∧ Rep K F v d
  | _, _, _, _, .nil, h => by simp at h
  | _, _, 0, _, .cons r _, h => by simp at h; subst h; exact ⟨_, rfl, r⟩
  | _, _, i + 1, v, .cons _ t, h => by
    obtain ⟨d, h1, h2⟩ := RepL.get (i := i) t (by simpa using h)
    exact ⟨d, by simpa using h1, h2⟩
theorem RepL.getD : ∀ {vs : List V} {ds : List D} {i : Nat} {d : D}, RepL K F vs ds → ds[i]? = some d → ∃ v, vs[i]? = some v ∧ Rep K F v d
  | _, _, _, _, .nil, h => by simp at h
  | _, _, 0, _, .cons r _, h => by simp at h; subst h; exact ⟨_, rfl, r⟩
  | _, _, i + 1, v, .cons _ t, h => by
    obtain ⟨d, h1, h2⟩ := RepL.getD (i := i) t (by simpa using h)
    exact ⟨d, by simpa using h1, h2⟩
theorem RepL.append : ∀ {vs ws : List V} {ds es : List D}, RepL K F vs ds → RepL K F ws es → RepL K F (vs ++ ws) (ds ++ es)
  | _, _, _, _, .nil, s => s
  | _, _, _, _, .cons r t, s => .cons r (RepL.append t s)
theorem RepL.one {v : V} {d : D} (r : Rep K F v d) : RepL K F [v] [d] := .cons r .nil
theorem RepL.reverse : ∀ {vs : List V} {ds : List D}, RepL K F vs ds → RepL K F vs.reverse ds.reverse
  | _, _, .nil => .nil
  | _, _, .cons r t => by rw [List.reverse_cons, List.reverse_cons]; exact (RepL.reverse t).append (.one r)
theorem RepL.take : ∀ {vs : List V} {ds : List D} (n : Nat), RepL K F vs ds → RepL K F (vs.take n) (ds.take n)
  | _, _, 0, _ => .nil
  | _, _, _ + 1, .nil => .nil
  | _, _, n + 1, .cons r t => .cons r (RepL.take n t)
theorem RepL.drop : ∀ {vs : List V} {ds : List D} (n : Nat), RepL K F vs ds → RepL K F (vs.drop n) (ds.drop n)
  | _, _, 0, r => r
  | _, _, _ + 1, .nil => .nil
  | _, _, n + 1, .cons _ t => RepL.drop n t
theorem RepL.set {v : V} {d : D} (r : Rep K F v d) : ∀ {vs : List V} {ds : List D} (i : Nat), RepL K F vs ds → RepL K F (vs.set i v) (ds.set i d)
  | _, _, _, .nil => .nil
  | _, _, 0, .cons _ t => .cons r t
  | _, _, i + 1, .cons q t => .cons q (RepL.set r i t)
theorem RepL.rep {v : V} {d : D} (r : Rep K F v d) : ∀ n : Nat, RepL K F (List.replicate n v) (List.replicate n d)
  | 0 => .nil
  | n + 1 => .cons r (RepL.rep r n)
theorem RepL.ints : ∀ ns : List Int, RepL K F (ns.map V.int) (ns.map D.int)
  | [] => .nil
  | n :: ns => .cons (.int n) (RepL.ints ns)
/-- a new frozen object -/
def FS.put (F : FS) (a : Addr) (o : HO) : FS := ⟨upd F.fz a o, F.op⟩
theorem put_mono {a : Addr} {o : HO} (h : F.fz a = none) : ∀ b u, F.fz b = some u → (F.put a o).fz b = some u := fun b u e => by
  show upd F.fz a o b = _
  rw [upd_ne (ne_of_none e h)]
  exact e
theorem Rep.put {a : Addr} {o : HO} {v : V} {d : D} (h : F.fz a = none) (r : Rep K F v d) : Rep K (F.put a o) v d := r.mono (put_mono h) fun _ _ e => e
theorem RepL.put {a : Addr} {o : HO} {vs : List V} {ds : List D} (h : F.fz a = none) (r : RepL K F vs ds) : RepL K (F.put a o) vs ds := r.mono (put_mono h) fun _ _ e => e
end
section
variable {K : PySem.W.Frag} {F F' F0 F1 : FS} {H H' H0 H1 : Hp} {σ : L2.St}
theorem Good.nn (g : Good F H) {a : Addr} (h : H a = none) : F.fz a = none ∧ F.op a = none := by
  constructor
  · cases e : F.fz a with
    | none => rfl
    | some o => rw [g.fz a o e] at h; cases h
  · cases e : F.op a with
    | none => rfl
    | some k => obtain ⟨_, o, q, _⟩ := g.op a k e; rw [q] at h; cases h
/-- a new object, frozen at once -/
theorem Good.new (g : Good F H) {a : Addr} {o : HO} (h : H a = none) : Good (F.put a o) (upd H a o) where
  fz := fun b u e => by
    by_cases hb : b = a
    · subst hb
      have e : upd F.fz b o b = some u := e
      rw [upd_same] at e ⊢
      exact e
    · have e : upd F.fz a o b = some u := e
      rw [upd_ne hb] at e ⊢
      exact g.fz b u e
  op := fun b k e => by
    have e : F.op b = some k := e
    obtain ⟨h1, u, h2, h3⟩ := g.op b k e
    have hb : b ≠ a := ne_of_none h2 h
    refine ⟨?_, u, by rw [upd_ne hb]; exact h2, h3⟩
    show upd F.fz a o b = _
    rw [upd_ne hb]
    exact h1
theorem Step.new (g : Good F H) {a : Addr} {o : HO} (h : H a = none) : Step F H (F.put a o) (upd H a o) where
  fz := put_mono (g.nn h).1
  op := fun _ _ e => e
  hp := fun b u e _ => by rw [upd_ne (ne_of_none e h)]; exact e
  nf := fun b h1 h2 h3 => by
    have hb : b ≠ a := by
      rintro rfl
      exact h3 h
    refine ⟨?_, h2⟩
    show upd F.fz a o b = _
    rw [upd_ne hb]
    exact h1
/-- a new object that is ours -/
theorem Good.own (g : Good F H) {a : Addr} {o : HO} (h : F.fz a = none) (h2 : F.op a = none) : Good F (upd H a o) where
  fz := fun b u e => by rw [upd_ne (ne_of_none e h)]; exact g.fz b u e
  op := fun b k e => by
    obtain ⟨h1, u, h3, h4⟩ := g.op b k e
    have hb : b ≠ a := by
      rintro rfl
      rw [h2] at e; cases e
    exact ⟨h1, u, by rw [upd_ne hb]; exact h3, h4⟩
theorem Step.own {a : Addr} {o : HO} (h : H a = none) : Step F H F (upd H a o) where
  fz := fun _ _ e => e
  op := fun _ _ e => e
  hp := fun b u e _ => by rw [upd_ne (ne_of_none e h)]; exact e
  nf := fun _ h1 h2 _ => ⟨h1, h2⟩
/-- an object of ours is frozen -/
theorem Good.freeze (g : Good F H) {a : Addr} {o : HO} (h : H a = some o) (h2 : F.op a = none) : Good (F.put a o) H where
  fz := fun b u e => by
    by_cases hb : b = a
    · subst hb
      have e : upd F.fz b o b = some u := e
      rw [upd_same] at e
      rw [h]; exact e
    · have e : upd F.fz a o b = some u := e
      rw [upd_ne hb] at e
      exact g.fz b u e
  op := fun b k e => by
    have e : F.op b = some k := e
    obtain ⟨h1, u, h3, h4⟩ := g.op b k e
    have hb : b ≠ a := fun z => by
      have e' : F.op b = some k := e
      rw [z, h2] at e'; cases e'
    refine ⟨?_, u, h3, h4⟩
    show upd F.fz a o b = _
    rw [upd_ne hb]
    exact h1

/-- a slot: empty (or not known), a value, a list of our own -/
inductive Slot where
  | non | val (d : D) | own (ds : List D)
inductive RS (K : PySem.W.Frag) (H0 : Hp) (F : FS) (H : Hp) : Option V → Slot → Prop
  | non {o : Option V} : RS K H0 F H o .non
  | val {v : V} {d : D} : Rep K F v d → RS K H0 F H (some v) (.val d)
  | own {l : Addr} {xs : List V} {ds : List D} : H l = some (.lst xs) → F.fz l = none → F.op l = none → H0 l = none → RepL K F xs ds → RS K H0 F H (some (.ref l)) (.own ds)
/-- the state: σ, H stand for ε over the frozen F; F0, H0: at the def's entry -/
structure Rp (K : PySem.W.Frag) (F0 : FS) (H0 : Hp) (F : FS) (H : Hp) (σ : L2.St) (ε : List Slot) : Prop where
  good : Good F H
  step : Step F0 H0 F H
  len : σ.length = ε.length
  slot : ∀ (i : Nat) (s : Slot), ε[i]? = some s → ∃ o, σ[i]? = some o ∧ RS K H0 F H o s
  dist : ∀ (i j : Nat) (ds es : List D) (l : Addr), ε[i]? = some (.own ds) → ε[j]? = some (.own es) → σ[i]? = some (some (.ref l)) → σ[j]? = some (some (.ref l)) → i = j
theorem RS.step {o : Option V} {s : Slot} (r : RS K H0 F H o s) (t : Step F H F' H') : RS K H0 F' H' o s := by
  cases r with
  | non => exact .non
  | val r => exact .val (r.step t)
  | own h1 h2 h3 h4 r =>
    obtain ⟨n1, n2⟩ := t.nf _ h2 h3 (by rw [h1]; simp)
    exact .own (t.hp _ _ h1 h3) n1 n2 h4 (r.step t)
theorem Rp.next {ε : List Slot} (r : Rp K F0 H0 F H σ ε) (t : Step F H F' H') (g : Good F' H') : Rp K F0 H0 F' H' σ ε :=
  ⟨g, r.step.trans r.good t, r.len, fun i s e => let ⟨o, h1, h2⟩ := r.slot i s e; ⟨o, h1, h2.step t⟩, r.dist⟩
end

/-! ### readings over D -/
abbrev DE := List Slot → (D → Prop) → Prop
abbrev DT := List Slot → (Bool → Prop) → Prop
abbrev DA := List Slot → (List D → Prop) → Prop
/-- what is given to the rest: a value that stands for d -/
abbrev Fin (K : PySem.W.Frag) (F : FS) (H : Hp) (Q : VK) (d : D) : Prop := ∀ v H' F', Step F H F' H' → Good F' H' → Rep K F' v d → Q v H'
def tD (K : PySem.W.Frag) (m : DE) : TE := fun σ H Q => ∃ F0 H0 F ε, Rp K F0 H0 F H σ ε ∧ m ε (Fin K F H Q)
def tDT (K : PySem.W.Frag) (m : DT) : TT := fun σ H Q => ∃ F0 H0 F ε, Rp K F0 H0 F H σ ε ∧ m ε (fun b => ∀ H' F', Step F H F' H' → Good F' H' → Q b H')
def tDA (K : PySem.W.Frag) (m : DA) : TA := fun σ H Q => ∃ F0 H0 F ε, Rp K F0 H0 F H σ ε ∧ m ε (fun ds => ∀ vs H' F', Step F H F' H' → Good F' H' → RepL K F' vs ds → Q vs H')
/-- a new list, not frozen yet -/
def tDF (K : PySem.W.Frag) (m : DE) : TE := fun σ H Q => ∃ F0 H0 F ε, Rp K F0 H0 F H σ ε ∧ m ε (fun d => ∃ ds, d = .lst ds ∧ ∀ p xs H' F', Step F H F' H' → Good F' H' → H p = none → H' p = some (.lst xs) → F'.fz p = none → F'.op p = none → RepL K F' xs ds → Q (.ref p) H')
abbrev MonoE (m : DE) : Prop := ∀ ε P P', (∀ d, P d → P' d) → m ε P → m ε P'
abbrev MonoA (m : DA) : Prop := ∀ ε P P', (∀ d, P d → P' d) → m ε P → m ε P'
theorem _root_.L2.PE.of {X : Cx} {e : Expr} {t t' : TE} (h : PE X e t) (i : ∀ σ H Q, t' σ H Q → t σ H Q) : PE X e t' := ⟨fun pins s σ H Q I hw => h.run pins s σ H Q I (i σ H Q hw)⟩
theorem _root_.L2.PT.of {X : Cx} {e : Expr} {t t' : TT} (h : PT X e t) (i : ∀ σ H Q, t' σ H Q → t σ H Q) : PT X e t' := ⟨fun pins s σ H Q I hw => h.run pins s σ H Q I (i σ H Q hw)⟩
theorem _root_.L2.PW.of {X : Cx} {e : Expr} {t t' : TT} (h : PW X e t) (i : ∀ σ H Q, t' σ H Q → t σ H Q) : PW X e t' := ⟨fun wh pins s σ H Q I hw => h.run wh pins s σ H Q I (i σ H Q hw)⟩
theorem _root_.L2.PA.of {X : Cx} {e : List Expr} {t t' : TA} (h : PA X e t) (i : ∀ σ H Q, t' σ H Q → t σ H Q) : PA X e t' := ⟨fun pos pins s σ H Q I hw => h.run pos pins s σ H Q I (i σ H Q hw)⟩
theorem _root_.L2.PS.of {X : Cx} {e : Stmt} {t t' : TS} (h : PS X e t) (i : ∀ D σ H, t' D σ H → t D σ H) : PS X e t' := ⟨fun pins s σ H Q I hw => h.run pins s σ H Q I (i Q σ H hw)⟩
theorem _root_.L2.PSs.of {X : Cx} {e : List Stmt} {t t' : TS} (h : PSs X e t) (i : ∀ D σ H, t' D σ H → t D σ H) : PSs X e t' := ⟨fun pins s σ H Q I hw => h.run pins s σ H Q I (i Q σ H hw)⟩

section
variable {X : Cx} {a b c e : Expr} {es : List Expr} {ma mb mc : DE} {m : DA} {pos : Pos}
/-- a new list, frozen -/
theorem frz {e : Expr} {m : DE} (h : PE X e (tDF X.K m)) (mn : MonoE m) (hl : ∀ ε P, m ε P → m ε fun d => (∃ ds, d = .lst ds) ∧ P d) : PE X e (tD X.K m) := by
  refine h.of fun σ H Q ⟨F0, H0, F, ε, R, q⟩ => ⟨F0, H0, F, ε, R, mn _ _ _ (fun d ⟨⟨ds, e⟩, f⟩ => ⟨ds, e, fun p xs H' F' t g n h1 h2 h3 r => ?_⟩) (hl _ _ q)⟩
  subst e
  refine f (.ref p) H' (F'.put p (.lst xs)) ?_ (g.freeze h1 h3) (.lst (by show upd _ _ _ _ = _; exact upd_same) (r.put h2))
  refine ⟨fun b u e => put_mono h2 b u (t.fz b u e), t.op, t.hp, fun b n1 n2 n3 => ?_⟩
  obtain ⟨z1, z2⟩ := t.nf b n1 n2 n3
  refine ⟨?_, z2⟩
  show upd _ _ _ _ = _
  rw [upd_ne (by rintro rfl; exact n3 n)]
  exact z1
/-- an operation by values -/
abbrev DOp (K : PySem.W.Frag) (r : D → D → (D → Prop) → Prop) (rL : R2) : Prop := ∀ F H x y v w (Q : VK), Good F H → Rep K F v x → Rep K F w y → r x y (Fin K F H Q) → rL v w H Q
abbrev DCall (K : PySem.W.Frag) (r : List D → (D → Prop) → Prop) (rL : List V → Hp → VK → Prop) : Prop := ∀ F H ds vs (Q : VK), Good F H → RepL K F vs ds → r ds (Fin K F H Q) → rL vs H Q
theorem tD_bind {K : PySem.W.Frag} {σ : L2.St} {H : Hp} {ma : DE} {F0 : FS} {H0 : Hp} {F : FS} {ε : List Slot} {k : D → Prop} {Q : VK} (R : Rp K F0 H0 F H σ ε) (mn : MonoE ma) (h : ma ε k)
    (f : ∀ d v H' F', k d → Rp K F0 H0 F' H' σ ε → Step F H F' H' → Rep K F' v d → Q v H') : tD K ma σ H Q :=
  ⟨F0, H0, F, ε, R, mn _ _ _ (fun d q v H' F' t g r => f d v H' F' q (R.next t g) t r) h⟩
theorem Fin.step {K : PySem.W.Frag} {F F' : FS} {H H' : Hp} {Q : VK} {d : D} (f : Fin K F H Q d) (t : Step F H F' H') (g : Good F' H') : Fin K F' H' Q d := fun v H2 F2 t2 g2 r => f v H2 F2 (t.trans g t2) g2 r
theorem pd_op {op : Operator} {r : D → D → (D → Prop) → Prop} {rL : R2} (ho : OpR X (binaryOp op) rL) (hd : DOp X.K r rL) (rm : ∀ x y P P', (∀ d, P d → P' d) → r x y P → r x y P') (ha : PE X a (tD X.K ma)) (hb : PE X b (tD X.K mb)) (mna : MonoE ma) (mnb : MonoE mb) :
    PE X (.BinOp a op b pos) (tD X.K fun ε Q => ma ε fun x => mb ε fun y => r x y Q) := by
  refine (pe_op ho ha hb).of fun σ H Q ⟨F0, H0, F, ε, R, q⟩ => tD_bind R mna q fun x v H1 F1 q1 R1 t1 rx => tD_bind R1 mnb q1 fun y w H2 F2 q2 R2 t2 ry => ?_
  exact hd F2 H2 x y v w Q R2.good (rx.step t2) ry (rm _ _ _ _ (fun d f => (Fin.step f t1 R1.good).step t2 R2.good) q2)
theorem pd_cmp {op : CmpOp} {r : D → D → (D → Prop) → Prop} {rL : R2} (ho : OpR X (compareOp op) rL) (hd : DOp X.K r rL) (rm : ∀ x y P P', (∀ d, P d → P' d) → r x y P → r x y P') (ha : PE X a (tD X.K ma)) (hb : PE X b (tD X.K mb)) (mna : MonoE ma) (mnb : MonoE mb) (hm : behindInMarks op b = false) :
    PE X (.Compare a [op] [b] pos) (tD X.K fun ε Q => ma ε fun x => mb ε fun y => r x y Q) := by
  refine (pe_cmpR ho ha hb hm).of fun σ H Q ⟨F0, H0, F, ε, R, q⟩ => tD_bind R mna q fun x v H1 F1 q1 R1 t1 rx => tD_bind R1 mnb q1 fun y w H2 F2 q2 R2 t2 ry => ?_
  exact hd F2 H2 x y v w Q R2.good (rx.step t2) ry (rm _ _ _ _ (fun d f => (Fin.step f t1 R1.good).step t2 R2.good) q2)
/-- a test by values -/
abbrev mT (m : DE) : DT := fun ε Q => m ε fun d => ∃ k, d = .bl k ∧ Q k
theorem pt_cmpD {op : CmpOp} {r : D → D → (D → Prop) → Prop} {rL : R2} (ho : OpR X (compareOp op) rL) (hd : DOp X.K r rL) (rm : ∀ x y P P', (∀ d, P d → P' d) → r x y P → r x y P') (ha : PE X a (tD X.K ma)) (hb : PE X b (tD X.K mb)) (mna : MonoE ma) (mnb : MonoE mb) (hm : behindInMarks op b = false) :
    PT X (.Compare a [op] [b] pos) (tDT X.K (mT fun ε Q => ma ε fun x => mb ε fun y => r x y Q)) := by
  refine (pt_cmpR ho ha hb hm).of fun σ H Q ⟨F0, H0, F, ε, R, q⟩ => tD_bind R mna q fun x v H1 F1 q1 R1 t1 rx => tD_bind R1 mnb q1 fun y w H2 F2 q2 R2 t2 ry => ?_
  refine hd F2 H2 x y v w _ R2.good (rx.step t2) ry (rm _ _ _ _ (fun d ⟨k, e, f⟩ v' H' F' t g r => ?_) q2)
  subst e
  cases r
  exact ⟨k, rfl, f H' F' ((t1.trans R1.good t2).trans R2.good t) g⟩
theorem pt_valD {m : DE} (h : PE X e (tD X.K m)) (mn : MonoE m) (he : ∀ whole, isTrue e X.env whole = (do let v ← whole; standAt e.pos; holding [v] (truthy v))) : PT X e (tDT X.K (mT m)) := by
  refine (pt_val h he).of fun σ H Q ⟨F0, H0, F, ε, R, q⟩ => tD_bind R mn q fun x v H1 F1 ⟨k, e, f⟩ R1 t1 rx => ?_
  subst e
  cases rx
  exact ⟨k, rfl, f _ _ t1 R1.good⟩
end
end DL

/-! DL2: the language (slots in the place of names) and its meaning over D. -/
namespace DL
open PySem PyProof.Rows L2

/-! ### equality, items, slices -/
mutual
def D.py : D → PyData
  | .non => .none
  | .bl b => .bool b
  | .int i => .int i
  | .str s => .str s
  | .tup ds => .tuple (pys ds)
  | .lst ds => .list (pys ds)
  | .scr ns => .list (ns.map .int)
  | .opq _ => .none
def pys : List D → List PyData
  | [] => []
  | d :: ds => d.py :: pys ds
end
mutual
/-- plain data of at most this depth -/
def D.ok : Nat → D → Bool
  | _, .non | _, .bl _ | _, .int _ | _, .str _ => true
  | 0, .tup _ | 0, .lst _ => false
  | k + 1, .tup ds | k + 1, .lst ds => oks k ds
  | _, .scr _ | _, .opq _ => false
def oks : Nat → List D → Bool
  | _, [] => true
  | k, d :: ds => d.ok k && oks k ds
end
mutual
/-- == -/
def D.eqv : D → D → Bool
  | .non, .non => true
  | .bl a, .bl b => a == b
  | .bl a, .int j => (if a then 1 else 0) == j
  | .int i, .bl b => i == (if b then 1 else 0)
  | .int i, .int j => i == j
  | .str x, .str y => x == y
  | .tup xs, .tup ys => eqvs xs ys
  | .lst xs, .lst ys => eqvs xs ys
  | _, _ => false
def eqvs : List D → List D → Bool
  | [], [] => true
  | x :: xs, y :: ys => x.eqv y && eqvs xs ys
  | _, _ => false
end
def D.flat : D → Bool
  | .non | .bl _ | .int _ | .str _ => true
  | _ => false
def D.isNon : D → Bool
  | .non => true
  | _ => false
/-- the built-in types that isinstance is asked of -/
inductive Ty where
  | int | str | bool | list | tuple
  deriving DecidableEq
def Ty.nm : Ty → String
  | .int => "int" | .str => "str" | .bool => "bool" | .list => "list" | .tuple => "tuple"
def D.isa : D → Ty → Bool
  | .int _, .int | .bl _, .int | .bl _, .bool | .str _, .str | .tup _, .tuple | .lst _, .list | .scr _, .list | .opq _, .list => true
  | _, _ => false
mutual
/-- no list within -/
def D.noL : D → Bool
  | .non | .bl _ | .int _ | .str _ | .opq _ => true
  | .tup ds => noLs ds
  | .lst _ | .scr _ => false
def noLs : List D → Bool
  | [] => true
  | d :: ds => d.noL && noLs ds
end
def getI {α : Type} (ds : List α) (i : Int) : Option α := if 0 ≤ i then ds[i.toNat]? else if -(ds.length : Int) ≤ i then ds[(i + ds.length).toNat]? else none
def sIx (n d : Nat) : Option Int → Nat
  | none => d
  | some v => if v < 0 then (v + (n : Int)).toNat else min v.toNat n
def cut {α : Type} (xs : List α) (lo hi : Option Int) : List α := (xs.drop (sIx xs.length 0 lo)).take (sIx xs.length xs.length hi - sIx xs.length 0 lo)

/-! ### operations -/
inductive O2 where
  | add | sub | mul | fdiv | mod | pow
  deriving DecidableEq
inductive OC where
  | eq | ne | lt | le | gt | ge | is | isn | inn | nin
  deriving DecidableEq
def op2 : O2 → D → D → (D → Prop) → Prop
  | .add, .int i, .int j, Q => Q (.int (i + j))
  | .add, .str a, .str b, Q => a.length + b.length ≤ sizeLine ∧ Q (.str (a ++ b))
  | .add, .tup a, .tup b, Q => a.length + b.length ≤ sizeLine ∧ Q (.tup (a ++ b))
  | .sub, .int i, .int j, Q => Q (.int (i - j))
  | .mul, .int i, .int j, Q => CMul i j ∧ Q (.int (i * j))
  | .fdiv, .int i, .int j, Q => (0 < j ∧ j < 1073741824) ∧ Q (.int (i / j))
  | .mod, .int i, .int j, Q => 0 < j ∧ Q (.int (i % j))
  | .pow, .int i, .int j, Q => CPow i j ∧ Q (.int (i ^ j.toNat))
  | _, _, _, _ => False
def opc : OC → D → D → (D → Prop) → Prop
  | .eq, x, y, Q => (x.ok 60 = true ∧ y.ok 60 = true) ∧ Q (.bl (x.eqv y))
  | .ne, x, y, Q => (x.ok 60 = true ∧ y.ok 60 = true) ∧ Q (.bl (!x.eqv y))
  | .lt, .int i, .int j, Q => Q (.bl (decide (i < j)))
  | .le, .int i, .int j, Q => Q (.bl (decide (i ≤ j)))
  | .gt, .int i, .int j, Q => Q (.bl (decide (j < i)))
  | .ge, .int i, .int j, Q => Q (.bl (decide (j ≤ i)))
  | .lt, .str a, .str b, Q => Q (.bl (decide (a.cps.toList < b.cps.toList)))
  | .is, x, .non, Q => Q (.bl x.isNon)
  | .isn, x, .non, Q => Q (.bl (!x.isNon))
  | .inn, x, .lst ys, Q => (x.flat = true ∧ ys.all D.flat = true) ∧ Q (.bl (ys.any fun y => y.eqv x))
  | .inn, x, .tup ys, Q => (x.flat = true ∧ ys.all D.flat = true) ∧ Q (.bl (ys.any fun y => y.eqv x))
  | .nin, x, .lst ys, Q => (x.flat = true ∧ ys.all D.flat = true) ∧ Q (.bl (!ys.any fun y => y.eqv x))
  | .nin, x, .tup ys, Q => (x.flat = true ∧ ys.all D.flat = true) ∧ Q (.bl (!ys.any fun y => y.eqv x))
  | _, _, _, _ => False
def opIx : D → D → (D → Prop) → Prop
  | .lst ds, .int i, Q => ∃ d, getI ds i = some d ∧ Q d
  | .tup ds, .int i, Q => ∃ d, getI ds i = some d ∧ Q d
  | .scr ns, .int i, Q => ∃ n, getI ns i = some n ∧ Q (.int n)
  | .str s, .int i, Q => ∃ c, (s.length ≤ sizeLine ∧ getI s.cps.toList i = some c) ∧ Q (.str ⟨#[c]⟩)
  | _, _, _ => False
/-- built-ins called by their names; the last two make new lists -/
inductive Bi where
  | len | int | abs | max2 | min2 | maxL | minL | tuple | any | all | list | sorted
  deriving DecidableEq
def Bi.nm : Bi → Str
  | .len => "len" | .int => "int" | .abs => "abs" | .max2 => "max" | .min2 => "min" | .maxL => "max" | .minL => "min" | .tuple => "tuple" | .any => "any" | .all => "all" | .list => "list" | .sorted => "sorted"
def Bi.ar : Bi → Nat
  | .max2 | .min2 => 2
  | _ => 1
def Bi.fresh : Bi → Bool
  | .list | .sorted => true
  | _ => false
def bi : Bi → List D → (D → Prop) → Prop
  | .len, [.lst ds], Q => Q (.int ds.length)
  | .len, [.tup ds], Q => Q (.int ds.length)
  | .len, [.scr ns], Q => Q (.int ns.length)
  | .len, [.str s], Q => s.length ≤ sizeLine ∧ Q (.int s.length)
  | .int, [.int i], Q => Q (.int i)
  | .int, [.bl b], Q => Q (.int (if b then 1 else 0))
  | .abs, [.int i], Q => Q (.int (if i < 0 then -i else i))
  | .max2, [.int i, .int j], Q => Q (.int (if j > i then j else i))
  | .min2, [.int i, .int j], Q => Q (.int (if j < i then j else i))
  | .maxL, [.lst ds], Q => ∃ ns : List Int, ds = ns.map D.int ∧ 0 < ns.length ∧ ∀ m, m ∈ ns → (∀ y, y ∈ ns → y ≤ m) → Q (.int m)
  | .minL, [.lst ds], Q => ∃ ns : List Int, ds = ns.map D.int ∧ 0 < ns.length ∧ ∀ m, m ∈ ns → (∀ y, y ∈ ns → m ≤ y) → Q (.int m)
  | .tuple, [.lst ds], Q => Q (.tup ds)
  | .tuple, [.tup ds], Q => Q (.tup ds)
  | .any, [.lst ds], Q => ∃ bs : List Bool, ds = bs.map D.bl ∧ Q (.bl (bs.any id))
  | .all, [.lst ds], Q => ∃ bs : List Bool, ds = bs.map D.bl ∧ Q (.bl (bs.all id))
  | .list, [.lst ds], Q => Q (.lst ds)
  | .list, [.tup ds], Q => Q (.lst ds)
  | .list, [.scr ns], Q => Q (.lst (ns.map D.int))
  | .sorted, [.lst ds], Q => (∃ ns : List Int, ds = ns.map D.int ∧ ∀ ns' : List Int, ns'.Perm ns → ns'.Pairwise (· ≤ ·) → Q (.lst (ns'.map D.int))) ∨
    (∃ ss : List Str, ds = ss.map D.str ∧ ss.length < 64 ∧ ∀ ys : List Str, ys.Perm ss → PyProof.Rows.sortedS ys = true → Q (.lst (ys.map D.str)))
  | _, _, _ => False

/-! ### the language -/
inductive CT where
  | nm (i : Nat) | nil | cons (t : CT) (r : CT)
mutual
inductive CE where
  | var (i : Nat) | lit (d : D) | glob (k : Nat) | tup (es : CEs) | lst (es : CEs)
  | bin (o : O2) (a b : CE) | neg (a : CE) | rep (a k : CE) | cat (a b : CE) | cmp (o : OC) (a b : CE) | not (a : CE) | and (a b : CE) | or (a b : CE) | ite (c a b : CE)
  | idx (a i : CE) | slL (a : CE) (lo hi : CO) | slT (a : CE) (lo hi : CO) | lenO (i : Nat) | idxO (i : Nat) (k : CE)
  | isi (a : CE) (ts : List Ty) | bi (b : Bi) (es : CEs) | call (f : Nat) (es : CEs) | callO (f : Nat) (es : CEs)
  | lc (e : CE) (t : CT) (it : CI) (c : CO) (vs : List Nat) | joinS (a b : CE) | lend (i : Nat) (e : CE)
  | sset (a : CE) | maxD (a : CE) (d : Int) | idxOf (a b : CE) | callK (f : Nat) (es : CEs) (k : Str) (e : CE)
inductive CEs where
  | nil | cons (e : CE) (es : CEs)
inductive CO where
  | no | yes (e : CE)
inductive CI where
  | seq (e : CE) | rng1 (a : CE) | rng2 (a b : CE) | enum (a : CE) | zip (a b : CE) | rrng1 (a : CE) | rrng2 (a b : CE)
end
mutual
inductive CS where
  | set (t : CT) (e : CE) | own (i : Nat) (e : CE) | setIx (i : Nat) (k e : CE) | aug (i : Nat) (o : O2) (e : CE) | app (i : Nat) (e : CE) | ext (i : Nat) (e : CE) | rev (i : Nat) | pop (i : Nat) | rai
  | expr (e : CE) | iff (c : CE) (a b : CSs) | forr (t : CT) (it : CI) (b : CSs) | whil (c : CE) (b : CSs) | ret (e : CE) | retN | retO (i : Nat) | brk | cont
inductive CSs where
  | nil | cons (s : CS) (r : CSs) | frz (i : Nat) (r : CSs) | opn (i : Nat) (r : CSs)
end

/-! ### meaning -/
structure DEnds where
  nx : List Slot → Prop
  rt : Slot → Prop
  bk : List Slot → Prop
  ct : List Slot → Prop
abbrev DS := DEnds → List Slot → Prop
abbrev Phi := Nat → List D → (Slot → Prop) → Prop
/-- the meaning of calls and of module constants -/
structure Sm where
  f : Phi
  c : Nat → D
mutual
def bindT : CT → D → List Slot → (List Slot → Prop) → Prop
  | .nm i, d, ε, K => K (ε.set i (.val d))
  | .nil, .tup [], ε, K => K ε
  | .cons t r, .tup (d :: ds), ε, K => bindT t d ε fun ε' => bindT r (.tup ds) ε' K
  | _, _, _, _ => False
end
/-- slots of a comprehension's own names are forgotten -/
def wipeE (ε : List Slot) : List Nat → List Slot
  | [] => ε
  | v :: vs => (wipeE ε vs).set v .non
def loopE (bind : D → List Slot → (List Slot → Prop) → Prop) (c : List Slot → (D → Prop) → Prop) (e : DE) (ε : List Slot) : List D → List D → (D → Prop) → Prop
  | [], acc, Q => Q (.lst acc)
  | d :: ds, acc, Q => bind d ε fun ε' => c ε' fun k => match k with
    | .bl true => e ε' fun y => acc.length < sizeLine ∧ loopE bind c e ε ds (acc ++ [y]) Q
    | .bl false => loopE bind c e ε ds acc Q
    | _ => False
def loopS (bind : D → List Slot → (List Slot → Prop) → Prop) (b : DS) : List D → DS
  | [], E, ε => E.nx ε
  | d :: ds, E, ε => bind d ε fun ε' => b ⟨loopS bind b ds E, E.rt, E.nx, loopS bind b ds E⟩ ε'
def whileS (c : DE) (b : DS) : Nat → DS
  | 0, _, _ => False
  | n + 1, E, ε => c ε fun k => match k with
    | .bl true => b ⟨whileS c b n E, E.rt, E.nx, whileS c b n E⟩ ε
    | .bl false => E.nx ε
    | _ => False
/-- sorted(set(x)) -/
def ssetR : D → (D → Prop) → Prop
  | x, Q => ∃ xs : List D, (x = .lst xs ∨ x = .tup xs) ∧
    ((∃ ns : List Int, xs = ns.map D.int ∧ ns.length < 4095 ∧ ∀ ms : List Int, ms.Pairwise (· < ·) → (∀ k, k ∈ ms ↔ k ∈ ns) → Q (.lst (ms.map D.int))) ∨
     (∃ ss : List Str, xs = ss.map D.str ∧ ss.length < 4095 ∧ ∀ ms : List Str, sortedS ms = true → ms.Nodup → (∀ k, k ∈ ms ↔ k ∈ ss) → Q (.lst (ms.map D.str))))
theorem ssetR_mono (x : D) (P P' : D → Prop) (h : ∀ d, P d → P' d) : ssetR x P → ssetR x P' := fun ⟨xs, e, q⟩ => ⟨xs, e, q.imp (fun ⟨ns, a, b, c⟩ => ⟨ns, a, b, fun ms x y => h _ (c ms x y)⟩) fun ⟨ns, a, b, c⟩ => ⟨ns, a, b, fun ms x y z => h _ (c ms x y z)⟩⟩
def isSeq : D → Prop
  | .lst _ | .tup _ => True
  | _ => False
/-- x.index(y) of flat things: the first place -/
def idxR : D → D → (D → Prop) → Prop
  | .tup xs, .str y, Q => ∃ ss : List Str, xs = ss.map D.str ∧ ∃ j : Nat, ss[j]? = some y ∧ (∀ m, m < j → ss[m]? ≠ some y) ∧ Q (.int j)
  | .lst xs, .str y, Q => ∃ ss : List Str, xs = ss.map D.str ∧ ∃ j : Nat, ss[j]? = some y ∧ (∀ m, m < j → ss[m]? ≠ some y) ∧ Q (.int j)
  | _, _, _ => False
theorem idxR_mono (x y : D) (P P' : D → Prop) (h : ∀ d, P d → P' d) : idxR x y P → idxR x y P' := by
  unfold idxR
  split <;> intro q <;> first | exact q.elim | exact let ⟨ss, e, j, a, b, c⟩ := q; ⟨ss, e, j, a, b, h _ c⟩
def rangeD (lo hi : Int) : List D := (List.range (hi - lo).toNat).map fun i => D.int (lo + (i : Nat))
def enumD : Nat → List D → List D
  | _, [] => []
  | n, d :: ds => .tup [.int n, d] :: enumD (n + 1) ds
def zipD : List D → List D → List D
  | x :: xs, y :: ys => .tup [x, y] :: zipD xs ys
  | _, _ => []
mutual
def semE (Φ : Sm) : CE → DE
  | .var i, ε, Q => match ε[i]? with | some (.val d) => Q d | _ => False
  | .lit d, _, Q => Q d
  | .glob k, _, Q => Q (Φ.c k)
  | .tup es, ε, Q => semEs Φ es ε fun ds => ds.length ≤ sizeLine ∧ Q (.tup ds)
  | .lst es, ε, Q => semEs Φ es ε fun ds => ds.length ≤ sizeLine ∧ Q (.lst ds)
  | .bin o a b, ε, Q => semE Φ a ε fun x => semE Φ b ε fun y => op2 o x y Q
  | .neg a, ε, Q => semE Φ a ε fun x => match x with | .int i => Q (.int (-i)) | _ => False
  | .rep a k, ε, Q => semE Φ a ε fun x => semE Φ k ε fun y => match x, y with
    | .lst ds, .int i => (-(2 ^ 63) ≤ i ∧ i < 2 ^ 63 ∧ ds.length * i.toNat ≤ sizeLine) ∧ Q (.lst (List.replicate i.toNat ds).flatten)
    | _, _ => False
  | .cat a b, ε, Q => semE Φ a ε fun x => semE Φ b ε fun y => match x, y with
    | .lst xs, .lst ys => xs.length + ys.length ≤ sizeLine ∧ Q (.lst (xs ++ ys))
    | _, _ => False
  | .cmp o a b, ε, Q => semE Φ a ε fun x => semE Φ b ε fun y => opc o x y Q
  | .not a, ε, Q => semE Φ a ε fun x => match x with | .bl k => Q (.bl (!k)) | _ => False
  | .and a b, ε, Q => semE Φ a ε fun x => match x with | .bl true => semE Φ b ε Q | .bl false => Q (.bl false) | _ => False
  | .or a b, ε, Q => semE Φ a ε fun x => match x with | .bl true => Q (.bl true) | .bl false => semE Φ b ε Q | _ => False
  | .ite c a b, ε, Q => semE Φ c ε fun x => match x with | .bl true => semE Φ a ε Q | .bl false => semE Φ b ε Q | _ => False
  | .idx a i, ε, Q => semE Φ a ε fun x => semE Φ i ε fun y => opIx x y Q
  | .slL a lo hi, ε, Q => semE Φ a ε fun x => semO Φ lo ε fun l => semO Φ hi ε fun h => match x with
    | .lst ds => Q (.lst (cut ds l h))
    | _ => False
  | .slT a lo hi, ε, Q => semE Φ a ε fun x => semO Φ lo ε fun l => semO Φ hi ε fun h => match x with
    | .tup ds => Q (.tup (cut ds l h))
    | _ => False
  | .lenO i, ε, Q => match ε[i]? with | some (.own ds) => Q (.int ds.length) | some (.val (.lst ds)) => Q (.int ds.length) | _ => False
  | .idxO i k, ε, Q => match ε[i]? with
    | some (.own ds) => semE Φ k ε fun y => opIx (.lst ds) y Q
    | some (.val (.lst ds)) => semE Φ k ε fun y => opIx (.lst ds) y Q
    | _ => False
  | .isi a ts, ε, Q => semE Φ a ε fun x => Q (.bl (ts.any x.isa))
  | .bi b es, ε, Q => semEs Φ es ε fun ds => bi b ds Q
  | .call f es, ε, Q => semEs Φ es ε fun ds => Φ.f f ds fun s => match s with | .val d => Q d | .own ds => Q (.lst ds) | .non => False
  | .callO f es, ε, Q => semEs Φ es ε fun ds => Φ.f f ds fun s => match s with | .own ds => Q (.lst ds) | _ => False
  | .lc e t it c vs, ε, Q => semI Φ it ε fun ds => loopE (bindT t) (semC Φ c) (semE Φ e) (wipeE ε vs) ds [] Q
  | .joinS a b, ε, Q => semE Φ a ε fun x => match x with
    | .str s => semE Φ b ε fun y => (match y with
      | .lst ds => ∃ ys : List Str, ds = ys.map D.str ∧ (ys.map (·.length)).sum + ys.length * s.length ≤ 16777216 ∧ Q (.str (Txt.join s ys))
      | _ => False)
    | _ => False
  | .lend i e, ε, Q => match ε[i]? with
    | some (.own ds) => semE Φ e (ε.set i (.val (.lst ds))) fun d => d.noL = true ∧ Q d
    | some (.val _) => semE Φ e ε Q
    | _ => False
  | .sset a, ε, Q => semE Φ a ε fun x => ssetR x Q
  | .maxD a d, ε, Q => semE Φ a ε fun x => match x with
    | .lst ds => ∃ ns : List Int, ds = ns.map D.int ∧ (ns = [] → Q (.int d)) ∧ ∀ m, m ∈ ns → (∀ y, y ∈ ns → y ≤ m) → Q (.int m)
    | _ => False
  | .idxOf a b, ε, Q => semE Φ a ε fun x => isSeq x ∧ semE Φ b ε fun y => idxR x y Q
  | .callK f es _ e, ε, Q => semEs Φ es ε fun ds => semE Φ e ε fun d => Φ.f f (ds ++ [d]) fun s => match s with | .val d => Q d | .own ds => Q (.lst ds) | .non => False
def semEs (Φ : Sm) : CEs → DA
  | .nil, _, Q => Q []
  | .cons e es, ε, Q => semE Φ e ε fun d => semEs Φ es ε fun ds => Q (d :: ds)
/-- a slice's bound -/
def semO (Φ : Sm) : CO → List Slot → (Option Int → Prop) → Prop
  | .no, _, Q => Q none
  | .yes e, ε, Q => semE Φ e ε fun d => match d with | .int i => Q (some i) | _ => False
/-- a comprehension's test -/
def semC (Φ : Sm) : CO → DE
  | .no, _, Q => Q (.bl true)
  | .yes e, ε, Q => semE Φ e ε Q
def semI (Φ : Sm) : CI → DA
  | .seq e, ε, Q => semE Φ e ε fun d => match d with | .lst ds => Q ds | .tup ds => Q ds | .scr ns => Q (ns.map D.int) | _ => False
  | .rng1 a, ε, Q => semE Φ a ε fun d => match d with | .int n => Q (rangeD 0 n) | _ => False
  | .rng2 a b, ε, Q => semE Φ a ε fun x => semE Φ b ε fun y => match x, y with | .int i, .int j => Q (rangeD i j) | _, _ => False
  | .enum a, ε, Q => semE Φ a ε fun d => match d with | .lst ds => Q (enumD 0 ds) | .tup ds => Q (enumD 0 ds) | _ => False
  | .zip a b, ε, Q => semE Φ a ε fun x => semE Φ b ε fun y => match x, y with | .lst xs, .lst ys => Q (zipD xs ys) | .tup xs, .tup ys => Q (zipD xs ys) | _, _ => False
  | .rrng1 a, ε, Q => semE Φ a ε fun d => match d with | .int n => Q (rangeD 0 n).reverse | _ => False
  | .rrng2 a b, ε, Q => semE Φ a ε fun x => semE Φ b ε fun y => match x, y with | .int i, .int j => Q (rangeD i j).reverse | _, _ => False
end
mutual
def semS (Φ : Sm) : CS → DS
  | .set t e, E, ε => semE Φ e ε fun d => bindT t d ε E.nx
  | .own i e, E, ε => semE Φ e ε fun d => match d with | .lst ds => E.nx (ε.set i (.own ds)) | _ => False
  | .setIx i k e, E, ε => match ε[i]? with
    | some (.own ds) => semE Φ e ε fun v => semE Φ k ε fun y => (match y with
      | .int n => ∃ j, ixN ds.length n = some j ∧ E.nx (ε.set i (.own (ds.set j v)))
      | _ => False)
    | _ => False
  | .aug i o e, E, ε => match ε[i]? with | some (.val (.int n)) => semE Φ e ε fun y => op2 o (.int n) y fun z => E.nx (ε.set i (.val z)) | _ => False
  | .app i e, E, ε => match ε[i]? with | some (.own ds) => semE Φ e ε fun v => ds.length < sizeLine ∧ E.nx (ε.set i (.own (ds ++ [v]))) | _ => False
  | .ext i e, E, ε => match ε[i]? with | some (.own ds) => semE Φ e ε fun v => (match v with | .lst vs => ds.length + vs.length ≤ sizeLine ∧ E.nx (ε.set i (.own (ds ++ vs))) | _ => False) | _ => False
  | .rev i, E, ε => match ε[i]? with | some (.own ds) => E.nx (ε.set i (.own ds.reverse)) | _ => False
  | .expr e, E, ε => semE Φ e ε fun _ => E.nx ε
  | .pop i, E, ε => match ε[i]? with | some (.own ds) => 0 < ds.length ∧ E.nx (ε.set i (.own ds.dropLast)) | _ => False
  | .rai, _, _ => False
  | .iff c a b, E, ε => semE Φ c ε fun x => match x with | .bl true => semSs Φ a E ε | .bl false => semSs Φ b E ε | _ => False
  | .forr t it b, E, ε => semI Φ it ε fun ds => loopS (bindT t) (semSs Φ b) ds E ε
  | .whil c b, E, ε => ∃ n, whileS (semE Φ c) (semSs Φ b) n E ε
  | .ret e, E, ε => semE Φ e ε fun d => E.rt (.val d)
  | .retN, E, _ => E.rt (.val .non)
  | .retO i, E, ε => match ε[i]? with | some (.own ds) => E.rt (.own ds) | _ => False
  | .brk, E, ε => E.bk ε
  | .cont, E, ε => E.ct ε
def semSs (Φ : Sm) : CSs → DS
  | .nil, E, ε => E.nx ε
  | .cons s r, E, ε => semS Φ s ⟨semSs Φ r E, E.rt, E.bk, E.ct⟩ ε
  | .frz i r, E, ε => match ε[i]? with | some (.own ds) => semSs Φ r E (ε.set i (.val (.lst ds))) | some (.val _) => semSs Φ r E ε | _ => False
  | .opn i r, E, ε => match ε[i]? with | some (.own ds) => (∃ ns : List Int, ds = ns.map D.int ∧ ∀ n ∈ ns, 0 ≤ n) ∧ semSs Φ r E (ε.set i (.val (.opq 0))) | _ => False
end

/-! ### monotone -/
theorem op2_mono (o : O2) (x y : D) (P P' : D → Prop) (h : ∀ d, P d → P' d) : op2 o x y P → op2 o x y P' := by
  unfold op2
  split <;> intro q <;> first | exact h _ q | exact ⟨q.1, h _ q.2⟩ | exact q
theorem opc_mono (o : OC) (x y : D) (P P' : D → Prop) (h : ∀ d, P d → P' d) : opc o x y P → opc o x y P' := by
  unfold opc
  split <;> intro q <;> first | exact h _ q | exact ⟨q.1, h _ q.2⟩ | exact q
theorem opIx_mono (x y : D) (P P' : D → Prop) (h : ∀ d, P d → P' d) : opIx x y P → opIx x y P' := by
  unfold opIx
  split <;> intro q <;> first | exact q.elim | exact let ⟨d, e, f⟩ := q; ⟨d, e, h _ f⟩
theorem bi_mono (b : Bi) (ds : List D) (P P' : D → Prop) (h : ∀ d, P d → P' d) : bi b ds P → bi b ds P' := by
  unfold bi
  split <;> intro q <;> first
    | exact h _ q
    | exact ⟨q.1, h _ q.2⟩
    | exact (let ⟨ns, e, l, f⟩ := q; ⟨ns, e, l, fun m a b => h _ (f m a b)⟩)
    | exact (let ⟨ns, e, f⟩ := q; ⟨ns, e, h _ f⟩)
    | exact q.imp (fun ⟨ns, e, f⟩ => ⟨ns, e, fun m a b => h _ (f m a b)⟩) (fun ⟨ns, e, l, f⟩ => ⟨ns, e, l, fun m a b => h _ (f m a b)⟩)
    | exact q.elim
abbrev MonoP (Φ : Sm) : Prop := ∀ f ds P P', (∀ s, P s → P' s) → Φ.f f ds P → Φ.f f ds P'
theorem bindT_mono : ∀ (t : CT) (d : D) (ε : List Slot) (P P' : List Slot → Prop), (∀ s, P s → P' s) → bindT t d ε P → bindT t d ε P'
  | .nm i, d, ε, P, P', h, q => h _ q
  | .nil, .tup [], ε, P, P', h, q => h _ q
  | .cons t r, .tup (d :: ds), ε, P, P', h, q => by
    unfold bindT at q ⊢
    exact bindT_mono t d ε _ _ (fun s z => bindT_mono r (.tup ds) s P P' h z) q
theorem loopE_mono {bind : D → List Slot → (List Slot → Prop) → Prop} {c e : DE} (hb : ∀ d ε P P', (∀ s, P s → P' s) → bind d ε P → bind d ε P') (hc : MonoE c) (he : MonoE e) (ε : List Slot) :
    ∀ (ds acc : List D) (P P' : D → Prop), (∀ d, P d → P' d) → loopE bind c e ε ds acc P → loopE bind c e ε ds acc P'
  | [], acc, P, P', h, q => h _ q
  | d :: ds, acc, P, P', h, q => by
    unfold loopE at q ⊢
    refine hb d ε _ _ (fun ε' z => hc ε' _ _ (fun k z2 => ?_) z) q
    match k, z2 with
    | .bl true, z2 => exact he _ _ _ (fun y z3 => ⟨z3.1, loopE_mono hb hc he ε ds _ P P' h z3.2⟩) z2
    | .bl false, z2 => exact loopE_mono hb hc he ε ds _ P P' h z2
mutual
theorem semE_mono {Φ : Sm} (hΦ : MonoP Φ) : ∀ e : CE, MonoE (semE Φ e)
  | .var i => fun ε P P' h q => by
    unfold semE at q ⊢
    split at q
    · exact h _ q
    · exact q.elim
  | .lit d => fun ε P P' h q => h _ q
  | .glob k => fun ε P P' h q => h _ q
  | .tup es => fun ε P P' h q => by unfold semE at q ⊢; exact semEs_mono hΦ es ε _ _ (fun _ z => ⟨z.1, h _ z.2⟩) q
  | .lst es => fun ε P P' h q => by unfold semE at q ⊢; exact semEs_mono hΦ es ε _ _ (fun _ z => ⟨z.1, h _ z.2⟩) q
  | .bin o a b => fun ε P P' h q => by unfold semE at q ⊢; exact semE_mono hΦ a ε _ _ (fun x z => semE_mono hΦ b ε _ _ (fun y z => op2_mono o x y _ _ h z) z) q
  | .neg a => fun ε P P' h q => by
    unfold semE at q ⊢
    refine semE_mono hΦ a ε _ _ (fun x z => ?_) q
    split at z
    · exact h _ z
    · exact z.elim
  | .rep a k => fun ε P P' h q => by
    unfold semE at q ⊢
    refine semE_mono hΦ a ε _ _ (fun x z => semE_mono hΦ k ε _ _ (fun y z => ?_) z) q
    split at z
    · exact ⟨z.1, h _ z.2⟩
    · exact z.elim
  | .cat a b => fun ε P P' h q => by
    unfold semE at q ⊢
    refine semE_mono hΦ a ε _ _ (fun x z => semE_mono hΦ b ε _ _ (fun y z => ?_) z) q
    split at z
    · exact ⟨z.1, h _ z.2⟩
    · exact z.elim
  | .cmp o a b => fun ε P P' h q => by unfold semE at q ⊢; exact semE_mono hΦ a ε _ _ (fun x z => semE_mono hΦ b ε _ _ (fun y z => opc_mono o x y _ _ h z) z) q
  | .not a => fun ε P P' h q => by
    unfold semE at q ⊢
    refine semE_mono hΦ a ε _ _ (fun x z => ?_) q
    split at z
    · exact h _ z
    · exact z.elim
  | .and a b => fun ε P P' h q => by
    unfold semE at q ⊢
    refine semE_mono hΦ a ε _ _ (fun x z => ?_) q
    split at z
    · exact semE_mono hΦ b ε _ _ h z
    · exact h _ z
    · exact z.elim
  | .or a b => fun ε P P' h q => by
    unfold semE at q ⊢
    refine semE_mono hΦ a ε _ _ (fun x z => ?_) q
    split at z
    · exact h _ z
    · exact semE_mono hΦ b ε _ _ h z
    · exact z.elim
  | .ite c a b => fun ε P P' h q => by
    unfold semE at q ⊢
    refine semE_mono hΦ c ε _ _ (fun x z => ?_) q
    split at z
    · exact semE_mono hΦ a ε _ _ h z
    · exact semE_mono hΦ b ε _ _ h z
    · exact z.elim
  | .idx a i => fun ε P P' h q => by unfold semE at q ⊢; exact semE_mono hΦ a ε _ _ (fun x z => semE_mono hΦ i ε _ _ (fun y z => opIx_mono x y _ _ h z) z) q
  | .slL a lo hi => fun ε P P' h q => by
    unfold semE at q ⊢
    refine semE_mono hΦ a ε _ _ (fun x z => semO_mono hΦ lo ε _ _ (fun l z => semO_mono hΦ hi ε _ _ (fun u z => ?_) z) z) q
    split at z
    · exact h _ z
    · exact z.elim
  | .slT a lo hi => fun ε P P' h q => by
    unfold semE at q ⊢
    refine semE_mono hΦ a ε _ _ (fun x z => semO_mono hΦ lo ε _ _ (fun l z => semO_mono hΦ hi ε _ _ (fun u z => ?_) z) z) q
    split at z
    · exact h _ z
    · exact z.elim
  | .lenO i => fun ε P P' h q => by
    unfold semE at q ⊢
    split at q
    · exact h _ q
    · exact h _ q
    · exact q.elim
  | .idxO i k => fun ε P P' h q => by
    unfold semE at q ⊢
    split at q
    · exact semE_mono hΦ k ε _ _ (fun y z => opIx_mono _ _ _ _ h z) q
    · exact semE_mono hΦ k ε _ _ (fun y z => opIx_mono _ _ _ _ h z) q
    · exact q.elim
  | .isi a ts => fun ε P P' h q => by unfold semE at q ⊢; exact semE_mono hΦ a ε _ _ (fun x z => h _ z) q
  | .bi b es => fun ε P P' h q => by unfold semE at q ⊢; exact semEs_mono hΦ es ε _ _ (fun ds z => bi_mono b ds _ _ h z) q
  | .call f es => fun ε P P' h q => by
    unfold semE at q ⊢
    refine semEs_mono hΦ es ε _ _ (fun ds z => hΦ f ds _ _ (fun s z => ?_) z) q
    split at z
    · exact h _ z
    · exact h _ z
    · exact z.elim
  | .callO f es => fun ε P P' h q => by
    unfold semE at q ⊢
    refine semEs_mono hΦ es ε _ _ (fun ds z => hΦ f ds _ _ (fun s z => ?_) z) q
    split at z
    · exact h _ z
    · exact z.elim
  | .lc e t it c vs => fun ε P P' h q => by
    unfold semE at q ⊢
    exact semI_mono hΦ it ε _ _ (fun ds z => loopE_mono (bindT_mono t) (semC_mono hΦ c) (semE_mono hΦ e) _ ds [] _ _ h z) q
  | .joinS a b => fun ε P P' h q => by
    unfold semE at q ⊢
    refine semE_mono hΦ a ε _ _ (fun x z => ?_) q
    split at z
    · refine semE_mono hΦ b ε _ _ (fun y z => ?_) z
      split at z
      · exact let ⟨ys, e, l, f⟩ := z; ⟨ys, e, l, h _ f⟩
      · exact z.elim
    · exact z.elim
  | .lend i e => fun ε P P' h q => by
    unfold semE at q ⊢
    split at q
    · exact semE_mono hΦ e _ _ _ (fun d z => ⟨z.1, h _ z.2⟩) q
    · exact semE_mono hΦ e _ _ _ h q
    · exact q.elim
  | .sset a => fun ε P P' h q => by unfold semE at q ⊢; exact semE_mono hΦ a ε _ _ (fun x z => ssetR_mono x _ _ h z) q
  | .maxD a d => fun ε P P' h q => by
    unfold semE at q ⊢
    refine semE_mono hΦ a ε _ _ (fun x z => ?_) q
    split at z
    · exact let ⟨ns, e, f, g⟩ := z; ⟨ns, e, fun w => h _ (f w), fun m a b => h _ (g m a b)⟩
    · exact z.elim
  | .idxOf a b => fun ε P P' h q => by unfold semE at q ⊢; exact semE_mono hΦ a ε _ _ (fun x z => ⟨z.1, semE_mono hΦ b ε _ _ (fun y z => idxR_mono x y _ _ h z) z.2⟩) q
  | .callK f es k e => fun ε P P' h q => by
    unfold semE at q ⊢
    refine semEs_mono hΦ es ε _ _ (fun ds z => semE_mono hΦ e ε _ _ (fun d z => hΦ f _ _ _ (fun s z => ?_) z) z) q
    split at z
    · exact h _ z
    · exact h _ z
    · exact z.elim
theorem semEs_mono {Φ : Sm} (hΦ : MonoP Φ) : ∀ es : CEs, MonoA (semEs Φ es)
  | .nil => fun ε P P' h q => h _ q
  | .cons e es => fun ε P P' h q => by unfold semEs at q ⊢; exact semE_mono hΦ e ε _ _ (fun d z => semEs_mono hΦ es ε _ _ (fun ds z => h _ z) z) q
theorem semO_mono {Φ : Sm} (hΦ : MonoP Φ) : ∀ (o : CO) (ε : List Slot) (P P' : Option Int → Prop), (∀ d, P d → P' d) → semO Φ o ε P → semO Φ o ε P'
  | .no, ε, P, P', h, q => h _ q
  | .yes e, ε, P, P', h, q => by
    unfold semO at q ⊢
    refine semE_mono hΦ e ε _ _ (fun x z => ?_) q
    split at z
    · exact h _ z
    · exact z.elim
theorem semC_mono {Φ : Sm} (hΦ : MonoP Φ) : ∀ o : CO, MonoE (semC Φ o)
  | .no => fun ε P P' h q => h _ q
  | .yes e => fun ε P P' h q => by unfold semC at q ⊢; exact semE_mono hΦ e ε _ _ h q
theorem semI_mono {Φ : Sm} (hΦ : MonoP Φ) : ∀ it : CI, MonoA (semI Φ it)
  | .seq e => fun ε P P' h q => by
    unfold semI at q ⊢
    refine semE_mono hΦ e ε _ _ (fun x z => ?_) q
    split at z <;> first | exact h _ z | exact z.elim
  | .rng1 e => fun ε P P' h q => by
    unfold semI at q ⊢
    refine semE_mono hΦ e ε _ _ (fun x z => ?_) q
    split at z <;> first | exact h _ z | exact z.elim
  | .rng2 a b => fun ε P P' h q => by
    unfold semI at q ⊢
    refine semE_mono hΦ a ε _ _ (fun x z => semE_mono hΦ b ε _ _ (fun y z => ?_) z) q
    split at z <;> first | exact h _ z | exact z.elim
  | .enum e => fun ε P P' h q => by
    unfold semI at q ⊢
    refine semE_mono hΦ e ε _ _ (fun x z => ?_) q
    split at z <;> first | exact h _ z | exact z.elim
  | .zip a b => fun ε P P' h q => by
    unfold semI at q ⊢
    refine semE_mono hΦ a ε _ _ (fun x z => semE_mono hΦ b ε _ _ (fun y z => ?_) z) q
    split at z <;> first | exact h _ z | exact z.elim
  | .rrng1 e => fun ε P P' h q => by
    unfold semI at q ⊢
    refine semE_mono hΦ e ε _ _ (fun x z => ?_) q
    split at z <;> first | exact h _ z | exact z.elim
  | .rrng2 a b => fun ε P P' h q => by
    unfold semI at q ⊢
    refine semE_mono hΦ a ε _ _ (fun x z => semE_mono hΦ b ε _ _ (fun y z => ?_) z) q
    split at z <;> first | exact h _ z | exact z.elim
end
structure DEnds.Le (E E' : DEnds) : Prop where
  nx : ∀ ε, E.nx ε → E'.nx ε
  rt : ∀ s, E.rt s → E'.rt s
  bk : ∀ ε, E.bk ε → E'.bk ε
  ct : ∀ ε, E.ct ε → E'.ct ε
abbrev MonoS (m : DS) : Prop := ∀ E E' ε, E.Le E' → m E ε → m E' ε
theorem loopS_mono {bind : D → List Slot → (List Slot → Prop) → Prop} {b : DS} (hb : ∀ d ε P P', (∀ s, P s → P' s) → bind d ε P → bind d ε P') (hs : MonoS b) : ∀ ds : List D, MonoS (loopS bind b ds)
  | [] => fun E E' ε h q => h.nx _ q
  | d :: ds => fun E E' ε h q => by
    unfold loopS at q ⊢
    exact hb d ε _ _ (fun ε' z => hs ⟨loopS bind b ds E, E.rt, E.nx, loopS bind b ds E⟩ _ _ ⟨fun ε z => loopS_mono hb hs ds _ _ _ h z, h.rt, h.nx, fun ε z => loopS_mono hb hs ds _ _ _ h z⟩ z) q
theorem whileS_mono {c : DE} {b : DS} (hc : MonoE c) (hs : MonoS b) : ∀ n : Nat, MonoS (whileS c b n)
  | 0 => fun E E' ε h q => q
  | n + 1 => fun E E' ε h q => by
    unfold whileS at q ⊢
    refine hc ε _ _ (fun k z => ?_) q
    split at z
    · exact hs ⟨whileS c b n E, E.rt, E.nx, whileS c b n E⟩ _ _ ⟨fun ε z => whileS_mono hc hs n _ _ _ h z, h.rt, h.nx, fun ε z => whileS_mono hc hs n _ _ _ h z⟩ z
    · exact h.nx _ z
    · exact z.elim
mutual
theorem semS_mono {Φ : Sm} (hΦ : MonoP Φ) : ∀ s : CS, MonoS (semS Φ s)
  | .set t e => fun E E' ε h q => by unfold semS at q ⊢; exact semE_mono hΦ e ε _ _ (fun d z => bindT_mono t d ε _ _ h.nx z) q
  | .own i e => fun E E' ε h q => by
    unfold semS at q ⊢
    refine semE_mono hΦ e ε _ _ (fun d z => ?_) q
    split at z
    · exact h.nx _ z
    · exact z.elim
  | .setIx i k e => fun E E' ε h q => by
    unfold semS at q ⊢
    split at q
    · refine semE_mono hΦ e ε _ _ (fun d z => semE_mono hΦ k ε _ _ (fun y z => ?_) z) q
      split at z
      · exact let ⟨j, e, f⟩ := z; ⟨j, e, h.nx _ f⟩
      · exact z.elim
    · exact q.elim
  | .aug i o e => fun E E' ε h q => by
    unfold semS at q ⊢
    split at q
    · exact semE_mono hΦ e ε _ _ (fun d z => op2_mono o _ _ _ _ (fun _ z => h.nx _ z) z) q
    · exact q.elim
  | .app i e => fun E E' ε h q => by
    unfold semS at q ⊢
    split at q
    · exact semE_mono hΦ e ε _ _ (fun d z => ⟨z.1, h.nx _ z.2⟩) q
    · exact q.elim
  | .ext i e => fun E E' ε h q => by
    unfold semS at q ⊢
    split at q
    · refine semE_mono hΦ e ε _ _ (fun d z => ?_) q
      split at z
      · exact ⟨z.1, h.nx _ z.2⟩
      · exact z.elim
    · exact q.elim
  | .rev i => fun E E' ε h q => by
    unfold semS at q ⊢
    split at q
    · exact h.nx _ q
    · exact q.elim
  | .expr e => fun E E' ε h q => by unfold semS at q ⊢; exact semE_mono hΦ e ε _ _ (fun d z => h.nx _ z) q
  | .pop i => fun E E' ε h q => by
    unfold semS at q ⊢
    split at q
    · exact ⟨q.1, h.nx _ q.2⟩
    · exact q.elim
  | .rai => fun E E' ε h q => by unfold semS at q; exact q.elim
  | .iff c a b => fun E E' ε h q => by
    unfold semS at q ⊢
    refine semE_mono hΦ c ε _ _ (fun d z => ?_) q
    split at z
    · exact semSs_mono hΦ a _ _ _ h z
    · exact semSs_mono hΦ b _ _ _ h z
    · exact z.elim
  | .forr t it b => fun E E' ε h q => by
    unfold semS at q ⊢
    exact semI_mono hΦ it ε _ _ (fun ds z => loopS_mono (bindT_mono t) (semSs_mono hΦ b) ds _ _ _ h z) q
  | .whil c b => fun E E' ε h q => by
    unfold semS at q ⊢
    exact let ⟨n, z⟩ := q; ⟨n, whileS_mono (semE_mono hΦ c) (semSs_mono hΦ b) n _ _ _ h z⟩
  | .ret e => fun E E' ε h q => by unfold semS at q ⊢; exact semE_mono hΦ e ε _ _ (fun d z => h.rt _ z) q
  | .retN => fun E E' ε h q => h.rt _ q
  | .retO i => fun E E' ε h q => by
    unfold semS at q ⊢
    split at q
    · exact h.rt _ q
    · exact q.elim
  | .brk => fun E E' ε h q => h.bk _ q
  | .cont => fun E E' ε h q => h.ct _ q
theorem semSs_mono {Φ : Sm} (hΦ : MonoP Φ) : ∀ s : CSs, MonoS (semSs Φ s)
  | .nil => fun E E' ε h q => h.nx _ q
  | .cons s r => fun E E' ε h q => by unfold semSs at q ⊢; exact semS_mono hΦ s ⟨semSs Φ r E, E.rt, E.bk, E.ct⟩ _ _ ⟨fun ε z => semSs_mono hΦ r _ _ _ h z, h.rt, h.bk, h.ct⟩ q
  | .frz i r => fun E E' ε h q => by
    unfold semSs at q ⊢
    split at q
    · exact semSs_mono hΦ r _ _ _ h q
    · exact semSs_mono hΦ r _ _ _ h q
    · exact q.elim
  | .opn i r => fun E E' ε h q => by
    unfold semSs at q ⊢
    split at q
    · exact ⟨q.1, semSs_mono hΦ r _ _ _ h q.2⟩
    · exact q.elim
end
end DL

/-! DL3: the operations of DL2 are the machine's. -/
namespace DL
open PySem PySem.Spec PyProof.Rows L2

section
variable {K : PySem.W.Frag} {F F' : FS} {H H' : Hp}
theorem strOk_append {a b : Str} (ha : PyData.strOk a = true) (hb : PyData.strOk b = true) : PyData.strOk (a ++ b) = true := by
  have e : (a ++ b).cps = a.cps ++ b.cps := rfl
  unfold PyData.strOk at ha hb ⊢
  rw [e, Array.all_append, ha, hb]
  rfl
theorem Fin.now {K : PySem.W.Frag} {F : FS} {H : Hp} {Q : VK} {d : D} {v : V} (f : Fin K F H Q d) (g : Good F H) (r : Rep K F v d) : Q v H := f v H F (Step.refl _ _) g r
theorem sqT_up (g : Good F H) {a : Addr} {xs : List V} (h : SqT K F.fz a xs) : SqT K H a xs := sqT_mono g.fz h
theorem sqL_up (g : Good F H) {a : Addr} {xs : List V} (h : SqL K F.fz a xs) : SqL K H a xs := sqL_mono g.fz h
/-- a new tuple -/
theorem Fin.tup {K : PySem.W.Frag} {F : FS} {H : Hp} {Q : VK} {ds : List D} {xs : List V} (f : Fin K F H Q (.tup ds)) (g : Good F H) (r : RepL K F xs ds) : NewT H xs Q := fun p o ho hp =>
  f _ _ _ (Step.new g hp) (g.new hp) (.tup (.inl (.inr ⟨o, by show upd _ _ _ _ = _; exact upd_same⟩)) (.inl ⟨o, _, by show upd _ _ _ _ = _; exact upd_same, ho⟩) (r.put (g.nn hp).1))
/-- a new list, frozen -/
theorem Fin.lst {K : PySem.W.Frag} {F : FS} {H : Hp} {Q : VK} {ds : List D} {xs : List V} (f : Fin K F H Q (.lst ds)) (g : Good F H) (r : RepL K F xs ds) : ∀ p, H p = none → Q (.ref p) (upd H p (.lst xs)) := fun p hp =>
  f _ _ _ (Step.new g hp) (g.new hp) (.lst (by show upd _ _ _ _ = _; exact upd_same) (r.put (g.nn hp).1))
mutual
theorem Rep.dp (g : Good F H) : ∀ {k : Nat} {v : V} {d : D}, Rep K F v d → d.ok k = true → Dp K H v d.py
  | _, _, _, .non, _ => .non
  | _, _, _, .bl b, _ => .bl b
  | _, _, _, .int i, _ => .int i
  | _, _, _, .str x _, _ => .str x
  | k + 1, _, _, .tup h _ r, e => .tup (sqT_up g h) (RepL.dp g r (by simpa [D.ok] using e))
  | k + 1, _, _, .lst h r, e => .lst (SqL.of (g.fz _ _ h)) (RepL.dp g r (by simpa [D.ok] using e))
  | 0, _, _, .tup h _ r, e => by simp [D.ok] at e
  | 0, _, _, .lst h r, e => by simp [D.ok] at e
  | _, _, _, .scr _, e => by simp [D.ok] at e
  | _, _, _, .opq _, e => by simp [D.ok] at e
theorem RepL.dp (g : Good F H) : ∀ {k : Nat} {vs : List V} {ds : List D}, RepL K F vs ds → oks k ds = true → DpAll K H vs (pys ds)
  | _, _, _, .nil, _ => .nil
  | k, _, _, .cons h r, e => by
    rw [oks, Bool.and_eq_true] at e
    exact .cons (Rep.dp g h e.1) (RepL.dp g r e.2)
end
mutual
theorem ok_lay : ∀ {k : Nat} {d : D}, d.ok k = true → ∀ {v : V}, Rep K F v d → d.py.canLay0 = true ∧ d.py.depth ≤ k
  | _, .non, _, _, _ => ⟨rfl, by simp [D.py, PyData.depth]⟩
  | _, .bl _, _, _, _ => ⟨rfl, by simp [D.py, PyData.depth]⟩
  | _, .int _, _, _, _ => ⟨rfl, by simp [D.py, PyData.depth]⟩
  | _, .str _, _, _, .str _ h => ⟨h, by simp [D.py, PyData.depth]⟩
  | k + 1, .tup ds, e, _, .tup _ _ r => by
    obtain ⟨h1, h2⟩ := oks_lay (show oks k ds = true by simpa [D.ok] using e) r
    exact ⟨by simpa [D.py, PyData.canLay0] using h1, by simp only [D.py, PyData.depth]; omega⟩
  | k + 1, .lst ds, e, _, .lst _ r => by
    obtain ⟨h1, h2⟩ := oks_lay (show oks k ds = true by simpa [D.ok] using e) r
    exact ⟨by simpa [D.py, PyData.canLay0] using h1, by simp only [D.py, PyData.depth]; omega⟩
  | 0, .tup _, e, _, _ => by simp [D.ok] at e
  | 0, .lst _, e, _, _ => by simp [D.ok] at e
  | _, .scr _, e, _, _ => by simp [D.ok] at e
  | _, .opq _, e, _, _ => by simp [D.ok] at e
theorem oks_lay : ∀ {k : Nat} {ds : List D}, oks k ds = true → ∀ {vs : List V}, RepL K F vs ds → PyData.canLayAll0 (pys ds) = true ∧ PyData.depthAll (pys ds) ≤ k
  | k, [], _, _, _ => ⟨by simp [pys, PyData.canLayAll0], by simp [pys, PyData.depthAll]⟩
  | k, d :: ds, e, _, .cons h r => by
    rw [oks, Bool.and_eq_true] at e
    obtain ⟨h1, h2⟩ := ok_lay e.1 h
    obtain ⟨h3, h4⟩ := oks_lay e.2 r
    refine ⟨by simp [pys, PyData.canLayAll0, h1, h3], ?_⟩
    simp only [pys, PyData.depthAll]
    omega
end
theorem ok_shaped {d : D} {v : V} (e : d.ok 60 = true) (r : Rep K F v d) : SeqAt.shaped d.py = true := by
  obtain ⟨h1, h2⟩ := ok_lay e r
  unfold SeqAt.shaped
  rw [h1]
  simp
  omega
mutual
theorem eqv_py : ∀ {k j : Nat} {d e : D}, d.ok k = true → e.ok j = true → PyData.eqv d.py e.py = d.eqv e := by
  intro k j d e h1 h2
  cases d with
  | scr _ => cases k <;> simp [D.ok] at h1
  | opq _ => cases k <;> simp [D.ok] at h1
  | tup ds =>
    cases k with
    | zero => simp [D.ok] at h1
    | succ k =>
      cases e with
      | scr _ => cases j <;> simp [D.ok] at h2
      | opq _ => cases j <;> simp [D.ok] at h2
      | tup es =>
        cases j with
        | zero => simp [D.ok] at h2
        | succ j =>
          simp only [D.py, PyData.eqv, D.eqv]
          exact eqvs_py (k := k) (j := j) (by simpa [D.ok] using h1) (by simpa [D.ok] using h2)
      | _ => simp [D.py, PyData.eqv, D.eqv]
  | lst ds =>
    cases k with
    | zero => simp [D.ok] at h1
    | succ k =>
      cases e with
      | scr _ => cases j <;> simp [D.ok] at h2
      | opq _ => cases j <;> simp [D.ok] at h2
      | lst es =>
        cases j with
        | zero => simp [D.ok] at h2
        | succ j =>
          simp only [D.py, PyData.eqv, D.eqv]
          exact eqvs_py (k := k) (j := j) (by simpa [D.ok] using h1) (by simpa [D.ok] using h2)
      | _ => simp [D.py, PyData.eqv, D.eqv]
  | _ =>
    cases e with
    | scr _ => cases j <;> simp [D.ok] at h2
    | opq _ => cases j <;> simp [D.ok] at h2
    | _ => simp [D.py, PyData.eqv, D.eqv]
theorem eqvs_py : ∀ {k j : Nat} {ds es : List D}, oks k ds = true → oks j es = true → PyData.eqvAll (pys ds) (pys es) = eqvs ds es
  | _, _, [], [], _, _ => by simp [pys, PyData.eqvAll, eqvs]
  | _, _, [], _ :: _, _, _ => by simp [pys, PyData.eqvAll, eqvs]
  | _, _, _ :: _, [], _, _ => by simp [pys, PyData.eqvAll, eqvs]
  | k, j, d :: ds, e :: es, h1, h2 => by
    rw [oks, Bool.and_eq_true] at h1 h2
    simp only [pys, PyData.eqvAll, eqvs]
    rw [eqv_py h1.1 h2.1, eqvs_py h1.2 h2.2]
end
/-- items by a whole number -/
theorem getI_at {α : Type} (xs : List α) (i : Int) : atI xs i = getI xs i := by
  unfold atI getI ixN
  split
  · split
    · rfl
    · simp only [Option.bind_none]
      rw [List.getElem?_eq_none]
      omega
  · split
    · rfl
    · rfl
theorem RepL.getI {xs : List V} {ds : List D} {i : Int} {d : D} (r : RepL K F xs ds) (h : DL.getI ds i = some d) : ∃ v, atI xs i = some v ∧ Rep K F v d := by
  rw [getI_at]
  unfold DL.getI at h ⊢
  rw [r.length]
  split
  · rename_i c
    rw [if_pos c] at h
    exact r.getD h
  · rename_i c
    rw [if_neg c] at h
    split
    · rename_i c2
      rw [if_pos c2] at h
      exact r.getD h
    · rename_i c2
      rw [if_neg c2] at h
      cases h
theorem RepL.cut {xs : List V} {ds : List D} (r : RepL K F xs ds) (lo hi : Option Int) : RepL K F (cutV xs lo hi) (DL.cut ds lo hi) := by
  unfold cutV DL.cut
  rw [r.length]
  exact (r.drop _).take _
theorem RepL.ints_of : ∀ {xs : List V} {ns : List Int}, RepL K F xs (ns.map D.int) → xs = ns.map V.int
  | _, [], .nil => rfl
  | _, n :: ns, .cons r t => by
    cases r
    rw [RepL.ints_of t]
    rfl
theorem RepL.bls_of : ∀ {xs : List V} {ns : List Bool}, RepL K F xs (ns.map D.bl) → xs = ns.map V.bl
  | _, [], .nil => rfl
  | _, n :: ns, .cons r t => by
    cases r
    rw [RepL.bls_of t]
    rfl
theorem RepL.strs : ∀ ns : List Str, (∀ x ∈ ns, PyData.strOk x = true) → RepL K F (ns.map V.str) (ns.map D.str)
  | [], _ => .nil
  | n :: ns, h => .cons (.str n (h n List.mem_cons_self)) (RepL.strs ns fun x hx => h x (List.mem_cons_of_mem _ hx))
theorem RepL.strs_of : ∀ {xs : List V} {ns : List Str}, RepL K F xs (ns.map D.str) → xs = ns.map V.str ∧ ∀ x ∈ ns, PyData.strOk x = true
  | _, [], .nil => ⟨rfl, fun x h => by cases h⟩
  | _, n :: ns, .cons r t => by
    cases r with
    | str _ h =>
      obtain ⟨e, f⟩ := RepL.strs_of t
      rw [e]
      refine ⟨rfl, fun x hx => ?_⟩
      rcases List.mem_cons.mp hx with z | z
      · rw [z]; exact h
      · exact f x z
theorem Rep.flat {v : V} {d : D} (r : Rep K F v d) (h : d.flat = true) : flatV v = true := by
  cases r <;> first | rfl | (simp [D.flat] at h)
theorem RepL.flat : ∀ {vs : List V} {ds : List D}, RepL K F vs ds → ds.all D.flat = true → vs.all flatV = true
  | _, _, .nil, _ => rfl
  | _, _, .cons r t, h => by
    rw [List.all_cons, Bool.and_eq_true] at h ⊢
    exact ⟨r.flat h.1, RepL.flat t h.2⟩
theorem Rep.eqV {v w : V} {d e : D} (r : Rep K F v d) (q : Rep K F w e) (h1 : d.flat = true) (h2 : e.flat = true) : L2.eqV v w = d.eqv e := by
  cases r <;> cases q <;> first | (simp [D.flat] at h1; done) | (simp [D.flat] at h2; done) | simp [L2.eqV, D.eqv]
theorem RepL.inV {v : V} {d : D} (q : Rep K F v d) (hd : d.flat = true) : ∀ {vs : List V} {ds : List D}, RepL K F vs ds → ds.all D.flat = true → L2.inV v vs = ds.any fun y => y.eqv d
  | _, _, .nil, _ => rfl
  | _, _, .cons r t, h => by
    rw [List.all_cons, Bool.and_eq_true] at h
    have ih := RepL.inV q hd t h.2
    unfold L2.inV at ih ⊢
    rw [List.any_cons, List.any_cons, ih, Rep.eqV r q h.1 hd]
theorem Rep.non_iff {v : V} {d : D} (r : Rep K F v d) : decide (v = .non) = d.isNon := by
  cases r <;> simp [D.isNon]
end

/-! ### operators -/
def O2.op : O2 → Operator
  | .add => .Add | .sub => .Sub | .mul => .Mult | .fdiv => .FloorDiv | .mod => .Mod | .pow => .Pow
def OC.op : OC → CmpOp
  | .eq => .Eq | .ne => .NotEq | .lt => .Lt | .le => .LtE | .gt => .Gt | .ge => .GtE | .is => .Is | .isn => .IsNot | .inn => .In | .nin => .NotIn
section
variable {X : Cx}
theorem op2_ok (o : O2) : ∃ rL, OpR X (binaryOp o.op) rL ∧ DOp X.K (op2 o) rL := by
  cases o with
  | add =>
    refine ⟨_, op_add.or (op_add_str.or op_catN), fun F H x y v w Q g rx ry q => ?_⟩
    unfold op2 at q
    split at q <;> try exact q.elim
    all_goals try contradiction
    · cases rx; cases ry
      exact .inl ⟨_, _, rfl, rfl, q.now g (.int _)⟩
    · cases rx with
      | str _ hx => cases ry with
        | str _ hy => exact .inr (.inl ⟨_, _, rfl, rfl, q.1, q.2.now g (.str _ (strOk_append hx hy))⟩)
    · cases rx with
      | tup h1 n1 r1 => cases ry with
        | tup h2 n2 r2 =>
          refine .inr (.inr ⟨_, _, _, _, rfl, rfl, sqT_up g h1, sqT_up g h2, by rw [r1.length, r2.length]; exact q.1, fun e => ?_, fun _ e => ?_, q.2.tup g (r1.append r2)⟩)
          · subst e
            cases r1
            exact q.2.now g (.tup h2 n2 r2)
          · subst e
            cases r2
            refine q.2.now g (.tup h1 n1 ?_)
            rw [List.append_nil]
            exact r1
  | sub =>
    refine ⟨_, op_sub, fun F H x y v w Q g rx ry q => ?_⟩
    unfold op2 at q
    split at q <;> try exact q.elim
    all_goals try contradiction
    cases rx; cases ry
    exact ⟨_, _, rfl, rfl, q.now g (.int _)⟩
  | mul =>
    refine ⟨_, op_mul, fun F H x y v w Q g rx ry q => ?_⟩
    unfold op2 at q
    split at q <;> try exact q.elim
    all_goals try contradiction
    cases rx; cases ry
    exact ⟨_, _, rfl, rfl, q.1, q.2.now g (.int _)⟩
  | fdiv =>
    refine ⟨_, op_fdiv, fun F H x y v w Q g rx ry q => ?_⟩
    unfold op2 at q
    split at q <;> try exact q.elim
    all_goals try contradiction
    cases rx; cases ry
    exact ⟨_, _, rfl, rfl, q.1, q.2.now g (.int _)⟩
  | mod =>
    refine ⟨_, op_mod, fun F H x y v w Q g rx ry q => ?_⟩
    unfold op2 at q
    split at q <;> try exact q.elim
    all_goals try contradiction
    cases rx; cases ry
    exact ⟨_, _, rfl, rfl, q.1, q.2.now g (.int _)⟩
  | pow =>
    refine ⟨_, op_pow, fun F H x y v w Q g rx ry q => ?_⟩
    unfold op2 at q
    split at q <;> try exact q.elim
    all_goals try contradiction
    cases rx; cases ry
    exact ⟨_, _, rfl, rfl, q.1, q.2.now g (.int _)⟩
theorem opc_ok (hu : X.A.units + 64 < cLine) (o : OC) : ∃ rL, OpR X (compareOp o.op) rL ∧ DOp X.K (opc o) rL := by
  cases o with
  | eq =>
    refine ⟨_, op_eqD hu, fun F H x y v w Q g rx ry q => ?_⟩
    have q : (x.ok 60 = true ∧ y.ok 60 = true) ∧ Fin X.K F H Q (.bl (x.eqv y)) := by simpa [opc] using q
    obtain ⟨⟨h1, h2⟩, q⟩ := q
    refine ⟨_, _, rx.dp g h1, ry.dp g h2, ok_shaped h1 rx, ok_shaped h2 ry, ?_⟩
    rw [eqv_py h1 h2]
    exact q.now g (.bl _)
  | ne =>
    refine ⟨_, op_neD hu, fun F H x y v w Q g rx ry q => ?_⟩
    have q : (x.ok 60 = true ∧ y.ok 60 = true) ∧ Fin X.K F H Q (.bl (!x.eqv y)) := by simpa [opc] using q
    obtain ⟨⟨h1, h2⟩, q⟩ := q
    refine ⟨_, _, rx.dp g h1, ry.dp g h2, ok_shaped h1 rx, ok_shaped h2 ry, ?_⟩
    rw [eqv_py h1 h2]
    exact q.now g (.bl _)
  | lt =>
    refine ⟨_, op_lt.or op_lt_str, fun F H x y v w Q g rx ry q => ?_⟩
    unfold opc at q
    split at q <;> try exact q.elim
    all_goals try contradiction
    · cases rx; cases ry
      exact .inl ⟨_, _, rfl, rfl, q.now g (.bl _)⟩
    · cases rx; cases ry
      exact .inr ⟨_, _, rfl, rfl, q.now g (.bl _)⟩
  | le =>
    refine ⟨_, op_le, fun F H x y v w Q g rx ry q => ?_⟩
    unfold opc at q
    split at q <;> try exact q.elim
    all_goals try contradiction
    cases rx; cases ry
    exact ⟨_, _, rfl, rfl, q.now g (.bl _)⟩
  | gt =>
    refine ⟨_, op_gt, fun F H x y v w Q g rx ry q => ?_⟩
    unfold opc at q
    split at q <;> try exact q.elim
    all_goals try contradiction
    cases rx; cases ry
    exact ⟨_, _, rfl, rfl, q.now g (.bl _)⟩
  | ge =>
    refine ⟨_, op_ge, fun F H x y v w Q g rx ry q => ?_⟩
    unfold opc at q
    split at q <;> try exact q.elim
    all_goals try contradiction
    cases rx; cases ry
    exact ⟨_, _, rfl, rfl, q.now g (.bl _)⟩
  | is =>
    refine ⟨_, op_isN, fun F H x y v w Q g rx ry q => ?_⟩
    unfold opc at q
    split at q <;> try exact q.elim
    all_goals try contradiction
    cases ry
    exact ⟨rfl, by rw [rx.non_iff]; exact q.now g (.bl _)⟩
  | isn =>
    refine ⟨_, op_notN, fun F H x y v w Q g rx ry q => ?_⟩
    unfold opc at q
    split at q <;> try exact q.elim
    all_goals try contradiction
    cases ry
    exact ⟨rfl, by rw [rx.non_iff]; exact q.now g (.bl _)⟩
  | inn =>
    refine ⟨_, op_in_seq, fun F H x y v w Q g rx ry q => ?_⟩
    unfold opc at q
    split at q <;> try exact q.elim
    all_goals try contradiction
    · cases ry with
      | lst h r => exact ⟨_, _, rfl, .inl (SqL.of (g.fz _ _ h)), rx.flat q.1.1, r.flat q.1.2, by
          show Q (.bl (L2.inV v _)) H
          rw [RepL.inV rx q.1.1 r q.1.2]
          exact q.2.now g (.bl _)⟩
    · cases ry with
      | tup h _ r => exact ⟨_, _, rfl, .inr (sqT_up g h), rx.flat q.1.1, r.flat q.1.2, by
          show Q (.bl (L2.inV v _)) H
          rw [RepL.inV rx q.1.1 r q.1.2]
          exact q.2.now g (.bl _)⟩
  | nin =>
    refine ⟨_, op_notIn_seq, fun F H x y v w Q g rx ry q => ?_⟩
    unfold opc at q
    split at q <;> try exact q.elim
    all_goals try contradiction
    · cases ry with
      | lst h r => exact ⟨_, _, rfl, .inl (SqL.of (g.fz _ _ h)), rx.flat q.1.1, r.flat q.1.2, by
          show Q (.bl (!L2.inV v _)) H
          rw [RepL.inV rx q.1.1 r q.1.2]
          exact q.2.now g (.bl _)⟩
    · cases ry with
      | tup h _ r => exact ⟨_, _, rfl, .inr (sqT_up g h), rx.flat q.1.1, r.flat q.1.2, by
          show Q (.bl (!L2.inV v _)) H
          rw [RepL.inV rx q.1.1 r q.1.2]
          exact q.2.now g (.bl _)⟩
theorem strOk_one {s : Str} {i : Int} {c : Nat} (h : PyData.strOk s = true) (e : getI s.cps.toList i = some c) : PyData.strOk ⟨#[c]⟩ = true := by
  have hm : c ∈ s.cps.toList := by
    unfold getI at e
    split at e
    · exact List.mem_of_getElem? e
    · split at e
      · exact List.mem_of_getElem? e
      · cases e
  unfold PyData.strOk at h ⊢
  rw [Array.all_eq_true_iff_forall_mem] at h
  have := h c (by simpa using hm)
  simpa using this
theorem opIx_ok : DOp X.K opIx (rIx X.K) := fun F H x y v w Q g rx ry q => by
  unfold opIx at q
  split at q <;> try exact q.elim
  · obtain ⟨d, e, q⟩ := q
    cases ry
    cases rx with
    | lst h r =>
      obtain ⟨u, h1, h2⟩ := r.getI e
      exact .inl ⟨_, _, _, _, rfl, rfl, SqL.of (g.fz _ _ h), h1, q.now g h2⟩
  · obtain ⟨d, e, q⟩ := q
    cases ry
    cases rx with
    | tup h _ r =>
      obtain ⟨u, h1, h2⟩ := r.getI e
      exact .inr (.inl ⟨_, _, _, _, rfl, rfl, sqT_up g h, h1, q.now g h2⟩)
  · obtain ⟨n, e, q⟩ := q
    cases ry
    cases rx with
    | scr h =>
      refine .inl ⟨_, _, _, .int n, rfl, rfl, sqL_up g h, ?_, q.now g (.int n)⟩
      rw [getI_at]
      unfold getI at e ⊢
      rw [List.length_map, List.getElem?_map, List.getElem?_map]
      split
      · rename_i c
        rw [if_pos c] at e
        rw [e]; rfl
      · rename_i c
        rw [if_neg c] at e
        split
        · rename_i c2
          rw [if_pos c2] at e
          rw [e]; rfl
        · rename_i c2
          rw [if_neg c2] at e
          cases e
  · obtain ⟨c, ⟨hl, e⟩, q⟩ := q
    cases ry
    cases rx with
    | str _ hs => exact .inr (.inr ⟨_, _, _, rfl, rfl, hl, by rw [getI_at]; exact e, q.now g (.str _ (strOk_one hs e))⟩)

/-! ### built-ins -/
/-- isinstance -/
def tyS : D → String
  | .non => "NoneType"
  | .bl _ => "bool"
  | .int _ => "int"
  | .str _ => "str"
  | .tup _ => "tuple"
  | .lst _ | .scr _ | .opq _ => "list"
theorem Rep.ty {K : PySem.W.Frag} {F : FS} {H : Hp} (g : Good F H) {v : V} {d : D} (r : Rep K F v d) : TyX K H v (.type (tyS d)) := by
  cases r with
  | non => exact .base .non
  | bl b => exact .base (.bl b)
  | int i => exact .base (.int i)
  | str x _ => exact .base (.str x)
  | tup h _ _ =>
    rcases sqT_up g h with (h | ⟨o, h⟩) | ⟨o, its, n, h, c, _⟩
    · exact .base (.tup h)
    · exact .fTuple h
    · exact .kTuple h c
  | lst h _ => exact .base (.lst (g.fz _ _ h))
  | scr h =>
    rcases sqL_up g h with (h | ⟨o, h⟩) | ⟨o, its, n, h, c, _⟩
    · exact .base (.lst h)
    · exact .base (.frz h)
    · exact .kList h c
  | opq h =>
    obtain ⟨_, o, h1, ns, rfl, _⟩ := g.op _ _ h
    exact .base (.lst h1)
theorem kitOne_is (K : PySem.W.Frag) (d : D) (t : Ty) : PySem.W.kitOne K (.type (tyS d)) (.type t.nm) = some (d.isa t) := by
  cases d with
  | non =>
    cases t with
    | int => exact kit_ty (a := "NoneType") (b := "int") (r := false) (by decide +kernel)
    | str => exact kit_ty (a := "NoneType") (b := "str") (r := false) (by decide +kernel)
    | bool => exact kit_ty (a := "NoneType") (b := "bool") (r := false) (by decide +kernel)
    | list => exact kit_ty (a := "NoneType") (b := "list") (r := false) (by decide +kernel)
    | tuple => exact kit_ty (a := "NoneType") (b := "tuple") (r := false) (by decide +kernel)
  | bl _ =>
    cases t with
    | int => exact kit_ty (a := "bool") (b := "int") (r := true) (by decide +kernel)
    | str => exact kit_ty (a := "bool") (b := "str") (r := false) (by decide +kernel)
    | bool => exact kit_ty (a := "bool") (b := "bool") (r := true) (by decide +kernel)
    | list => exact kit_ty (a := "bool") (b := "list") (r := false) (by decide +kernel)
    | tuple => exact kit_ty (a := "bool") (b := "tuple") (r := false) (by decide +kernel)
  | int _ =>
    cases t with
    | int => exact kit_ty (a := "int") (b := "int") (r := true) (by decide +kernel)
    | str => exact kit_ty (a := "int") (b := "str") (r := false) (by decide +kernel)
    | bool => exact kit_ty (a := "int") (b := "bool") (r := false) (by decide +kernel)
    | list => exact kit_ty (a := "int") (b := "list") (r := false) (by decide +kernel)
    | tuple => exact kit_ty (a := "int") (b := "tuple") (r := false) (by decide +kernel)
  | str _ =>
    cases t with
    | int => exact kit_ty (a := "str") (b := "int") (r := false) (by decide +kernel)
    | str => exact kit_ty (a := "str") (b := "str") (r := true) (by decide +kernel)
    | bool => exact kit_ty (a := "str") (b := "bool") (r := false) (by decide +kernel)
    | list => exact kit_ty (a := "str") (b := "list") (r := false) (by decide +kernel)
    | tuple => exact kit_ty (a := "str") (b := "tuple") (r := false) (by decide +kernel)
  | tup _ =>
    cases t with
    | int => exact kit_ty (a := "tuple") (b := "int") (r := false) (by decide +kernel)
    | str => exact kit_ty (a := "tuple") (b := "str") (r := false) (by decide +kernel)
    | bool => exact kit_ty (a := "tuple") (b := "bool") (r := false) (by decide +kernel)
    | list => exact kit_ty (a := "tuple") (b := "list") (r := false) (by decide +kernel)
    | tuple => exact kit_ty (a := "tuple") (b := "tuple") (r := true) (by decide +kernel)
  | lst _ =>
    cases t with
    | int => exact kit_ty (a := "list") (b := "int") (r := false) (by decide +kernel)
    | str => exact kit_ty (a := "list") (b := "str") (r := false) (by decide +kernel)
    | bool => exact kit_ty (a := "list") (b := "bool") (r := false) (by decide +kernel)
    | list => exact kit_ty (a := "list") (b := "list") (r := true) (by decide +kernel)
    | tuple => exact kit_ty (a := "list") (b := "tuple") (r := false) (by decide +kernel)
  | scr _ =>
    cases t with
    | int => exact kit_ty (a := "list") (b := "int") (r := false) (by decide +kernel)
    | str => exact kit_ty (a := "list") (b := "str") (r := false) (by decide +kernel)
    | bool => exact kit_ty (a := "list") (b := "bool") (r := false) (by decide +kernel)
    | list => exact kit_ty (a := "list") (b := "list") (r := true) (by decide +kernel)
    | tuple => exact kit_ty (a := "list") (b := "tuple") (r := false) (by decide +kernel)
  | opq _ =>
    cases t with
    | int => exact kit_ty (a := "list") (b := "int") (r := false) (by decide +kernel)
    | str => exact kit_ty (a := "list") (b := "str") (r := false) (by decide +kernel)
    | bool => exact kit_ty (a := "list") (b := "bool") (r := false) (by decide +kernel)
    | list => exact kit_ty (a := "list") (b := "list") (r := true) (by decide +kernel)
    | tuple => exact kit_ty (a := "list") (b := "tuple") (r := false) (by decide +kernel)
theorem kitAny_is (K : PySem.W.Frag) (d : D) : ∀ ts : List Ty, PySem.W.kitAny K (.type (tyS d)) (ts.map fun t => .type t.nm) = some (ts.any d.isa)
  | [] => rfl
  | t :: ts => by
    rw [List.map_cons, List.any_cons]
    refine kitAny_cons (kitOne_is K d t) (fun h => ?_) (fun h => by rw [h]; rfl)
    rw [h, kitAny_is K d ts]
    rfl

abbrev FinF (K : PySem.W.Frag) (F : FS) (H : Hp) (Q : VK) (d : D) : Prop := ∃ ds, d = .lst ds ∧ ∀ p xs H' F', Step F H F' H' → Good F' H' → H p = none → H' p = some (.lst xs) → F'.fz p = none → F'.op p = none → RepL K F' xs ds → Q (.ref p) H'
/-- a new list, ours -/
theorem FinF.new {K : PySem.W.Frag} {F : FS} {H : Hp} {Q : VK} {ds : List D} {xs : List V} (f : FinF K F H Q (.lst ds)) (g : Good F H) (r : RepL K F xs ds) : ∀ p, H p = none → Q (.ref p) (upd H p (.lst xs)) := fun p hp => by
  obtain ⟨_, e, f⟩ := f
  cases e
  exact f p xs _ F (Step.own hp) (g.own (g.nn hp).1 (g.nn hp).2) hp upd_same (g.nn hp).1 (g.nn hp).2 r
abbrev DCallF (K : PySem.W.Frag) (r : List D → (D → Prop) → Prop) (rL : List V → Hp → VK → Prop) : Prop := ∀ F H ds vs (Q : VK), Good F H → RepL K F vs ds → r ds (FinF K F H Q) → rL vs H Q
theorem CallR.or {f : Value} {r r' : List V → Hp → VK → Prop} (h : CallR X f r) (h' : CallR X f r') : CallR X f (fun xs H Q => r xs H Q ∨ r' xs H Q) := by
  intro pins s σ H xs us Q I r q
  rcases q with q | q
  · exact h pins s σ H xs us Q I r q
  · exact h' pins s σ H xs us Q I r q
/-- what stands behind the name -/
def Bi.val : Bi → Value
  | .int => .type "int" | .tuple => .type "tuple" | .list => .type "list"
  | .len => .builtin "len" | .abs => .builtin "abs" | .max2 | .maxL => .builtin "max" | .min2 | .minL => .builtin "min" | .any => .builtin "any" | .all => .builtin "all" | .sorted => .builtin "sorted"
theorem bi_boot (b : Bi) : bootBuiltins b.nm = some b.val := by
  cases b <;> decide +kernel
theorem bi_ok (hc : X.calm = true) (b : Bi) (hf : b.fresh = false) : ∃ rL, CallR X b.val rL ∧ DCall X.K (bi b) rL := by
  cases b with
  | len =>
    refine ⟨_, call_len, fun F H ds vs Q g r q => ?_⟩
    unfold bi at q
    split at q <;> try exact q.elim
    all_goals try contradiction
    · cases r with | cons r t => cases t; cases r with | lst h r => exact ⟨_, _, rfl, .inl ⟨_, SqL.of (g.fz _ _ h), rfl⟩, by rw [r.length]; exact q.now g (.int _)⟩
    · cases r with | cons r t => cases t; cases r with | tup h _ r => exact ⟨_, _, rfl, .inr ⟨_, sqT_up g h, rfl⟩, by rw [r.length]; exact q.now g (.int _)⟩
    · cases r with | cons r t => cases t; cases r with | scr h => exact ⟨_, _, rfl, .inl ⟨_, sqL_up g h, rfl⟩, by rw [List.length_map]; exact q.now g (.int _)⟩
    · cases r with | cons r t => cases t; cases r with | str _ h => exact ⟨_, _, rfl, ⟨q.1, rfl⟩, q.2.now g (.int _)⟩
  | int =>
    refine ⟨_, call_int1, fun F H ds vs Q g r q => ?_⟩
    unfold bi at q
    split at q <;> try exact q.elim
    all_goals try contradiction
    · cases r with | cons r t => cases t; cases r; exact .inl ⟨_, rfl, q.now g (.int _)⟩
    · cases r with | cons r t => cases t; cases r; exact .inr ⟨_, rfl, q.now g (.int _)⟩
  | abs =>
    refine ⟨_, call_abs, fun F H ds vs Q g r q => ?_⟩
    unfold bi at q
    split at q <;> try exact q.elim
    all_goals try contradiction
    cases r with | cons r t => cases t; cases r; exact ⟨_, rfl, q.now g (.int _)⟩
  | max2 =>
    refine ⟨_, call_max2 hc, fun F H ds vs Q g r q => ?_⟩
    unfold bi at q
    split at q <;> try exact q.elim
    all_goals try contradiction
    cases r with | cons r t => cases t with | cons r' t => cases t; cases r; cases r'; exact ⟨_, _, rfl, q.now g (.int _)⟩
  | min2 =>
    refine ⟨_, call_min2 hc, fun F H ds vs Q g r q => ?_⟩
    unfold bi at q
    split at q <;> try exact q.elim
    all_goals try contradiction
    cases r with | cons r t => cases t with | cons r' t => cases t; cases r; cases r'; exact ⟨_, _, rfl, q.now g (.int _)⟩
  | maxL =>
    refine ⟨_, cr_max hc, fun F H ds vs Q g r q => ?_⟩
    unfold bi at q
    split at q <;> try exact q.elim
    all_goals try contradiction
    obtain ⟨ns, rfl, h0, q⟩ := q
    cases r with | cons r t => cases t; cases r with | lst h r =>
      obtain rfl := r.ints_of
      exact ⟨_, ns, rfl, SqL.of (g.fz _ _ h), h0, fun m hm hy => (q m hm hy).now g (.int _)⟩
  | minL =>
    refine ⟨_, cr_min hc, fun F H ds vs Q g r q => ?_⟩
    unfold bi at q
    split at q <;> try exact q.elim
    all_goals try contradiction
    obtain ⟨ns, rfl, h0, q⟩ := q
    cases r with | cons r t => cases t; cases r with | lst h r =>
      obtain rfl := r.ints_of
      exact ⟨_, ns, rfl, SqL.of (g.fz _ _ h), h0, fun m hm hy => (q m hm hy).now g (.int _)⟩
  | tuple =>
    refine ⟨_, call_tupleN, fun F H ds vs Q g r q => ?_⟩
    unfold bi at q
    split at q <;> try exact q.elim
    all_goals try contradiction
    · cases r with | cons r t => cases t; cases r with | lst h r => exact ⟨_, _, rfl, .inl ⟨SqL.of (g.fz _ _ h), q.tup g r⟩⟩
    · cases r with | cons r t => cases t; cases r with | tup h n r => exact ⟨_, _, rfl, .inr ⟨sqT_up g h, q.now g (.tup h n r)⟩⟩
  | any =>
    refine ⟨_, cr_any hc, fun F H ds vs Q g r q => ?_⟩
    unfold bi at q
    split at q <;> try exact q.elim
    all_goals try contradiction
    obtain ⟨ns, rfl, q⟩ := q
    cases r with | cons r t => cases t; cases r with | lst h r =>
      obtain rfl := r.bls_of
      exact ⟨_, ns, rfl, SqL.of (g.fz _ _ h), q.now g (.bl _)⟩
  | all =>
    refine ⟨_, cr_all hc, fun F H ds vs Q g r q => ?_⟩
    unfold bi at q
    split at q <;> try exact q.elim
    all_goals try contradiction
    obtain ⟨ns, rfl, q⟩ := q
    cases r with | cons r t => cases t; cases r with | lst h r =>
      obtain rfl := r.bls_of
      exact ⟨_, ns, rfl, SqL.of (g.fz _ _ h), q.now g (.bl _)⟩
  | list => cases hf
  | sorted => cases hf
theorem bi_okF (b : Bi) (hf : b.fresh = true) : ∃ rL, CallR X b.val rL ∧ DCallF X.K (bi b) rL := by
  cases b with
  | list =>
    refine ⟨_, call_list_of, fun F H ds vs Q g r q => ?_⟩
    unfold bi at q
    split at q <;> try exact q.elim
    all_goals try contradiction
    · cases r with | cons r t => cases t; cases r with | lst h r => exact ⟨_, _, rfl, .inl (SqL.of (g.fz _ _ h)), q.new g r⟩
    · cases r with | cons r t => cases t; cases r with | tup h _ r => exact ⟨_, _, rfl, .inr (sqT_up g h), q.new g r⟩
    · cases r with | cons r t => cases t; cases r with | scr h => exact ⟨_, _, rfl, .inl (sqL_up g h), q.new g (.ints _)⟩
  | sorted =>
    refine ⟨_, cr_sortedI.or cr_sortedS, fun F H ds vs Q g r q => ?_⟩
    unfold bi at q
    split at q <;> try exact q.elim
    all_goals try contradiction
    rcases q with ⟨ns, rfl, q⟩ | ⟨ss, rfl, hl, q⟩
    · cases r with | cons r t => cases t; cases r with | lst h r =>
        obtain rfl := r.ints_of
        exact .inl ⟨_, ns, rfl, SqL.of (g.fz _ _ h), fun ns' p h1 h2 hp => (q ns' h1 h2).new g (.ints _) p hp⟩
    · cases r with | cons r t => cases t; cases r with | lst h r =>
        obtain ⟨rfl, hs⟩ := r.strs_of
        exact .inr ⟨_, ss, rfl, SqL.of (g.fz _ _ h), hl, fun ys p h1 h2 hp => (q ys h1 h2).new g (.strs ys fun x hx => hs x (h1.mem_iff.mp hx)) p hp⟩
  | _ => cases hf
end
end DL

/-! DL4: states, targets, what is walked, comprehensions, loops. -/
namespace DL
open PySem PySem.Spec PyProof.Rows L2

structure FS.Le (F F' : FS) : Prop where
  fz : ∀ a o, F.fz a = some o → F'.fz a = some o
  op : ∀ a k, F.op a = some k → F'.op a = some k
theorem FS.Le.refl (F : FS) : F.Le F := ⟨fun _ _ h => h, fun _ _ h => h⟩
theorem FS.Le.trans {A B C : FS} (h : A.Le B) (g : B.Le C) : A.Le C := ⟨fun a o e => g.fz a o (h.fz a o e), fun a o e => g.op a o (h.op a o e)⟩
theorem Step.le {F F' : FS} {H H' : Hp} (s : Step F H F' H') : F.Le F' := ⟨s.fz, s.op⟩
section
variable {K : PySem.W.Frag} {F F' F0 F1 : FS} {H H' H0 H1 : Hp} {σ : L2.St} {ε : List Slot}
theorem Rp.any {i : Nat} {s : Slot} (R : Rp K F0 H0 F H σ ε) (h : ε[i]? = some s) : i < σ.length := by
  have := (List.getElem?_eq_some_iff.mp h).1
  rw [R.len]; exact this
/-- a slot is given a value -/
theorem Rp.set (R : Rp K F0 H0 F H σ ε) (i : Nat) {v : V} {d : D} (r : Rep K F v d) : Rp K F0 H0 F H (σ.set i (some v)) (ε.set i (.val d)) := by
  refine ⟨R.good, R.step, by rw [List.length_set, List.length_set, R.len], fun j s e => ?_, fun j k ds es l h1 h2 h3 h4 => ?_⟩
  · by_cases hj : i = j
    · subst hj
      have hl : i < ε.length := by have := (List.getElem?_eq_some_iff.mp e).1; rwa [List.length_set] at this
      rw [List.getElem?_set_self hl] at e
      cases e
      exact ⟨_, List.getElem?_set_self (by rw [R.len]; exact hl), .val r⟩
    · rw [List.getElem?_set_ne hj] at e ⊢
      exact R.slot j s e
  · have ne : ∀ {n : Nat} {ds : List D}, (ε.set i (.val d))[n]? = some (.own ds) → i ≠ n := fun {n ds} h z => by
      subst z
      have hl : i < ε.length := by have := (List.getElem?_eq_some_iff.mp h).1; rwa [List.length_set] at this
      rw [List.getElem?_set_self hl] at h
      cases h
    have n1 := ne h1
    have n2 := ne h2
    rw [List.getElem?_set_ne n1] at h1 h3
    rw [List.getElem?_set_ne n2] at h2 h4
    exact R.dist j k ds es l h1 h2 h3 h4
/-- a slot is forgotten -/
theorem Rp.forget (R : Rp K F0 H0 F H σ ε) (i : Nat) (o : Option V) : Rp K F0 H0 F H (σ.set i o) (ε.set i .non) := by
  refine ⟨R.good, R.step, by rw [List.length_set, List.length_set, R.len], fun j s e => ?_, fun j k ds es l h1 h2 h3 h4 => ?_⟩
  · by_cases hj : i = j
    · subst hj
      have hl : i < ε.length := by have := (List.getElem?_eq_some_iff.mp e).1; rwa [List.length_set] at this
      rw [List.getElem?_set_self hl] at e
      cases e
      exact ⟨_, List.getElem?_set_self (by rw [R.len]; exact hl), .non⟩
    · rw [List.getElem?_set_ne hj] at e ⊢
      exact R.slot j s e
  · have ne : ∀ {n : Nat} {ds : List D}, (ε.set i .non)[n]? = some (.own ds) → i ≠ n := fun {n ds} h z => by
      subst z
      have hl : i < ε.length := by have := (List.getElem?_eq_some_iff.mp h).1; rwa [List.length_set] at this
      rw [List.getElem?_set_self hl] at h
      cases h
    have n1 := ne h1
    have n2 := ne h2
    rw [List.getElem?_set_ne n1] at h1 h3
    rw [List.getElem?_set_ne n2] at h2 h4
    exact R.dist j k ds es l h1 h2 h3 h4
theorem Rp.wipe (R : Rp K F0 H0 F H σ ε) : ∀ vs : List Nat, Rp K F0 H0 F H (wipe σ vs) (wipeE ε vs)
  | [] => R
  | v :: vs => (Rp.wipe R vs).forget v none
/-- a slot is given a list of ours -/
theorem Rp.setOwn (R : Rp K F0 H0 F H σ ε) (i : Nat) {l : Addr} {xs : List V} {ds : List D} (h1 : H l = some (.lst xs)) (h2 : F.fz l = none) (h3 : F.op l = none) (h4 : H0 l = none) (r : RepL K F xs ds)
    (hn : ∀ (j : Nat) (es : List D), j ≠ i → ε[j]? = some (.own es) → σ[j]? ≠ some (some (.ref l))) : Rp K F0 H0 F H (σ.set i (some (.ref l))) (ε.set i (.own ds)) := by
  refine ⟨R.good, R.step, by rw [List.length_set, List.length_set, R.len], fun j s e => ?_, fun j k ds' es l' e1 e2 e3 e4 => ?_⟩
  · by_cases hj : i = j
    · subst hj
      have hl : i < ε.length := by have := (List.getElem?_eq_some_iff.mp e).1; rwa [List.length_set] at this
      rw [List.getElem?_set_self hl] at e
      cases e
      exact ⟨_, List.getElem?_set_self (by rw [R.len]; exact hl), .own h1 h2 h3 h4 r⟩
    · rw [List.getElem?_set_ne hj] at e ⊢
      exact R.slot j s e
  · have at_i : ∀ {n : Nat} {x : Slot}, (ε.set i (.own ds))[n]? = some x → n = i → (σ.set i (some (V.ref l)))[n]? = some (some (V.ref l)) := fun {n x} h z => by
      subst z
      have hl : n < ε.length := by have := (List.getElem?_eq_some_iff.mp h).1; rwa [List.length_set] at this
      exact List.getElem?_set_self (by rw [R.len]; exact hl)
    by_cases hj : j = i
    · by_cases hk : k = i
      · rw [hj, hk]
      · have q := at_i e1 hj
        rw [e3] at q
        cases q
        rw [List.getElem?_set_ne (Ne.symm hk)] at e2 e4
        exact absurd e4 (hn k es hk e2)
    · by_cases hk : k = i
      · have q := at_i e2 hk
        rw [e4] at q
        cases q
        rw [List.getElem?_set_ne (Ne.symm hj)] at e1 e3
        exact absurd e3 (hn j ds' hj e1)
      · rw [List.getElem?_set_ne (Ne.symm hj)] at e1 e3
        rw [List.getElem?_set_ne (Ne.symm hk)] at e2 e4
        exact R.dist j k ds' es l' e1 e2 e3 e4
theorem Rp.ownAt (R : Rp K F0 H0 F H σ ε) {i : Nat} {ds : List D} (h : ε[i]? = some (.own ds)) : ∃ l xs, σ[i]? = some (some (.ref l)) ∧ H l = some (.lst xs) ∧ F.fz l = none ∧ F.op l = none ∧ H0 l = none ∧ RepL K F xs ds := by
  obtain ⟨o, e, r⟩ := R.slot i _ h
  cases r with
  | own h1 h2 h3 h4 r => exact ⟨_, _, e, h1, h2, h3, h4, r⟩
theorem Rp.valAt (R : Rp K F0 H0 F H σ ε) {i : Nat} {d : D} (h : ε[i]? = some (.val d)) : ∃ v, σ[i]? = some (some v) ∧ Rep K F v d := by
  obtain ⟨o, e, r⟩ := R.slot i _ h
  cases r with
  | val r => exact ⟨_, e, r⟩
/-- a new list at l: no slot has it -/
theorem Rp.newOwn (R : Rp K F0 H0 F H σ ε) {l : Addr} (h : H l = none) : ∀ (j : Nat) (es : List D), ε[j]? = some (.own es) → σ[j]? ≠ some (some (.ref l)) := fun j es e z => by
  obtain ⟨l', xs, e1, e2, _⟩ := R.ownAt e
  rw [z] at e1
  cases e1
  rw [h] at e2; cases e2
/-- a list of ours is changed -/
theorem Rp.write (R : Rp K F0 H0 F H σ ε) {i : Nat} {l : Addr} {xs : List V} {ds es : List D} (he : ε[i]? = some (.own es)) (hs : σ[i]? = some (some (.ref l))) (r : RepL K F xs ds) :
    Rp K F0 H0 F (upd H l (.lst xs)) σ (ε.set i (.own ds)) := by
  obtain ⟨l', ys, e1, h1, h2, h3, h4, _⟩ := R.ownAt he
  rw [hs] at e1
  cases e1
  refine ⟨R.good.own h2 h3, ⟨R.step.fz, R.step.op, fun a o e n => ?_, R.step.nf⟩, by rw [List.length_set, R.len], fun j s e => ?_, fun j k ds' es' l' e1 e2 e3 e4 => ?_⟩
  · rw [upd_ne (ne_of_none e h4)]
    exact R.step.hp a o e n
  · by_cases hj : i = j
    · subst hj
      have hl : i < ε.length := by have := (List.getElem?_eq_some_iff.mp e).1; rwa [List.length_set] at this
      rw [List.getElem?_set_self hl] at e
      cases e
      exact ⟨_, hs, .own upd_same h2 h3 h4 r⟩
    · rw [List.getElem?_set_ne hj] at e
      obtain ⟨o, e1, q⟩ := R.slot j s e
      refine ⟨o, e1, ?_⟩
      cases q with
      | non => exact .non
      | val r => exact .val r
      | @own l2 ys ds2 g1 g2 g3 g4 r2 =>
        have hne : l2 ≠ l := fun z => by
          subst z
          exact hj (R.dist i j _ _ _ he e hs e1)
        exact .own (by rw [upd_ne hne]; exact g1) g2 g3 g4 r2
  · have own_of : ∀ {n : Nat} {x : List D}, (ε.set i (.own ds))[n]? = some (.own x) → ∃ y, ε[n]? = some (.own y) := fun {n x} h => by
      by_cases hn : i = n
      · subst hn; exact ⟨_, he⟩
      · rw [List.getElem?_set_ne hn] at h; exact ⟨_, h⟩
    obtain ⟨y1, z1⟩ := own_of e1
    obtain ⟨y2, z2⟩ := own_of e2
    exact R.dist j k y1 y2 l' z1 z2 e3 e4
/-- a list of ours is frozen -/
theorem Rp.freeze (R : Rp K F0 H0 F H σ ε) {i : Nat} {ds : List D} (he : ε[i]? = some (.own ds)) : ∃ F', Rp K F0 H0 F' H σ (ε.set i (.val (.lst ds))) ∧ F.Le F' := by
  obtain ⟨l, xs, hs, h1, h2, h3, h4, r⟩ := R.ownAt he
  have le : F.Le (F.put l (.lst xs)) := ⟨put_mono h2, fun _ _ e => e⟩
  refine ⟨F.put l (.lst xs), ⟨R.good.freeze h1 h3, ⟨fun a o e => le.fz a o (R.step.fz a o e), R.step.op, R.step.hp, fun a n1 n2 n3 => ?_⟩, by rw [List.length_set, R.len], fun j s e => ?_, fun j k ds' es' l' e1 e2 e3 e4 => ?_⟩, le⟩
  · obtain ⟨z1, z2⟩ := R.step.nf a n1 n2 n3
    refine ⟨?_, z2⟩
    show upd _ _ _ _ = _
    rw [upd_ne (by rintro rfl; exact n3 h4)]
    exact z1
  · by_cases hj : i = j
    · subst hj
      have hl : i < ε.length := by have := (List.getElem?_eq_some_iff.mp e).1; rwa [List.length_set] at this
      rw [List.getElem?_set_self hl] at e
      cases e
      exact ⟨_, hs, .val (.lst (by show upd _ _ _ _ = _; exact upd_same) (r.put h2))⟩
    · rw [List.getElem?_set_ne hj] at e
      obtain ⟨o, e1, q⟩ := R.slot j s e
      refine ⟨o, e1, ?_⟩
      cases q with
      | non => exact .non
      | val r => exact .val (r.put h2)
      | @own l2 ys ds2 g1 g2 g3 g4 r2 =>
        have hne : l2 ≠ l := fun z => by
          subst z
          exact hj (R.dist i j _ _ _ he e hs e1)
        refine .own g1 ?_ g3 g4 (r2.put h2)
        show upd _ _ _ _ = _
        rw [upd_ne hne]; exact g2
  · have own_of : ∀ {n : Nat} {x : List D}, (ε.set i (.val (.lst ds)))[n]? = some (.own x) → ε[n]? = some (.own x) := fun {n x} h => by
      by_cases hn : i = n
      · subst hn
        have hl : i < ε.length := by have := (List.getElem?_eq_some_iff.mp h).1; rwa [List.length_set] at this
        rw [List.getElem?_set_self hl] at h; cases h
      · rw [List.getElem?_set_ne hn] at h; exact h
    exact R.dist j k ds' es' l' (own_of e1) (own_of e2) e3 e4
/-- a list of ours becomes opaque -/
theorem Rp.opaq (R : Rp K F0 H0 F H σ ε) {i : Nat} {ns : List Int} (he : ε[i]? = some (.own (ns.map D.int))) (hn : ∀ n ∈ ns, 0 ≤ n) : ∃ F', Rp K F0 H0 F' H σ (ε.set i (.val (.opq 0))) ∧ F.Le F' := by
  obtain ⟨l, xs, hs, h1, h2, h3, h4, r⟩ := R.ownAt he
  obtain rfl := r.ints_of
  let F' : FS := ⟨F.fz, fun b => if b = l then some 0 else F.op b⟩
  have le : F.Le F' := ⟨fun _ _ e => e, fun a k e => by
    have hne : a ≠ l := fun z => by rw [z, h3] at e; cases e
    show (if a = l then some 0 else F.op a) = _
    rw [if_neg hne]; exact e⟩
  refine ⟨F', ⟨⟨R.good.fz, fun a k e => ?_⟩, ⟨R.step.fz, fun a o e => le.op a o (R.step.op a o e), R.step.hp, fun a n1 n2 n3 => ?_⟩, by rw [List.length_set, R.len], fun j s e => ?_, fun j k ds' es' l' e1 e2 e3 e4 => ?_⟩, le⟩
  · have e : (if a = l then some 0 else F.op a) = some k := e
    by_cases ha : a = l
    · subst ha
      rw [if_pos rfl] at e
      exact ⟨h2, _, h1, ns, rfl, hn⟩
    · rw [if_neg ha] at e
      exact R.good.op a k e
  · obtain ⟨z1, z2⟩ := R.step.nf a n1 n2 n3
    refine ⟨z1, ?_⟩
    show (if a = l then some 0 else F.op a) = _
    rw [if_neg (by rintro rfl; exact n3 h4)]
    exact z2
  · by_cases hj : i = j
    · subst hj
      have hl : i < ε.length := by have := (List.getElem?_eq_some_iff.mp e).1; rwa [List.length_set] at this
      rw [List.getElem?_set_self hl] at e
      cases e
      exact ⟨_, hs, .val (.opq (by show (if l = l then some 0 else F.op l) = _; rw [if_pos rfl]))⟩
    · rw [List.getElem?_set_ne hj] at e
      obtain ⟨o, e1, q⟩ := R.slot j s e
      refine ⟨o, e1, ?_⟩
      cases q with
      | non => exact .non
      | val r => exact .val (r.mono le.fz le.op)
      | @own l2 ys ds2 g1 g2 g3 g4 r2 =>
        have hne : l2 ≠ l := fun z => by
          subst z
          exact hj (R.dist i j _ _ _ he e hs e1)
        refine .own g1 g2 ?_ g4 (r2.mono le.fz le.op)
        show (if l2 = l then some 0 else F.op l2) = _
        rw [if_neg hne]; exact g3
  · have own_of : ∀ {n : Nat} {x : List D}, (ε.set i (.val (.opq 0)))[n]? = some (.own x) → ε[n]? = some (.own x) := fun {n x} h => by
      by_cases hn : i = n
      · subst hn
        have hl : i < ε.length := by have := (List.getElem?_eq_some_iff.mp h).1; rwa [List.length_set] at this
        rw [List.getElem?_set_self hl] at h; cases h
      · rw [List.getElem?_set_ne hn] at h; exact h
    exact R.dist j k ds' es' l' (own_of e1) (own_of e2) e3 e4
end

section
variable {K : PySem.W.Frag} {F F' F0 F1 : FS} {H H' H0 H1 : Hp} {σ : L2.St} {ε : List Slot}
def FS.minus (F : FS) (l : Addr) : FS := ⟨fun a => if a = l then none else F.fz a, F.op⟩
mutual
theorem Rep.minus {l : Addr} {xs : List V} (hl : F.fz l = some (.lst xs)) : ∀ {v : V} {d : D}, Rep K F v d → d.noL = true → Rep K (F.minus l) v d
  | _, _, .non, _ => .non
  | _, _, .bl b, _ => .bl b
  | _, _, .int i, _ => .int i
  | _, _, .str x h, _ => .str x h
  | _, _, .opq h, _ => .opq h
  | _, _, .tup (a := a) h nn r, e => by
    refine .tup ?_ ?_ (RepL.minus hl r (by simpa [D.noL] using e))
    rotate_left
    · rcases nn with ⟨o, u, h1, h2⟩ | nn
      · refine .inl ⟨o, u, ?_, h2⟩
        have : a ≠ l := fun z => by rw [z, hl] at h1; cases h1
        show (if a = l then none else F.fz a) = _
        rw [if_neg this]; exact h1
      · exact .inr nn
    have ne : ∀ {u : HO}, F.fz a = some u → (∀ ys, u ≠ .lst ys) → (F.minus l).fz a = some u := fun {u} hu hd => by
      have : a ≠ l := fun z => by rw [z, hl] at hu; cases hu; exact hd _ rfl
      show (if a = l then none else F.fz a) = _
      rw [if_neg this]; exact hu
    rcases h with (h | ⟨o, h⟩) | h
    · exact .inl (.inl (ne h fun _ z => nomatch z))
    · exact .inl (.inr ⟨o, ne h fun _ z => nomatch z⟩)
    · exact .inr h
  | _, _, .lst _ _, e => by simp [D.noL] at e
  | _, _, .scr _, e => by simp [D.noL] at e
theorem RepL.minus {l : Addr} {xs : List V} (hl : F.fz l = some (.lst xs)) : ∀ {vs : List V} {ds : List D}, RepL K F vs ds → noLs ds = true → RepL K (F.minus l) vs ds
  | _, _, .nil, _ => .nil
  | _, _, .cons h r, e => by
    rw [noLs, Bool.and_eq_true] at e
    exact .cons (Rep.minus hl h e.1) (RepL.minus hl r e.2)
end
/-- a list of ours is lent: frozen for an expression, ours again behind it -/
theorem Rp.lent (R : Rp K F0 H0 F H σ ε) {i : Nat} {ds : List D} (he : ε[i]? = some (.own ds)) : ∃ (l : Addr) (xs : List V), Rp K F0 H0 (F.put l (.lst xs)) H σ (ε.set i (.val (.lst ds))) ∧
    ∀ F' H', Step (F.put l (.lst xs)) H F' H' → Good F' H' → Step F H (F'.minus l) H' ∧ Good (F'.minus l) H' ∧ ∀ v d, Rep K F' v d → d.noL = true → Rep K (F'.minus l) v d := by
  obtain ⟨l, xs, hs, h1, h2, h3, h4, r⟩ := R.ownAt he
  have R' : Rp K F0 H0 (F.put l (.lst xs)) H σ (ε.set i (.val (.lst ds))) := by
    have le : F.Le (F.put l (.lst xs)) := ⟨put_mono h2, fun _ _ e => e⟩
    refine ⟨R.good.freeze h1 h3, ⟨fun a o e => le.fz a o (R.step.fz a o e), R.step.op, R.step.hp, fun a n1 n2 n3 => ?_⟩, by rw [List.length_set, R.len], fun j s e => ?_, fun j k ds' es' l' e1 e2 e3 e4 => ?_⟩
    · obtain ⟨z1, z2⟩ := R.step.nf a n1 n2 n3
      refine ⟨?_, z2⟩
      show upd _ _ _ _ = _
      rw [upd_ne (by rintro rfl; exact n3 h4)]
      exact z1
    · by_cases hj : i = j
      · subst hj
        have hl : i < ε.length := by have := (List.getElem?_eq_some_iff.mp e).1; rwa [List.length_set] at this
        rw [List.getElem?_set_self hl] at e
        cases e
        exact ⟨_, hs, .val (.lst (by show upd _ _ _ _ = _; exact upd_same) (r.put h2))⟩
      · rw [List.getElem?_set_ne hj] at e
        obtain ⟨o, e1, q⟩ := R.slot j s e
        refine ⟨o, e1, ?_⟩
        cases q with
        | non => exact .non
        | val r => exact .val (r.put h2)
        | @own l2 ys ds2 g1 g2 g3 g4 r2 =>
          have hne : l2 ≠ l := fun z => by
            subst z
            exact hj (R.dist i j _ _ _ he e hs e1)
          refine .own g1 ?_ g3 g4 (r2.put h2)
          show upd _ _ _ _ = _
          rw [upd_ne hne]; exact g2
    · have own_of : ∀ {n : Nat} {x : List D}, (ε.set i (.val (.lst ds)))[n]? = some (.own x) → ε[n]? = some (.own x) := fun {n x} h => by
        by_cases hn : i = n
        · subst hn
          have hl : i < ε.length := by have := (List.getElem?_eq_some_iff.mp h).1; rwa [List.length_set] at this
          rw [List.getElem?_set_self hl] at h; cases h
        · rw [List.getElem?_set_ne hn] at h; exact h
      exact R.dist j k ds' es' l' (own_of e1) (own_of e2) e3 e4
  refine ⟨l, xs, R', fun F' H' t g => ?_⟩
  have hl' : F'.fz l = some (.lst xs) := t.fz _ _ (by show upd _ _ _ _ = _; exact upd_same)
  have minus_ne : ∀ {a : Addr}, a ≠ l → (F'.minus l).fz a = F'.fz a := fun {a} h => by
    show (if a = l then none else F'.fz a) = _
    rw [if_neg h]
  refine ⟨⟨fun a o e => ?_, t.op, t.hp, fun a n1 n2 n3 => ?_⟩, ⟨fun a o e => ?_, fun a k e => ?_⟩, fun v d r e => Rep.minus hl' r e⟩
  · rw [minus_ne (ne_of_none e h2)]
    exact t.fz a o (put_mono h2 a o e)
  · by_cases ha : a = l
    · subst ha
      refine ⟨?_, g.opn hl'⟩
      show (if a = a then none else F'.fz a) = _
      rw [if_pos rfl]
    · rw [minus_ne ha]
      refine t.nf a ?_ n2 n3
      show upd _ _ _ _ = _
      rw [upd_ne ha]; exact n1
  · have ha : a ≠ l := fun z => by
      have e : (if a = l then none else F'.fz a) = some o := e
      rw [if_pos z] at e; cases e
    rw [minus_ne ha] at e
    exact g.fz a o e
  · obtain ⟨z1, z2⟩ := g.op a k e
    refine ⟨?_, z2⟩
    show (if a = l then none else F'.fz a) = _
    split
    · rfl
    · exact z1
end
/-! ### targets -/
mutual
def CT.slots : CT → List Nat
  | .nm i => [i]
  | .nil => []
  | .cons t r => t.slots ++ r.slots
end
structure Sam (vs : List Nat) (σ σ' : L2.St) : Prop where
  len : σ'.length = σ.length
  at_ : ∀ i, i ∉ vs → σ'[i]? = σ[i]?
theorem Sam.trans {vs ws : List Nat} {a b c : L2.St} (h : Sam vs a b) (g : Sam ws b c) : Sam (vs ++ ws) a c :=
  ⟨g.len.trans h.len, fun i hi => by
    rw [List.mem_append, not_or] at hi
    exact (g.at_ i hi.2).trans (h.at_ i hi.1)⟩
def tDG (K : PySem.W.Frag) (vs : List Nat) (b : D → List Slot → (List Slot → Prop) → Prop) : TG := fun v σ H Q => ∃ F0 H0 F ε d, Rp K F0 H0 F H σ ε ∧ Rep K F v d ∧ b d ε (fun ε' => ∀ σ', Rp K F0 H0 F H σ' ε' → Sam vs σ σ' → Q σ' H)
def tDGs (K : PySem.W.Frag) (vs : List Nat) (b : D → List Slot → (List Slot → Prop) → Prop) : TGs := fun xs σ H Q => ∃ F0 H0 F ε ds, Rp K F0 H0 F H σ ε ∧ RepL K F xs ds ∧ b (.tup ds) ε (fun ε' => ∀ σ', Rp K F0 H0 F H σ' ε' → Sam vs σ σ' → Q σ' H)
theorem _root_.L2.PG.of {X : Cx} {e : Expr} {t t' : TG} (h : PG X e t) (i : ∀ v σ H Q, t' v σ H Q → t v σ H Q) : PG X e t' := ⟨fun pins s σ H v u Q I r hw => h.run pins s σ H v u Q I r (i v σ H Q hw)⟩
theorem _root_.L2.PGs.of {X : Cx} {e : List Expr} {t t' : TGs} (h : PGs X e t) (i : ∀ v σ H Q, t' v σ H Q → t v σ H Q) : PGs X e t' := ⟨fun pins s σ H v u Q I r hw => h.run pins s σ H v u Q I r (i v σ H Q hw)⟩
theorem _root_.L2.PI.of {X : Cx} {tg e : Expr} {t t' : TI} (h : PI X tg e t) (i : ∀ σ H Q, t' σ H Q → t σ H Q) : PI X tg e t' := ⟨fun pins s σ H R I hw => h.run pins s σ H R I (i σ H R hw)⟩
section
variable {X : Cx} {pos : Pos}
theorem pgd_name {i : Nat} {x : Str} (hN : X.N.Nodup) (hi : X.N[i]? = some x) (hx : Loc X.env.scope x) (hf : X.fn x = true ∨ X.env.scope.names.lookup x = some .local) : PG X (.Name x pos) (tDG X.K (CT.nm i).slots (bindT (.nm i))) := by
  refine (pg_name hN hi hx hf).of fun v σ H Q ⟨F0, H0, F, ε, d, R, r, q⟩ => ?_
  unfold bindT at q
  exact q _ (R.set i r) ⟨List.length_set, fun j hj => by
    have hj' : j ≠ i := by simpa [CT.slots] using hj
    exact List.getElem?_set_ne (Ne.symm hj')⟩
theorem assign_cons {e : Expr} {es : List Expr} {env : Env} (h : ∀ t p, e ≠ .Starred t p) : (assignEach (e :: es) env) = (false, assign e env) :: assignEach es env := by
  cases e <;> first | rfl | exact absurd rfl (h _ _)
theorem pgds_nil : PGs X [] (tDGs X.K CT.nil.slots (bindT .nil)) := by
  refine pgs_nil.of fun v σ H Q ⟨F0, H0, F, ε, ds, R, r, q⟩ => ?_
  cases ds with
  | nil => cases r; unfold bindT at q; exact ⟨rfl, q σ R ⟨rfl, fun _ _ => rfl⟩⟩
  | cons d ds => unfold bindT at q; exact q.elim
theorem pgds_cons {e : Expr} {es : List Expr} {t r : CT} (h1 : PG X e (tDG X.K t.slots (bindT t))) (h2 : PGs X es (tDGs X.K r.slots (bindT r))) (hs : ∀ t p, e ≠ .Starred t p) :
    PGs X (e :: es) (tDGs X.K (CT.cons t r).slots (bindT (.cons t r))) := by
  refine (pgs_cons h1 h2 (by rw [assign_cons hs]; rfl)).of fun v σ H Q ⟨F0, H0, F, ε, ds, R, rr, q⟩ => ?_
  cases ds with
  | nil => unfold bindT at q; exact q.elim
  | cons d ds =>
    cases rr with
    | cons r1 r2 =>
      unfold bindT at q
      refine ⟨_, _, rfl, F0, H0, F, ε, d, R, r1, bindT_mono t d ε _ _ (fun ε1 q1 σ1 R1 s1 => ⟨F0, H0, F, ε1, ds, R1, r2, bindT_mono r _ ε1 _ _ (fun ε2 q2 σ2 R2 s2 => q2 σ2 R2 (s1.trans s2)) q1⟩) q⟩
theorem bindT_ex : ∀ {t : CT} {d : D} {ε : List Slot} {P : List Slot → Prop}, bindT t d ε P → ∃ ε', P ε'
  | .nm i, d, ε, P, h => ⟨_, h⟩
  | .nil, .tup [], ε, P, h => ⟨ε, h⟩
  | .cons t r, .tup (d :: ds), ε, P, h => by
    unfold bindT at h
    obtain ⟨ε', h⟩ := bindT_ex h
    exact bindT_ex h
def CT.isL : CT → Bool
  | .nm _ => false
  | .nil => true
  | .cons _ r => r.isL
def CT.len : CT → Nat
  | .nm _ | .nil => 0
  | .cons _ r => r.len + 1
theorem bindT_len : ∀ {t : CT} {ds : List D} {ε : List Slot} {P : List Slot → Prop}, t.isL = true → bindT t (.tup ds) ε P → ds.length = t.len
  | .nm i, _, _, _, h, _ => by cases h
  | .nil, [], _, _, _, _ => rfl
  | .nil, d :: ds, _, _, _, h => by unfold bindT at h; exact h.elim
  | .cons t r, [], _, _, _, h => by unfold bindT at h; exact h.elim
  | .cons t r, d :: ds, _, _, hl, h => by
    unfold bindT at h
    obtain ⟨ε', h⟩ := bindT_ex h
    have := bindT_len (t := r) (by simpa [CT.isL] using hl) h
    simp [CT.len, this]
theorem pgd_tup {es : List Expr} {k : Nat} {t : CT} (hc : X.calm = true) (hl : t.isL = true) (hn : es.length = t.len) (hs : ∀ e ∈ es, ∀ u p, e ≠ .Starred u p) (h : PGs X es (tDGs X.K t.slots (bindT t))) : PG X (.Tuple es k pos) (tDG X.K t.slots (bindT t)) := by
  have hlen : ∀ l : List Expr, (assignEach l X.env).length = l.length := by
    intro l
    induction l with
    | nil => rfl
    | cons e l ih => cases e <;> simp [assignEach, ih]
  have hfind : ∀ l : List Expr, (∀ e ∈ l, ∀ u p, e ≠ .Starred u p) → (assignEach l X.env).findIdx? (·.1) = none := by
    intro l
    induction l with
    | nil => intro _; rfl
    | cons e l ih =>
      intro hl
      rw [assign_cons (hl e List.mem_cons_self), List.findIdx?_cons]
      simp [ih fun e he => hl e (List.mem_cons_of_mem _ he)]
  refine (pg_tup hc h (hlen es) (hfind es hs)).of fun v σ H Q ⟨F0, H0, F, ε, d, R, r, q⟩ => ?_
  cases r with
  | tup h _ r => exact ⟨_, _, rfl, sqT_up R.good h, by rw [r.length, bindT_len hl q, hn], F0, H0, F, ε, _, R, r, q⟩
  | _ => cases t with
    | nm i => cases hl
    | nil => unfold bindT at q; exact q.elim
    | cons t r => unfold bindT at q; exact q.elim
end

/-! ### what is walked -/
structure WalkOk (K : PySem.W.Frag) (J : It) (F1 : FS) (ds : List D) : Prop where
  go : ∀ i F H, F1.Le F → Good F H → i < ds.length → J.go i H ∧ ∀ x H', J.yld i H x H' → ∃ F', Step F H F' H' ∧ Good F' H' ∧ ∀ d, ds[i]? = some d → Rep K F' x d
  stop : ∀ i F H, F1.Le F → Good F H → i = ds.length → J.stop i H
def tDI (K : PySem.W.Frag) (m : DA) : TI := fun σ H R => ∃ F0 H0 F ε, Rp K F0 H0 F H σ ε ∧ m ε (fun ds => ∀ J H' F', Step F H F' H' → Good F' H' → WalkOk K J F' ds → R J H')
theorem walk_list {K : PySem.W.Frag} {F : FS} {a : Addr} {xs : List V} {ds : List D} (h : F.fz a = some (.lst xs)) (r : RepL K F xs ds) : WalkOk K (Itl K a) F ds where
  go := fun i F' H le g hi => by
    have hs : SqL K H a xs := SqL.of (g.fz _ _ (le.fz _ _ h))
    have hx : i < xs.length := by rw [r.length]; exact hi
    refine ⟨⟨xs, xs[i], hs, List.getElem?_eq_getElem hx⟩, fun x H' ⟨e, y⟩ => ⟨F', by rw [e]; exact Step.refl _ _, by rw [e]; exact g, fun d hd => ?_⟩⟩
    obtain ⟨v, h1, h2⟩ := r.getD hd
    have := y xs hs
    rw [h1] at this
    cases this
    exact h2.mono le.fz le.op
  stop := fun i F' H le g hi => ⟨xs, SqL.of (g.fz _ _ (le.fz _ _ h)), by rw [r.length]; omega⟩
theorem walk_scr {K : PySem.W.Frag} {F : FS} {a : Addr} {ns : List Int} (h : SqL K F.fz a (ns.map V.int)) : WalkOk K (Itl K a) F (ns.map D.int) where
  go := fun i F' H le g hi => by
    have hs : SqL K H a (ns.map V.int) := sqL_up g (sqL_mono le.fz h)
    have hx : i < (ns.map V.int).length := by rw [List.length_map] at hi ⊢; exact hi
    refine ⟨⟨_, (ns.map V.int)[i], hs, List.getElem?_eq_getElem hx⟩, fun x H' ⟨e, y⟩ => ⟨F', by rw [e]; exact Step.refl _ _, by rw [e]; exact g, fun d hd => ?_⟩⟩
    have := y _ hs
    rw [List.getElem?_map] at this hd
    cases q : ns[i]? with
    | none => rw [q] at this; cases this
    | some n => rw [q] at this hd; cases this; cases hd; exact .int n
  stop := fun i F' H le g hi => ⟨_, sqL_up g (sqL_mono le.fz h), by rw [List.length_map] at hi ⊢; omega⟩
theorem walk_tup {K : PySem.W.Frag} {F : FS} {a : Addr} {xs : List V} {ds : List D} (h : SqT K F.fz a xs) (r : RepL K F xs ds) : WalkOk K (Itt K a) F ds where
  go := fun i F' H le g hi => by
    have hs : SqT K H a xs := sqT_up g (sqT_mono le.fz h)
    have hx : i < xs.length := by rw [r.length]; exact hi
    refine ⟨⟨xs, xs[i], hs, List.getElem?_eq_getElem hx⟩, fun x H' ⟨e, y⟩ => ⟨F', by rw [e]; exact Step.refl _ _, by rw [e]; exact g, fun d hd => ?_⟩⟩
    obtain ⟨v, h1, h2⟩ := r.getD hd
    have := y xs hs
    rw [h1] at this
    cases this
    exact h2.mono le.fz le.op
  stop := fun i F' H le g hi => ⟨xs, sqT_up g (sqT_mono le.fz h), by rw [r.length]; omega⟩
theorem rangeD_get {lo hi : Int} {i : Nat} {d : D} (h : (rangeD lo hi)[i]? = some d) : d = .int (lo + (i : Nat)) := by
  unfold rangeD at h
  rw [List.getElem?_map] at h
  cases q : (List.range (hi - lo).toNat)[i]? with
  | none => rw [q] at h; cases h
  | some j =>
    rw [q] at h
    have := (List.getElem?_eq_some_iff.mp q).2
    rw [List.getElem_range] at this
    subst this
    cases h
    rfl
theorem rangeD_len (lo hi : Int) : (rangeD lo hi).length = (hi - lo).toNat := by
  unfold rangeD; rw [List.length_map, List.length_range]
theorem walk_rng {K : PySem.W.Frag} {F : FS} (lo hi : Int) : WalkOk K (Itr lo (hi - lo).toNat) F (rangeD lo hi) where
  go := fun i F' H le g h => by
    rw [rangeD_len] at h
    refine ⟨h, fun x H' ⟨e, y⟩ => ⟨F', by rw [e]; exact Step.refl _ _, by rw [e]; exact g, fun d hd => ?_⟩⟩
    rw [rangeD_get hd, y]
    exact .int _
  stop := fun i F' H le g h => by rw [rangeD_len] at h; exact Nat.le_of_eq h.symm

theorem rangeD_rev_get {lo hi : Int} {i : Nat} {d : D} (h : (rangeD lo hi).reverse[i]? = some d) : d = .int (lo + ((hi - lo).toNat : Int) - 1 + (i : Int) * (-1)) := by
  have hi' : i < (rangeD lo hi).length := by have := (List.getElem?_eq_some_iff.mp h).1; rwa [List.length_reverse] at this
  rw [List.getElem?_reverse hi'] at h
  rw [rangeD_get h, rangeD_len]
  rw [rangeD_len] at hi'
  congr 1
  omega
theorem walk_rrng {K : PySem.W.Frag} {F : FS} (lo hi : Int) : WalkOk K (Itc (lo + (((hi - lo).toNat : Nat) : Int) - 1) (-1) (hi - lo).toNat) F (rangeD lo hi).reverse where
  go := fun i F' H le g h => by
    rw [List.length_reverse, rangeD_len] at h
    refine ⟨h, fun x H' ⟨e, y⟩ => ⟨F', by rw [e]; exact Step.refl _ _, by rw [e]; exact g, fun d hd => ?_⟩⟩
    rw [rangeD_rev_get hd, y]
    exact .int _
  stop := fun i F' H le g h => by rw [List.length_reverse, rangeD_len] at h; exact Nat.le_of_eq h.symm
theorem enumD_len : ∀ (n : Nat) (ds : List D), (enumD n ds).length = ds.length
  | _, [] => rfl
  | n, d :: ds => congrArg Nat.succ (enumD_len (n + 1) ds)
theorem enumD_get : ∀ {n : Nat} {ds : List D} {i : Nat} {d : D}, (enumD n ds)[i]? = some d → ∃ y, ds[i]? = some y ∧ d = .tup [.int ((n + i : Nat) : Int), y]
  | _, [], _, _, h => by simp [enumD] at h
  | n, x :: ds, 0, d, h => by simp [enumD] at h; exact ⟨x, rfl, by rw [← h]; simp⟩
  | n, x :: ds, i + 1, d, h => by
    obtain ⟨y, h1, h2⟩ := enumD_get (n := n + 1) (i := i) (by simpa [enumD] using h)
    exact ⟨y, by simpa using h1, by rw [h2, show n + 1 + i = n + (i + 1) by omega]⟩
theorem zipD_len : ∀ xs ys : List D, (zipD xs ys).length = min xs.length ys.length
  | [], ys => by simp [zipD]
  | x :: xs, [] => by simp [zipD]
  | x :: xs, y :: ys => by simp only [zipD, List.length_cons, zipD_len xs ys]; omega
theorem zipD_get : ∀ {xs ys : List D} {i : Nat} {d : D}, (zipD xs ys)[i]? = some d → ∃ x y, xs[i]? = some x ∧ ys[i]? = some y ∧ d = .tup [x, y]
  | [], _, _, _, h => by simp [zipD] at h
  | x :: xs, [], _, _, h => by simp [zipD] at h
  | x :: xs, y :: ys, 0, d, h => by simp [zipD] at h; exact ⟨x, y, rfl, rfl, h.symm⟩
  | x :: xs, y :: ys, i + 1, d, h => by
    obtain ⟨a, b, h1, h2, h3⟩ := zipD_get (xs := xs) (ys := ys) (i := i) (by simpa [zipD] using h)
    exact ⟨a, b, by simpa using h1, by simpa using h2, h3⟩
/-- a new pair at each turn -/
theorem pair_go {K : PySem.W.Frag} {F : FS} {H : Hp} {x y : V} {d e : D} (g : Good F H) (rx : Rep K F x d) (ry : Rep K F y e) {T : Addr} {o : Obj} (ho : o.dict = none) (hT : H T = none) :
    ∃ F', Step F H F' (upd H T (.frz o (.tup [x, y]))) ∧ Good F' (upd H T (.frz o (.tup [x, y]))) ∧ Rep K F' (.ref T) (.tup [d, e]) :=
  ⟨F.put T (.frz o (.tup [x, y])), Step.new g hT, g.new hT, .tup (.inl (.inr ⟨o, by show upd _ _ _ _ = _; exact upd_same⟩)) (.inl ⟨o, _, by show upd _ _ _ _ = _; exact upd_same, ho⟩) (.cons (rx.put (g.nn hT).1) (.cons (ry.put (g.nn hT).1) .nil))⟩
theorem sqB_of {K : PySem.W.Frag} {F F' : FS} {H : Hp} {b : Bool} {a : Addr} {xs : List V} (h : SqB b K F.fz a xs) (le : F.Le F') (g : Good F' H) : SqB b K H a xs := by
  cases b with
  | true => exact sqT_up g (sqT_mono le.fz h)
  | false => exact sqL_up g (sqL_mono le.fz h)
theorem walk_enumN {K : PySem.W.Frag} {F : FS} {a : Addr} {xs : List V} {ds : List D} (b : Bool) (h : SqB b K F.fz a xs) (r : RepL K F xs ds) : WalkOk K (IteN b K a) F (enumD 0 ds) where
  go := fun i F' H le g hi => by
    rw [enumD_len] at hi
    have hs : SqB b K H a xs := sqB_of h le g
    have hx : i < xs.length := by rw [r.length]; exact hi
    refine ⟨⟨xs, xs[i], hs, List.getElem?_eq_getElem hx⟩, fun v H' ⟨T, x, o, ev, ho, hT, e, y⟩ => ?_⟩
    subst ev e
    obtain ⟨u, h1, h2⟩ := r.getD (List.getElem?_eq_getElem hi)
    have y' := y xs hs
    rw [h1] at y'
    cases y'
    obtain ⟨F2, s2, g2, r2⟩ := pair_go g (.int (i : Nat)) (h2.mono le.fz le.op) ho hT
    refine ⟨F2, s2, g2, fun d hd => ?_⟩
    obtain ⟨z, z1, z2⟩ := enumD_get hd
    rw [List.getElem?_eq_getElem hi] at z1
    cases z1
    rw [z2, Nat.zero_add]
    exact r2
  stop := fun i F' H le g hi => by rw [enumD_len] at hi; exact ⟨xs, sqB_of h le g, by rw [r.length]; omega⟩
theorem walk_zipN {K : PySem.W.Frag} {F : FS} {a c : Addr} {xs ys : List V} {ds es : List D} (b : Bool) (h : SqB b K F.fz a xs) (h' : SqB b K F.fz c ys) (r : RepL K F xs ds) (r' : RepL K F ys es) : WalkOk K (ItzN b K a c) F (zipD ds es) where
  go := fun i F' H le g hi => by
    rw [zipD_len] at hi
    have hs : SqB b K H a xs := sqB_of h le g
    have hs' : SqB b K H c ys := sqB_of h' le g
    have hi1 : i < ds.length := by omega
    have hi2 : i < es.length := by omega
    obtain ⟨u, h1, h2⟩ := r.getD (List.getElem?_eq_getElem hi1)
    obtain ⟨u', h1', h2'⟩ := r'.getD (List.getElem?_eq_getElem hi2)
    refine ⟨⟨xs, ys, u, u', hs, hs', h1, h1'⟩, fun v H' ⟨T, x, x', o, ev, ho, hT, e, y, y'⟩ => ?_⟩
    subst ev e
    have z1 := y xs hs
    rw [h1] at z1
    cases z1
    have z2 := y' ys hs'
    rw [h1'] at z2
    cases z2
    obtain ⟨F2, s2, g2, r2⟩ := pair_go g (h2.mono le.fz le.op) (h2'.mono le.fz le.op) ho hT
    refine ⟨F2, s2, g2, fun d hd => ?_⟩
    obtain ⟨p, q, e1, e2, e3⟩ := zipD_get hd
    rw [List.getElem?_eq_getElem hi1] at e1
    rw [List.getElem?_eq_getElem hi2] at e2
    cases e1; cases e2
    rw [e3]
    exact r2
  stop := fun i F' H le g hi => by
    rw [zipD_len] at hi
    exact ⟨xs, ys, sqB_of h le g, sqB_of h' le g, by rw [r.length, r'.length]; omega⟩

section
variable {X : Cx} {tg e : Expr} {pos p : Pos}
/-- a list, the script, a tuple -/
theorem pi_seqD {tl : TE} (hl : PE X e tl) : PI X tg e (fun σ H R => tl σ H fun x H1 => ∃ a, x = .ref a ∧ (((∃ xs, SqL X.K H1 a xs) ∧ R (Itl X.K a) H1) ∨ ((∃ xs, SqT X.K H1 a xs) ∧ R (Itt X.K a) H1))) := by
  refine ⟨fun pins s σ H R I h => ?_⟩
  refine thn (hl.run pins s σ H _ I h) fun v s1 ⟨x, H1, I1, r1, q1⟩ => ?_
  obtain ⟨a, e, q⟩ := q1
  subst e
  cases r1
  rcases q with ⟨⟨xs, hq⟩, q⟩ | ⟨⟨xs, hq⟩, q⟩
  · obtain ⟨its, rv, p, hz⟩ := I1.list hq
    refine wpAny_pyIter_list p.isList ?_
    refine ⟨s1.heap.objs.size, [s1.heap.objs.size], _, _, H1, rfl, I1.kept (t' := s1.toks) fun b o e => Heap.get?_push_of_some _ e, turn_list a _, ⟨_, Heap.get?_push_size _ rfl, rfl, rfl⟩, fun b hb => ?_, q⟩
    have e : b = s1.heap.objs.size := by simpa using hb
    subst e
    exact I1.fpOk (Nat.le_refl _) (I1.hok.fresh (Nat.le_refl _))
  · obtain ⟨its, rv, p, hz⟩ := I1.tuple hq
    refine wpAny_pyIter_tuple (show s1.heap.IsTuple a its.toArray from p) ?_
    refine ⟨s1.heap.objs.size, [s1.heap.objs.size], _, _, H1, rfl, I1.kept (t' := s1.toks) fun b o e => Heap.get?_push_of_some _ e, turn_tuple a _, ⟨_, Heap.get?_push_size _ rfl, rfl, rfl⟩, fun b hb => ?_, q⟩
    have e : b = s1.heap.objs.size := by simpa using hb
    subst e
    exact I1.fpOk (Nat.le_refl _) (I1.hok.fresh (Nat.le_refl _))
theorem pid_seq {m : DE} (he : PE X e (tD X.K m)) (mn : MonoE m) : PI X tg e (tDI X.K fun ε Q => m ε fun d => match d with | .lst ds => Q ds | .tup ds => Q ds | .scr ns => Q (ns.map D.int) | _ => False) := by
  refine (pi_seqD he).of fun σ H R ⟨F0, H0, F, ε, r, q⟩ => tD_bind r mn q fun d v H1 F1 q1 R1 t1 rx => ?_
  split at q1
  · cases rx with | lst h r => exact ⟨_, rfl, .inl ⟨⟨_, SqL.of (R1.good.fz _ _ h)⟩, q1 _ _ _ t1 R1.good (walk_list h r)⟩⟩
  · cases rx with | tup h _ r => exact ⟨_, rfl, .inr ⟨⟨_, sqT_up R1.good h⟩, q1 _ _ _ t1 R1.good (walk_tup h r)⟩⟩
  · cases rx with | scr h => exact ⟨_, rfl, .inl ⟨⟨_, sqL_up R1.good h⟩, q1 _ _ _ t1 R1.good (walk_scr h)⟩⟩
  · exact q1.elim

theorem itc_one {lo : Int} {n : Nat} : Itc lo 1 n = Itr lo n := by
  unfold Itc Itr
  congr 1
  funext i H x H'
  rw [Int.mul_one]
theorem range_itA {pins : List (Addr × Obj)} {σ : L2.St} {H : Hp} {s : Shared} {R : It → Hp → Prop} {E : Value → Shared → Prop} {lo hi : Int} {t u v : Tok} {tk : Nat} (I : Inv X pins σ H s)
    (q : R (Itr lo (hi - lo).toNat) H) : wpAny (model X.prog X.w) X.A (pyIter (.ref s.heap.objs.size)) (PIE X pins σ tg R) E { s with heap := s.heap.push { cls := .type "range", data := .fields #[.int lo t, .int hi u, .int 1 v] }, toks := tk } := by
  have I1 : Inv X pins σ H { s with heap := s.heap.push { cls := .type "range", data := .fields #[.int lo t, .int hi u, .int 1 v] }, toks := tk } := I.kept fun b o e => Heap.get?_push_of_some _ e
  have e1 : lo + ((0 : Nat) : Int) * 1 = lo := by simp
  have e2 : (((hi - lo).toNat : Nat) : Int) - ((0 : Nat) : Int) = Builtin.Range.rangeSize lo hi 1 := by rw [rangeSize_one]; split <;> omega
  by_cases hs : Builtin.Range.small lo hi 1 = true
  · refine wpAny_pyIter_range (IsRange.new ..) hs ?_
    refine ⟨(s.heap.push { cls := .type "range", data := .fields #[.int lo t, .int hi u, .int 1 v] }).objs.size, [(s.heap.push { cls := .type "range", data := .fields #[.int lo t, .int hi u, .int 1 v] }).objs.size], _, _, H, rfl,
      I1.kept (t' := tk) fun b o e => Heap.get?_push_of_some _ e, turn_range _ lo (hi - lo).toNat, ?_, fun b hb => ?_, q⟩
    · show IsRangeIter _ _ (lo + ((0 : Nat) : Int) * 1) ((((hi - lo).toNat : Nat) : Int) - ((0 : Nat) : Int)) 1
      rw [e1, e2]
      exact Heap.get?_push_size _ rfl
    · have e : b = (s.heap.push { cls := .type "range", data := .fields #[.int lo t, .int hi u, .int 1 v] }).objs.size := by simpa using hb
      subst e
      exact I1.fpOk (Nat.le_refl _) (I1.hok.fresh (Nat.le_refl _))
  · refine wpAny_pyIter_longrange (IsRange.new ..) (by simpa using hs) ?_
    refine ⟨(s.heap.push { cls := .type "range", data := .fields #[.int lo t, .int hi u, .int 1 v] }).objs.size, [(s.heap.push { cls := .type "range", data := .fields #[.int lo t, .int hi u, .int 1 v] }).objs.size], _, _, H, rfl,
      I1.kept (t' := tk) fun b o e => Heap.get?_push_of_some _ e, turn_long _ lo 1 (hi - lo).toNat, ?_, fun b hb => ?_, by rw [itc_one]; exact q⟩
    · show IsLongIter _ _ (lo + ((0 : Nat) : Int) * 1) ((((hi - lo).toNat : Nat) : Int) - ((0 : Nat) : Int)) 1
      rw [e1, e2]
      exact Heap.get?_push_size _ rfl
    · have e : b = (s.heap.push { cls := .type "range", data := .fields #[.int lo t, .int hi u, .int 1 v] }).objs.size := by simpa using hb
      subst e
      exact I1.fpOk (Nat.le_refl _) (I1.hok.fresh (Nat.le_refl _))
theorem star_cons {e : Expr} {es : List Expr} {env : Env} (h : ∀ t p, e ≠ .Starred t p) : starEach (e :: es) env = (false, eval e env) :: starEach es env := by
  cases e <;> first | rfl | exact absurd rfl (h _ _)
theorem star_plain {es : List Expr} {env : Env} {pos : Pos} (h : ∀ e ∈ es, ∀ t p, e ≠ Expr.Starred t p) : (backTo pos (starEach es env)).any (·.1) = false := by
  induction es with
  | nil => rfl
  | cons e es ih =>
    rw [star_cons (h e List.mem_cons_self)]
    show (false || (backTo pos (starEach es env)).any (·.1)) = false
    rw [ih fun e he => h e (List.mem_cons_of_mem _ he)]
    rfl
theorem pid_rng1 {a : Expr} {m : DE} (hg : Gl X "range") (hm : X.mg "range" = none) (ha : PE X a (tD X.K m)) (mn : MonoE m) (hs : ∀ t p, a ≠ .Starred t p) :
    PI X tg (.Call (.Name "range" p) [a] [] pos) (tDI X.K fun ε Q => m ε fun d => match d with | .int n => Q (rangeD 0 n) | _ => False) := by
  have hst : starEach [a] X.env = [(false, eval a X.env)] := star_cons hs
  have hpa := pa_cons ha pa_nil hst
  refine ⟨fun pins s σ H R I ⟨F0, H0, F, ε, r, q⟩ => ?_⟩
  refine Call_ (ld_blt I hg hm boot_range (PyProof.Rows.callWith_type1 (thn (hpa.run pos pins s σ H (fun vs H1 => ∃ j : Int, vs = [.int j] ∧ R (Itr 0 (j - 0).toNat) H1) I ?_) fun us s1 ⟨vs, H1, I1, r1, q1⟩ => ?_) hst rfl))
  · exact tD_bind r mn q fun d v H1 F1 q1 R1 t1 rx => by
      show ∃ j : Int, [v] = [V.int j] ∧ _
      split at q1
      · cases rx
        exact ⟨_, rfl, q1 _ _ _ t1 R1.good (walk_rng 0 _)⟩
      · exact q1.elim
  · obtain ⟨j, e, q⟩ := q1
    subst e
    cases r1 with
    | cons r rr =>
      cases rr
      obtain ⟨t, rfl⟩ := r
      exact call_range_1 (range_itA I1 q)
theorem pid_rng2 {a b : Expr} {m m' : DE} (hg : Gl X "range") (hm : X.mg "range" = none) (ha : PE X a (tD X.K m)) (hb : PE X b (tD X.K m')) (mn : MonoE m) (mn' : MonoE m') (hs : ∀ t p, a ≠ .Starred t p) (hs' : ∀ t p, b ≠ .Starred t p) :
    PI X tg (.Call (.Name "range" p) [a, b] [] pos) (tDI X.K fun ε Q => m ε fun x => m' ε fun y => match x, y with | .int i, .int j => Q (rangeD i j) | _, _ => False) := by
  have hst2 : starEach [b] X.env = [(false, eval b X.env)] := star_cons hs'
  have hst : starEach [a, b] X.env = [(false, eval a X.env), (false, eval b X.env)] := (star_cons hs).trans (by rw [hst2])
  have hpa := pa_cons ha (pa_cons hb pa_nil hst2) (star_cons hs)
  refine ⟨fun pins s σ H R I ⟨F0, H0, F, ε, r, q⟩ => ?_⟩
  refine Call_ (ld_blt I hg hm boot_range (PyProof.Rows.callWith_type1 (thn (hpa.run pos pins s σ H (fun vs H1 => ∃ i j : Int, vs = [.int i, .int j] ∧ R (Itr i (j - i).toNat) H1) I ?_) fun us s1 ⟨vs, H1, I1, r1, q1⟩ => ?_) (by rw [hst, hst2]) (by rw [hst2]; rfl)))
  · refine tD_bind r mn q fun d v H1 F1 q1 R1 t1 rx => tD_bind R1 mn' q1 fun d2 v2 H2 F2 q2 R2 t2 ry => ?_
    show ∃ i j : Int, [v, v2] = [V.int i, V.int j] ∧ _
    split at q2
    · cases rx
      cases ry
      exact ⟨_, _, rfl, q2 _ _ _ (t1.trans R1.good t2) R2.good (walk_rng _ _)⟩
    · exact q2.elim
  · obtain ⟨i, j, e, q⟩ := q1
    subst e
    cases r1 with
    | cons r rr =>
      cases rr with
      | cons r' rr =>
        cases rr
        obtain ⟨t, rfl⟩ := r
        obtain ⟨t', rfl⟩ := r'
        exact call_range_2 (range_itA I1 q)
end

section
variable {X : Cx} {tg e : Expr} {pos p p2 pos2 tpos : Pos} {elts : List Expr} {kk : Nat}
theorem pid_enum {a : Expr} {m : DE} (hg : Gl X "enumerate") (hm : X.mg "enumerate" = none) (ha : PE X a (tD X.K m)) (mn : MonoE m) (hs : ∀ t p, a ≠ .Starred t p) :
    PI X (.Tuple elts kk tpos) (.Call (.Name "enumerate" p) [a] [] pos) (tDI X.K fun ε Q => m ε fun d => match d with | .lst ds => Q (enumD 0 ds) | .tup ds => Q (enumD 0 ds) | _ => False) := by
  have hst : starEach [a] X.env = [(false, eval a X.env)] := star_cons hs
  refine (pi_enumN hg hm (pa_cons ha pa_nil hst) hst).of fun σ H R ⟨F0, H0, F, ε, r, q⟩ => tD_bind r mn q fun d v H1 F1 q1 R1 t1 rx => ?_
  split at q1
  · cases rx with | lst h r => exact ⟨false, _, _, rfl, SqL.of (R1.good.fz _ _ h), q1 _ _ _ t1 R1.good (walk_enumN false (SqL.of h) r)⟩
  · cases rx with | tup h _ r => exact ⟨true, _, _, rfl, sqT_up R1.good h, q1 _ _ _ t1 R1.good (walk_enumN true h r)⟩
  · exact q1.elim
theorem pid_zip {a b : Expr} {m m' : DE} (hg : Gl X "zip") (hm : X.mg "zip" = none) (ha : PE X a (tD X.K m)) (hb : PE X b (tD X.K m')) (mn : MonoE m) (mn' : MonoE m') (hs : ∀ t p, a ≠ .Starred t p) (hs' : ∀ t p, b ≠ .Starred t p) :
    PI X (.Tuple elts kk tpos) (.Call (.Name "zip" p) [a, b] [] pos) (tDI X.K fun ε Q => m ε fun x => m' ε fun y => match x, y with | .lst xs, .lst ys => Q (zipD xs ys) | .tup xs, .tup ys => Q (zipD xs ys) | _, _ => False) := by
  have hst2 : starEach [b] X.env = [(false, eval b X.env)] := star_cons hs'
  refine (pi_zipN hg hm (pa_cons ha (pa_cons hb pa_nil hst2) (star_cons hs)) (star_cons hs) (by rw [hst2]; rfl)).of fun σ H R ⟨F0, H0, F, ε, r, q⟩ => tD_bind r mn q fun d v H1 F1 q1 R1 t1 rx => tD_bind R1 mn' q1 fun d2 v2 H2 F2 q2 R2 t2 ry => ?_
  have st := t1.trans R1.good t2
  have rx := rx.step t2
  split at q2
  · cases rx with | lst h r => cases ry with | lst h' r' => exact ⟨false, _, _, _, _, rfl, SqL.of (R2.good.fz _ _ h), SqL.of (R2.good.fz _ _ h'), q2 _ _ _ st R2.good (walk_zipN false (SqL.of h) (SqL.of h') r r')⟩
  · cases rx with | tup h _ r => cases ry with | tup h' _ r' => exact ⟨true, _, _, _, _, rfl, sqT_up R2.good h, sqT_up R2.good h', q2 _ _ _ st R2.good (walk_zipN true h h' r r')⟩
  · exact q2.elim
theorem pid_rrng1 {a : Expr} {m : DE} (hg : Gl X "reversed") (hm : X.mg "reversed" = none) (hg2 : Gl X "range") (hm2 : X.mg "range" = none) (ha : PE X a (tD X.K m)) (mn : MonoE m) (hs : ∀ t p, a ≠ .Starred t p) :
    PI X tg (.Call (.Name "reversed" p) [.Call (.Name "range" p2) [a] [] pos2] [] pos) (tDI X.K fun ε Q => m ε fun d => match d with | .int n => Q (rangeD 0 n).reverse | _ => False) := by
  refine (pi_revW hg hm (prg_1 hg2 hm2 ha (star_cons hs)) (star_cons fun _ _ => by simp)).of fun σ H R ⟨F0, H0, F, ε, r, q⟩ => tD_bind r mn q fun d v H1 F1 q1 R1 t1 rx => ?_
  split at q1
  · cases rx
    exact ⟨_, rfl, q1 _ _ _ t1 R1.good (walk_rrng 0 _)⟩
  · exact q1.elim
theorem pid_rrng2 {a b : Expr} {m m' : DE} (hg : Gl X "reversed") (hm : X.mg "reversed" = none) (hg2 : Gl X "range") (hm2 : X.mg "range" = none) (ha : PE X a (tD X.K m)) (hb : PE X b (tD X.K m')) (mn : MonoE m) (mn' : MonoE m') (hs : ∀ t p, a ≠ .Starred t p) (hs' : ∀ t p, b ≠ .Starred t p) :
    PI X tg (.Call (.Name "reversed" p) [.Call (.Name "range" p2) [a, b] [] pos2] [] pos) (tDI X.K fun ε Q => m ε fun x => m' ε fun y => match x, y with | .int i, .int j => Q (rangeD i j).reverse | _, _ => False) := by
  have hst2 : starEach [b] X.env = [(false, eval b X.env)] := star_cons hs'
  refine (pi_revW hg hm (prg_2 hg2 hm2 ha hb (star_cons hs) (star_cons hs') (by rw [hst2]; rfl)) (star_cons fun _ _ => by simp)).of fun σ H R ⟨F0, H0, F, ε, r, q⟩ => tD_bind r mn q fun d v H1 F1 q1 R1 t1 rx => tD_bind R1 mn' q1 fun d2 v2 H2 F2 q2 R2 t2 ry => ?_
  split at q2
  · cases rx
    cases ry
    exact ⟨_, _, rfl, rfl, q2 _ _ _ (t1.trans R1.good t2) R2.good (walk_rrng _ _)⟩
  · exact q2.elim
end
/-! ### a list comprehension -/
theorem wipe_in {σ : L2.St} {i : Nat} : ∀ {vs : List Nat}, i ∈ vs → i < σ.length → (wipe σ vs)[i]? = some none
  | v :: vs, h, hl => by
    unfold wipe
    by_cases e : v = i
    · subst e
      exact List.getElem?_set_self (by rw [wipe_length]; exact hl)
    · rw [List.getElem?_set_ne e]
      exact wipe_in (by rcases List.mem_cons.mp h with z | z; exact absurd z.symm e; exact z) hl
theorem wipe_same {vs ws : List Nat} {σ σ' : L2.St} (h : Sam ws (wipe σ vs) σ') (hw : ∀ i ∈ ws, i ∈ vs) : wipe σ' vs = wipe σ vs := by
  apply List.ext_getElem?
  intro i
  have hlen : σ'.length = σ.length := h.len.trans (wipe_length _ _)
  by_cases hi : i ∈ vs
  · by_cases hl : i < σ.length
    · rw [wipe_in hi hl, wipe_in hi (by rw [hlen]; exact hl)]
    · rw [List.getElem?_eq_none (by rw [wipe_length, hlen]; omega), List.getElem?_eq_none (by rw [wipe_length]; omega)]
  · rw [wipe_out hi, h.at_ i fun z => hi (hw i z)]
section
variable {K : PySem.W.Frag}
/-- what a new list comes to -/
theorem lc_read {mi : DA} {t : CT} {c e : DE} {vs : List Nat} {σ : L2.St} {H : Hp} {Q : VK} {tt : TT} (mni : MonoA mi) (mnc : MonoE c) (mne : MonoE e) (hw : ∀ i ∈ t.slots, i ∈ vs)
    (htt : ∀ σ H Q, tDT K (mT c) σ H Q → tt σ H Q)
    (h : tDF K (fun ε Q => mi ε fun ds => loopE (bindT t) c e (wipeE ε vs) ds [] Q) σ H Q) : tLc (tDI K mi) (tDG K t.slots (bindT t)) tt (tD K e) vs σ H Q := by
  obtain ⟨F0, H0, F, ε, R, q⟩ := h
  refine ⟨F0, H0, F, ε, R, mni _ _ _ (fun ds q J Hs Fs ts gs wk D hD => ?_) q⟩
  have Rs := R.next ts gs
  have q : loopE (bindT t) c e (wipeE ε vs) ds [] (FinF K Fs Hs Q) := loopE_mono (bindT_mono t) mnc mne _ ds [] _ _ (fun d ⟨es, e, f⟩ => ⟨es, e, fun p xs H' F' t' g hp h1 h2 h3 r => f p xs H' F' (ts.trans gs t') g (by
      cases z : H p with
      | none => rfl
      | some o =>
        cases z2 : F.op p with
        | none => rw [ts.hp p o z z2] at hp; cases hp
        | some k => 
          obtain ⟨_, u, hu, _⟩ := gs.op p k (ts.op p k z2)
          rw [hu] at hp; cases hp) h1 h2 h3 r⟩) q
  refine ⟨fun i m H' => m = ds.length - i ∧ i ≤ ds.length ∧ ∃ F' acc xs, Step Fs Hs F' H' ∧ Good F' H' ∧ H' D = some (.lst xs) ∧ F'.fz D = none ∧ F'.op D = none ∧ RepL K F' xs acc ∧ loopE (bindT t) c e (wipeE ε vs) (ds.drop i) acc (FinF K Fs Hs Q),
    ⟨ds.length, rfl, Nat.zero_le _, Fs, [], [], Step.own hD, gs.own (gs.nn hD).1 (gs.nn hD).2, upd_same, (gs.nn hD).1, (gs.nn hD).2, .nil, by simpa using q⟩, ?_⟩
  rintro i m H' ⟨rfl, hi, F', acc, xs, st, g, hL, hf, ho, r, q⟩
  by_cases hlt : i < ds.length
  · obtain ⟨w1, w2⟩ := wk.go i F' H' st.le g hlt
    refine .inr ⟨w1, fun H2 => ∃ F2 acc xs, Step Fs Hs F2 H2 ∧ Good F2 H2 ∧ H2 D = some (.lst xs) ∧ F2.fz D = none ∧ F2.op D = none ∧ RepL K F2 xs acc ∧ loopE (bindT t) c e (wipeE ε vs) (ds.drop (i + 1)) acc (FinF K Fs Hs Q),
      fun H2 z => ⟨ds.length - (i + 1), by omega, rfl, hlt, z⟩, fun x H2 y => ?_⟩
    obtain ⟨F2, s2, g2, rx⟩ := w2 x H2 y
    have rx := rx _ (List.getElem?_eq_getElem hlt)
    rw [List.drop_eq_getElem_cons hlt] at q
    unfold loopE at q
    have keepD : ∀ {Fa Ha Fb Hb} (s : Step Fa Ha Fb Hb), Ha D = some (.lst xs) → Fa.fz D = none → Fa.op D = none → Hb D = some (.lst xs) ∧ Fb.fz D = none ∧ Fb.op D = none := fun s h1 h2 h3 =>
      ⟨s.hp _ _ h1 h3, s.nf _ h2 h3 (by rw [h1]; simp)⟩
    obtain ⟨d1, d2, d3⟩ := keepD s2 hL hf ho
    have st2 := st.trans g s2
    have R2 : Rp K F0 H0 F2 H2 (wipe σ vs) (wipeE ε vs) := (Rs.next st2 g2).wipe vs
    refine ⟨F0, H0, F2, _, _, R2, rx, bindT_mono t _ _ _ _ (fun ε3 q3 σ3 R3 sm => ⟨wipe_same sm hw, htt _ _ _ ⟨F0, H0, F2, ε3, R3, mnc _ _ _ (fun k q4 => ?_) q3⟩⟩) q⟩
    split at q4
    · refine ⟨true, rfl, fun H4 F4 s4 g4 => ?_⟩
      refine iteT ?_
      obtain ⟨e1, e2, e3⟩ := keepD s4 d1 d2 d3
      refine tD_bind (R3.next s4 g4) mne q4 fun y v H5 F5 ⟨hz, q5⟩ R5 t5 ry => ?_
      obtain ⟨f1, f2, f3⟩ := keepD t5 e1 e2 e3
      have st5 := (st2.trans g2 s4).trans g4 t5
      have hs5 : Step Fs Hs F5 (upd H5 D (.lst (xs ++ [v]))) := ⟨st5.fz, st5.op, fun a o e n => by rw [upd_ne (ne_of_none e hD)]; exact st5.hp a o e n, st5.nf⟩
      exact ⟨xs, f1, by rw [r.length]; exact hz, F5, acc ++ [y], xs ++ [v], hs5, R5.good.own f2 f3, upd_same, f2, f3, ((r.step (s2.trans g2 s4)).step t5).append (.one ry), q5⟩
    · refine ⟨false, rfl, fun H4 F4 s4 g4 => ?_⟩
      refine iteF ?_
      obtain ⟨e1, e2, e3⟩ := keepD s4 d1 d2 d3
      exact ⟨F4, acc, xs, st2.trans g2 s4, g4, e1, e2, e3, r.step (s2.trans g2 s4), q4⟩
    · exact q4.elim
  · have e : i = ds.length := by omega
    subst e
    refine .inl ⟨wk.stop _ F' H' st.le g rfl, ?_⟩
    rw [List.drop_length] at q
    obtain ⟨es, e, f⟩ := (show FinF K Fs Hs Q (.lst acc) from q)
    cases e
    exact f D xs H' F' st g hD hL hf ho r
end

/-! ### statements -/
def Ret (K : PySem.W.Frag) (F0 : FS) (H0 : Hp) (F' : FS) (H' : Hp) (v : V) (s : Slot) : Prop := Good F' H' ∧ Step F0 H0 F' H' ∧ match s with
  | .val d => Rep K F' v d
  | .own ds => ∃ l xs, v = .ref l ∧ H' l = some (.lst xs) ∧ F'.fz l = none ∧ F'.op l = none ∧ H0 l = none ∧ RepL K F' xs ds
  | .non => False
def ends (K : PySem.W.Frag) (F0 : FS) (H0 : Hp) (F : FS) (D : Ends) : DEnds :=
  ⟨fun ε => ∀ σ H F', Rp K F0 H0 F' H σ ε → F.Le F' → D.nx σ H, fun s => ∀ v H F', Ret K F0 H0 F' H v s → D.rt v H, fun ε => ∀ σ H F', Rp K F0 H0 F' H σ ε → F.Le F' → D.bk σ H, fun ε => ∀ σ H F', Rp K F0 H0 F' H σ ε → F.Le F' → D.ct σ H⟩
def tDS (K : PySem.W.Frag) (m : DS) : TS := fun D σ H => ∃ F0 H0 F ε, Rp K F0 H0 F H σ ε ∧ m (ends K F0 H0 F D) ε
theorem ends_le {K : PySem.W.Frag} {F0 : FS} {H0 : Hp} {F F' : FS} {D : Ends} (h : F.Le F') : (ends K F0 H0 F D).Le (ends K F0 H0 F' D) :=
  ⟨fun ε q σ H F2 R le => q σ H F2 R (h.trans le), fun s q => q, fun ε q σ H F2 R le => q σ H F2 R (h.trans le), fun ε q σ H F2 R le => q σ H F2 R (h.trans le)⟩
section
variable {X : Cx} {st : Stmt} {rest : List Stmt} {e : Expr} {pos : Pos}
theorem psd_nil : PSs X [] (tDS X.K fun E ε => E.nx ε) := pss_nil.of fun D σ H ⟨F0, H0, F, ε, R, q⟩ => q σ H F R (FS.Le.refl F)
theorem psd_cons {m m' : DS} (h1 : PS X st (tDS X.K m)) (h2 : PSs X rest (tDS X.K m')) (mn : MonoS m) (mn' : MonoS m') : PSs X (st :: rest) (tDS X.K fun E ε => m ⟨m' E, E.rt, E.bk, E.ct⟩ ε) := by
  refine (pss_cons h1 h2).of fun D σ H ⟨F0, H0, F, ε, R, q⟩ => ⟨F0, H0, F, ε, R, mn ⟨m' (ends X.K F0 H0 F D), (ends X.K F0 H0 F D).rt, (ends X.K F0 H0 F D).bk, (ends X.K F0 H0 F D).ct⟩ _ _ ⟨fun ε' q' σ' H' F' R' le => ?_, fun s q => q, fun _ q => q, fun _ q => q⟩ q⟩
  exact ⟨F0, H0, F', ε', R', mn' _ _ _ (ends_le le) q'⟩
/-- a list of ours is frozen, then the rest -/
theorem psd_frz {m : DS} (i : Nat) (h : PSs X rest (tDS X.K m)) (mn : MonoS m) : PSs X rest (tDS X.K fun E ε => match ε[i]? with | some (.own ds) => m E (ε.set i (.val (.lst ds))) | some (.val _) => m E ε | _ => False) := by
  refine h.of fun D σ H ⟨F0, H0, F, ε, R, q⟩ => ?_
  dsimp only at q
  split at q
  · rename_i ds e
    obtain ⟨F', R', le⟩ := R.freeze e
    exact ⟨F0, H0, F', _, R', mn _ _ _ (ends_le le) q⟩
  · exact ⟨F0, H0, F, ε, R, q⟩
  · exact q.elim
theorem psd_opn {m : DS} (i : Nat) (h : PSs X rest (tDS X.K m)) (mn : MonoS m) : PSs X rest (tDS X.K fun E ε => match ε[i]? with | some (.own ds) => (∃ ns : List Int, ds = ns.map D.int ∧ ∀ n ∈ ns, 0 ≤ n) ∧ m E (ε.set i (.val (.opq 0))) | _ => False) := by
  refine h.of fun D σ H ⟨F0, H0, F, ε, R, q⟩ => ?_
  dsimp only at q
  split at q
  · rename_i ds e
    obtain ⟨⟨ns, rfl, hn⟩, q⟩ := q
    obtain ⟨F', R', le⟩ := R.opaq e hn
    exact ⟨F0, H0, F', _, R', mn _ _ _ (ends_le le) q⟩
  · exact q.elim
/-- target = value -/
theorem asg_read {K : PySem.W.Frag} {m : DE} {t : CT} (mn : MonoE m) {D : Ends} {σ : L2.St} {H : Hp} (h : tDS K (fun E ε => m ε fun d => bindT t d ε E.nx) D σ H) : tAsg (tD K m) (tDG K t.slots (bindT t)) D σ H := by
  obtain ⟨F0, H0, F, ε, R, q⟩ := h
  exact tD_bind R mn q fun d v H1 F1 q1 R1 t1 r => ⟨F0, H0, F1, ε, d, R1, r, bindT_mono t _ _ _ _ (fun ε' q2 σ' R' _ => q2 σ' H1 F1 R' t1.le) q1⟩
theorem psd_for {it : Expr} {tg : Expr} {body : List Stmt} {mi : DA} {t : CT} {b : DS} (hp : PassesOwn (model X.prog X.w) X.A X.env X.xe) (hc : X.calm = true) (hi : PI X tg it (tDI X.K mi)) (hg : PG X tg (tDG X.K t.slots (bindT t))) (hb : PSs X body (tDS X.K b))
    (mni : MonoA mi) (mnb : MonoS b) (hs : ∀ x, foldedSetIterable it X.env x = pure x) : PS X (.For tg it body [] pos) (tDS X.K fun E ε => mi ε fun ds => loopS (bindT t) b ds E ε) := by
  refine (ps_for hp hc hi hg hb hs).of fun D σ H ⟨F0, H0, F, ε, R, q⟩ => ?_
  refine ⟨F0, H0, F, ε, R, mni _ _ _ (fun ds q J Hs Fs ts gs wk => ?_) q⟩
  have Rs := R.next ts gs
  refine ⟨fun i m σ H => m = ds.length - i ∧ i ≤ ds.length ∧ ∃ F' ε', Rp X.K F0 H0 F' H σ ε' ∧ Fs.Le F' ∧ loopS (bindT t) b (ds.drop i) (ends X.K F0 H0 F' D) ε',
    ⟨_, rfl, Nat.zero_le _, Fs, ε, Rs, FS.Le.refl _, loopS_mono (bindT_mono t) mnb _ _ _ _ (ends_le ts.le) (by simpa using q)⟩, ?_⟩
  rintro i m σ1 H1 ⟨rfl, hi, F1, ε1, R1, le1, q1⟩
  by_cases hlt : i < ds.length
  · obtain ⟨w1, w2⟩ := wk.go i F1 H1 le1 R1.good hlt
    refine .inr ⟨w1, fun σ2 H2 => ∃ F2 ε2, Rp X.K F0 H0 F2 H2 σ2 ε2 ∧ Fs.Le F2 ∧ loopS (bindT t) b (ds.drop (i + 1)) (ends X.K F0 H0 F2 D) ε2,
      fun σ2 H2 z => ⟨ds.length - (i + 1), by omega, rfl, hlt, z⟩, fun x H2 y => ?_⟩
    obtain ⟨F2, s2, g2, rx⟩ := w2 x H2 y
    have rx := rx _ (List.getElem?_eq_getElem hlt)
    rw [List.drop_eq_getElem_cons hlt] at q1
    unfold loopS at q1
    refine ⟨F0, H0, F2, ε1, _, R1.next s2 g2, rx, bindT_mono t _ _ _ _ (fun ε3 q3 σ3 R3 _ => ⟨F0, H0, F2, ε3, R3, mnb ⟨loopS (bindT t) b (ds.drop (i + 1)) (ends X.K F0 H0 F1 D), (ends X.K F0 H0 F1 D).rt, (ends X.K F0 H0 F1 D).nx, loopS (bindT t) b (ds.drop (i + 1)) (ends X.K F0 H0 F1 D)⟩ _ _ ⟨?_, fun s q => q, ?_, ?_⟩ q3⟩) q1⟩
    · exact fun ε4 q4 σ4 H4 F4 R4 le4 => ⟨F4, ε4, R4, (le1.trans s2.le).trans le4, loopS_mono (bindT_mono t) mnb _ _ _ _ (ends_le (s2.le.trans le4)) q4⟩
    · exact fun ε4 q4 σ4 H4 F4 R4 le4 => q4 σ4 H4 F4 R4 (s2.le.trans le4)
    · exact fun ε4 q4 σ4 H4 F4 R4 le4 => ⟨F4, ε4, R4, (le1.trans s2.le).trans le4, loopS_mono (bindT_mono t) mnb _ _ _ _ (ends_le (s2.le.trans le4)) q4⟩
  · have e : i = ds.length := by omega
    subst e
    rw [List.drop_length] at q1
    exact .inl ⟨wk.stop _ F1 H1 le1 R1.good rfl, q1 σ1 H1 F1 R1 (FS.Le.refl _)⟩
theorem psd_while {c : Expr} {body : List Stmt} {mc : DE} {b : DS} (hp : PassesOwn (model X.prog X.w) X.A X.env X.xe) (hc : PT X c (tDT X.K (mT mc))) (hb : PSs X body (tDS X.K b)) (mnc : MonoE mc) (mnb : MonoS b) :
    PS X (.While c body [] pos) (tDS X.K fun E ε => ∃ n, whileS mc b n E ε) := by
  refine (ps_while hp hc hb).of fun D σ H ⟨F0, H0, F, ε, R, n, q⟩ => ?_
  refine ⟨fun m σ H => ∃ F' ε', Rp X.K F0 H0 F' H σ ε' ∧ whileS mc b m (ends X.K F0 H0 F' D) ε', ⟨n, F, ε, R, q⟩, ?_⟩
  rintro m σ1 H1 ⟨F1, ε1, R1, q1⟩
  cases m with
  | zero => exact q1.elim
  | succ m =>
    unfold whileS at q1
    refine ⟨F0, H0, F1, ε1, R1, mnc _ _ _ (fun k q2 => ?_) q1⟩
    split at q2
    · refine ⟨true, rfl, fun H2 F2 s2 g2 => ?_⟩
      refine iteT ?_
      refine ⟨fun σ3 H3 => ∃ F3 ε3, Rp X.K F0 H0 F3 H3 σ3 ε3 ∧ whileS mc b m (ends X.K F0 H0 F3 D) ε3, fun σ3 H3 z => ⟨m, Nat.lt_succ_self m, z⟩, F0, H0, F2, ε1, R1.next s2 g2,
        mnb ⟨whileS mc b m (ends X.K F0 H0 F1 D), (ends X.K F0 H0 F1 D).rt, (ends X.K F0 H0 F1 D).nx, whileS mc b m (ends X.K F0 H0 F1 D)⟩ _ _ ⟨?_, fun s q => q, ?_, ?_⟩ q2⟩
      · exact fun ε4 q4 σ4 H4 F4 R4 le4 => ⟨F4, ε4, R4, whileS_mono mnc mnb m _ _ _ (ends_le (s2.le.trans le4)) q4⟩
      · exact fun ε4 q4 σ4 H4 F4 R4 le4 => q4 σ4 H4 F4 R4 (s2.le.trans le4)
      · exact fun ε4 q4 σ4 H4 F4 R4 le4 => ⟨F4, ε4, R4, whileS_mono mnc mnb m _ _ _ (ends_le (s2.le.trans le4)) q4⟩
    · refine ⟨false, rfl, fun H2 F2 s2 g2 => ?_⟩
      refine iteF ?_
      exact q2 σ1 H2 F2 (R1.next s2 g2) s2.le
    · exact q2.elim
theorem psd_if {c : Expr} {a b : List Stmt} {mc : DE} {ma mb : DS} (hc : PT X c (tDT X.K (mT mc))) (ha : PSs X a (tDS X.K ma)) (hb : PSs X b (tDS X.K mb)) (mnc : MonoE mc) (mna : MonoS ma) (mnb : MonoS mb) :
    PS X (.If c a b pos) (tDS X.K fun E ε => mc ε fun x => match x with | .bl true => ma E ε | .bl false => mb E ε | _ => False) := by
  refine (ps_if hc ha hb).of fun D σ H ⟨F0, H0, F, ε, R, q⟩ => ⟨F0, H0, F, ε, R, mnc _ _ _ (fun k q1 => ?_) q⟩
  split at q1
  · refine ⟨true, rfl, fun H2 F2 s2 g2 => ?_⟩
    refine iteT ?_
    exact ⟨F0, H0, F2, ε, R.next s2 g2, mna _ _ _ (ends_le s2.le) q1⟩
  · refine ⟨false, rfl, fun H2 F2 s2 g2 => ?_⟩
    refine iteF ?_
    exact ⟨F0, H0, F2, ε, R.next s2 g2, mnb _ _ _ (ends_le s2.le) q1⟩
  · exact q1.elim
theorem psd_ret {m : DE} (he : PE X e (tD X.K m)) (mn : MonoE m) : PS X (.Return (some e) pos) (tDS X.K fun E ε => m ε fun d => E.rt (.val d)) :=
  (ps_ret he).of fun D σ H ⟨F0, H0, F, ε, R, q⟩ => tD_bind R mn q fun d v H1 F1 q1 R1 t1 r => q1 v H1 F1 ⟨R1.good, R1.step, r⟩
end
end DL

/-! DL5: that code is the text's (tie), and what follows. -/
namespace DL
open PySem PySem.Spec PyProof.Rows L2

structure TC where
  N : List Str
  sc : Scope
  fn : Str → Bool
/-- the program's defs (name, parameters, whether the last one is keyword-only), the built-in names that it leaves, its constants -/
structure Tab where
  fns : List (Str × List Str × Bool)
  bis : List Str
  cs : List Str
def noStar : Expr → Bool
  | .Starred .. => false
  | _ => true
def noSet : Expr → Bool
  | .Set .. => false
  | _ => true
def noSlice : Expr → Bool
  | .Slice .. => false
  | _ => true
def noSup : Expr → Bool
  | .Call (.Name _ _) [] [] _ => false
  | _ => true
def noComp : Expr → Bool
  | .ListComp .. | .SetComp .. | .DictComp .. => false
  | _ => true
def noTup : Expr → Bool
  | .Tuple .. | .List .. => false
  | _ => true
def plainT : Expr → Bool
  | .UnaryOp .Not _ _ | .BoolOp .. | .IfExp .. | .Compare .. => false
  | _ => true
def isBo : Expr → Bool
  | .BoolOp .. => true
  | _ => false
def nmOk (c : TC) (i : Nat) (x : Str) : Bool := decide (c.N[i]? = some x) && (match c.sc.names.lookup x with | some .local | some .cell | some .free => true | _ => false) && decide (x ≠ "__debug__") && decide (x ≠ "__classdict__")
def nmLoc (c : TC) (i : Nat) (x : Str) : Bool := decide (c.N[i]? = some x) && (match c.sc.names.lookup x with | some .local => true | some .cell => c.fn x | _ => false)
def nmGl (c : TC) (x : Str) : Bool := (match c.sc.names.lookup x with | some .globalImplicit => true | _ => false) && decide (x ≠ "__debug__") && decide (x ≠ "__name__")
def nmBi (T : Tab) (c : TC) (x : Str) : Bool := nmGl c x && decide (x ∈ T.bis)
def tieLit : D → Const → Bool
  | .non, .none => true
  | .bl b, .bool b' => b == b'
  | .int i, .int j => decide (i = j)
  | .str s, .str s' => decide (s = s') && PyData.strOk s
  | _, _ => false
def testB : CE → Expr → Bool
  | .not a, .UnaryOp .Not x _ => testB a x
  | .and a b, .BoolOp .And (x :: y :: r) p => testB a x && (match r with | [] => testB b y | _ => testB b (.BoolOp .And (y :: r) p))
  | .or a b, .BoolOp .Or (x :: y :: r) p => testB a x && (match r with | [] => testB b y | _ => testB b (.BoolOp .Or (y :: r) p))
  | .cmp .., .Compare _ [_] [_] _ => true
  | .lend _ e, x => testB e x
  | _, e => plainT e
mutual
def tieT (c : TC) : CT → Expr → Bool
  | .nm i, .Name x _ => nmLoc c i x
  | .nil, .Tuple [] _ _ => true
  | .cons t r, .Tuple (x :: xs) _ _ => tieT c t x && noStar x && tieTs c r xs
  | _, _ => false
def tieTs (c : TC) : CT → List Expr → Bool
  | .nil, [] => true
  | .cons t r, x :: xs => tieT c t x && noStar x && tieTs c r xs
  | _, _ => false
end
def tieTys (T : Tab) (c : TC) : List Ty → List Expr → Bool
  | [], [] => true
  | t :: ts, .Name y _ :: ys => nmBi T c y && decide (y = Str.ofString t.nm) && tieTys T c ts ys
  | _, _ => false
def ownOf (N : List Str) (vs : List Nat) : List (Str × Nat) := vs.map fun i => (N.getD i "", i)
def TC.blk (c : TC) (scope : Scope) : TC := ⟨c.N, relS scope c.sc, fun x => scope.names.lookup x == some .cell⟩
abbrev TF := TC → Expr → Bool
def kVar (i : Nat) : TF := fun c e => match e with | .Name x _ => nmOk c i x | _ => false
def kLit (d : D) : TF := fun c e => match e with | .Constant k _ _ => tieLit d k | _ => false
def kGlob (T : Tab) (k : Nat) : TF := fun c e => match e with | .Name x _ => nmGl c x && decide (T.cs[k]? = some x) | _ => false
def kTupl (f : TC → List Expr → Bool) : TF := fun c e => match e with | .Tuple xs _ _ => f c xs | _ => false
def kList (f : TC → List Expr → Bool) : TF := fun c e => match e with | .List xs _ => f c xs | _ => false
def kBin (o : Operator) (f g : TF) : TF := fun c e => match e with | .BinOp x op y _ => decide (op = o) && f c x && g c y | _ => false
def kUn (o : UnaryOp) (f : TF) : TF := fun c e => match e with | .UnaryOp op x _ => decide (op = o) && f c x | _ => false
def kCmp1 (o : CmpOp) (f g : TF) : TF := fun c e => match e with | .Compare x [op] [y] _ => decide (op = o) && noSet y && f c x && g c y | _ => false
def kBo (o : BoolOp) (f g : TF) : TF := fun c e => match e with | .BoolOp op (x :: y :: r) p => decide (op = o) && f c x && (match r with | [] => g c y | _ => g c (.BoolOp op (y :: r) p)) | _ => false
def kIte (t : CE) (h f g : TF) : TF := fun c e => match e with | .IfExp z x y _ => testB t z && h c z && f c x && g c y | _ => false
def kIdx (f g : TF) : TF := fun c e => match e with | .Subscript x y _ => noSlice y && f c x && g c y | _ => false
def kSlc (f : TF) (l h : TC → Option Expr → Bool) : TF := fun c e => match e with | .Subscript x (.Slice lo hi none _) _ => f c x && l c lo && h c hi | _ => false
def kLenO (T : Tab) (i : Nat) : TF := fun c e => match e with | .Call (.Name f _) [.Name x _] [] _ => nmBi T c f && decide (f = "len") && nmOk c i x | _ => false
def kIdxO (i : Nat) (g : TF) : TF := fun c e => match e with | .Subscript (.Name x _) y _ => noSlice y && nmOk c i x && g c y | _ => false
def kIsi1 (T : Tab) (t : Ty) (f : TF) : TF := fun c e => match e with | .Call (.Name i _) [x, .Name y _] [] _ => nmBi T c i && decide (i = "isinstance") && noStar x && f c x && nmBi T c y && decide (y = Str.ofString t.nm) | _ => false
def kIsiT (T : Tab) (ts : List Ty) (f : TF) : TF := fun c e => match e with | .Call (.Name i _) [x, .Tuple ys _ _] [] _ => nmBi T c i && decide (i = "isinstance") && noStar x && f c x && tieTys T c ts ys && decide (ts.length ≤ 1000) | _ => false
def kBi (T : Tab) (b : Bi) (f : TC → List Expr → Bool) : TF := fun c e => match e with | .Call (.Name i _) (x :: xs) [] _ => nmBi T c i && decide (i = b.nm) && f c (x :: xs) | _ => false
def kCall1 (T : Tab) (n : Nat) (f : TC → List Expr → Bool) : TF := fun c e => match e with | .Call (.Name x _) (y :: ys) [] _ => nmGl c x && (match T.fns[n]? with | some (m, ps, kw) => decide (x = m) && decide (ps.length = ys.length + 1) && !kw | none => false) && f c (y :: ys) | _ => false
def kCallK (T : Tab) (n : Nat) (k : Str) (f : TC → List Expr → Bool) (h : TF) : TF := fun c e => match e with | .Call (.Name x _) (y :: ys) [⟨some k', z, _⟩] _ => nmGl c x && (match T.fns[n]? with | some (m, ps, kw) => decide (x = m) && decide (ps.length = ys.length + 2) && kw && decide (ps.getLast? = some k) | none => false) && decide (k' = k) && f c (y :: ys) && h c z | _ => false
def kSset (T : Tab) (f : TF) : TF := fun c e => match e with | .Call (.Name i _) [.Call (.Name j _) [x] [] _] [] _ => nmBi T c i && decide (i = "sorted") && nmBi T c j && decide (j = "set") && noStar x && f c x | _ => false
def kMaxD (T : Tab) (d : Int) (f : TF) : TF := fun c e => match e with | .Call (.Name i _) [x] [⟨some k, .Constant (.int d') _ _, _⟩] _ => nmBi T c i && decide (i = "max") && noStar x && decide (k = "default") && decide (d = d') && f c x | _ => false
def kIdxOf (f g : TF) : TF := fun c e => match e with | .Call (.Attribute o m apos) [x] [] pos => decide (m = "index") && noSup o && noStar x && (apos.endLine == pos.line) && f c o && g c x | _ => false
def kLcomp (tk : Expr → Bool) (t : CT) (vs : List Nat) (h : TF) (g : TC → List Expr → Bool) (f : TF) : TF := fun c e => match e with
  | .ListComp elt [⟨tg, iter, ifs, 0⟩] scope _ => blkC c.N c.sc scope (ownOf c.N vs) && (t.slots.all fun i => decide (i ∈ vs)) && tk tg && noSet iter && h c iter && tieT (c.blk scope) t tg && g (c.blk scope) ifs && f (c.blk scope) elt
  | _ => false
def kJoin (f g : TF) : TF := fun c e => match e with | .Call (.Attribute o m apos) [x] [] pos => decide (m = "join") && noSup o && noStar x && (apos.endLine == pos.line) && f c o && g c x | _ => false
def kRng1 (T : Tab) (f : TF) : TF := fun c e => match e with | .Call (.Name i _) [x] [] _ => nmBi T c i && decide (i = "range") && noStar x && f c x | _ => false
def kRng2 (T : Tab) (f g : TF) : TF := fun c e => match e with | .Call (.Name i _) [x, y] [] _ => nmBi T c i && decide (i = "range") && noStar x && noStar y && f c x && g c y | _ => false
def kEnum (T : Tab) (f : TF) : TF := fun c e => match e with | .Call (.Name i _) [x] [] _ => nmBi T c i && decide (i = "enumerate") && noStar x && f c x | _ => false
def kZip (T : Tab) (f g : TF) : TF := fun c e => match e with | .Call (.Name i _) [x, y] [] _ => nmBi T c i && decide (i = "zip") && noStar x && noStar y && f c x && g c y | _ => false
def kRev (T : Tab) (f : TF) : TF := fun c e => match e with | .Call (.Name i _) [x] [] _ => nmBi T c i && decide (i = "reversed") && f c x | _ => false
def isTupE : Expr → Bool
  | .Tuple .. => true
  | _ => false
def tgOk : CI → Expr → Bool
  | .enum _, e | .zip _ _, e => isTupE e
  | _, _ => true
def kEs0 : TC → List Expr → Bool := fun c es => match es with | [] => true | _ => false
def kEs1 (f : TF) (g : TC → List Expr → Bool) : TC → List Expr → Bool := fun c es => match es with | x :: xs => noStar x && f c x && g c xs | _ => false
def kO0 : TC → Option Expr → Bool := fun c e => match e with | none => true | _ => false
def kO1 (f : TF) : TC → Option Expr → Bool := fun c e => match e with | some x => f c x | _ => false
def kC1 (t : CE) (f : TF) : TC → List Expr → Bool := fun c e => match e with | [x] => testB t x && f c x | _ => false
mutual
def tieE (T : Tab) : CE → TF
  | .var i => kVar i
  | .lit d => kLit d
  | .glob k => kGlob T k
  | .tup es => kTupl (tieEs T es)
  | .lst es => kList (tieEs T es)
  | .bin o a b => kBin o.op (tieE T a) (tieE T b)
  | .neg a => kUn .USub (tieE T a)
  | .rep a b => kBin .Mult (tieE T a) (tieE T b)
  | .cat a b => kBin .Add (tieE T a) (tieE T b)
  | .cmp o a b => kCmp1 o.op (tieE T a) (tieE T b)
  | .not a => kUn .Not (tieE T a)
  | .and a b => kBo .And (tieE T a) (tieE T b)
  | .or a b => kBo .Or (tieE T a) (tieE T b)
  | .ite t a b => kIte t (tieE T t) (tieE T a) (tieE T b)
  | .idx a i => kIdx (tieE T a) (tieE T i)
  | .slL a lo hi => kSlc (tieE T a) (tieO T lo) (tieO T hi)
  | .slT a lo hi => kSlc (tieE T a) (tieO T lo) (tieO T hi)
  | .lenO i => kLenO T i
  | .idxO i k => kIdxO i (tieE T k)
  | .isi a [t] => kIsi1 T t (tieE T a)
  | .isi a ts => kIsiT T ts (tieE T a)
  | .bi b es => kBi T b (tieEs T es)
  | .call f es => kCall1 T f (tieEs T es)
  | .callO f es => kCall1 T f (tieEs T es)
  | .lc e t it cnd vs => kLcomp (tgOk it) t vs (tieI T it) (tieC T cnd) (tieE T e)
  | .joinS a b => kJoin (tieE T a) (tieE T b)
  | .lend _ e => tieE T e
  | .sset a => kSset T (tieE T a)
  | .maxD a d => kMaxD T d (tieE T a)
  | .idxOf a b => kIdxOf (tieE T a) (tieE T b)
  | .callK f es k e => kCallK T f k (tieEs T es) (tieE T e)
def tieEs (T : Tab) : CEs → TC → List Expr → Bool
  | .nil => kEs0
  | .cons e es => kEs1 (tieE T e) (tieEs T es)
def tieO (T : Tab) : CO → TC → Option Expr → Bool
  | .no => kO0
  | .yes e => kO1 (tieE T e)
def tieC (T : Tab) : CO → TC → List Expr → Bool
  | .no => kEs0
  | .yes e => kC1 e (tieE T e)
def tieI (T : Tab) : CI → TF
  | .seq e => tieE T e
  | .rng1 a => kRng1 T (tieE T a)
  | .rng2 a b => kRng2 T (tieE T a) (tieE T b)
  | .enum a => kEnum T (tieE T a)
  | .zip a b => kZip T (tieE T a) (tieE T b)
  | .rrng1 a => kRev T (kRng1 T (tieE T a))
  | .rrng2 a b => kRev T (kRng2 T (tieE T a) (tieE T b))
end
def CE.fresh : CE → Bool
  | .lst _ | .rep .. | .cat .. | .slL .. | .callO .. | .lc .. | .sset _ => true
  | .bi b _ => b.fresh
  | _ => false
def isLc : Expr → Bool
  | .ListComp .. => true
  | _ => false
abbrev TFS := TC → Stmt → Bool
def kSet (t : CT) (f : TF) : TFS := fun c s => match s with | .Assign [tg] x _ => tieT c t tg && f c x && noStar tg && noComp x && (noTup tg || noTup x) | _ => false
def kSetLc (i : Nat) (f : TF) : TFS := fun c s => match s with | .Assign [.Name y _] x _ => nmLoc c i y && f c x && isLc x | _ => false
def kOwn (i : Nat) (fr : Bool) (f : TF) : TFS := fun c s => match s with | .Assign [.Name y _] x _ => nmLoc c i y && f c x && fr && noComp x | _ => false
def kSetIx (i : Nat) (f g : TF) : TFS := fun c s => match s with | .Assign [.Subscript (.Name y _) z _] x _ => nmOk c i y && f c z && g c x && noComp x && noSlice z | _ => false
def kAugm (i : Nat) (o : O2) (f : TF) : TFS := fun c s => match s with | .AugAssign (.Name y _) op x _ => nmLoc c i y && decide (op = o.op) && (decide (o = .add) || decide (o = .sub)) && f c x | _ => false
def kApp (i : Nat) (f : TF) : TFS := fun c s => match s with | .Expr (.Call (.Attribute (.Name y _) m apos) [x] [] pos) _ => nmOk c i y && decide (m = "append") && noStar x && (apos.endLine == pos.line) && f c x | _ => false
def kRevm (i : Nat) : TFS := fun c s => match s with | .Expr (.Call (.Attribute (.Name y _) m apos) [] [] pos) _ => nmOk c i y && decide (m = "reverse") && (apos.endLine == pos.line) | _ => false
def kPopm (i : Nat) : TFS := fun c s => match s with | .Expr (.Call (.Attribute (.Name y _) m apos) [] [] pos) _ => nmOk c i y && decide (m = "pop") && (apos.endLine == pos.line) | _ => false
def kRai : TFS := fun c s => match s with | .Raise .. => true | _ => false
def kExpr (f : TF) : TFS := fun c s => match s with | .Expr x _ => noComp x && f c x | _ => false
def kIff (e : CE) (f : TF) (g h : TC → List Stmt → Bool) : TFS := fun c s => match s with | .If x as bs _ => testB e x && f c x && g c as && h c bs | _ => false
def kForr (tk : Expr → Bool) (t : CT) (f : TF) (g : TC → List Stmt → Bool) : TFS := fun c s => match s with | .For tg iter body [] _ => tk tg && noSet iter && f c iter && tieT c t tg && g c body | _ => false
def kWhil (e : CE) (f : TF) (g : TC → List Stmt → Bool) : TFS := fun c s => match s with | .While x body [] _ => testB e x && f c x && g c body | _ => false
def kRet1 (f : TF) : TFS := fun c s => match s with | .Return (some x) _ => f c x | _ => false
def kRet0 : TFS := fun c s => match s with | .Return none _ => true | _ => false
def kRetO (i : Nat) : TFS := fun c s => match s with | .Return (some (.Name y _)) _ => nmOk c i y | _ => false
def kBrk : TFS := fun c s => match s with | .Break _ => true | _ => false
def kCnt : TFS := fun c s => match s with | .Continue _ => true | _ => false
def kSs0 : TC → List Stmt → Bool := fun c s => match s with | [] => true | _ => false
def kSs1 (f : TFS) (g : TC → List Stmt → Bool) : TC → List Stmt → Bool := fun c s => match s with | x :: xs => f c x && g c xs | _ => false
def CE.isLc : CE → Bool
  | .lc .. => true
  | _ => false
mutual
def tieS (T : Tab) : CS → TFS
  | .set t e => match t, e.isLc with
    | .nm i, true => fun c s => kSetLc i (tieE T e) c s || kSet t (tieE T e) c s
    | _, _ => kSet t (tieE T e)
  | .own i e => if e.isLc then kSetLc i (tieE T e) else kOwn i e.fresh (tieE T e)
  | .setIx i k e => kSetIx i (tieE T k) (tieE T e)
  | .aug i o e => kAugm i o (tieE T e)
  | .app i e => kApp i (tieE T e)
  | .ext _ _ => fun _ _ => false
  | .rev i => kRevm i
  | .pop i => kPopm i
  | .rai => kRai
  | .expr e => kExpr (tieE T e)
  | .iff e a b => kIff e (tieE T e) (tieSs T a) (tieSs T b)
  | .forr t it b => kForr (tgOk it) t (tieI T it) (tieSs T b)
  | .whil e b => kWhil e (tieE T e) (tieSs T b)
  | .ret e => kRet1 (tieE T e)
  | .retN => kRet0
  | .retO i => kRetO i
  | .brk => kBrk
  | .cont => kCnt
def tieSs (T : Tab) : CSs → TC → List Stmt → Bool
  | .nil => kSs0
  | .cons s r => kSs1 (tieS T s) (tieSs T r)
  | .frz _ r => tieSs T r
  | .opn _ r => tieSs T r
end

/-! ### what the tie gives -/
def spOf (K : PySem.W.Frag) (Φ : Phi) (f n : Nat) : Sp := fun vs H Q _ => ∃ F ds, Good F H ∧ RepL K F vs ds ∧ ds.length = n ∧ Φ f ds fun s => ∀ v H' F', Ret K F H F' H' v s → Q v H'
/-- how a def's arguments are bound: by their places, or the last one by its name -/
def gKw {α : Type} (us ws : List α) : List α := if ws.length = 1 then us ++ ws else []
def BindsK (K : PySem.W.Frag) (fd : FuncData) (ps : List Str) (kw : Bool) : Prop := match kw with
  | false => Binds K fd ps []
  | true => ∀ k, ps.getLast? = some k → KBinds K fd ps [k] gKw gKw
structure XOk (T : Tab) (Φ : Sm) (c : TC) (X : Cx) : Prop where
  N : X.N = c.N
  nd : c.N.Nodup
  sc : X.env.scope = c.sc
  kind : c.sc.kind = .function
  calm : X.calm = true
  fn : X.fn = c.fn
  xe : X.xe = fun _ _ => False
  un : X.A.units + 64 < cLine
  mono : MonoP Φ
  bis : ∀ x ∈ T.bis, X.mg x = none
  cs : ∀ k x, T.cs[k]? = some x → ∃ u v, X.mg x = some u ∧ RelV v u ∧ ∀ F, Rep X.K F v (Φ.c k)
  fns : ∀ f x ps kw, T.fns[f]? = some (x, ps, kw) → ∃ k a fd, FnOk X.prog X.w X.K X.mg X.base CX0 k a fd ps (spOf X.K Φ.f f ps.length) ∧ Room k X.A ∧ X.mg x = some (.ref a) ∧ PySem.W.keepIn X.K (.ref a) = true ∧ BindsK X.K fd ps kw
theorem XOk.nd' {T : Tab} {Φ : Sm} {c : TC} {X : Cx} (o : XOk T Φ c X) : X.N.Nodup := by rw [o.N]; exact o.nd
theorem XOk.pass {T : Tab} {Φ : Sm} {c : TC} {X : Cx} (o : XOk T Φ c X) : PassesOwn (model X.prog X.w) X.A X.env X.xe := by rw [o.xe]; exact PassesOwn.never
theorem XOk.blk {T : Tab} {Φ : Sm} {c : TC} {X : Cx} (o : XOk T Φ c X) {scope : Scope} (hk : scope.kind = .function) (s : Shared) (H : Hp) (C : Addr) (cl : List (Str × Addr)) (fp : List Addr) : XOk T Φ (c.blk scope) (X.blk s H scope (compEnvC scope cl C X.env) fp) :=
  ⟨o.N, o.nd, by show relS scope X.env.scope = relS scope c.sc; rw [o.sc], hk, o.calm, rfl, rfl, o.un, o.mono, o.bis, o.cs, o.fns⟩
theorem star_of {e : Expr} (h : noStar e = true) : ∀ t p, e ≠ .Starred t p := fun t p z => by rw [z] at h; cases h
theorem plain_true {e : Expr} (h : plainT e = true) (env : Env) (whole : Sem Value) : isTrue e env whole = (do let v ← whole; standAt e.pos; holding [v] (truthy v)) := by
  cases e <;> first | rfl | (simp [plainT] at h; done) | skip
  case UnaryOp op x p => cases op <;> first | rfl | (simp [plainT] at h; done)
theorem base_of {o : Expr} (h : noSup o = true) (m : Str) (env : Env) (whole : Sem Value) : attributeBase o m env whole = whole := by
  unfold attributeBase
  split
  · rename_i z
    simp [noSup] at h
  · rfl
theorem ix_of {b : Expr} (h : noSlice b = true) : PlainIx b := fun o i => by
  cases b <;> first | rfl | (simp [noSlice] at h; done)
theorem behind_of {b : Expr} {op : CmpOp} (h : noSet b = true) : behindInMarks op b = false := by
  cases b <;> first | rfl | (simp [noSet] at h; done)
theorem folded_of {e : Expr} (h : noSet e = true) (env : Env) : ∀ x, foldedSetIterable e env x = pure x := fun x => by
  cases e <;> first | rfl | (simp [noSet] at h; done)
theorem swaps_of {e : Expr} (h : noComp e = true) (t : Option Expr) (l : Nat) (env : Env) : swapsWith e t l env = pure false := by
  cases e <;> first | rfl | (simp [noComp] at h; done)
theorem stores_of {t e : Expr} (h : noTup t = true ∨ noTup e = true) (env : Env) : swappedStores [t] e env = pure none := by
  rcases h with h | h
  · cases t <;> first | (simp [noTup] at h; done) | rfl | (cases e <;> rfl)
  · cases e <;> first | (simp [noTup] at h; done) | rfl | (cases t <;> rfl)
section
variable {T : Tab} {Φ : Sm} {c : TC} {X : Cx} {pos : Pos}
theorem and2 {a b : Bool} (h : (a && b) = true) : a = true ∧ b = true := by simpa using h
theorem XOk.var (o : XOk T Φ c X) {i : Nat} {x : Str} (h : nmOk c i x = true) : PE X (.Name x pos) (tVar i) := by
  unfold nmOk at h
  obtain ⟨h, h4⟩ := and2 h
  obtain ⟨h, h3⟩ := and2 h
  obtain ⟨h1, h2⟩ := and2 h
  refine pe_var (by rw [o.N]; exact of_decide_eq_true h1) ?_ (by simpa using of_decide_eq_true h3) (by simpa using of_decide_eq_true h4)
  unfold Vis
  rw [o.sc]
  split at h2
  · rename_i q; exact .inl q
  · rename_i q; exact .inr (.inl q)
  · rename_i q; exact .inr (.inr q)
  · cases h2
theorem XOk.loc (o : XOk T Φ c X) {i : Nat} {x : Str} (h : nmLoc c i x = true) : X.N[i]? = some x ∧ L2.Loc X.env.scope x ∧ (X.fn x = true ∨ X.env.scope.names.lookup x = some .local) := by
  unfold nmLoc at h
  obtain ⟨h1, h2⟩ := and2 h
  refine ⟨by rw [o.N]; exact of_decide_eq_true h1, ?_⟩
  unfold L2.Loc
  rw [o.sc, o.fn]
  split at h2
  · rename_i q; exact ⟨.inl q, .inr q⟩
  · rename_i q; exact ⟨.inr q, .inl h2⟩
  · cases h2
theorem XOk.gl (o : XOk T Φ c X) {x : Str} (h : nmGl c x = true) : Gl X x ∧ (x == ("__debug__" : Str)) = false ∧ x ≠ "__name__" := by
  unfold nmGl at h
  obtain ⟨h, h3⟩ := and2 h
  obtain ⟨h1, h2⟩ := and2 h
  refine ⟨?_, by simpa using of_decide_eq_true h2, of_decide_eq_true h3⟩
  show X.env.scope.names.lookup x = _
  rw [o.sc]
  split at h1
  · assumption
  · cases h1
theorem XOk.bi (o : XOk T Φ c X) {x : Str} (h : nmBi T c x = true) : Gl X x ∧ (x == ("__debug__" : Str)) = false ∧ x ≠ "__name__" ∧ X.mg x = none := by
  unfold nmBi at h
  obtain ⟨h1, h2⟩ := and2 h
  obtain ⟨a, b, d⟩ := o.gl h1
  exact ⟨a, b, d, o.bis x (of_decide_eq_true h2)⟩
mutual
theorem sndT (o : XOk T Φ c X) : ∀ (t : CT) (e : Expr), tieT c t e = true → PG X e (tDG X.K t.slots (bindT t))
  | .nm i, .Name x p, h => by
    obtain ⟨h1, h2, h3⟩ := o.loc (show nmLoc c i x = true by simpa [tieT] using h)
    exact pgd_name o.nd' h1 h2 h3
  | .nil, .Tuple [] k p, h => pgd_tup o.calm rfl rfl (fun e he => by cases he) pgds_nil
  | .cons t r, .Tuple (x :: xs) k p, h => by
    have h' : tieTs c (.cons t r) (x :: xs) = true := by simpa [tieT, tieTs] using h
    obtain ⟨l1, l2, l3, l4⟩ := sndTs o (.cons t r) (x :: xs) h'
    exact pgd_tup o.calm l1 l2 l3 l4
theorem sndTs (o : XOk T Φ c X) : ∀ (t : CT) (es : List Expr), tieTs c t es = true → t.isL = true ∧ es.length = t.len ∧ (∀ e ∈ es, ∀ u p, e ≠ .Starred u p) ∧ PGs X es (tDGs X.K t.slots (bindT t))
  | .nil, [], h => ⟨rfl, rfl, (fun e he => by cases he), pgds_nil⟩
  | .cons t r, x :: xs, h => by
    rw [tieTs] at h
    obtain ⟨h, h3⟩ := and2 h
    obtain ⟨h1, h2⟩ := and2 h
    obtain ⟨l1, l2, l3, l4⟩ := sndTs o r xs h3
    refine ⟨l1, by simp [CT.len, l2], fun e he => ?_, pgds_cons (sndT o t x h1) l4 (star_of h2)⟩
    rcases List.mem_cons.mp he with z | z
    · rw [z]; exact star_of h2
    · exact l3 e z
end
end
end DL

/-! DL6: the tie is sound. -/
namespace DL
open PySem PySem.Spec PyProof.Rows L2
section
variable {X : Cx} {a b e x : Expr} {es : List Expr} {ma mb mc : DE} {m : DA} {pos p : Pos}
theorem tDA_bind {K : PySem.W.Frag} {σ : L2.St} {H : Hp} {m : DA} {F0 : FS} {H0 : Hp} {F : FS} {ε : List Slot} {k : List D → Prop} {Q : List V → Hp → Prop} (R : Rp K F0 H0 F H σ ε) (mn : MonoA m) (h : m ε k)
    (f : ∀ ds vs H' F', k ds → Rp K F0 H0 F' H' σ ε → Step F H F' H' → RepL K F' vs ds → Q vs H') : tDA K m σ H Q :=
  ⟨F0, H0, F, ε, R, mn _ _ _ (fun d q v H' F' t g r => f d v H' F' q (R.next t g) t r) h⟩
theorem FinF.step {K : PySem.W.Frag} {F F' : FS} {H H' : Hp} {Q : VK} {d : D} (f : FinF K F H Q d) (t : Step F H F' H') (g : Good F' H') : FinF K F' H' Q d := by
  obtain ⟨ds, e, f⟩ := f
  refine ⟨ds, e, fun p xs H2 F2 t2 g2 hp h1 h2 h3 r => f p xs H2 F2 (t.trans g t2) g2 ?_ h1 h2 h3 r⟩
  cases z : H p with
  | none => rfl
  | some o =>
    cases z2 : F.op p with
    | none => rw [t.hp p o z z2] at hp; cases hp
    | some k =>
      obtain ⟨_, u, hu, _⟩ := g.op p k (t.op p k z2)
      rw [hu] at hp; cases hp
theorem pad_nil : PA X [] (tDA X.K fun _ Q => Q []) := pa_nil.of fun σ H Q ⟨F0, H0, F, ε, R, q⟩ => q [] H F (Step.refl _ _) R.good .nil
theorem pad_cons (he : PE X e (tD X.K ma)) (hr : PA X es (tDA X.K m)) (mna : MonoE ma) (mnm : MonoA m) (hs : ∀ t p, e ≠ .Starred t p) : PA X (e :: es) (tDA X.K fun ε Q => ma ε fun d => m ε fun ds => Q (d :: ds)) := by
  refine (pa_cons he hr (star_cons hs)).of fun σ H Q ⟨F0, H0, F, ε, R, q⟩ => tD_bind R mna q fun d v H1 F1 q1 R1 t1 r1 => tDA_bind R1 mnm q1 fun ds vs H2 F2 q2 R2 t2 r2 => ?_
  exact q2 _ H2 F2 (t1.trans R1.good t2) R2.good (.cons (r1.step t2) r2)
theorem pd_tup {k : Nat} (h : PA X es (tDA X.K m)) (mn : MonoA m) : PE X (.Tuple es k pos) (tD X.K fun ε Q => m ε fun ds => ds.length ≤ sizeLine ∧ Q (.tup ds)) := by
  refine (pe_tupN h).of fun σ H Q ⟨F0, H0, F, ε, R, q⟩ => tDA_bind R mn q fun ds vs H1 F1 ⟨hz, q1⟩ R1 t1 r1 => ?_
  exact ⟨by rw [r1.length]; exact hz, (Fin.step q1 t1 R1.good).tup R1.good r1⟩
theorem pd_lstF (h : PA X es (tDA X.K m)) (mn : MonoA m) : PE X (.List es pos) (tDF X.K fun ε Q => m ε fun ds => ds.length ≤ sizeLine ∧ Q (.lst ds)) := by
  refine (pe_lst h).of fun σ H Q ⟨F0, H0, F, ε, R, q⟩ => tDA_bind R mn q fun ds vs H1 F1 ⟨hz, q1⟩ R1 t1 r1 => ?_
  exact ⟨by rw [r1.length]; exact hz, (FinF.step q1 t1 R1.good).new R1.good r1⟩
theorem tDF_bind {K : PySem.W.Frag} {σ : L2.St} {H : Hp} {F0 : FS} {H0 : Hp} {F : FS} {ε : List Slot} {m : DE} {k : D → Prop} {Q : VK} (R : Rp K F0 H0 F H σ ε) (mn : MonoE m) (h : m ε k)
    (f : ∀ d v H' F', k d → Rp K F0 H0 F' H' σ ε → Step F H F' H' → Rep K F' v d → Q v H') : tD K m σ H Q := tD_bind R mn h f
theorem pd_rep (ha : PE X a (tD X.K ma)) (hb : PE X b (tD X.K mb)) (mna : MonoE ma) (mnb : MonoE mb) : PE X (.BinOp a .Mult b pos) (tDF X.K fun ε Q => ma ε fun x => mb ε fun y => match x, y with
    | .lst ds, .int i => (-(2 ^ 63) ≤ i ∧ i < 2 ^ 63 ∧ ds.length * i.toNat ≤ sizeLine) ∧ Q (.lst (List.replicate i.toNat ds).flatten)
    | _, _ => False) := by
  refine (pe_op op_rep ha hb).of fun σ H Q ⟨F0, H0, F, ε, R, q⟩ => tD_bind R mna q fun x v H1 F1 q1 R1 t1 rx => tD_bind R1 mnb q1 fun y w H2 F2 q2 R2 t2 ry => ?_
  split at q2
  · rename_i ds i
    obtain ⟨⟨h1, h2, h3⟩, q2⟩ := q2
    cases ry
    cases rx with
    | lst h r =>
      refine ⟨_, _, _, rfl, rfl, R2.good.fz _ _ (t2.fz _ _ h), h1, h2, by rw [r.length]; exact h3, ?_⟩
      refine ((FinF.step q2 t1 R1.good).step t2 R2.good).new R2.good ?_
      have rep : ∀ n, RepL X.K F2 (List.replicate n _).flatten (List.replicate n ds).flatten := fun n => by
        induction n with
        | zero => exact .nil
        | succ n ih => rw [List.replicate_succ, List.replicate_succ, List.flatten_cons, List.flatten_cons]; exact (r.step t2).append ih
      exact rep _
  · exact q2.elim
theorem pd_cat (ha : PE X a (tD X.K ma)) (hb : PE X b (tD X.K mb)) (mna : MonoE ma) (mnb : MonoE mb) : PE X (.BinOp a .Add b pos) (tDF X.K fun ε Q => ma ε fun x => mb ε fun y => match x, y with
    | .lst xs, .lst ys => xs.length + ys.length ≤ sizeLine ∧ Q (.lst (xs ++ ys))
    | _, _ => False) := by
  refine (pe_op op_cat ha hb).of fun σ H Q ⟨F0, H0, F, ε, R, q⟩ => tD_bind R mna q fun x v H1 F1 q1 R1 t1 rx => tD_bind R1 mnb q1 fun y w H2 F2 q2 R2 t2 ry => ?_
  split at q2
  · obtain ⟨h3, q2⟩ := q2
    cases rx with
    | lst h r => cases ry with
      | lst h' r' =>
        exact ⟨_, _, _, _, rfl, rfl, R2.good.fz _ _ (t2.fz _ _ h), R2.good.fz _ _ h', by rw [r.length, r'.length]; exact h3, ((FinF.step q2 t1 R1.good).step t2 R2.good).new R2.good ((r.step t2).append r')⟩
  · exact q2.elim
theorem pd_neg (ha : PE X a (tD X.K ma)) (mna : MonoE ma) : PE X (.UnaryOp .USub a pos) (tD X.K fun ε Q => ma ε fun x => match x with | .int i => Q (.int (-i)) | _ => False) := by
  refine (pe_un un_neg ha).of fun σ H Q ⟨F0, H0, F, ε, R, q⟩ => tD_bind R mna q fun x v H1 F1 q1 R1 t1 rx => ?_
  split at q1
  · cases rx
    exact ⟨_, rfl, (Fin.step q1 t1 R1.good).now R1.good (.int _)⟩
  · exact q1.elim
theorem pd_not (ha : PE X a (tD X.K ma)) (mna : MonoE ma) : PE X (.UnaryOp .Not a pos) (tD X.K fun ε Q => ma ε fun x => match x with | .bl k => Q (.bl (!k)) | _ => False) := by
  refine (pe_not ha).of fun σ H Q ⟨F0, H0, F, ε, R, q⟩ => tD_bind R mna q fun x v H1 F1 q1 R1 t1 rx => ?_
  split at q1
  · cases rx
    exact ⟨_, rfl, (Fin.step q1 t1 R1.good).now R1.good (.bl _)⟩
  · exact q1.elim
theorem ptd_not (ha : PT X a (tDT X.K (mT ma))) (mna : MonoE ma) : PT X (.UnaryOp .Not a pos) (tDT X.K (mT fun ε Q => ma ε fun x => match x with | .bl k => Q (.bl (!k)) | _ => False)) := by
  refine (pt_not ha).of fun σ H Q ⟨F0, H0, F, ε, R, q⟩ => ⟨F0, H0, F, ε, R, mna _ _ _ (fun x q1 => ?_) q⟩
  split at q1
  · rename_i k
    obtain ⟨k', e, q1⟩ := q1
    cases e
    exact ⟨k, rfl, q1⟩
  · exact q1.elim
abbrev mAnd (ma mb : DE) : DE := fun ε Q => ma ε fun x => match x with | .bl true => mb ε Q | .bl false => Q (.bl false) | _ => False
abbrev mOr (ma mb : DE) : DE := fun ε Q => ma ε fun x => match x with | .bl true => Q (.bl true) | .bl false => mb ε Q | _ => False
theorem and_read (mna : MonoE ma) (mnb : MonoE mb) {σ : L2.St} {H : Hp} {Q : Bool → Hp → Prop} (h : tDT X.K (mT (mAnd ma mb)) σ H Q) : tAnd (tDT X.K (mT ma)) (tDT X.K (mT mb)) σ H Q := by
  obtain ⟨F0, H0, F, ε, R, q⟩ := h
  refine ⟨F0, H0, F, ε, R, mna _ _ _ (fun x q1 => ?_) q⟩
  split at q1
  · refine ⟨true, rfl, fun H1 F1 t1 g1 => ?_⟩
    refine iteT ?_
    exact ⟨F0, H0, F1, ε, R.next t1 g1, mnb _ _ _ (fun y ⟨k, e, q2⟩ => ⟨k, e, fun H2 F2 t2 g2 => q2 H2 F2 (t1.trans g1 t2) g2⟩) q1⟩
  · refine ⟨false, rfl, fun H1 F1 t1 g1 => ?_⟩
    refine iteF ?_
    obtain ⟨k, e, q1⟩ := q1
    cases e
    exact q1 H1 F1 t1 g1
  · exact q1.elim
theorem or_read (mna : MonoE ma) (mnb : MonoE mb) {σ : L2.St} {H : Hp} {Q : Bool → Hp → Prop} (h : tDT X.K (mT (mOr ma mb)) σ H Q) : tOr (tDT X.K (mT ma)) (tDT X.K (mT mb)) σ H Q := by
  obtain ⟨F0, H0, F, ε, R, q⟩ := h
  refine ⟨F0, H0, F, ε, R, mna _ _ _ (fun x q1 => ?_) q⟩
  split at q1
  · refine ⟨true, rfl, fun H1 F1 t1 g1 => ?_⟩
    refine iteT ?_
    obtain ⟨k, e, q1⟩ := q1
    cases e
    exact q1 H1 F1 t1 g1
  · refine ⟨false, rfl, fun H1 F1 t1 g1 => ?_⟩
    refine iteF ?_
    exact ⟨F0, H0, F1, ε, R.next t1 g1, mnb _ _ _ (fun y ⟨k, e, q2⟩ => ⟨k, e, fun H2 F2 t2 g2 => q2 H2 F2 (t1.trans g1 t2) g2⟩) q1⟩
  · exact q1.elim
theorem andV_read (mna : MonoE ma) (mnb : MonoE mb) {σ : L2.St} {H : Hp} {Q : VK} (h : tD X.K (mAnd ma mb) σ H Q) : tAndV (tD X.K ma) (tD X.K mb) σ H Q := by
  obtain ⟨F0, H0, F, ε, R, q⟩ := h
  refine tD_bind R mna q fun x v H1 F1 q1 R1 t1 rx => ?_
  split at q1
  · cases rx
    refine ⟨true, rfl, iteT ?_⟩
    exact ⟨F0, H0, F1, ε, R1, mnb _ _ _ (fun y q2 => Fin.step q2 t1 R1.good) q1⟩
  · cases rx
    exact ⟨false, rfl, iteF (q1 _ H1 F1 t1 R1.good (.bl false))⟩
  · exact q1.elim
theorem orV_read (mna : MonoE ma) (mnb : MonoE mb) {σ : L2.St} {H : Hp} {Q : VK} (h : tD X.K (mOr ma mb) σ H Q) : tOrV (tD X.K ma) (tD X.K mb) σ H Q := by
  obtain ⟨F0, H0, F, ε, R, q⟩ := h
  refine tD_bind R mna q fun x v H1 F1 q1 R1 t1 rx => ?_
  split at q1
  · cases rx
    exact ⟨true, rfl, iteT (q1 _ H1 F1 t1 R1.good (.bl true))⟩
  · cases rx
    refine ⟨false, rfl, iteF ?_⟩
    exact ⟨F0, H0, F1, ε, R1, mnb _ _ _ (fun y q2 => Fin.step q2 t1 R1.good) q1⟩
  · exact q1.elim
theorem pd_ite {t : Expr} (hc : PT X t (tDT X.K (mT mc))) (ha : PE X a (tD X.K ma)) (hb : PE X b (tD X.K mb)) (mnc : MonoE mc) (mna : MonoE ma) (mnb : MonoE mb) :
    PE X (.IfExp t a b pos) (tD X.K fun ε Q => mc ε fun x => match x with | .bl true => ma ε Q | .bl false => mb ε Q | _ => False) := by
  refine (pe_ifExp hc ha hb).of fun σ H Q ⟨F0, H0, F, ε, R, q⟩ => ⟨F0, H0, F, ε, R, mnc _ _ _ (fun k q1 => ?_) q⟩
  split at q1
  · refine ⟨true, rfl, fun H1 F1 t1 g1 => iteT ?_⟩
    exact ⟨F0, H0, F1, ε, R.next t1 g1, mna _ _ _ (fun y q2 => Fin.step q2 t1 g1) q1⟩
  · refine ⟨false, rfl, fun H1 F1 t1 g1 => iteF ?_⟩
    exact ⟨F0, H0, F1, ε, R.next t1 g1, mnb _ _ _ (fun y q2 => Fin.step q2 t1 g1) q1⟩
  · exact q1.elim
theorem pd_idx (ha : PE X a (tD X.K ma)) (hb : PE X b (tD X.K mb)) (mna : MonoE ma) (mnb : MonoE mb) (hs : PlainIx b) : PE X (.Subscript a b pos) (tD X.K fun ε Q => ma ε fun x => mb ε fun y => opIx x y Q) := by
  refine (pe_ix ix_seq ha hb hs).of fun σ H Q ⟨F0, H0, F, ε, R, q⟩ => tD_bind R mna q fun x v H1 F1 q1 R1 t1 rx => tD_bind R1 mnb q1 fun y w H2 F2 q2 R2 t2 ry => ?_
  exact opIx_ok (X := X) F2 H2 x y v w Q R2.good (rx.step t2) ry (opIx_mono _ _ _ _ (fun d f => (Fin.step f t1 R1.good).step t2 R2.good) q2)
/-- a slice's bound -/
def tDO (K : PySem.W.Frag) (m : List Slot → (Option Int → Prop) → Prop) : TO := fun σ H Q => ∃ F0 H0 F ε, Rp K F0 H0 F H σ ε ∧ m ε (fun o => ∀ H' F', Step F H F' H' → Good F' H' → Q o H')
theorem _root_.L2.PO.of {X : Cx} {e : Option Expr} {t t' : TO} (h : PO X e t) (i : ∀ σ H Q, t' σ H Q → t σ H Q) : PO X e t' := ⟨fun pins s σ H Q I hw => h.run pins s σ H Q I (i σ H Q hw)⟩
theorem pod_none : PO X none (tDO X.K fun _ Q => Q none) := po_none.of fun σ H Q ⟨F0, H0, F, ε, R, q⟩ => q H F (Step.refl _ _) R.good
theorem pod_some (ha : PE X a (tD X.K ma)) (mna : MonoE ma) : PO X (some a) (tDO X.K fun ε Q => ma ε fun d => match d with | .int i => Q (some i) | _ => False) := by
  refine (po_some ha).of fun σ H Q ⟨F0, H0, F, ε, R, q⟩ => tD_bind R mna q fun x v H1 F1 q1 R1 t1 rx => ?_
  split at q1
  · cases rx; exact ⟨_, rfl, q1 H1 F1 t1 R1.good⟩
  · exact q1.elim
abbrev MonoO (m : List Slot → (Option Int → Prop) → Prop) : Prop := ∀ ε P P', (∀ d, P d → P' d) → m ε P → m ε P'
theorem tDO_bind {K : PySem.W.Frag} {σ : L2.St} {H : Hp} {m : List Slot → (Option Int → Prop) → Prop} {F0 : FS} {H0 : Hp} {F : FS} {ε : List Slot} {k : Option Int → Prop} {Q : Option Int → Hp → Prop} (R : Rp K F0 H0 F H σ ε) (mn : MonoO m) (h : m ε k)
    (f : ∀ d H' F', k d → Rp K F0 H0 F' H' σ ε → Step F H F' H' → Q d H') : tDO K m σ H Q :=
  ⟨F0, H0, F, ε, R, mn _ _ _ (fun d q H' F' t g => f d H' F' q (R.next t g) t) h⟩
theorem cut_len (xs : List V) (lo hi : Option Int) (h : HT.sIx xs.length 0 lo = 0 ∧ HT.sIx xs.length xs.length hi = xs.length) : cutV xs lo hi = xs := by
  unfold cutV
  rw [h.1, h.2, List.drop_zero, Nat.sub_zero, List.take_length]
variable {lo hi : Option Expr} {ml mh : List Slot → (Option Int → Prop) → Prop} {p2 : Pos}
theorem pd_slL (ha : PE X a (tD X.K ma)) (hl : PO X lo (tDO X.K ml)) (hh : PO X hi (tDO X.K mh)) (mna : MonoE ma) (mnl : MonoO ml) (mnh : MonoO mh) : PE X (.Subscript a (.Slice lo hi none p2) pos) (tDF X.K fun ε Q => ma ε fun x => ml ε fun l => mh ε fun h => match x with
    | .lst ds => Q (.lst (cut ds l h))
    | _ => False) := by
  refine (pe_slice sl_list ha hl hh).of fun σ H Q ⟨F0, H0, F, ε, R, q⟩ => tD_bind R mna q fun x v H1 F1 q1 R1 t1 rx => tDO_bind R1 mnl q1 fun l H2 F2 q2 R2 t2 => tDO_bind R2 mnh q2 fun u H3 F3 q3 R3 t3 => ?_
  split at q3
  · cases rx with
    | lst h r => exact ⟨_, _, rfl, SqL.of (R3.good.fz _ _ (t3.fz _ _ (t2.fz _ _ h))), ((FinF.step q3 t1 R1.good).step t2 R2.good |>.step t3 R3.good).new R3.good (((r.step t2).step t3).cut l u)⟩
  · exact q3.elim
theorem pd_slT (ha : PE X a (tD X.K ma)) (hl : PO X lo (tDO X.K ml)) (hh : PO X hi (tDO X.K mh)) (mna : MonoE ma) (mnl : MonoO ml) (mnh : MonoO mh) : PE X (.Subscript a (.Slice lo hi none p2) pos) (tD X.K fun ε Q => ma ε fun x => ml ε fun l => mh ε fun h => match x with
    | .tup ds => Q (.tup (cut ds l h))
    | _ => False) := by
  refine (pe_slice sl_tupN ha hl hh).of fun σ H Q ⟨F0, H0, F, ε, R, q⟩ => tD_bind R mna q fun x v H1 F1 q1 R1 t1 rx => tDO_bind R1 mnl q1 fun l H2 F2 q2 R2 t2 => tDO_bind R2 mnh q2 fun u H3 F3 q3 R3 t3 => ?_
  split at q3
  · cases rx with
    | tup h n r =>
      have f := ((Fin.step q3 t1 R1.good).step t2 R2.good).step t3 R3.good
      have r3 := (r.step t2).step t3
      have h3 := sqT_mono t3.fz (sqT_mono t2.fz h)
      refine ⟨_, _, rfl, sqT_up R3.good h3, fun hw => f.now R3.good (.tup h3 (noD_mono t3.fz (noD_mono t2.fz n)) ?_), f.tup R3.good (r3.cut l u)⟩
      have := r3.cut l u
      rw [cut_len _ _ _ hw] at this
      exact this
  · exact q3.elim
theorem pd_call {sp : Sp} (F : ∃ (t : TA → TE), (∀ ta, PA X es ta → PE X e (t ta)) ∧ (∀ ta σ H Q, (ta σ H fun vs H1 => sp vs H1 Q E0) → t ta σ H Q)) (h : PA X es (tDA X.K m)) (mn : MonoA m) {r : List D → (D → Prop) → Prop}
    (hr : ∀ F H ds vs (Q : VK), Good F H → RepL X.K F vs ds → r ds (Fin X.K F H Q) → sp vs H Q E0) (rm : ∀ ds P P', (∀ d, P d → P' d) → r ds P → r ds P') : PE X e (tD X.K fun ε Q => m ε fun ds => r ds Q) := by
  obtain ⟨t, h1, h2⟩ := F
  refine (h1 _ h).of fun σ H Q ⟨F0, H0, F, ε, R, q⟩ => h2 _ _ _ _ (tDA_bind R mn q fun ds vs H1 F1 q1 R1 t1 r1 => ?_)
  exact hr F1 H1 ds vs Q R1.good r1 (rm _ _ _ (fun d f => Fin.step f t1 R1.good) q1)
theorem pd_callF {sp : Sp} (F : ∃ (t : TA → TE), (∀ ta, PA X es ta → PE X e (t ta)) ∧ (∀ ta σ H Q, (ta σ H fun vs H1 => sp vs H1 Q E0) → t ta σ H Q)) (h : PA X es (tDA X.K m)) (mn : MonoA m) {r : List D → (D → Prop) → Prop}
    (hr : ∀ F H ds vs (Q : VK), Good F H → RepL X.K F vs ds → r ds (FinF X.K F H Q) → sp vs H Q E0) (rm : ∀ ds P P', (∀ d, P d → P' d) → r ds P → r ds P') : PE X e (tDF X.K fun ε Q => m ε fun ds => r ds Q) := by
  obtain ⟨t, h1, h2⟩ := F
  refine (h1 _ h).of fun σ H Q ⟨F0, H0, F, ε, R, q⟩ => h2 _ _ _ _ (tDA_bind R mn q fun ds vs H1 F1 q1 R1 t1 r1 => ?_)
  exact hr F1 H1 ds vs Q R1.good r1 (rm _ _ _ (fun d f => FinF.step f t1 R1.good) q1)
end
section
variable {T : Tab} {Φ : Sm} {c : TC} {X : Cx} {pos : Pos}
theorem ret_val {K : PySem.W.Frag} {F F' : FS} {H H' : Hp} {Q : VK} {v : V} {s : Slot} (h : match s with | .val d => Fin K F H Q d | .own ds => Fin K F H Q (.lst ds) | .non => False) (r : Ret K F H F' H' v s) : Q v H' := by
  obtain ⟨g, t, r⟩ := r
  cases s with
  | non => exact r.elim
  | val d => exact h v H' F' t g r
  | own ds =>
    obtain ⟨l, xs, rfl, h1, h2, h3, h4, r⟩ := r
    refine h _ H' (F'.put l (.lst xs)) ⟨fun b u e => put_mono h2 b u (t.fz b u e), t.op, t.hp, fun b n1 n2 n3 => ?_⟩ (g.freeze h1 h3) (.lst (by show upd _ _ _ _ = _; exact upd_same) (r.put h2))
    obtain ⟨z1, z2⟩ := t.nf b n1 n2 n3
    refine ⟨?_, z2⟩
    show upd _ _ _ _ = _
    rw [upd_ne (by rintro rfl; exact n3 h4)]
    exact z1
/-- a call of one's own def -/
theorem own_call {p : Pos} (o : XOk T Φ c X) {f : Nat} {x : Str} {ps : List Str} (hf : T.fns[f]? = some (x, ps, false)) (hg : nmGl c x = true) {e : Expr} {es : List Expr} (h0 : noStar e = true) (hs : ∀ e ∈ es, noStar e = true) :
    ∃ (t : TA → TE), (∀ ta, PA X (e :: es) ta → PE X (.Call (.Name x p) (e :: es) [] pos) (t ta)) ∧ (∀ ta σ H Q, (ta σ H fun vs H1 => spOf X.K Φ.f f ps.length vs H1 Q E0) → t ta σ H Q) := by
  obtain ⟨k, a, fd, F, hr, hm, hk, hb⟩ := o.fns f x ps false hf
  have hb : Binds X.K fd ps [] := hb
  obtain ⟨g1, g2, _⟩ := o.gl hg
  refine ⟨fun ta => tCall (spOf X.K Φ.f f ps.length) [] E0 ta, fun ta h => pe_call F hr g1 hm hk hb .nil pass0 h g2 (star_cons (star_of h0)) (star_plain fun y hy => star_of (hs y hy)), fun ta σ H Q h => ?_⟩
  unfold tCall
  simpa using h
theorem own_callK {p kp : Pos} (o : XOk T Φ c X) {f : Nat} {x k : Str} {ps : List Str} (hf : T.fns[f]? = some (x, ps, true)) (hl : ps.getLast? = some k) (hg : nmGl c x = true) {e z : Expr} {es : List Expr} {m : DA} {me : DE} (h0 : noStar e = true) (hs : ∀ e ∈ es, noStar e = true)
    (he : PA X (e :: es) (tDA X.K m)) (hz : PE X z (tD X.K me)) (mn : MonoA m) (mne : MonoE me) (hlen : ∀ ε P, m ε P → m ε fun ds => ds.length + 1 = ps.length ∧ P ds) :
    PE X (.Call (.Name x p) (e :: es) [⟨some k, z, kp⟩] pos) (tD X.K fun ε Q => m ε fun ds => me ε fun d => Φ.f f (ds ++ [d]) fun s => match s with | .val d => Q d | .own ds => Q (.lst ds) | .non => False) := by
  obtain ⟨j, a, fd, F, hr, hm, hk, hb⟩ := o.fns f x ps true hf
  have hb : KBinds X.K fd ps [k] gKw gKw := hb k hl
  obtain ⟨g1, g2, _⟩ := o.gl hg
  refine (pe_callK F hr g1 hm hk hb pass0 he (pk_cons hz pk_nil) rfl rfl g2 (star_cons (star_of h0)) (by
    rw [star_plain (fun y hy => star_of (by rcases List.mem_cons.mp hy with z | z; rw [z]; exact h0; exact hs y z))]; rfl)).of fun σ H Q ⟨F0, H0, F1, ε, R, q⟩ => ?_
  refine tDA_bind R mn (hlen _ _ q) fun ds vs H1 F2 ⟨hl1, q1⟩ R1 t1 r1 => tD_bind R1 mne q1 fun d v H2 F3 q2 R2 t2 r2 => ?_
  have hds : (ds ++ [d]).length = ps.length := by rw [List.length_append, List.length_singleton]; exact hl1
  have hg : gKw vs [v] = vs ++ [v] := if_pos rfl
  show spOf X.K Φ.f f ps.length (gKw vs [v]) H2 Q E0
  rw [hg]
  refine ⟨F3, ds ++ [d], R2.good, (r1.step t2).append (.one r2), hds, o.mono f _ _ _ (fun s zq w H' F' rt => ?_) q2⟩
  exact ret_val (by cases s <;> first | exact zq | exact (Fin.step zq t1 R1.good).step t2 R2.good) rt
theorem bi_call {p : Pos} (o : XOk T Φ c X) (b : Bi) {x : Str} {r : List V → Hp → VK → Prop} (hc : CallR X b.val r) (hx : x = b.nm) (hg : nmBi T c x = true) {e : Expr} {es : List Expr} (h0 : noStar e = true) (hs : ∀ e ∈ es, noStar e = true) :
    ∃ (t : TA → TE), (∀ ta, PA X (e :: es) ta → PE X (.Call (.Name x p) (e :: es) [] pos) (t ta)) ∧ (∀ ta σ H Q, (ta σ H fun vs H1 => (fun vs H Q _ => r vs H Q : Sp) vs H1 Q E0) → t ta σ H Q) := by
  obtain ⟨g1, g2, g3, g4⟩ := o.bi hg
  have hb := bi_boot b
  rw [← hx] at hb
  refine ⟨fun ta => tCB r ta, fun ta h => ?_, fun ta σ H Q h => h⟩
  have s1 : starEach (e :: es) X.env = (false, eval e X.env) :: starEach es X.env := star_cons (star_of h0)
  have s2 : (backTo pos (starEach es X.env)).any (·.1) = false := star_plain fun y hy => star_of (hs y hy)
  cases b <;> first
    | exact pe_callB hc g1 g4 hb h g3 g2 s1 s2
    | exact pe_callTy hc g1 g4 hb h g3 g2 s1 s2
theorem ret_own {K : PySem.W.Frag} {F F' : FS} {H H' : Hp} {Q : VK} {v : V} {s : Slot} (h : match s with | .own ds => FinF K F H Q (.lst ds) | _ => False) (r : Ret K F H F' H' v s) : Q v H' := by
  obtain ⟨g, t, r⟩ := r
  cases s with
  | non => exact r.elim
  | val d => exact h.elim
  | own ds =>
    obtain ⟨l, xs, rfl, h1, h2, h3, h4, r⟩ := r
    obtain ⟨_, e, h⟩ := h
    cases e
    exact h l xs H' F' t g h4 h1 h2 h3 r
theorem es_plain : ∀ (es : CEs) (xs : List Expr), tieEs T es c xs = true → ∀ e ∈ xs, noStar e = true
  | .nil, xs, h => by
    have h : kEs0 c xs = true := h
    unfold kEs0 at h
    split at h
    · exact fun e h => by cases h
    · cases h
  | .cons e es, xs, h => by
    have h : kEs1 (tieE T e) (tieEs T es) c xs = true := h
    unfold kEs1 at h
    split at h
    · obtain ⟨h, h3⟩ := and2 h
      obtain ⟨h1, h2⟩ := and2 h
      intro y hy
      rcases List.mem_cons.mp hy with z | z
      · rw [z]; exact h1
      · exact es_plain es _ h3 y z
    · cases h
theorem es_len {Φ : Sm} : ∀ (es : CEs) (xs : List Expr) (ε : List Slot) (P : List D → Prop), tieEs T es c xs = true → MonoP Φ → semEs Φ es ε P → semEs Φ es ε fun ds => ds.length = xs.length ∧ P ds
  | .nil, xs, ε, P, h, mn, q => by
    have h : kEs0 c xs = true := h
    unfold kEs0 at h
    split at h
    · exact ⟨rfl, q⟩
    · cases h
  | .cons e es, xs, ε, P, h, mn, q => by
    have h : kEs1 (tieE T e) (tieEs T es) c xs = true := h
    unfold kEs1 at h
    split at h
    · obtain ⟨h, h3⟩ := and2 h
      unfold semEs at q ⊢
      exact semE_mono mn e ε _ _ (fun d q1 => semEs_mono mn es ε _ _ (fun ds ⟨h1, h2⟩ => ⟨by simp [h1], h2⟩) (es_len es _ ε _ h3 mn q1)) q
    · cases h
/-- a new list is a list -/
theorem fresh_lst (mn : MonoP Φ) : ∀ (e : CE) (ε : List Slot) (P : D → Prop), e.fresh = true → semE Φ e ε P → semE Φ e ε fun d => (∃ ds, d = .lst ds) ∧ P d := by
  intro e ε P hf q
  cases e with
  | lst es => unfold semE at q ⊢; exact semEs_mono mn es ε _ _ (fun ds z => ⟨z.1, ⟨_, rfl⟩, z.2⟩) q
  | rep a k =>
    unfold semE at q ⊢
    refine semE_mono mn a ε _ _ (fun x z => semE_mono mn k ε _ _ (fun y z => ?_) z) q
    split at z
    · exact ⟨z.1, ⟨_, rfl⟩, z.2⟩
    · exact z.elim
  | cat a b =>
    unfold semE at q ⊢
    refine semE_mono mn a ε _ _ (fun x z => semE_mono mn b ε _ _ (fun y z => ?_) z) q
    split at z
    · exact ⟨z.1, ⟨_, rfl⟩, z.2⟩
    · exact z.elim
  | slL a lo hi =>
    unfold semE at q ⊢
    refine semE_mono mn a ε _ _ (fun x z => semO_mono mn lo ε _ _ (fun l z => semO_mono mn hi ε _ _ (fun u z => ?_) z) z) q
    split at z
    · exact ⟨⟨_, rfl⟩, z⟩
    · exact z.elim
  | callO f es =>
    unfold semE at q ⊢
    refine semEs_mono mn es ε _ _ (fun ds z => mn f ds _ _ (fun s z => ?_) z) q
    split at z
    · exact ⟨⟨_, rfl⟩, z⟩
    · exact z.elim
  | lc e t it cnd vs =>
    unfold semE at q ⊢
    refine semI_mono mn it ε _ _ (fun ds z => ?_) q
    have : ∀ (ds acc : List D), loopE (bindT t) (semC Φ cnd) (semE Φ e) (wipeE ε vs) ds acc P → loopE (bindT t) (semC Φ cnd) (semE Φ e) (wipeE ε vs) ds acc fun d => (∃ ds, d = .lst ds) ∧ P d := by
      intro ds
      induction ds with
      | nil => exact fun acc q => ⟨⟨_, rfl⟩, q⟩
      | cons d ds ih =>
        intro acc q
        unfold loopE at q ⊢
        refine bindT_mono t d _ _ _ (fun ε' z => semC_mono mn cnd ε' _ _ (fun k z2 => ?_) z) q
        split at z2
        · exact semE_mono mn e _ _ _ (fun y z3 => ⟨z3.1, ih _ z3.2⟩) z2
        · exact ih _ z2
        · exact z2.elim
    exact this ds [] z
  | sset a =>
    unfold semE at q ⊢
    exact semE_mono mn a ε _ _ (fun x ⟨xs, e, z⟩ => ⟨xs, e, z.imp (fun ⟨ns, a, b, c⟩ => ⟨ns, a, b, fun ms x y => ⟨⟨_, rfl⟩, c ms x y⟩⟩) fun ⟨ns, a, b, c⟩ => ⟨ns, a, b, fun ms x y z => ⟨⟨_, rfl⟩, c ms x y z⟩⟩⟩) q
  | bi b es =>
    unfold semE at q ⊢
    refine semEs_mono mn es ε _ _ (fun ds z => ?_) q
    cases b <;> first | (cases hf; done) | skip
    · unfold DL.bi at z ⊢
      split at z <;> first | exact z.elim | exact ⟨⟨_, rfl⟩, z⟩ | contradiction
    · unfold DL.bi at z ⊢
      split at z <;> first | exact z.elim | contradiction | exact Or.imp (fun ⟨ns, e, f⟩ => ⟨ns, e, fun m a b => ⟨⟨_, rfl⟩, f m a b⟩⟩) (fun ⟨ns, e, l, f⟩ => ⟨ns, e, l, fun m a b => ⟨⟨_, rfl⟩, f m a b⟩⟩) z
  | _ => cases hf
theorem both_of (o : XOk T Φ c X) {ce : CE} {e : Expr} (hf : ce.fresh = true) (h : PE X e (tDF X.K (semE Φ ce))) : PE X e (tD X.K (semE Φ ce)) ∧ (ce.fresh = true → PE X e (tDF X.K (semE Φ ce))) :=
  ⟨frz h (semE_mono o.mono ce) fun ε P q => fresh_lst o.mono ce ε P hf q, fun _ => h⟩
theorem nofresh {ce : CE} {e : Expr} (hf : ce.fresh = false) (h : PE X e (tD X.K (semE Φ ce))) : PE X e (tD X.K (semE Φ ce)) ∧ (ce.fresh = true → PE X e (tDF X.K (semE Φ ce))) :=
  ⟨h, fun z => by rw [hf] at z; cases z⟩
end
end DL

/-! DL7: the tie is sound: expressions, statements, defs. -/
namespace DL
open PySem PySem.Spec PyProof.Rows L2
section
variable {T : Tab} {Φ : Sm} {c : TC} {X : Cx}
theorem ty_of (o : XOk T Φ c X) {t : Ty} {y : Str} {p : Pos} (h : nmBi T c y = true) (hy : y = Str.ofString t.nm) : PE X (.Name y p) (tC (.ty t.nm)) := by
  obtain ⟨g1, g2, g3, g4⟩ := o.bi h
  have hv : bootBuiltins y = some (.type t.nm) := by
    subst hy
    cases t <;> decide +kernel
  exact pe_bltn g1 g4 hv rfl g3 g2
theorem tys_of (o : XOk T Φ c X) : ∀ (ts : List Ty) (ys : List Expr), tieTys T c ts ys = true → (∀ e ∈ ys, noStar e = true) ∧ PA X ys (fun _ H Q => Q (ts.map fun t => V.ty t.nm) H)
  | [], [], _ => ⟨(fun e h => by cases h), pa_nil⟩
  | t :: ts, .Name y p :: ys, h => by
    rw [tieTys] at h
    obtain ⟨h, h3⟩ := and2 h
    obtain ⟨h1, h2⟩ := and2 h
    obtain ⟨s, q⟩ := tys_of o ts ys h3
    refine ⟨fun e he => ?_, (pa_cons (ty_of o h1 (of_decide_eq_true h2)) q (star_cons (fun _ _ => by simp)))⟩
    rcases List.mem_cons.mp he with z | z
    · rw [z]; rfl
    · exact s e z
theorem pd_isi1 {pos p p2 : Pos} (o : XOk T Φ c X) {t : Ty} {i y : Str} {x : Expr} {m : DE} (hi : nmBi T c i = true) (ei : i = "isinstance") (hs : noStar x = true) (hx : PE X x (tD X.K m)) (mn : MonoE m) (hy : nmBi T c y = true) (ey : y = Str.ofString t.nm) :
    PE X (.Call (.Name i p) [x, .Name y p2] [] pos) (tD X.K fun ε Q => m ε fun d => Q (.bl (([t] : List Ty).any d.isa))) := by
  obtain ⟨g1, g2, g3, g4⟩ := o.bi hi
  have hb : bootBuiltins i = some (.builtin "isinstance") := by subst ei; decide +kernel
  have st2 : starEach [Expr.Name y p2] X.env = (false, eval (.Name y p2) X.env) :: starEach [] X.env := star_cons fun _ _ => by simp
  refine (pe_callB call_isi g1 g4 hb (pa_cons hx (pa_cons (ty_of o hy ey) pa_nil st2) (star_cons (star_of hs))) g3 g2 (star_cons (star_of hs)) (by rw [st2]; rfl)).of fun σ H Q ⟨F0, H0, F, ε, R, q⟩ => ?_
  refine tD_bind R mn q fun d v H1 F1 q1 R1 t1 rx => ?_
  refine ⟨v, _, _, _, d.isa t, rfl, .ty _, rx.ty R1.good, kitOne_is _ d t, q1 _ H1 F1 t1 R1.good ?_⟩
  have e : ([t] : List Ty).any d.isa = d.isa t := by simp
  rw [e]
  exact .bl _
theorem pd_isiT {pos p p2 : Pos} {k : Nat} (o : XOk T Φ c X) {ts : List Ty} {i : Str} {x : Expr} {ys : List Expr} {m : DE} (hi : nmBi T c i = true) (ei : i = "isinstance") (hs : noStar x = true) (hx : PE X x (tD X.K m)) (mn : MonoE m) (hy : tieTys T c ts ys = true) (hl : ts.length ≤ 1000) :
    PE X (.Call (.Name i p) [x, .Tuple ys k p2] [] pos) (tD X.K fun ε Q => m ε fun d => Q (.bl (ts.any d.isa))) := by
  obtain ⟨g1, g2, g3, g4⟩ := o.bi hi
  have hb : bootBuiltins i = some (.builtin "isinstance") := by subst ei; decide +kernel
  obtain ⟨_, hys⟩ := tys_of o ts ys hy
  have st2 : starEach [Expr.Tuple ys k p2] X.env = (false, eval (.Tuple ys k p2) X.env) :: starEach [] X.env := star_cons fun _ _ => by simp
  refine (pe_callB call_isiT g1 g4 hb (pa_cons hx (pa_cons (pe_tup hys) pa_nil st2) (star_cons (star_of hs))) g3 g2 (star_cons (star_of hs)) (by rw [st2]; rfl)).of fun σ H Q ⟨F0, H0, F, ε, R, q⟩ => ?_
  refine tD_bind R mn q fun d v H1 F1 q1 R1 t1 rx => ?_
  refine ⟨by rw [List.length_map, sizeLine_eq]; omega, fun tp htp => ?_⟩
  have g := R1.good.own (o := .tup (ts.map fun t => V.ty t.nm)) (R1.good.nn htp).1 (R1.good.nn htp).2
  have pr : ∀ ts : List Ty, Paired ClsV (ts.map fun t => V.ty t.nm) (ts.map fun t => Value.type t.nm) := fun ts => by
    induction ts with
    | nil => exact .nil
    | cons t ts ih => exact .cons (.ty _) ih
  exact ⟨v, tp, _, _, _, _, rfl, upd_same, pr ts, rx.ty g, kitAny_is _ d ts, q1 _ _ F1 (t1.trans R1.good (Step.own htp)) g (.bl _)⟩
theorem strsK {ss : List Str} : (ss.map V.str) = (ss.map (Sum.inr : Str → Key)).map kV := by rw [List.map_map]; rfl
theorem intsK {ns : List Int} : (ns.map V.int) = (ns.map (Sum.inl : Int → Key)).map kV := by rw [List.map_map]; rfl
theorem pd_sset {pos pos2 p p2 : Pos} (o : XOk T Φ c X) {i j : Str} {x : Expr} {a : CE} (hi : nmBi T c i = true) (ei : i = "sorted") (hj : nmBi T c j = true) (ej : j = "set") (hs : noStar x = true) (hx : PE X x (tD X.K (semE Φ a))) :
    PE X (.Call (.Name i p) [.Call (.Name j p2) [x] [] pos2] [] pos) (tDF X.K (semE Φ (.sset a))) := by
  obtain ⟨g1, g2, g3, g4⟩ := o.bi hi
  obtain ⟨k1, k2, k3, k4⟩ := o.bi hj
  have hb : bootBuiltins i = some (.builtin "sorted") := by subst ei; decide +kernel
  have hb2 : bootBuiltins j = some (.type "set") := by subst ej; decide +kernel
  have st1 : starEach [x] X.env = (false, eval x X.env) :: starEach [] X.env := star_cons (star_of hs)
  have st2 : starEach [Expr.Call (.Name j p2) [x] [] pos2] X.env = (false, eval (.Call (.Name j p2) [x] [] pos2) X.env) :: starEach [] X.env := star_cons fun _ _ => by simp
  refine (pe_callB (cr_sortedSt o.calm) g1 g4 hb (pa_cons (pe_callTy (cr_setL o.calm) k1 k4 hb2 (pa_cons hx pa_nil st1) k3 k2 st1 rfl) pa_nil st2) g3 g2 st2 rfl).of fun σ H Q ⟨F0, H0, F, ε, R, q⟩ => ?_
  unfold semE at q
  refine tD_bind R (semE_mono o.mono a) q fun d v H1 F1 ⟨xs, e, q1⟩ R1 t1 rx => ?_
  have hv : ∃ l ws, v = .ref l ∧ (SqL X.K H1 l ws ∨ SqT X.K H1 l ws) ∧ RepL X.K F1 ws xs := by
    rcases e with rfl | rfl
    · cases rx with | lst h r => exact ⟨_, _, rfl, .inl (SqL.of (R1.good.fz _ _ h)), r⟩
    · cases rx with | tup h _ r => exact ⟨_, _, rfl, .inr (sqT_up R1.good h), r⟩
  obtain ⟨l, ws, rfl, hq, r⟩ := hv
  rcases q1 with ⟨ns, rfl, hl, q1⟩ | ⟨ss, rfl, hl, q1⟩
  · obtain rfl := r.ints_of
    rw [intsK] at hq
    refine ⟨l, _, rfl, hq, by rw [List.length_map]; unfold scanBound; omega, fun p hp => ?_⟩
    have g' := R1.good.own (o := SetH X.w p (ns.map Sum.inl)) (R1.good.nn hp).1 (R1.good.nn hp).2
    have s' : Step F1 H1 F1 (upd H1 p (SetH X.w p (ns.map Sum.inl))) := Step.own hp
    refine ⟨p, _, rfl, upd_same, by rw [List.length_map]; unfold scanBound; omega, .inl ⟨ns, rfl, fun ms p2 h1 h2 hp2 => ?_⟩⟩
    exact ((FinF.step (q1 ms h1 h2) t1 R1.good).step s' g').new g' (.ints ms) p2 hp2
  · obtain ⟨rfl, hok⟩ := r.strs_of
    rw [strsK] at hq
    refine ⟨l, _, rfl, hq, by rw [List.length_map]; unfold scanBound; omega, fun p hp => ?_⟩
    have g' := R1.good.own (o := SetH X.w p (ss.map Sum.inr)) (R1.good.nn hp).1 (R1.good.nn hp).2
    have s' : Step F1 H1 F1 (upd H1 p (SetH X.w p (ss.map Sum.inr))) := Step.own hp
    refine ⟨p, _, rfl, upd_same, by rw [List.length_map]; unfold scanBound; omega, .inr ⟨ss, rfl, fun ms p2 h1 h2 h3 hp2 => ?_⟩⟩
    exact ((FinF.step (q1 ms h1 h2 h3) t1 R1.good).step s' g').new g' (.strs ms fun x hx => hok x ((h3 x).1 hx)) p2 hp2
theorem pd_maxD {pos p kp cp : Pos} {cj : Nat} (o : XOk T Φ c X) {i k : Str} {x : Expr} {a : CE} {d : Int} (hi : nmBi T c i = true) (ei : i = "max") (hs : noStar x = true) (ek : k = "default") (hx : PE X x (tD X.K (semE Φ a))) :
    PE X (.Call (.Name i p) [x] [⟨some k, .Constant (.int d) cj cp, kp⟩] pos) (tD X.K (semE Φ (.maxD a d))) := by
  obtain ⟨g1, g2, g3, g4⟩ := o.bi hi
  have hb : bootBuiltins i = some (.builtin "max") := by subst ei; decide +kernel
  subst ek
  have st1 : starEach [x] X.env = (false, eval x X.env) :: starEach [] X.env := star_cons (star_of hs)
  refine (pe_callBK (cr_maxD o.calm) g1 g4 hb (pa_cons hx pa_nil st1) (pk_cons pe_int pk_nil) g3 g2 (by rw [st1]; rfl) (by rw [st1]; rfl) rfl rfl rfl).of fun σ H Q ⟨F0, H0, F, ε, R, q⟩ => ?_
  unfold semE at q
  refine tD_bind R (semE_mono o.mono a) q fun y v H1 F1 q1 R1 t1 rx => ?_
  split at q1
  · obtain ⟨ns, rfl, q0, q1⟩ := q1
    cases rx with | lst h r =>
      obtain rfl := r.ints_of
      exact ⟨_, ns, d, rfl, rfl, SqL.of (R1.good.fz _ _ h), fun e => (Fin.step (q0 e) t1 R1.good).now R1.good (.int _), fun m hm hy => (Fin.step (q1 m hm hy) t1 R1.good).now R1.good (.int _)⟩
  · exact q1.elim
theorem pd_idxOf {apos pos : Pos} (o : XOk T Φ c X) {e x : Expr} {a b0 : CE} (hs : noSup e = true) (hx : noStar x = true) (hl : (apos.endLine == pos.line) = true) (ha : PE X e (tD X.K (semE Φ a))) (hb : PE X x (tD X.K (semE Φ b0))) :
    PE X (.Call (.Attribute e "index" apos) [x] [] pos) (tD X.K (semE Φ (.idxOf a b0))) := by
  have st1 : starEach [x] X.env = (false, eval x X.env) :: starEach [] X.env := star_cons (star_of hx)
  refine (pe_index ha (pad_cons hb pad_nil (semE_mono o.mono b0) (fun ε P P' h q => h _ q) (star_of hx)) (base_of hs _ _ _) hl st1).of fun σ H Q ⟨F0, H0, F, ε, R, q⟩ => ?_
  unfold semE at q
  refine tD_bind R (semE_mono o.mono a) q fun y v H1 F1 ⟨iq, q1⟩ R1 t1 rx => ?_
  have key : ∃ l xs ds, v = .ref l ∧ RepL X.K F1 xs ds ∧ ((y = .lst ds ∧ F1.fz l = some (.lst xs)) ∨ (y = .tup ds ∧ SqT X.K F1.fz l xs ∧ NoD X.K F1.fz l)) := by
    cases rx with
    | lst h r => exact ⟨_, _, _, rfl, r, .inl ⟨rfl, h⟩⟩
    | tup h n r => exact ⟨_, _, _, rfl, r, .inr ⟨rfl, h, n⟩⟩
    | _ => exact iq.elim
  obtain ⟨l, xs, ds, rfl, r, key⟩ := key
  have fin : ∀ (b : Bool), (∀ F' H', Step F1 H1 F' H' → Good F' H' → SqB b X.K H' l xs) → (b = true → NoD X.K H1 l) → (∃ b' a ws, V.ref l = .ref a ∧ SqB b' X.K H1 a ws ∧ (b' = true → NoD X.K H1 a) ∧ tDA X.K (fun ε Q => semE Φ b0 ε fun d => (fun _ Q => Q [] : DA) ε fun ds => Q (d :: ds)) σ H1 fun vs H2 => rIdxB b' X.K (.ref l) vs H2 Q) := fun b hb hn => by
    refine ⟨b, l, xs, rfl, hb F1 H1 (Step.refl _ _) R1.good, hn, F0, H0, F1, ε, R1, semE_mono o.mono b0 _ _ _ (fun y' q2 vs H2 F2 t2 g2 r2 => ?_) q1⟩
    cases r2 with
    | @cons w y2 ws ds2 ry rr =>
      cases rr
      have r3 := r.step t2
      have go : ∀ (ss : List Str) (z : Str), ds = ss.map D.str → y' = .str z → (∃ j : Nat, ss[j]? = some z ∧ (∀ m, m < j → ss[m]? ≠ some z) ∧ Fin X.K F H Q (.int j)) → rIdxB b X.K (.ref l) [w] H2 Q := fun ss z e ew ⟨j, h1, h2, q⟩ => by
        subst e ew
        have ew2 : w = .str z := by cases ry; rfl
        subst ew2
        obtain ⟨e3, _⟩ := r3.strs_of
        subst e3
        exact ⟨l, ss, z, j, rfl, rfl, h1, h2, ((Fin.step q t1 R1.good).step t2 g2).now g2 (.int _), hb F2 H2 t2 g2⟩
      unfold idxR at q2
      split at q2
      · rcases key with ⟨e, _⟩ | ⟨e, _⟩
        · cases e
        · cases e
          obtain ⟨ss, e, j, h1, h2, q⟩ := q2
          exact go ss _ e rfl ⟨j, h1, h2, q⟩
      · rcases key with ⟨e, _⟩ | ⟨e, _⟩
        · cases e
          obtain ⟨ss, e, j, h1, h2, q⟩ := q2
          exact go ss _ e rfl ⟨j, h1, h2, q⟩
        · cases e
      · exact q2.elim
  rcases key with ⟨_, h⟩ | ⟨_, h, n⟩
  · exact fin false (fun F' H' t g => SqL.of (g.fz _ _ (t.fz _ _ h))) (fun e => by cases e)
  · exact fin true (fun F' H' t g => sqT_up g (sqT_mono t.fz h)) (fun _ => noD_mono R1.good.fz n)
theorem pd_var {pos : Pos} (o : XOk T Φ c X) {i : Nat} {x : Str} (h : nmOk c i x = true) : PE X (.Name x pos) (tD X.K (semE Φ (.var i))) := by
  refine (o.var h).of fun σ H Q ⟨F0, H0, F, ε, R, q⟩ => ?_
  unfold semE at q
  split at q
  · rename_i d e
    obtain ⟨v, h1, h2⟩ := R.valAt e
    exact ⟨v, h1, q.now R.good h2⟩
  · exact q.elim
theorem pd_lenO {pos p p2 : Pos} (o : XOk T Φ c X) {i : Nat} {f x : Str} (hf : nmBi T c f = true) (ef : f = "len") (h : nmOk c i x = true) : PE X (.Call (.Name f p) [.Name x p2] [] pos) (tD X.K (semE Φ (.lenO i))) := by
  obtain ⟨g1, g2, g3, g4⟩ := o.bi hf
  have hb : bootBuiltins f = some (.builtin "len") := by subst ef; decide +kernel
  have st2 : starEach [Expr.Name x p2] X.env = (false, eval (.Name x p2) X.env) :: starEach [] X.env := star_cons fun _ _ => by simp
  refine (pe_callB call_len g1 g4 hb (pa_cons (o.var h) pa_nil st2) g3 g2 st2 rfl).of fun σ H Q ⟨F0, H0, F, ε, R, q⟩ => ?_
  unfold semE at q
  split at q
  · rename_i ds e
    obtain ⟨l, xs, h1, h2, h3, h4, h5, r⟩ := R.ownAt e
    refine ⟨_, h1, _, _, rfl, .inl ⟨xs, SqL.of h2, rfl⟩, ?_⟩
    rw [r.length]
    exact q.now R.good (.int _)
  · rename_i ds e
    obtain ⟨v, h1, r⟩ := R.valAt e
    cases r with
    | lst h r =>
      refine ⟨_, h1, _, _, rfl, .inl ⟨_, SqL.of (R.good.fz _ _ h), rfl⟩, ?_⟩
      rw [r.length]
      exact q.now R.good (.int _)
  · exact q.elim
theorem pd_idxO {pos p2 : Pos} (o : XOk T Φ c X) {i : Nat} {x : Str} {y : Expr} {k : CE} (h : nmOk c i x = true) (hs : noSlice y = true) (hy : PE X y (tD X.K (semE Φ k))) : PE X (.Subscript (.Name x p2) y pos) (tD X.K (semE Φ (.idxO i k))) := by
  refine (pe_ix ix_list (o.var h) hy (ix_of hs)).of fun σ H Q ⟨F0, H0, F, ε, R, q⟩ => ?_
  unfold semE at q
  have key : ∃ (l : Addr) (xs : List V) (ds : List D), σ[i]? = some (some (.ref l)) ∧ (∀ F' H', Step F H F' H' → Good F' H' → H' l = some (.lst xs)) ∧ RepL X.K F xs ds ∧ semE Φ k ε fun y => opIx (.lst ds) y (Fin X.K F H Q) := by
    split at q
    · rename_i ds e
      obtain ⟨l, xs, h1, h2, h3, h4, h5, r⟩ := R.ownAt e
      exact ⟨l, xs, ds, h1, fun F' H' t g => t.hp _ _ h2 h4, r, q⟩
    · rename_i ds e
      obtain ⟨v, h1, r⟩ := R.valAt e
      cases r with
      | lst h r => exact ⟨_, _, ds, h1, fun F' H' t g => g.fz _ _ (t.fz _ _ h), r, q⟩
    · exact q.elim
  obtain ⟨l, xs, ds, h1, h2, r, q⟩ := key
  refine ⟨_, h1, ?_⟩
  refine tD_bind R (semE_mono o.mono k) q fun y w H1 F1 q1 R1 t1 ry => ?_
  cases ry with
  | int n =>
    obtain ⟨d, e, q1⟩ := q1
    obtain ⟨u, h3, h4⟩ := (r.step t1).getI e
    exact ⟨_, xs, n, u, rfl, rfl, SqL.of (h2 _ _ t1 R1.good), h3, (Fin.step q1 t1 R1.good).now R1.good h4⟩
  | _ => exact q1.elim
end
end DL

/-! DL8: the tie is sound: the inductions. -/
namespace DL
open PySem PySem.Spec PyProof.Rows L2
section
variable {T : Tab} {Φ : Sm}
abbrev ResE (Φ : Sm) (X : Cx) (ce : CE) (e : Expr) : Prop := PE X e (tD X.K (semE Φ ce)) ∧ (ce.fresh = true → PE X e (tDF X.K (semE Φ ce)))
abbrev ResT (Φ : Sm) (X : Cx) (ce : CE) (e : Expr) : Prop := PT X e (tDT X.K (mT (semE Φ ce))) ∧ (isBo e = true → PW X e (tDT X.K (mT (semE Φ ce))))
abbrev ResI (Φ : Sm) (X : Cx) (it : CI) (e : Expr) : Prop := ∀ tg, tgOk it tg = true → PI X tg e (tDI X.K (semI Φ it))
theorem own_ix {N : List Str} {vs : List Nat} : (ownOf N vs).map (·.2) = vs := by
  unfold ownOf
  rw [List.map_map]
  induction vs with
  | nil => rfl
  | cons v vs ih => rw [List.map_cons, ih]; rfl
/-- a list comprehension: its parts -/
structure LcParts (Φ : Sm) (c : TC) (X : Cx) (e : CE) (t : CT) (it : CI) (cnd : CO) (vs : List Nat) (elt tg iter : Expr) (ifs : List Expr) (scope : Scope) : Prop where
  bo : BlkOk X.N X.env.scope scope (ownOf c.N vs)
  hi : PI X tg iter (tDI X.K (semI Φ it))
  hg : ∀ (s : Shared) (H : Hp) (C : Addr) (cl : List (Str × Addr)) (fp : List Addr), PG (X.blk s H scope (compEnvC scope cl C X.env) fp) tg (tDG X.K t.slots (bindT t))
  ht : ∃ tt : TT, (∀ σ H Q, tDT X.K (mT (semC Φ cnd)) σ H Q → tt σ H Q) ∧ ∀ (s : Shared) (H : Hp) (C : Addr) (cl : List (Str × Addr)) (fp : List Addr), PTs (X.blk s H scope (compEnvC scope cl C X.env) fp) ifs tt
  he : ∀ (s : Shared) (H : Hp) (C : Addr) (cl : List (Str × Addr)) (fp : List Addr), PE (X.blk s H scope (compEnvC scope cl C X.env) fp) elt (tD X.K (semE Φ e))
  hs : ∀ x, foldedSetIterable iter X.env x = pure x
  hw : ∀ i ∈ t.slots, i ∈ vs
theorem strOk_join {s : Str} (hs : PyData.strOk s = true) {ys : List Str} (hy : ∀ y ∈ ys, PyData.strOk y = true) : PyData.strOk (Txt.join s ys) = true := by
  have go : ∀ (l : List Str) (acc : Array Nat), acc.all (· < 0x110000) = true → (∀ y ∈ l, PyData.strOk y = true) → (l.foldl (fun acc p => acc ++ s.cps ++ p.cps) acc).all (· < 0x110000) = true := by
    intro l
    induction l with
    | nil => exact fun acc h _ => h
    | cons p l ih =>
      intro acc h hl
      rw [List.foldl_cons]
      refine ih _ ?_ fun y h => hl y (List.mem_cons_of_mem _ h)
      rw [Array.all_append, Array.all_append, h]
      have h1 : s.cps.all (· < 0x110000) = true := hs
      have h2 : p.cps.all (· < 0x110000) = true := hl p List.mem_cons_self
      rw [h1, h2]
      rfl
  show ((ys.drop 1).foldl (fun acc p => acc ++ s.cps ++ p.cps) (ys.headD Str.empty).cps).all (· < 0x110000) = true
  cases ys with
  | nil =>
    show Str.empty.cps.all (· < 0x110000) = true
    decide +kernel
  | cons y ys => exact go _ _ (hy y List.mem_cons_self) fun z h => hy z (List.mem_cons_of_mem _ (by simpa using h))
theorem plainP {c : TC} {X : Cx} (o : XOk T Φ c X) (ce : CE) (e : Expr) (h : PE X e (tD X.K (semE Φ ce))) (hp : plainT e = true) : ResT Φ X ce e :=
  ⟨pt_valD h (semE_mono o.mono ce) fun whole => plain_true hp X.env whole, fun z => by cases e <;> first | (cases z; done) | (cases hp; done)⟩
theorem lit_ok {X : Cx} {d : D} {k : Const} {j : Nat} {pos : Pos} (h : tieLit d k = true) : PE X (.Constant k j pos) (tD X.K (semE Φ (.lit d))) := by
  cases d <;> cases k <;> first | (simp [tieLit] at h; done) | skip
  · exact pe_non.of fun σ H Q ⟨F0, H0, F, ε, R, q⟩ => Fin.now (show Fin X.K F H Q .non from q) R.good .non
  · rename_i b b'
    obtain rfl : b = b' := by simpa [tieLit] using h
    exact pe_bl.of fun σ H Q ⟨F0, H0, F, ε, R, q⟩ => Fin.now (show Fin X.K F H Q (.bl b) from q) R.good (.bl _)
  · rename_i i i'
    obtain rfl : i = i' := by simpa [tieLit] using h
    exact pe_int.of fun σ H Q ⟨F0, H0, F, ε, R, q⟩ => Fin.now (show Fin X.K F H Q (.int i) from q) R.good (.int _)
  · rename_i i i'
    obtain ⟨h1, h2⟩ : i = i' ∧ PyData.strOk i = true := by simpa [tieLit] using h
    subst h1
    exact pe_str.of fun σ H Q ⟨F0, H0, F, ε, R, q⟩ => Fin.now (show Fin X.K F H Q (.str i) from q) R.good (.str _ h2)
mutual
theorem sndE : ∀ (ce : CE) {c : TC} {X : Cx} (o : XOk T Φ c X) (e : Expr), tieE T ce c e = true → ResE Φ X ce e
  | .var i, c, X, o, e, h => by
    have h : kVar i c e = true := h
    unfold kVar at h
    split at h
    · exact nofresh rfl (pd_var o h)
    · cases h
  | .lit d, c, X, o, e, h => by
    have h : kLit d c e = true := h
    unfold kLit at h
    split at h
    · exact nofresh rfl (lit_ok h)
    · cases h
  | .glob k, c, X, o, e, h => by
    have h : kGlob T k c e = true := h
    unfold kGlob at h
    split at h
    · obtain ⟨h1, h2⟩ := and2 h
      obtain ⟨g1, g2, g3⟩ := o.gl h1
      obtain ⟨u, v, h3, h4, h5⟩ := o.cs k _ (of_decide_eq_true h2)
      exact nofresh rfl ((pe_glob g1 h3 h4 g2).of fun σ H Q ⟨F0, H0, F, ε, R, q⟩ => Fin.now (show Fin X.K F H Q (Φ.c k) from q) R.good (h5 F))
    · cases h
  | .tup es, c, X, o, e, h => by
    have h : kTupl (tieEs T es) c e = true := h
    unfold kTupl at h
    split at h
    · exact nofresh rfl (pd_tup (sndEs es o _ h) (semEs_mono o.mono es))
    · cases h
  | .lst es, c, X, o, e, h => by
    have h : kList (tieEs T es) c e = true := h
    unfold kList at h
    split at h
    · exact both_of o rfl (pd_lstF (sndEs es o _ h) (semEs_mono o.mono es))
    · cases h
  | .bin op a b, c, X, o, e, h => by
    have h : kBin op.op (tieE T a) (tieE T b) c e = true := h
    unfold kBin at h
    split at h
    · obtain ⟨h, h3⟩ := and2 h
      obtain ⟨h1, h2⟩ := and2 h
      obtain rfl := of_decide_eq_true h1
      obtain ⟨rL, ho, hd⟩ := op2_ok (X := X) op
      exact nofresh rfl (pd_op ho hd (op2_mono op) (sndE a o _ h2).1 (sndE b o _ h3).1 (semE_mono o.mono a) (semE_mono o.mono b))
    · cases h
  | .neg a, c, X, o, e, h => by
    have h : kUn .USub (tieE T a) c e = true := h
    unfold kUn at h
    split at h
    · obtain ⟨h1, h2⟩ := and2 h
      obtain rfl := of_decide_eq_true h1
      exact nofresh rfl (pd_neg (sndE a o _ h2).1 (semE_mono o.mono a))
    · cases h
  | .rep a b, c, X, o, e, h => by
    have h : kBin .Mult (tieE T a) (tieE T b) c e = true := h
    unfold kBin at h
    split at h
    · obtain ⟨h, h3⟩ := and2 h
      obtain ⟨h1, h2⟩ := and2 h
      obtain rfl := of_decide_eq_true h1
      exact both_of o rfl (pd_rep (sndE a o _ h2).1 (sndE b o _ h3).1 (semE_mono o.mono a) (semE_mono o.mono b))
    · cases h
  | .cat a b, c, X, o, e, h => by
    have h : kBin .Add (tieE T a) (tieE T b) c e = true := h
    unfold kBin at h
    split at h
    · obtain ⟨h, h3⟩ := and2 h
      obtain ⟨h1, h2⟩ := and2 h
      obtain rfl := of_decide_eq_true h1
      exact both_of o rfl (pd_cat (sndE a o _ h2).1 (sndE b o _ h3).1 (semE_mono o.mono a) (semE_mono o.mono b))
    · cases h
  | .cmp op a b, c, X, o, e, h => by
    have h : kCmp1 op.op (tieE T a) (tieE T b) c e = true := h
    unfold kCmp1 at h
    split at h
    · obtain ⟨h, h4⟩ := and2 h
      obtain ⟨h, h3⟩ := and2 h
      obtain ⟨h1, h2⟩ := and2 h
      obtain rfl := of_decide_eq_true h1
      obtain ⟨rL, ho, hd⟩ := opc_ok (X := X) o.un op
      exact nofresh rfl (pd_cmp ho hd (opc_mono op) (sndE a o _ h3).1 (sndE b o _ h4).1 (semE_mono o.mono a) (semE_mono o.mono b) (behind_of h2))
    · cases h
  | .not a, c, X, o, e, h => by
    have h : kUn .Not (tieE T a) c e = true := h
    unfold kUn at h
    split at h
    · obtain ⟨h1, h2⟩ := and2 h
      obtain rfl := of_decide_eq_true h1
      exact nofresh rfl (pd_not (sndE a o _ h2).1 (semE_mono o.mono a))
    · cases h
  | .and a b, c, X, o, e, h => by
    have h : kBo .And (tieE T a) (tieE T b) c e = true := h
    unfold kBo at h
    split at h
    · obtain ⟨h, h3⟩ := and2 h
      obtain ⟨h1, h2⟩ := and2 h
      obtain rfl := of_decide_eq_true h1
      have ha := (sndE a o _ h2).1
      refine nofresh rfl ?_
      split at h3
      · exact (pe_and ha (pe_one (sndE b o _ h3).1)).of fun σ H Q q => andV_read (semE_mono o.mono a) (semE_mono o.mono b) q
      · exact (pe_and ha (sndE b o _ h3).1).of fun σ H Q q => andV_read (semE_mono o.mono a) (semE_mono o.mono b) q
    · cases h
  | .or a b, c, X, o, e, h => by
    have h : kBo .Or (tieE T a) (tieE T b) c e = true := h
    unfold kBo at h
    split at h
    · obtain ⟨h, h3⟩ := and2 h
      obtain ⟨h1, h2⟩ := and2 h
      obtain rfl := of_decide_eq_true h1
      have ha := (sndE a o _ h2).1
      refine nofresh rfl ?_
      split at h3
      · exact (pe_or ha (pe_one (sndE b o _ h3).1)).of fun σ H Q q => orV_read (semE_mono o.mono a) (semE_mono o.mono b) q
      · exact (pe_or ha (sndE b o _ h3).1).of fun σ H Q q => orV_read (semE_mono o.mono a) (semE_mono o.mono b) q
    · cases h
  | .ite t a b, c, X, o, e, h => by
    have h : kIte t (tieE T t) (tieE T a) (tieE T b) c e = true := h
    unfold kIte at h
    split at h
    · obtain ⟨h, h4⟩ := and2 h
      obtain ⟨h, h3⟩ := and2 h
      obtain ⟨h1, h2⟩ := and2 h
      exact nofresh rfl (pd_ite (sndP t o _ h2 h1).1 (sndE a o _ h3).1 (sndE b o _ h4).1 (semE_mono o.mono t) (semE_mono o.mono a) (semE_mono o.mono b))
    · cases h
  | .idx a i, c, X, o, e, h => by
    have h : kIdx (tieE T a) (tieE T i) c e = true := h
    unfold kIdx at h
    split at h
    · obtain ⟨h, h3⟩ := and2 h
      obtain ⟨h1, h2⟩ := and2 h
      exact nofresh rfl (pd_idx (sndE a o _ h2).1 (sndE i o _ h3).1 (semE_mono o.mono a) (semE_mono o.mono i) (ix_of h1))
    · cases h
  | .slL a lo hi, c, X, o, e, h => by
    have h : kSlc (tieE T a) (tieO T lo) (tieO T hi) c e = true := h
    unfold kSlc at h
    split at h
    · obtain ⟨h, h3⟩ := and2 h
      obtain ⟨h1, h2⟩ := and2 h
      exact both_of o rfl (pd_slL (sndE a o _ h1).1 (sndO lo o _ h2) (sndO hi o _ h3) (semE_mono o.mono a) (semO_mono o.mono lo) (semO_mono o.mono hi))
    · cases h
  | .slT a lo hi, c, X, o, e, h => by
    have h : kSlc (tieE T a) (tieO T lo) (tieO T hi) c e = true := h
    unfold kSlc at h
    split at h
    · obtain ⟨h, h3⟩ := and2 h
      obtain ⟨h1, h2⟩ := and2 h
      exact nofresh rfl (pd_slT (sndE a o _ h1).1 (sndO lo o _ h2) (sndO hi o _ h3) (semE_mono o.mono a) (semO_mono o.mono lo) (semO_mono o.mono hi))
    · cases h
  | .lenO i, c, X, o, e, h => by
    have h : kLenO T i c e = true := h
    unfold kLenO at h
    split at h
    · obtain ⟨h, h3⟩ := and2 h
      obtain ⟨h1, h2⟩ := and2 h
      exact nofresh rfl (pd_lenO o h1 (of_decide_eq_true h2) h3)
    · cases h
  | .idxO i k, c, X, o, e, h => by
    have h : kIdxO i (tieE T k) c e = true := h
    unfold kIdxO at h
    split at h
    · obtain ⟨h, h3⟩ := and2 h
      obtain ⟨h1, h2⟩ := and2 h
      exact nofresh rfl (pd_idxO o h2 h1 (sndE k o _ h3).1)
    · cases h
  | .isi a ts, c, X, o, e, h0 => by
    have key : (∃ t, ts = [t] ∧ kIsi1 T t (tieE T a) c e = true) ∨ kIsiT T ts (tieE T a) c e = true := by
      match ts, h0 with
      | [], h => exact .inr h
      | [t], h => exact .inl ⟨t, rfl, h⟩
      | t :: t2 :: ts, h => exact .inr h
    refine nofresh rfl ?_
    rcases key with ⟨t, rfl, h⟩ | h
    · unfold kIsi1 at h
      split at h
      · obtain ⟨h, h6⟩ := and2 h
        obtain ⟨h, h5⟩ := and2 h
        obtain ⟨h, h4⟩ := and2 h
        obtain ⟨h, h3⟩ := and2 h
        obtain ⟨h1, h2⟩ := and2 h
        exact pd_isi1 o h1 (of_decide_eq_true h2) h3 (sndE a o _ h4).1 (semE_mono o.mono a) h5 (of_decide_eq_true h6)
      · cases h
    · unfold kIsiT at h
      split at h
      · obtain ⟨h, h6⟩ := and2 h
        obtain ⟨h, h5⟩ := and2 h
        obtain ⟨h, h4⟩ := and2 h
        obtain ⟨h, h3⟩ := and2 h
        obtain ⟨h1, h2⟩ := and2 h
        exact pd_isiT o h1 (of_decide_eq_true h2) h3 (sndE a o _ h4).1 (semE_mono o.mono a) h5 (of_decide_eq_true h6)
      · cases h
  | .bi b es, c, X, o, e, h => by
    have h : kBi T b (tieEs T es) c e = true := h
    unfold kBi at h
    split at h
    · obtain ⟨h, h3⟩ := and2 h
      obtain ⟨h1, h2⟩ := and2 h
      have pl := es_plain es _ h3
      have hes := sndEs es o _ h3
      by_cases hf : b.fresh = true
      · obtain ⟨rL, hc, hd⟩ := bi_okF (X := X) b hf
        exact both_of o hf (pd_callF (sp := fun vs H Q _ => rL vs H Q) (bi_call o b hc (of_decide_eq_true h2) h1 (pl _ List.mem_cons_self) fun y hy => pl y (List.mem_cons_of_mem _ hy)) hes (semEs_mono o.mono es) hd (bi_mono b))
      · have hf : b.fresh = false := by simpa using hf
        obtain ⟨rL, hc, hd⟩ := bi_ok (X := X) o.calm b hf
        exact nofresh hf (pd_call (sp := fun vs H Q _ => rL vs H Q) (bi_call o b hc (of_decide_eq_true h2) h1 (pl _ List.mem_cons_self) fun y hy => pl y (List.mem_cons_of_mem _ hy)) hes (semEs_mono o.mono es) hd (bi_mono b))
    · cases h
  | .call f es, c, X, o, e, h => by
    have h : kCall1 T f (tieEs T es) c e = true := h
    unfold kCall1 at h
    split at h
    · obtain ⟨h, h3⟩ := and2 h
      obtain ⟨h1, h2⟩ := and2 h
      split at h2
      · rename_i m ps kw hf
        obtain ⟨h2, h6⟩ := and2 h2
        obtain ⟨h4, h5⟩ := and2 h2
        obtain rfl := of_decide_eq_true h4
        have hkw : kw = false := by simpa using h6
        subst hkw
        have h5 := of_decide_eq_true h5
        have pl := es_plain es _ h3
        refine nofresh rfl (PE.of (pd_call (m := fun ε Q => semEs Φ es ε fun ds => ds.length = ps.length ∧ Q ds) (own_call o hf h1 (pl _ List.mem_cons_self) fun y hy => pl y (List.mem_cons_of_mem _ hy))
          ((sndEs es o _ h3).of fun σ H Q ⟨F0, H0, F, ε, R, q⟩ => ⟨F0, H0, F, ε, R, semEs_mono o.mono es _ _ _ (fun ds z => z.2) q⟩) (fun ε P P' hp q => semEs_mono o.mono es _ _ _ (fun ds z => ⟨z.1, hp _ z.2⟩) q)
          (r := fun ds Q => ds.length = ps.length ∧ Φ.f f ds fun s => match s with | .val d => Q d | .own ds => Q (.lst ds) | .non => False) (fun F H ds vs Q g r ⟨hl, q⟩ => ⟨F, ds, g, r, hl, o.mono f ds _ _ (fun s z v H' F' rt => ret_val z rt) q⟩)
          (fun ds P P' hp q => ⟨q.1, o.mono f ds _ _ (fun s z => by cases s <;> first | exact hp _ z | exact z) q.2⟩)) fun σ H Q ⟨F0, H0, F, ε, R, q⟩ => ⟨F0, H0, F, ε, R, ?_⟩)
        unfold semE at q
        exact semEs_mono o.mono es _ _ _ (fun ds z => ⟨by rw [z.1, h5]; rfl, by rw [z.1, h5]; rfl, z.2⟩) (es_len es _ ε _ h3 o.mono q)
      · cases h2
    · cases h
  | .callO f es, c, X, o, e, h => by
    have h : kCall1 T f (tieEs T es) c e = true := h
    unfold kCall1 at h
    split at h
    · obtain ⟨h, h3⟩ := and2 h
      obtain ⟨h1, h2⟩ := and2 h
      split at h2
      · rename_i m ps kw hf
        obtain ⟨h2, h6⟩ := and2 h2
        obtain ⟨h4, h5⟩ := and2 h2
        obtain rfl := of_decide_eq_true h4
        have hkw : kw = false := by simpa using h6
        subst hkw
        have h5 := of_decide_eq_true h5
        have pl := es_plain es _ h3
        refine both_of o rfl (PE.of (pd_callF (m := fun ε Q => semEs Φ es ε fun ds => ds.length = ps.length ∧ Q ds) (own_call o hf h1 (pl _ List.mem_cons_self) fun y hy => pl y (List.mem_cons_of_mem _ hy))
          ((sndEs es o _ h3).of fun σ H Q ⟨F0, H0, F, ε, R, q⟩ => ⟨F0, H0, F, ε, R, semEs_mono o.mono es _ _ _ (fun ds z => z.2) q⟩) (fun ε P P' hp q => semEs_mono o.mono es _ _ _ (fun ds z => ⟨z.1, hp _ z.2⟩) q)
          (r := fun ds Q => ds.length = ps.length ∧ Φ.f f ds fun s => match s with | .own ds => Q (.lst ds) | _ => False) (fun F H ds vs Q g r ⟨hl, q⟩ => ⟨F, ds, g, r, hl, o.mono f ds _ _ (fun s z v H' F' rt => ret_own z rt) q⟩)
          (fun ds P P' hp q => ⟨q.1, o.mono f ds _ _ (fun s z => by cases s <;> first | exact hp _ z | exact z) q.2⟩)) fun σ H Q ⟨F0, H0, F, ε, R, q⟩ => ⟨F0, H0, F, ε, R, ?_⟩)
        unfold semE at q
        exact semEs_mono o.mono es _ _ _ (fun ds z => ⟨by rw [z.1, h5]; rfl, by rw [z.1, h5]; rfl, z.2⟩) (es_len es _ ε _ h3 o.mono q)
      · cases h2
    · cases h
  | .lc e t it cnd vs, c, X, o, x, h => by
    have h : kLcomp (tgOk it) t vs (tieI T it) (tieC T cnd) (tieE T e) c x = true := h
    unfold kLcomp at h
    split at h
    · rename_i elt tg iter ifs scope pos hh
      obtain ⟨h, h7⟩ := and2 h
      obtain ⟨h, h6⟩ := and2 h
      obtain ⟨h, h5⟩ := and2 h
      obtain ⟨h, h4⟩ := and2 h
      obtain ⟨h, h3⟩ := and2 h
      obtain ⟨h, ht0⟩ := and2 h
      obtain ⟨h1, h2⟩ := and2 h
      have bo : BlkOk X.N X.env.scope scope (ownOf c.N vs) := by rw [o.N, o.sc]; exact blkOk_by h1
      have hw : ∀ i ∈ t.slots, i ∈ vs := fun i hi => of_decide_eq_true (List.all_eq_true.mp h2 i hi)
      obtain ⟨tt, ht1, ht2⟩ := sndC cnd o (fun {c'} {X'} o' => o') h6 bo.kind
      refine both_of o rfl ((pe_lc (te := tD X.K (semE Φ e)) (g := tDG X.K t.slots (bindT t)) (tt := tt) o.calm o.nd' (sndI it o _ h4 _ ht0) bo (fun s H C cl fp => sndT (o.blk bo.kind s H C cl fp) t _ h5) ht2 (fun s H C cl fp => (sndE e (o.blk bo.kind s H C cl fp) _ h7).1) (folded_of h3 X.env)).of fun σ H Q q => ?_)
      rw [own_ix]
      refine lc_read (semI_mono o.mono it) (semC_mono o.mono cnd) (semE_mono o.mono e) hw ht1 ?_
      obtain ⟨F0, H0, F, ε, R, q⟩ := q
      unfold semE at q
      exact ⟨F0, H0, F, ε, R, q⟩
    · cases h
  | .joinS a b, c, X, o, e, h => by
    have h : kJoin (tieE T a) (tieE T b) c e = true := h
    unfold kJoin at h
    split at h
    · obtain ⟨h, h6⟩ := and2 h
      obtain ⟨h, h5⟩ := and2 h
      obtain ⟨h, h4⟩ := and2 h
      obtain ⟨h, h3⟩ := and2 h
      obtain ⟨h1, h2⟩ := and2 h
      obtain rfl := of_decide_eq_true h1
      refine nofresh rfl ((pe_join (sndE a o _ h5).1 (sndE b o _ h6).1 (star_cons (star_of h3)) (base_of h2 _ _ _) h4).of fun σ H Q ⟨F0, H0, F, ε, R, q⟩ => ?_)
      unfold semE at q
      refine tD_bind R (semE_mono o.mono a) q fun x v H1 F1 q1 R1 t1 rx => ?_
      have isS : ∃ s, v = .str s ∧ x = .str s ∧ PyData.strOk s = true := by
        cases rx with
        | str s hs => exact ⟨s, rfl, rfl, hs⟩
        | _ => exact q1.elim
      obtain ⟨s, rfl, rfl, hs⟩ := isS
      refine ⟨⟨s, rfl⟩, tD_bind R1 (semE_mono o.mono b) q1 fun y w H2 F2 q2 R2 t2 ry => ?_⟩
      split at q2
      · obtain ⟨ys, rfl, hl, q2⟩ := q2
        cases ry with
        | lst h r =>
          obtain ⟨rfl, hok⟩ := r.strs_of
          exact ⟨_, _, ys, rfl, rfl, .inl (SqL.of (R2.good.fz _ _ h)), hl, ((Fin.step q2 t1 R1.good).step t2 R2.good).now R2.good (.str _ (strOk_join hs hok))⟩
      · exact q2.elim
    · cases h
  | .lend i e, c, X, o, x, h => by
    have h : tieE T e c x = true := h
    refine nofresh rfl ((sndE e o _ h).1.of fun σ H Q q => ?_)
    obtain ⟨F0, H0, F, ε, R, q⟩ := q
    unfold semE at q
    split at q
    · rename_i ds he
      obtain ⟨l, xs, R', back⟩ := R.lent he
      refine ⟨F0, H0, _, _, R', semE_mono o.mono e _ _ _ (fun d ⟨hn, f⟩ v H' F' t g r => ?_) q⟩
      obtain ⟨t', g', b⟩ := back F' H' t g
      exact f v H' _ t' g' (b v d r hn)
    · exact ⟨F0, H0, F, ε, R, q⟩
    · exact q.elim
  | .sset a, c, X, o, e, h => by
    have h : kSset T (tieE T a) c e = true := h
    unfold kSset at h
    split at h
    · obtain ⟨h, h6⟩ := and2 h
      obtain ⟨h, h5⟩ := and2 h
      obtain ⟨h, h4⟩ := and2 h
      obtain ⟨h, h3⟩ := and2 h
      obtain ⟨h1, h2⟩ := and2 h
      exact both_of o rfl (pd_sset o h1 (of_decide_eq_true h2) h3 (of_decide_eq_true h4) h5 (sndE a o _ h6).1)
    · cases h
  | .maxD a d, c, X, o, e, h => by
    have h : kMaxD T d (tieE T a) c e = true := h
    unfold kMaxD at h
    split at h
    · obtain ⟨h, h6⟩ := and2 h
      obtain ⟨h, h5⟩ := and2 h
      obtain ⟨h, h4⟩ := and2 h
      obtain ⟨h, h3⟩ := and2 h
      obtain ⟨h1, h2⟩ := and2 h
      obtain rfl := of_decide_eq_true h5
      exact nofresh rfl (pd_maxD o h1 (of_decide_eq_true h2) h3 (of_decide_eq_true h4) (sndE a o _ h6).1)
    · cases h
  | .idxOf a b, c, X, o, e, h => by
    have h : kIdxOf (tieE T a) (tieE T b) c e = true := h
    unfold kIdxOf at h
    split at h
    · obtain ⟨h, h6⟩ := and2 h
      obtain ⟨h, h5⟩ := and2 h
      obtain ⟨h, h4⟩ := and2 h
      obtain ⟨h, h3⟩ := and2 h
      obtain ⟨h1, h2⟩ := and2 h
      obtain rfl := of_decide_eq_true h1
      exact nofresh rfl (pd_idxOf o h2 h3 h4 (sndE a o _ h5).1 (sndE b o _ h6).1)
    · cases h
  | .callK f es k z, c, X, o, e, h => by
    have h : kCallK T f k (tieEs T es) (tieE T z) c e = true := h
    unfold kCallK at h
    split at h
    · obtain ⟨h, h5⟩ := and2 h
      obtain ⟨h, h4⟩ := and2 h
      obtain ⟨h, h3⟩ := and2 h
      obtain ⟨h1, h2⟩ := and2 h
      obtain rfl := of_decide_eq_true h3
      split at h2
      · rename_i m ps kw hf
        obtain ⟨h2, h9⟩ := and2 h2
        obtain ⟨h2, h8⟩ := and2 h2
        obtain ⟨h6, h7⟩ := and2 h2
        obtain rfl := of_decide_eq_true h6
        have h7 := of_decide_eq_true h7
        subst h8
        have pl := es_plain es _ h4
        refine nofresh rfl (own_callK o hf (of_decide_eq_true h9) h1 (pl _ List.mem_cons_self) (fun y hy => pl y (List.mem_cons_of_mem _ hy)) (sndEs es o _ h4) (sndE z o _ h5).1 (semEs_mono o.mono es) (semE_mono o.mono z) fun ε P q => ?_)
        exact semEs_mono o.mono es _ _ _ (fun ds w => ⟨by rw [w.1, h7]; rfl, w.2⟩) (es_len es _ ε _ h4 o.mono q)
      · cases h2
    · cases h
theorem sndEs : ∀ (es : CEs) {c : TC} {X : Cx} (o : XOk T Φ c X) (xs : List Expr), tieEs T es c xs = true → PA X xs (tDA X.K (semEs Φ es))
  | .nil, c, X, o, xs, h => by
    have h : kEs0 c xs = true := h
    unfold kEs0 at h
    split at h
    · exact pad_nil
    · cases h
  | .cons e es, c, X, o, xs, h => by
    have h : kEs1 (tieE T e) (tieEs T es) c xs = true := h
    unfold kEs1 at h
    split at h
    · obtain ⟨h, h3⟩ := and2 h
      obtain ⟨h1, h2⟩ := and2 h
      exact pad_cons (sndE e o _ h2).1 (sndEs es o _ h3) (semE_mono o.mono e) (semEs_mono o.mono es) (star_of h1)
    · cases h
theorem sndO : ∀ (p : CO) {c : TC} {X : Cx} (o : XOk T Φ c X) (x : Option Expr), tieO T p c x = true → PO X x (tDO X.K (semO Φ p))
  | .no, c, X, o, x, h => by
    have h : kO0 c x = true := h
    unfold kO0 at h
    split at h
    · exact pod_none
    · cases h
  | .yes e, c, X, o, x, h => by
    have h : kO1 (tieE T e) c x = true := h
    unfold kO1 at h
    split at h
    · exact pod_some (sndE e o _ h).1 (semE_mono o.mono e)
    · cases h
theorem sndC : ∀ (p : CO) {c : TC} {X : Cx} (o : XOk T Φ c X) {scope : Scope} {xs : List Expr} (_ : ∀ {c' : TC} {X' : Cx}, XOk T Φ c' X' → XOk T Φ c' X'), tieC T p (c.blk scope) xs = true → scope.kind = .function →
    ∃ tt : TT, (∀ σ H Q, tDT X.K (mT (semC Φ p)) σ H Q → tt σ H Q) ∧ ∀ (s : Shared) (H : Hp) (C : Addr) (cl : List (Str × Addr)) (fp : List Addr), PTs (X.blk s H scope (compEnvC scope cl C X.env) fp) xs tt
  | .no, c, X, o, scope, xs, _, h, hk => by
    have h : kEs0 (c.blk scope) xs = true := h
    unfold kEs0 at h
    split at h
    · refine ⟨tYes, fun σ H Q ⟨F0, H0, F, ε, R, q⟩ => ?_, fun s H C cl fp => pts_nil⟩
      obtain ⟨k, e, q⟩ := (show ∃ k, D.bl true = .bl k ∧ _ from q)
      cases e
      exact q H F (Step.refl _ _) R.good
    · cases h
  | .yes e, c, X, o, scope, xs, _, h, hk => by
    have h : kC1 e (tieE T e) (c.blk scope) xs = true := h
    unfold kC1 at h
    split at h
    · obtain ⟨h1, h2⟩ := and2 h
      exact ⟨_, fun σ H Q q => q, fun s H C cl fp => pts_one (sndP e (o.blk hk s H C cl fp) _ h2 h1).1⟩
    · cases h
theorem sndP : ∀ (ce : CE) {c : TC} {X : Cx} (o : XOk T Φ c X) (e : Expr), tieE T ce c e = true → testB ce e = true → ResT Φ X ce e
  | .not a, c, X, o, e, h, ht => by
    have h : kUn .Not (tieE T a) c e = true := h
    unfold kUn at h
    split at h
    · obtain ⟨h1, h2⟩ := and2 h
      obtain rfl := of_decide_eq_true h1
      exact ⟨ptd_not (sndP a o _ h2 (by simpa [testB] using ht)).1 (semE_mono o.mono a), fun z => by cases z⟩
    · cases h
  | .and a b, c, X, o, e, h, ht => by
    have h : kBo .And (tieE T a) (tieE T b) c e = true := h
    unfold kBo at h
    split at h
    · rename_i op x y r p hh
      obtain ⟨h, h3⟩ := and2 h
      obtain ⟨h1, h2⟩ := and2 h
      obtain rfl := of_decide_eq_true h1
      have pw : PW X (.BoolOp .And (x :: y :: r) p) (tDT X.K (mT (semE Φ (.and a b)))) := by
        split at h3
        · rw [testB] at ht
          obtain ⟨t1, t2⟩ := and2 ht
          exact (pw_and (sndP a o _ h2 t1).1 (pw_and1 (sndP b o _ h3 t2).1)).of fun σ H Q q => and_read (semE_mono o.mono a) (semE_mono o.mono b) q
        · rename_i hr
          rw [testB] at ht
          rotate_left
          · exact hr
          obtain ⟨t1, t2⟩ := and2 ht
          exact (pw_and (sndP a o _ h2 t1).1 ((sndP b o _ h3 t2).2 rfl)).of fun σ H Q q => and_read (semE_mono o.mono a) (semE_mono o.mono b) q
      exact ⟨pw.pt, fun _ => pw⟩
    · cases h
  | .or a b, c, X, o, e, h, ht => by
    have h : kBo .Or (tieE T a) (tieE T b) c e = true := h
    unfold kBo at h
    split at h
    · rename_i op x y r p hh
      obtain ⟨h, h3⟩ := and2 h
      obtain ⟨h1, h2⟩ := and2 h
      obtain rfl := of_decide_eq_true h1
      have pw : PW X (.BoolOp .Or (x :: y :: r) p) (tDT X.K (mT (semE Φ (.or a b)))) := by
        split at h3
        · rw [testB] at ht
          obtain ⟨t1, t2⟩ := and2 ht
          exact (pw_or (sndP a o _ h2 t1).1 (pw_or1 (sndP b o _ h3 t2).1)).of fun σ H Q q => or_read (semE_mono o.mono a) (semE_mono o.mono b) q
        · rename_i hr
          rw [testB] at ht
          rotate_left
          · exact hr
          obtain ⟨t1, t2⟩ := and2 ht
          exact (pw_or (sndP a o _ h2 t1).1 ((sndP b o _ h3 t2).2 rfl)).of fun σ H Q q => or_read (semE_mono o.mono a) (semE_mono o.mono b) q
      exact ⟨pw.pt, fun _ => pw⟩
    · cases h
  | .cmp op a b, c, X, o, e, h, ht => by
    have h : kCmp1 op.op (tieE T a) (tieE T b) c e = true := h
    unfold kCmp1 at h
    split at h
    · obtain ⟨h, h4⟩ := and2 h
      obtain ⟨h, h3⟩ := and2 h
      obtain ⟨h1, h2⟩ := and2 h
      obtain rfl := of_decide_eq_true h1
      obtain ⟨rL, ho, hd⟩ := opc_ok (X := X) o.un op
      exact ⟨pt_cmpD ho hd (opc_mono op) (sndE a o _ h3).1 (sndE b o _ h4).1 (semE_mono o.mono a) (semE_mono o.mono b) (behind_of h2), fun z => by cases z⟩
    · cases h
  | .lend i e, c, X, o, x, h, ht => by
    have h : tieE T e c x = true := h
    have ht : testB e x = true := by simpa [testB] using ht
    obtain ⟨p1, p2⟩ := sndP e o _ h ht
    have key : ∀ σ H Q, tDT X.K (mT (semE Φ (.lend i e))) σ H Q → tDT X.K (mT (semE Φ e)) σ H Q := by
      rintro σ H Q ⟨F0, H0, F, ε, R, q⟩
      have q : semE Φ (.lend i e) ε _ := q
      unfold semE at q
      split at q
      · rename_i ds he
        obtain ⟨l, xs, R', back⟩ := R.lent he
        refine ⟨F0, H0, _, _, R', semE_mono o.mono e _ _ _ (fun d ⟨hn, k, ek, f⟩ => ⟨k, ek, fun H' F' t g => ?_⟩) q⟩
        obtain ⟨t', g', b⟩ := back F' H' t g
        exact f H' _ t' g'
      · exact ⟨F0, H0, F, ε, R, q⟩
      · exact q.elim
    exact ⟨p1.of key, fun z => (p2 z).of key⟩
  | .var i, c, X, o, e, h, ht => plainP o _ e (sndE _ o e h).1 (by simpa [testB] using ht)
  | .lit i, c, X, o, e, h, ht => plainP o _ e (sndE _ o e h).1 (by simpa [testB] using ht)
  | .glob i, c, X, o, e, h, ht => plainP o _ e (sndE _ o e h).1 (by simpa [testB] using ht)
  | .tup i, c, X, o, e, h, ht => plainP o _ e (sndE _ o e h).1 (by simpa [testB] using ht)
  | .lst i, c, X, o, e, h, ht => plainP o _ e (sndE _ o e h).1 (by simpa [testB] using ht)
  | .bin i a b, c, X, o, e, h, ht => plainP o _ e (sndE _ o e h).1 (by simpa [testB] using ht)
  | .neg i, c, X, o, e, h, ht => plainP o _ e (sndE _ o e h).1 (by simpa [testB] using ht)
  | .rep i j, c, X, o, e, h, ht => plainP o _ e (sndE _ o e h).1 (by simpa [testB] using ht)
  | .cat i j, c, X, o, e, h, ht => plainP o _ e (sndE _ o e h).1 (by simpa [testB] using ht)
  | .ite i j k, c, X, o, e, h, ht => plainP o _ e (sndE _ o e h).1 (by simpa [testB] using ht)
  | .idx i j, c, X, o, e, h, ht => plainP o _ e (sndE _ o e h).1 (by simpa [testB] using ht)
  | .slL i j k, c, X, o, e, h, ht => plainP o _ e (sndE _ o e h).1 (by simpa [testB] using ht)
  | .slT i j k, c, X, o, e, h, ht => plainP o _ e (sndE _ o e h).1 (by simpa [testB] using ht)
  | .lenO i, c, X, o, e, h, ht => plainP o _ e (sndE _ o e h).1 (by simpa [testB] using ht)
  | .idxO i j, c, X, o, e, h, ht => plainP o _ e (sndE _ o e h).1 (by simpa [testB] using ht)
  | .isi i j, c, X, o, e, h, ht => plainP o _ e (sndE _ o e h).1 (by simpa [testB] using ht)
  | .bi i j, c, X, o, e, h, ht => plainP o _ e (sndE _ o e h).1 (by simpa [testB] using ht)
  | .call i j, c, X, o, e, h, ht => plainP o _ e (sndE _ o e h).1 (by simpa [testB] using ht)
  | .callO i j, c, X, o, e, h, ht => plainP o _ e (sndE _ o e h).1 (by simpa [testB] using ht)
  | .lc i j k l m, c, X, o, e, h, ht => plainP o _ e (sndE _ o e h).1 (by simpa [testB] using ht)
  | .joinS i j, c, X, o, e, h, ht => plainP o _ e (sndE _ o e h).1 (by simpa [testB] using ht)
  | .sset i, c, X, o, e, h, ht => plainP o _ e (sndE _ o e h).1 (by simpa [testB] using ht)
  | .maxD i j, c, X, o, e, h, ht => plainP o _ e (sndE _ o e h).1 (by simpa [testB] using ht)
  | .idxOf i j, c, X, o, e, h, ht => plainP o _ e (sndE _ o e h).1 (by simpa [testB] using ht)
  | .callK i j k l, c, X, o, e, h, ht => plainP o _ e (sndE _ o e h).1 (by simpa [testB] using ht)
theorem sndI : ∀ (it : CI) {c : TC} {X : Cx} (o : XOk T Φ c X) (e : Expr), tieI T it c e = true → ResI Φ X it e
  | .seq a, c, X, o, e, h => fun tg _ => pid_seq (sndE a o e h).1 (semE_mono o.mono a)
  | .rng1 a, c, X, o, e, h => fun tg _ => by
    have h : kRng1 T (tieE T a) c e = true := h
    unfold kRng1 at h
    split at h
    · obtain ⟨h, h4⟩ := and2 h
      obtain ⟨h, h3⟩ := and2 h
      obtain ⟨h1, h2⟩ := and2 h
      obtain rfl := of_decide_eq_true h2
      obtain ⟨g1, g2, g3, g4⟩ := o.bi h1
      exact pid_rng1 g1 g4 (sndE a o _ h4).1 (semE_mono o.mono a) (star_of h3)
    · cases h
  | .rng2 a b, c, X, o, e, h => fun tg _ => by
    have h : kRng2 T (tieE T a) (tieE T b) c e = true := h
    unfold kRng2 at h
    split at h
    · obtain ⟨h, h6⟩ := and2 h
      obtain ⟨h, h5⟩ := and2 h
      obtain ⟨h, h4⟩ := and2 h
      obtain ⟨h, h3⟩ := and2 h
      obtain ⟨h1, h2⟩ := and2 h
      obtain rfl := of_decide_eq_true h2
      obtain ⟨g1, g2, g3, g4⟩ := o.bi h1
      exact pid_rng2 g1 g4 (sndE a o _ h5).1 (sndE b o _ h6).1 (semE_mono o.mono a) (semE_mono o.mono b) (star_of h3) (star_of h4)
    · cases h
  | .enum a, c, X, o, e, h => fun tg ht => by
    have h : kEnum T (tieE T a) c e = true := h
    unfold kEnum at h
    split at h
    · obtain ⟨h, h4⟩ := and2 h
      obtain ⟨h, h3⟩ := and2 h
      obtain ⟨h1, h2⟩ := and2 h
      obtain rfl := of_decide_eq_true h2
      obtain ⟨g1, g2, g3, g4⟩ := o.bi h1
      cases tg <;> first | (cases ht; done) | skip
      exact pid_enum g1 g4 (sndE a o _ h4).1 (semE_mono o.mono a) (star_of h3)
    · cases h
  | .zip a b, c, X, o, e, h => fun tg ht => by
    have h : kZip T (tieE T a) (tieE T b) c e = true := h
    unfold kZip at h
    split at h
    · obtain ⟨h, h6⟩ := and2 h
      obtain ⟨h, h5⟩ := and2 h
      obtain ⟨h, h4⟩ := and2 h
      obtain ⟨h, h3⟩ := and2 h
      obtain ⟨h1, h2⟩ := and2 h
      obtain rfl := of_decide_eq_true h2
      obtain ⟨g1, g2, g3, g4⟩ := o.bi h1
      cases tg <;> first | (cases ht; done) | skip
      exact pid_zip g1 g4 (sndE a o _ h5).1 (sndE b o _ h6).1 (semE_mono o.mono a) (semE_mono o.mono b) (star_of h3) (star_of h4)
    · cases h
  | .rrng1 a, c, X, o, e, h => fun tg _ => by
    have h : kRev T (kRng1 T (tieE T a)) c e = true := h
    unfold kRev at h
    split at h
    · obtain ⟨h, h9⟩ := and2 h
      obtain ⟨h7, h8⟩ := and2 h
      obtain rfl := of_decide_eq_true h8
      obtain ⟨k1, k2, k3, k4⟩ := o.bi h7
      unfold kRng1 at h9
      split at h9
      · obtain ⟨h, h4⟩ := and2 h9
        obtain ⟨h, h3⟩ := and2 h
        obtain ⟨h1, h2⟩ := and2 h
        obtain rfl := of_decide_eq_true h2
        obtain ⟨g1, g2, g3, g4⟩ := o.bi h1
        exact pid_rrng1 k1 k4 g1 g4 (sndE a o _ h4).1 (semE_mono o.mono a) (star_of h3)
      · cases h9
    · cases h
  | .rrng2 a b, c, X, o, e, h => fun tg _ => by
    have h : kRev T (kRng2 T (tieE T a) (tieE T b)) c e = true := h
    unfold kRev at h
    split at h
    · obtain ⟨h, h9⟩ := and2 h
      obtain ⟨h7, h8⟩ := and2 h
      obtain rfl := of_decide_eq_true h8
      obtain ⟨k1, k2, k3, k4⟩ := o.bi h7
      unfold kRng2 at h9
      split at h9
      · obtain ⟨h, h6⟩ := and2 h9
        obtain ⟨h, h5⟩ := and2 h
        obtain ⟨h, h4⟩ := and2 h
        obtain ⟨h, h3⟩ := and2 h
        obtain ⟨h1, h2⟩ := and2 h
        obtain rfl := of_decide_eq_true h2
        obtain ⟨g1, g2, g3, g4⟩ := o.bi h1
        exact pid_rrng2 k1 k4 g1 g4 (sndE a o _ h5).1 (sndE b o _ h6).1 (semE_mono o.mono a) (semE_mono o.mono b) (star_of h3) (star_of h4)
      · cases h9
    · cases h
end
end
end DL

/-! DL9: the tie is sound: statements, defs. -/
namespace DL
open PySem PySem.Spec PyProof.Rows L2
section
variable {T : Tab} {Φ : Sm} {c : TC} {X : Cx}
theorem asgS_of {tg : Expr} (h : noStar tg = true) (env : Env) : (assignEach [tg] env).map (·.2) = [assign tg env] := by
  rw [assign_cons (star_of h)]; rfl
theorem swapsSole {tg x : Expr} (h : noComp x = true) (l : Nat) (env : Env) : swapsWithSole [tg] x l env = pure false := swaps_of h _ _ _
theorem psd_set {pos : Pos} (o : XOk T Φ c X) {t : CT} {e : CE} {tg x : Expr} (h1 : tieT c t tg = true) (h2 : PE X x (tD X.K (semE Φ e))) (h3 : noStar tg = true) (h4 : noComp x = true) (h5 : noTup tg = true ∨ noTup x = true) : PS X (.Assign [tg] x pos) (tDS X.K (semS Φ (.set t e))) := by
  refine (ps_asg h2 (sndT o t tg h1) (swapsSole h4 _ _) (stores_of h5 _) (asgS_of h3 _)).of fun D σ H q => asg_read (semE_mono o.mono e) ?_
  obtain ⟨F0, H0, F, ε, R, q⟩ := q
  unfold semS at q
  exact ⟨F0, H0, F, ε, R, q⟩
/-- a new list is given to a name: ours -/
theorem own_read {K : PySem.W.Frag} {m : DE} {i : Nat} {D : Ends} {σ : L2.St} {H : Hp} (mn : MonoE m) (hl : ∀ ε P, m ε P → m ε fun d => (∃ ds, d = .lst ds) ∧ P d) {te : TE} (hte : ∀ Q, tDF K m σ H Q → te σ H Q)
    (h : tDS K (fun E ε => m ε fun d => match d with | .lst ds => E.nx (ε.set i (.own ds)) | _ => False) D σ H) : tAsg te (gName i) D σ H := by
  obtain ⟨F0, H0, F, ε, R, q⟩ := h
  refine hte _ ⟨F0, H0, F, ε, R, mn _ _ _ (fun d ⟨⟨ds, e⟩, q⟩ => ⟨ds, e, fun p xs H' F' t g hp h1 h2 h3 r => ?_⟩) (hl _ _ q)⟩
  subst e
  have R' := R.next t g
  have hp0 : H0 p = none := by
    cases z : H0 p with
    | none => rfl
    | some u =>
      cases z2 : F0.op p with
      | none => rw [R.step.hp p u z z2] at hp; cases hp
      | some k =>
        obtain ⟨_, u2, hu, _⟩ := R.good.op p k (R.step.op p k z2)
        rw [hu] at hp; cases hp
  exact q _ H' F' (R'.setOwn i h1 h2 h3 hp0 r fun j es _ e => R.newOwn hp j es e) t.le
theorem psd_own {pos p : Pos} (o : XOk T Φ c X) {i : Nat} {e : CE} {y : Str} {x : Expr} (h1 : nmLoc c i y = true) (h2 : ResE Φ X e x) (h3 : e.fresh = true) (h4 : noComp x = true) : PS X (.Assign [.Name y p] x pos) (tDS X.K (semS Φ (.own i e))) := by
  obtain ⟨g1, g2, g3⟩ := o.loc h1
  refine (ps_asg (h2.2 h3) (pg_name o.nd' g1 g2 g3) (swapsSole h4 _ _) (stores_of (.inl rfl) _) (asgS_of rfl _)).of fun D σ H q => own_read (semE_mono o.mono e) (fun ε P => fresh_lst o.mono e ε P h3) (fun Q q => q) ?_
  obtain ⟨F0, H0, F, ε, R, q⟩ := q
  unfold semS at q
  exact ⟨F0, H0, F, ε, R, q⟩
/-- a comprehension given to a name: by either way -/
theorem psd_lc {pos p : Pos} (o : XOk T Φ c X) {i : Nat} {e : CE} {y : Str} {x : Expr} (h1 : nmLoc c i y = true) (h2 : tieE T e c x = true) (h3 : isLc x = true) (he : e.isLc = true) :
    ∃ te : TE, (∀ σ H Q, tDF X.K (semE Φ e) σ H Q → te σ H Q) ∧ PS X (.Assign [.Name y p] x pos) (tAsg te (gName i)) := by
  obtain ⟨g1, g2, g3⟩ := o.loc h1
  cases e with
  | lc e t it cnd vs =>
    have h : kLcomp (tgOk it) t vs (tieI T it) (tieC T cnd) (tieE T e) c x = true := h2
    unfold kLcomp at h
    split at h
    · rename_i elt tg iter ifs scope pos'
      by_cases hsw : (match c.sc.names.lookup y with | some .local => true | _ => false) = true ∧ (p.line == pos'.line) = true ∧ (scope.names.any fun (n, k) => n == y && (k == .local || k == .cell)) = false
      · obtain ⟨w1, w2, w3⟩ := hsw
        obtain ⟨h, h7⟩ := and2 h
        obtain ⟨h, h6⟩ := and2 h
        obtain ⟨h, h5⟩ := and2 h
        obtain ⟨h, h4⟩ := and2 h
        obtain ⟨h, h3⟩ := and2 h
        obtain ⟨h, ht0⟩ := and2 h
        obtain ⟨h1, h2⟩ := and2 h
        have bo : BlkOk X.N X.env.scope scope (ownOf c.N vs) := by rw [o.N, o.sc]; exact blkOk_by h1
        have hw : ∀ i ∈ t.slots, i ∈ vs := fun i hi => of_decide_eq_true (List.all_eq_true.mp h2 i hi)
        obtain ⟨tt, ht1, ht2⟩ := sndC (Φ := Φ) cnd o (fun {c'} {X'} o' => o') h6 bo.kind
        have hyl : X.env.scope.names.lookup y = some .local := by
          rw [o.sc]
          split at w1
          · assumption
          · cases w1
        refine ⟨_, fun σ H Q q => ?_, ps_setLc (te := tD X.K (semE Φ e)) (g := tDG X.K t.slots (bindT t)) (tt := tt) o.calm o.nd' g1 hyl (sw_true (by rw [o.sc]; exact o.kind) hyl w2 w3) (sndI it o _ h4 _ ht0) bo (fun s H C cl fp => sndT (o.blk bo.kind s H C cl fp) t _ h5) ht2 (fun s H C cl fp => (sndE e (o.blk bo.kind s H C cl fp) _ h7).1) (folded_of h3 X.env)⟩
        rw [own_ix]
        refine lc_read (semI_mono o.mono it) (semC_mono o.mono cnd) (semE_mono o.mono e) hw ht1 ?_
        obtain ⟨F0, H0, F, ε, R, q⟩ := q
        unfold semE at q
        exact ⟨F0, H0, F, ε, R, q⟩
      · refine ⟨_, fun σ H Q q => q, ps_asg ((sndE (Φ := Φ) (.lc e t it cnd vs) o _ h2).2 rfl) (pg_name o.nd' g1 g2 g3) ?_ (stores_of (.inl rfl) _) (asgS_of rfl _)⟩
        show swapsWith (.ListComp elt [⟨tg, iter, ifs, 0⟩] scope pos') (some (.Name y p)) pos.line X.env = pure false
        unfold swapsWith
        have hk : X.env.blockKind = .function := by unfold Env.blockKind; rw [o.sc, o.kind]; rfl
        have hl : X.env.kindOf y = c.sc.names.lookup y := by show X.env.scope.names.lookup y = _; rw [o.sc]
        have key : (X.env.blockKind == .function && X.env.kindOf y == some .local && p.line == (Expr.ListComp elt [⟨tg, iter, ifs, 0⟩] scope pos').pos.line && !(scope.names.any fun (n, k) => n == y && (k == .local || k == .cell))) = false := by
          rw [hk, hl]
          cases z1 : c.sc.names.lookup y with
          | none => simp
          | some k =>
            cases k <;> first | (simp; done) | skip
            cases z2 : (p.line == pos'.line) with
            | false => simp [Expr.pos, z2]
            | true =>
              cases z3 : (scope.names.any fun (n, k) => n == y && (k == .local || k == .cell)) with
              | true => simp
              | false => exact absurd ⟨by rw [z1], z2, z3⟩ hsw
        show (do return _) = _
        rw [key]
    · cases h
  | _ => cases he
theorem assign_sub {o z : Expr} {p : Pos} {env : Env} (h : noSlice z = true) : ∀ v, assign (.Subscript o z p) env v = (do
      let ov ← holding [v] (eval o env)
      let iv ← holding [v, ov] (eval z env)
      standAt p
      holding [v, ov, iv] (setItem ov iv v)
      release [v, ov, iv] []) := by
  intro v
  cases z <;> first | rfl | (simp [noSlice] at h; done)
theorem psd_setIx {pos p p2 : Pos} (o : XOk T Φ c X) {i : Nat} {k e : CE} {y : Str} {z x : Expr} (h1 : nmOk c i y = true) (hk : PE X z (tD X.K (semE Φ k))) (he : PE X x (tD X.K (semE Φ e))) (h4 : noComp x = true) (h5 : noSlice z = true) :
    PS X (.Assign [.Subscript (.Name y p) z p2] x pos) (tDS X.K (semS Φ (.setIx i k e))) := by
  refine (ps_asg he (pg_sub (o.var h1) hk set_list (assign_sub h5)) (swapsSole h4 _ _) (stores_of (.inl rfl) _) (asgS_of rfl _)).of fun D σ H ⟨F0, H0, F, ε, R, q⟩ => ?_
  unfold semS at q
  split at q
  · rename_i ds e1
    refine tD_bind R (semE_mono o.mono e) q fun v w H1 F1 q1 R1 t1 rv => ?_
    obtain ⟨l, xs, hs, hl, f1, f2, f3, r⟩ := R1.ownAt e1
    refine ⟨_, hs, tD_bind R1 (semE_mono o.mono k) q1 fun y' u H2 F2 q2 R2 t2 ry => ?_⟩
    split at q2
    · cases ry
      obtain ⟨j, hj, q2⟩ := q2
      have hl2 := t2.hp _ _ hl f2
      refine ⟨l, xs, _, j, rfl, rfl, hl2, by rw [r.length]; exact hj, ?_⟩
      exact q2 σ _ F2 (R2.write e1 hs ((r.step t2).set (rv.step t2) j)) (t1.le.trans t2.le)
    · exact q2.elim
  · exact q.elim
theorem psd_aug {pos p : Pos} (o : XOk T Φ c X) {i : Nat} {op : O2} {e : CE} {y : Str} {x : Expr} (h1 : nmLoc c i y = true) (hop : op = .add ∨ op = .sub) (he : PE X x (tD X.K (semE Φ e))) : PS X (.AugAssign (.Name y p) op.op x pos) (tDS X.K (semS Φ (.aug i op e))) := by
  obtain ⟨g1, g2, g3⟩ := o.loc h1
  rcases hop with rfl | rfl
  · refine (ps_aug o.nd' g1 g2 he ip_add g3).of fun D σ H ⟨F0, H0, F, ε, R, q⟩ => ?_
    unfold semS at q
    split at q
    · rename_i n e1
      obtain ⟨v, hs, r⟩ := R.valAt e1
      cases r
      refine ⟨_, hs, tD_bind R (semE_mono o.mono e) q fun d w H1 F1 q1 R1 t1 rw => ?_⟩
      cases rw with
      | int m => exact ⟨n, m, rfl, rfl, q1 _ H1 F1 (R1.set i (.int (n + m))) t1.le⟩
      | _ => exact q1.elim
    · exact q.elim
  · refine (ps_aug o.nd' g1 g2 he ip_sub g3).of fun D σ H ⟨F0, H0, F, ε, R, q⟩ => ?_
    unfold semS at q
    split at q
    · rename_i n e1
      obtain ⟨v, hs, r⟩ := R.valAt e1
      cases r
      refine ⟨_, hs, tD_bind R (semE_mono o.mono e) q fun d w H1 F1 q1 R1 t1 rw => ?_⟩
      cases rw with
      | int m => exact ⟨n, m, rfl, rfl, q1 _ H1 F1 (R1.set i (.int (n - m))) t1.le⟩
      | _ => exact q1.elim
    · exact q.elim
theorem psd_app {pos p apos cpos : Pos} (o : XOk T Φ c X) {i : Nat} {e : CE} {y : Str} {x : Expr} (h1 : nmOk c i y = true) (hs : noStar x = true) (hl : (apos.endLine == cpos.line) = true) (he : PE X x (tD X.K (semE Φ e))) :
    PS X (.Expr (.Call (.Attribute (.Name y p) "append" apos) [x] [] cpos) pos) (tDS X.K (semS Φ (.app i e))) := by
  have st : starEach [x] X.env = (false, eval x X.env) :: starEach [] X.env := star_cons (star_of hs)
  refine (ps_expr (pe_bm PySem.F.plainAttrs_list PySem.F.slot_list_append PySem.F.type_list_append mt_append (o.var h1) (pa_cons he pa_nil st) (base_of rfl _ _ _) (by rw [st]; rfl) hl st rfl) (swaps_of rfl _ _ _)).of fun D σ H ⟨F0, H0, F, ε, R, q⟩ => ?_
  unfold semS at q
  split at q
  · rename_i ds e1
    obtain ⟨l, xs, hs, hl, f1, f2, f3, r⟩ := R.ownAt e1
    refine ⟨_, hs, .inl ⟨rfl, _, SqL.of hl⟩, tD_bind R (semE_mono o.mono e) q fun d w H1 F1 ⟨hz, q1⟩ R1 t1 rw => ?_⟩
    have hl1 := t1.hp _ _ hl f2
    exact ⟨l, xs, w, rfl, rfl, hl1, by rw [r.length]; exact hz, q1 σ _ F1 (R1.write e1 hs ((r.step t1).append (.one rw))) t1.le⟩
  · exact q.elim
theorem psd_rev {pos p apos cpos : Pos} (o : XOk T Φ c X) {i : Nat} {y : Str} (h1 : nmOk c i y = true) (hl : (apos.endLine == cpos.line) = true) :
    PS X (.Expr (.Call (.Attribute (.Name y p) "reverse" apos) [] [] cpos) pos) (tDS X.K (semS Φ (.rev i))) := by
  refine (ps_expr (pe_bm0 PySem.F.plainAttrs_list PySem.F.slot_list_reverse PySem.F.type_list_reverse mt_reverse (o.var h1) (base_of rfl _ _ _) hl) (swaps_of rfl _ _ _)).of fun D σ H ⟨F0, H0, F, ε, R, q⟩ => ?_
  unfold semS at q
  split at q
  · rename_i ds e1
    obtain ⟨l, xs, hs, hl, f1, f2, f3, r⟩ := R.ownAt e1
    exact ⟨_, hs, .inl ⟨rfl, _, SqL.of hl⟩, l, xs, rfl, rfl, hl, q σ _ F (R.write e1 hs r.reverse) (FS.Le.refl _)⟩
  · exact q.elim
theorem psd_pop {pos p apos cpos : Pos} (o : XOk T Φ c X) {i : Nat} {y : Str} (h1 : nmOk c i y = true) (hl : (apos.endLine == cpos.line) = true) :
    PS X (.Expr (.Call (.Attribute (.Name y p) "pop" apos) [] [] cpos) pos) (tDS X.K (semS Φ (.pop i))) := by
  refine (ps_expr (pe_bm0 PySem.F.plainAttrs_list PySem.F.slot_list_pop PySem.F.type_list_pop mt_pop (o.var h1) (base_of rfl _ _ _) hl) (swaps_of rfl _ _ _)).of fun D σ H ⟨F0, H0, F, ε, R, q⟩ => ?_
  unfold semS at q
  split at q
  · rename_i ds e1
    obtain ⟨l, xs, hs, hl, f1, f2, f3, r⟩ := R.ownAt e1
    obtain ⟨hz, q⟩ := q
    have hlt : xs.length - 1 < xs.length := by have := r.length; omega
    exact ⟨_, hs, .inl ⟨rfl, _, SqL.of hl⟩, l, xs, xs[xs.length - 1], rfl, rfl, hl, List.getElem?_eq_getElem hlt, q σ _ F (R.write e1 hs (by
      have := r.take (ds.length - 1)
      rw [List.dropLast_eq_take, List.dropLast_eq_take, r.length]
      exact this)) (FS.Le.refl _)⟩
  · exact q.elim
theorem psd_retO {pos p : Pos} (o : XOk T Φ c X) {i : Nat} {y : Str} (h1 : nmOk c i y = true) : PS X (.Return (some (.Name y p)) pos) (tDS X.K (semS Φ (.retO i))) := by
  refine (ps_ret (o.var h1)).of fun D σ H ⟨F0, H0, F, ε, R, q⟩ => ?_
  unfold semS at q
  split at q
  · rename_i ds e1
    obtain ⟨l, xs, hs, hl, f1, f2, f3, r⟩ := R.ownAt e1
    exact ⟨_, hs, q _ H F ⟨R.good, R.step, l, xs, rfl, hl, f1, f2, f3, r⟩⟩
  · exact q.elim
theorem lc_asg {pos p : Pos} (o : XOk T Φ c X) {i : Nat} {e : CE} {y : Str} {x : Expr} (h1 : nmLoc c i y = true) (h2 : tieE T e c x = true) (h3 : isLc x = true) (he : e.isLc = true) :
    PS X (.Assign [.Name y p] x pos) (tDS X.K (semS Φ (.set (.nm i) e))) ∧ PS X (.Assign [.Name y p] x pos) (tDS X.K (semS Φ (.own i e))) := by
  obtain ⟨te, hr, ps⟩ := psd_lc (Φ := Φ) (pos := pos) (p := p) o h1 h2 h3 he
  have hf : e.fresh = true := by cases e <;> first | rfl | (cases he; done)
  constructor
  · refine ps.of fun D σ H ⟨F0, H0, F, ε, R, q⟩ => hr _ _ _ ?_
    unfold semS at q
    refine ⟨F0, H0, F, ε, R, semE_mono o.mono e _ _ _ (fun d ⟨⟨ds, ed⟩, q⟩ => ⟨ds, ed, fun p xs H' F' t g n h1 h2 h3 r => ?_⟩) (fresh_lst o.mono e ε _ hf q)⟩
    subst ed
    have hfz : Step F H (F'.put p (.lst xs)) H' := ⟨fun b u e => put_mono h2 b u (t.fz b u e), t.op, t.hp, fun b n1 n2 n3 => by
      obtain ⟨z1, z2⟩ := t.nf b n1 n2 n3
      refine ⟨?_, z2⟩
      show upd _ _ _ _ = _
      rw [upd_ne (by rintro rfl; exact n3 n)]
      exact z1⟩
    have g' := g.freeze h1 h3
    exact q _ H' _ ((R.next hfz g').set i (.lst (by show upd _ _ _ _ = _; exact upd_same) (r.put h2))) hfz.le
  · refine ps.of fun D σ H q => own_read (semE_mono o.mono e) (fun ε P => fresh_lst o.mono e ε P hf) (fun Q q => hr _ _ _ q) ?_
    obtain ⟨F0, H0, F, ε, R, q⟩ := q
    unfold semS at q
    exact ⟨F0, H0, F, ε, R, q⟩
mutual
theorem sndS (o : XOk T Φ c X) : ∀ (s : CS) (x : Stmt), tieS T s c x = true → PS X x (tDS X.K (semS Φ s))
  | .set t e, x, h => by
    have key : (∃ i, t = .nm i ∧ e.isLc = true ∧ kSetLc i (tieE T e) c x = true) ∨ kSet t (tieE T e) c x = true := by
      unfold tieS at h
      cases t with
      | nm i =>
        cases he : e.isLc with
        | true =>
          rw [he] at h
          have h' : (kSetLc i (tieE T e) c x || kSet (.nm i) (tieE T e) c x) = true := h
          rw [Bool.or_eq_true] at h'
          rcases h' with h' | h'
          · exact .inl ⟨i, rfl, rfl, h'⟩
          · exact .inr h'
        | false =>
          rw [he] at h
          exact .inr h
      | nil => exact .inr h
      | cons t r => exact .inr h
    rcases key with ⟨i, rfl, he, h⟩ | h
    · unfold kSetLc at h
      split at h
      · obtain ⟨h, h3⟩ := and2 h
        obtain ⟨h1, h2⟩ := and2 h
        exact (lc_asg o h1 h2 h3 he).1
      · cases h
    · unfold kSet at h
      split at h
      · obtain ⟨h, h5⟩ := and2 h
        obtain ⟨h, h4⟩ := and2 h
        obtain ⟨h, h3⟩ := and2 h
        obtain ⟨h1, h2⟩ := and2 h
        exact psd_set o h1 (sndE e o _ h2).1 h3 h4 (by simpa using h5)
      · cases h
  | .own i e, x, h => by
    have h : (if e.isLc then kSetLc i (tieE T e) else kOwn i e.fresh (tieE T e)) c x = true := h
    by_cases he : e.isLc = true
    · rw [if_pos he] at h
      unfold kSetLc at h
      split at h
      · obtain ⟨h, h3⟩ := and2 h
        obtain ⟨h1, h2⟩ := and2 h
        exact (lc_asg o h1 h2 h3 he).2
      · cases h
    · rw [if_neg he] at h
      unfold kOwn at h
      split at h
      · obtain ⟨h, h4⟩ := and2 h
        obtain ⟨h, h3⟩ := and2 h
        obtain ⟨h1, h2⟩ := and2 h
        exact psd_own o h1 (sndE e o _ h2) h3 h4
      · cases h
  | .setIx i k e, x, h => by
    have h : kSetIx i (tieE T k) (tieE T e) c x = true := h
    unfold kSetIx at h
    split at h
    · obtain ⟨h, h5⟩ := and2 h
      obtain ⟨h, h4⟩ := and2 h
      obtain ⟨h, h3⟩ := and2 h
      obtain ⟨h1, h2⟩ := and2 h
      exact psd_setIx o h1 (sndE k o _ h2).1 (sndE e o _ h3).1 h4 h5
    · cases h
  | .aug i op e, x, h => by
    have h : kAugm i op (tieE T e) c x = true := h
    unfold kAugm at h
    split at h
    · obtain ⟨h, h4⟩ := and2 h
      obtain ⟨h, h3⟩ := and2 h
      obtain ⟨h1, h2⟩ := and2 h
      obtain rfl := of_decide_eq_true h2
      exact psd_aug o h1 (by simpa using h3) (sndE e o _ h4).1
    · cases h
  | .app i e, x, h => by
    have h : kApp i (tieE T e) c x = true := h
    unfold kApp at h
    split at h
    · obtain ⟨h, h5⟩ := and2 h
      obtain ⟨h, h4⟩ := and2 h
      obtain ⟨h, h3⟩ := and2 h
      obtain ⟨h1, h2⟩ := and2 h
      obtain rfl := of_decide_eq_true h2
      exact psd_app o h1 h3 h4 (sndE e o _ h5).1
    · cases h
  | .ext i e, x, h => by cases h
  | .rev i, x, h => by
    have h : kRevm i c x = true := h
    unfold kRevm at h
    split at h
    · obtain ⟨h, h3⟩ := and2 h
      obtain ⟨h1, h2⟩ := and2 h
      obtain rfl := of_decide_eq_true h2
      exact psd_rev o h1 h3
    · cases h
  | .pop i, x, h => by
    have h : kPopm i c x = true := h
    unfold kPopm at h
    split at h
    · obtain ⟨h, h3⟩ := and2 h
      obtain ⟨h1, h2⟩ := and2 h
      obtain rfl := of_decide_eq_true h2
      exact psd_pop o h1 h3
    · cases h
  | .rai, x, h => ⟨fun pins s σ H Q I ⟨F0, H0, F, ε, R, q⟩ => by unfold semS at q; exact q.elim⟩
  | .expr e, x, h => by
    have h : kExpr (tieE T e) c x = true := h
    unfold kExpr at h
    split at h
    · obtain ⟨h1, h2⟩ := and2 h
      refine (ps_expr (sndE e o _ h2).1 (swaps_of h1 _ _ _)).of fun D σ H ⟨F0, H0, F, ε, R, q⟩ => ?_
      unfold semS at q
      exact tD_bind R (semE_mono o.mono e) q fun d v H1 F1 q1 R1 t1 r => q1 σ H1 F1 R1 t1.le
    · cases h
  | .iff e a b, x, h => by
    have h : kIff e (tieE T e) (tieSs T a) (tieSs T b) c x = true := h
    unfold kIff at h
    split at h
    · obtain ⟨h, h4⟩ := and2 h
      obtain ⟨h, h3⟩ := and2 h
      obtain ⟨h1, h2⟩ := and2 h
      exact (psd_if (sndP e o _ h2 h1).1 (sndSs o a _ h3) (sndSs o b _ h4) (semE_mono o.mono e) (semSs_mono o.mono a) (semSs_mono o.mono b)).of fun D σ H ⟨F0, H0, F, ε, R, q⟩ => ⟨F0, H0, F, ε, R, by unfold semS at q; exact q⟩
    · cases h
  | .forr t it b, x, h => by
    have h : kForr (tgOk it) t (tieI T it) (tieSs T b) c x = true := h
    unfold kForr at h
    split at h
    · obtain ⟨h, h4⟩ := and2 h
      obtain ⟨h, h3⟩ := and2 h
      obtain ⟨h, h2⟩ := and2 h
      obtain ⟨h0, h1⟩ := and2 h
      exact (psd_for o.pass o.calm (sndI it o _ h2 _ h0) (sndT o t _ h3) (sndSs o b _ h4) (semI_mono o.mono it) (semSs_mono o.mono b) (folded_of h1 X.env)).of fun D σ H ⟨F0, H0, F, ε, R, q⟩ => ⟨F0, H0, F, ε, R, by unfold semS at q; exact q⟩
    · cases h
  | .whil e b, x, h => by
    have h : kWhil e (tieE T e) (tieSs T b) c x = true := h
    unfold kWhil at h
    split at h
    · obtain ⟨h, h3⟩ := and2 h
      obtain ⟨h1, h2⟩ := and2 h
      exact (psd_while o.pass (sndP e o _ h2 h1).1 (sndSs o b _ h3) (semE_mono o.mono e) (semSs_mono o.mono b)).of fun D σ H ⟨F0, H0, F, ε, R, q⟩ => ⟨F0, H0, F, ε, R, by unfold semS at q; exact q⟩
    · cases h
  | .ret e, x, h => by
    have h : kRet1 (tieE T e) c x = true := h
    unfold kRet1 at h
    split at h
    · exact (psd_ret (sndE e o _ h).1 (semE_mono o.mono e)).of fun D σ H ⟨F0, H0, F, ε, R, q⟩ => ⟨F0, H0, F, ε, R, by unfold semS at q; exact q⟩
    · cases h
  | .retN, x, h => by
    have h : kRet0 c x = true := h
    unfold kRet0 at h
    split at h
    · refine ps_retN.of fun D σ H ⟨F0, H0, F, ε, R, q⟩ => ?_
      unfold semS at q
      exact q _ H F ⟨R.good, R.step, .non⟩
    · cases h
  | .retO i, x, h => by
    have h : kRetO i c x = true := h
    unfold kRetO at h
    split at h
    · exact psd_retO o h
    · cases h
  | .brk, x, h => by
    have h : kBrk c x = true := h
    unfold kBrk at h
    split at h
    · refine ps_break.of fun D σ H ⟨F0, H0, F, ε, R, q⟩ => ?_
      unfold semS at q
      exact q σ H F R (FS.Le.refl _)
    · cases h
  | .cont, x, h => by
    have h : kCnt c x = true := h
    unfold kCnt at h
    split at h
    · refine ps_continue.of fun D σ H ⟨F0, H0, F, ε, R, q⟩ => ?_
      unfold semS at q
      exact q σ H F R (FS.Le.refl _)
    · cases h
theorem sndSs (o : XOk T Φ c X) : ∀ (s : CSs) (x : List Stmt), tieSs T s c x = true → PSs X x (tDS X.K (semSs Φ s))
  | .nil, x, h => by
    have h : kSs0 c x = true := h
    unfold kSs0 at h
    split at h
    · exact psd_nil.of fun D σ H ⟨F0, H0, F, ε, R, q⟩ => ⟨F0, H0, F, ε, R, by unfold semSs at q; exact q⟩
    · cases h
  | .cons s r, x, h => by
    have h : kSs1 (tieS T s) (tieSs T r) c x = true := h
    unfold kSs1 at h
    split at h
    · obtain ⟨h1, h2⟩ := and2 h
      exact (psd_cons (sndS o s _ h1) (sndSs o r _ h2) (semS_mono o.mono s) (semSs_mono o.mono r)).of fun D σ H ⟨F0, H0, F, ε, R, q⟩ => ⟨F0, H0, F, ε, R, by unfold semSs at q; exact q⟩
    · cases h
  | .frz i r, x, h => by
    have h : tieSs T r c x = true := h
    exact (psd_frz i (sndSs o r _ h) (semSs_mono o.mono r)).of fun D σ H ⟨F0, H0, F, ε, R, q⟩ => ⟨F0, H0, F, ε, R, by unfold semSs at q; exact q⟩
  | .opn i r, x, h => by
    have h : tieSs T r c x = true := h
    exact (psd_opn i (sndSs o r _ h) (semSs_mono o.mono r)).of fun D σ H ⟨F0, H0, F, ε, R, q⟩ => ⟨F0, H0, F, ε, R, by unfold semSs at q; exact q⟩
end
end
end DL

/-! DL10: the whole program: levels of calls, the draws' own def, the end. -/
namespace DL
open PySem PySem.Spec PyProof.Rows L2

/-- a def: its code (with the number of its names), or a meaning of its own -/
inductive Dn where
  | code (n : Nat) (b : CSs)
  | prim (p : List D → (Slot → Prop) → Prop)
def startE (n : Nat) (ds : List D) : List Slot := ds.map Slot.val ++ List.replicate (n - ds.length) .non
def semF (Φ : Sm) (n : Nat) (b : CSs) (ds : List D) (Q : Slot → Prop) : Prop := semSs Φ b ⟨fun _ => Q (.val .non), Q, fun _ => False, fun _ => False⟩ (startE n ds)
def phi (fns : List Dn) (cs : Nat → D) : Nat → Sm
  | 0 => ⟨fun _ _ _ => False, cs⟩
  | k + 1 => ⟨fun f ds Q => match fns[f]? with
    | some (.code n b) => semF (phi fns cs k) n b ds Q
    | some (.prim p) => p ds Q
    | none => False, cs⟩
theorem phi_mono {fns : List Dn} {cs : Nat → D} (hp : ∀ (f : Nat) p, fns[f]? = some (Dn.prim p) → ∀ ds P P', (∀ s, P s → P' s) → p ds P → p ds P') : ∀ k, MonoP (phi fns cs k)
  | 0 => fun f ds P P' h q => q
  | k + 1 => fun f ds P P' h q => by
    have q : (match fns[f]? with
      | some (.code n b) => semF (phi fns cs k) n b ds P
      | some (.prim p) => p ds P
      | none => False) := q
    show (match fns[f]? with
      | some (.code n b) => semF (phi fns cs k) n b ds P'
      | some (.prim p) => p ds P'
      | none => False)
    cases e : fns[f]? with
    | none => rw [e] at q; exact q
    | some fn =>
      rw [e] at q
      cases fn with
      | code n b => exact semSs_mono (phi_mono hp k) b ⟨fun _ => P (.val .non), P, fun _ => False, fun _ => False⟩ _ _ ⟨fun _ z => h _ z, h, fun _ z => z, fun _ z => z⟩ q
      | prim p => exact hp f p e ds P P' h q
def fnScopeB (N P : List Str) (sc : Scope) : Bool :=
  (match sc.kind with | .function => true | _ => false) && !sc.isCoroutine && !sc.isGenerator && decide N.Nodup && decide (N.take P.length = P) && P.all (fun x => match sc.names.lookup x with | some .local | some .cell => true | _ => false) && sc.names.all fun y => decide (y.2 ≠ .free)
theorem fnScope_by {N P : List Str} {sc : Scope} (h : fnScopeB N P sc = true) : FnScope N P sc := by
  unfold fnScopeB at h
  obtain ⟨h, h7⟩ := and2 h
  obtain ⟨h, h6⟩ := and2 h
  obtain ⟨h, h5⟩ := and2 h
  obtain ⟨h, h4⟩ := and2 h
  obtain ⟨h, h3⟩ := and2 h
  obtain ⟨h1, h2⟩ := and2 h
  refine ⟨?_, by simpa using h2, by simpa using h3, of_decide_eq_true h4, of_decide_eq_true h5, fun x hx => ?_, fun y hy => of_decide_eq_true (List.all_eq_true.mp h7 y hy)⟩
  · split at h1
    · assumption
    · cases h1
  · have q := List.all_eq_true.mp h6 x hx
    split at q
    · rename_i z; exact .inl z
    · rename_i z; exact .inr z
    · cases q
/-- the text's def has this code -/
def tieF (T : Tab) (N ps : List Str) (b : CSs) (st : Stmt) : Bool := fnScopeB N ps (defScope st) && tieSs T b ⟨N, defScope st, fun _ => true⟩ (defBody st)
/-- what the top has written of a def -/
structure FnIn (K : PySem.W.Frag) (x : Str) (st : Stmt) (a : Addr) (fd : FuncData) : Prop where
  ns : PySem.W.nsIn K mainGlobals x = some (some (.ref a))
  fn : Fun K x x st a fd
structure PrOk (T : Tab) (fns : List Dn) (cs : Nat → D) (P : Program) (w : World) (K : PySem.W.Frag) (mg : Str → Option Value) (base : Heap) : Prop where
  bis : ∀ x ∈ T.bis, mg x = none
  cs : ∀ (k : Nat) x, T.cs[k]? = some x → ∃ u v, mg x = some u ∧ RelV v u ∧ ∀ F, Rep K F v (cs k)
  mono : ∀ (f : Nat) p, fns[f]? = some (Dn.prim p) → ∀ ds P P', (∀ s, P s → P' s) → p ds P → p ds P'
  fn : ∀ (f : Nat) x ps kw, T.fns[f]? = some (x, ps, kw) → ∃ a fd, mg x = some (.ref a) ∧ PySem.W.keepIn K (.ref a) = true ∧ BindsK K fd ps kw ∧ (∃ oc od osl, K.lookup a = some ⟨oc, od, .func fd, osl⟩) ∧
    ((∃ n b N st, fns[f]? = some (Dn.code n b) ∧ n = N.length ∧ Fun K x x st a fd ∧ tieF T N ps b st = true) ∨ (∃ p, fns[f]? = some (Dn.prim p) ∧ FnOk P w K mg base CX0 1 a fd ps (spOf K (fun _ => p) 0 ps.length)))
section
variable {T : Tab} {fns : List Dn} {cs : Nat → D} {P : Program} {w : World} {K : PySem.W.Frag} {mg : Str → Option Value} {base : Heap}
theorem start_rp {F : FS} {H : Hp} {vs : List V} {ds : List D} (g : Good F H) (r : RepL K F vs ds) (N : List Str) : Rp K F H F H (L2.start N vs) (startE N.length ds) := by
  have hl := r.length
  refine ⟨g, Step.refl _ _, ?_, fun i s e => ?_, fun i j es es' l e1 e2 e3 e4 => ?_⟩
  · unfold L2.start startE
    simp [hl]
  · unfold startE at e
    by_cases hi : i < ds.length
    · rw [List.getElem?_append_left (by simpa using hi), List.getElem?_map] at e
      cases q : ds[i]? with
      | none => rw [q] at e; cases e
      | some d =>
        rw [q] at e
        cases e
        obtain ⟨v, h1, h2⟩ := r.getD q
        refine ⟨some v, ?_, .val h2⟩
        unfold L2.start
        rw [List.getElem?_append_left (by rw [List.length_map, hl]; exact hi), List.getElem?_map, h1]
        rfl
    · rw [List.getElem?_append_right (by simpa using hi), List.getElem?_replicate] at e
      split at e
      · rename_i hlt
        cases e
        refine ⟨none, ?_, .non⟩
        unfold L2.start
        rw [List.getElem?_append_right (by rw [List.length_map, hl]; omega), List.getElem?_replicate, List.length_map, hl]
        rw [List.length_map] at hlt
        rw [if_pos hlt]
      · cases e
  · exfalso
    unfold startE at e1
    by_cases hi : i < ds.length
    · rw [List.getElem?_append_left (by simpa using hi), List.getElem?_map] at e1
      cases q : ds[i]? with
      | none => rw [q] at e1; cases e1
      | some d => rw [q] at e1; cases e1
    · rw [List.getElem?_append_right (by simpa using hi), List.getElem?_replicate] at e1
      split at e1 <;> cases e1
theorem fn_sound {k : Nat} (hk : ∀ (X : Cx) (c : TC), X.prog = P → X.w = w → X.K = K → X.mg = mg → X.base = base → Room k X.A → X.N = c.N → c.N.Nodup → X.env.scope = c.sc → c.sc.kind = .function → X.calm = true → X.fn = c.fn → X.xe = (fun _ _ => False) → XOk T (phi fns cs k) c X)
    {x : Str} {st : Stmt} {a : Addr} {fd : FuncData} {N ps : List Str} {b : CSs} (F : Fun K x x st a fd) (ht : tieF T N ps b st = true) {f : Nat} :
    FnOk P w K mg base CX0 (k + 1) a fd ps (spOf K (fun _ ds Q => semF (phi fns cs k) N.length b ds Q) f ps.length) := by
  unfold tieF at ht
  obtain ⟨h1, h2⟩ := and2 ht
  have S := fnScope_by h1
  refine F.ok S (fun vs H Q E ⟨F, ds, g, r, hl, q⟩ => by rw [r.length, hl]) fun cdv A outer s H vs Q E hr ⟨F, ds, g, r, hl, q⟩ => ?_
  have o : XOk T (phi fns cs k) ⟨N, defScope st, fun _ => true⟩ (cxOf CX0 P w K mg base N x (defScope st) a cdv A outer s H E).nox :=
    hk _ _ rfl rfl rfl rfl rfl hr rfl S.nd rfl S.kind rfl rfl rfl
  refine ⟨_, sndSs o b _ h2, F, H, F, startE N.length ds, start_rp g r N, semSs_mono o.mono b ⟨fun _ => ∀ v H' F', Ret K F H F' H' v (.val .non) → Q v H', fun s => ∀ v H' F', Ret K F H F' H' v s → Q v H', fun _ => False, fun _ => False⟩ _ _ ⟨fun ε q σ H' F' R le => ?_, fun s q => q, fun _ z => z.elim, fun _ z => z.elim⟩ q⟩
  exact q .non H' F' ⟨R.good, R.step, .non⟩
theorem prog_ok (pr : PrOk T fns cs P w K mg base) : ∀ (k f : Nat) x ps kw, T.fns[f]? = some (x, ps, kw) → ∃ a fd, mg x = some (.ref a) ∧ PySem.W.keepIn K (.ref a) = true ∧ BindsK K fd ps kw ∧ (∃ oc od osl, K.lookup a = some ⟨oc, od, .func fd, osl⟩) ∧ FnOk P w K mg base CX0 k a fd ps (spOf K (phi fns cs k).f f ps.length)
  | 0, f, x, ps, kw, hf => by
    obtain ⟨a, fd, h1, h2, h3, h5, _⟩ := pr.fn f x ps kw hf
    refine ⟨a, fd, h1, h2, h3, h5, fun vs H Q E ⟨F, ds, g, r, hl, q⟩ => q.elim, fun A outer s H args us vs Q E hr e0 hb r ⟨F, ds, g, rr, hl, q⟩ => q.elim⟩
  | k + 1, f, x, ps, kw, hf => by
    obtain ⟨a, fd, h1, h2, h3, h5, h4⟩ := pr.fn f x ps kw hf
    refine ⟨a, fd, h1, h2, h3, h5, ?_⟩
    have mono := phi_mono (cs := cs) pr.mono
    have ih := prog_ok pr k
    have hc : (phi fns cs k).c = cs := by cases k <;> rfl
    rcases h4 with ⟨n, b, N, st, e1, rfl, F, ht⟩ | ⟨p, e1, F⟩
    · refine FnOk.imp (fn_sound (fns := fns) (cs := cs) (fun X c e1 e2 e3 e4 e5 hr hN hnd hsc hk hcalm hfn hxe => ?_) F ht (f := f)) fun vs H Q E ⟨F, ds, g, r, hl, q⟩ => ⟨F, ds, g, r, hl, ?_⟩
      · subst e1 e2 e3 e4 e5
        exact ⟨hN, hnd, hsc, hk, hcalm, hfn, hxe, hr.units, mono k, pr.bis, fun j y hy => by rw [hc]; exact pr.cs j y hy, fun j y qs kw' hj => by
          obtain ⟨a', fd', g1, g2, g3, _, g4⟩ := ih j y qs kw' hj
          exact ⟨k, a', fd', g4, hr, g1, g2, g3⟩⟩
      · have q' : (match fns[f]? with
          | some (.code n b) => semF (phi fns cs k) n b ds fun s => ∀ v H' F', Ret K F H F' H' v s → Q v H'
          | some (.prim p) => p ds fun s => ∀ v H' F', Ret K F H F' H' v s → Q v H'
          | none => False) := q
        rw [e1] at q'
        exact q'
    · refine (F.mono (Nat.succ_le_succ (Nat.zero_le k))).imp fun vs H Q E ⟨F, ds, g, r, hl, q⟩ => ⟨F, ds, g, r, hl, ?_⟩
      have q' : (match fns[f]? with
          | some (.code n b) => semF (phi fns cs k) n b ds fun s => ∀ v H' F', Ret K F H F' H' v s → Q v H'
          | some (.prim p) => p ds fun s => ∀ v H' F', Ret K F H F' H' v s → Q v H'
          | none => False) := q
      rw [e1] at q'
      exact q'

/-! ### the next draw -/
def takeP : List D → (Slot → Prop) → Prop
  | [.opq 0, .int m], Q => 0 < m ∧ ∀ k : Int, 0 ≤ k → k < m → Q (.val (.int k))
  | _, _ => False
theorem takeP_mono : ∀ ds P P', (∀ s, P s → P' s) → takeP ds P → takeP ds P' := by
  intro ds P P' h q
  unfold takeP at q ⊢
  split at q
  · exact ⟨q.1, fun k a b => h _ (q.2 k a b)⟩
  · exact q.elim
def isTake (T : Tab) (c : TC) : List Stmt → Bool
  | [.If (.Compare (.Call (.Name l _) [.Name d1 _] [] _) [.Eq] [.Constant (.int z) _ _] _) [.Return (some (.Constant (.int z2) _ _)) _] [] _, .Return (some (.BinOp (.Call (.Name i _) [.Call (.Attribute (.Name d2 _) p apos) [] [] cpos] [] _) .Mod (.Name m _) _)) _] =>
    nmBi T c l && decide (l = "len") && nmOk c 0 d1 && decide (z = 0) && decide (z2 = 0) && nmBi T c i && decide (i = "int") && nmOk c 0 d2 && decide (p = "pop") && (apos.endLine == cpos.line) && nmOk c 1 m
  | _ => false
def tieTake (T : Tab) (N : List Str) (st : Stmt) : Bool := decide (N.length = 2) && fnScopeB N N (defScope st) && isTake T ⟨N, defScope st, fun _ => true⟩ (defBody st)
theorem take_ok {x : Str} {st : Stmt} {a : Addr} {fd : FuncData} {N : List Str} (F : Fun K x x st a fd) (ht : tieTake T N st = true) (hb : ∀ x ∈ T.bis, mg x = none) : FnOk P w K mg base CX0 1 a fd N (spOf K (fun _ => takeP) 0 N.length) := by
  unfold tieTake at ht
  obtain ⟨ht, h3⟩ := and2 ht
  obtain ⟨h1, h2⟩ := and2 ht
  have S := fnScope_by h2
  have h1 := of_decide_eq_true h1
  refine F.ok S (fun vs H Q E ⟨F, ds, g, r, hl, q⟩ => by rw [r.length, hl]) fun cdv A outer s H vs Q E hr ⟨F, ds, g, r, hl, q⟩ => ?_
  have o : XOk ⟨[], T.bis, []⟩ ⟨fun _ _ _ => False, fun _ => .non⟩ ⟨N, defScope st, fun _ => true⟩ (cxOf CX0 P w K mg base N x (defScope st) a cdv A outer s H E).nox :=
    ⟨rfl, S.nd, rfl, S.kind, rfl, rfl, rfl, hr.units, fun _ _ _ _ _ q => q, hb, (fun _ _ h => by cases h), (fun _ _ _ _ h => by cases h)⟩
  generalize defBody st = body at h3 ⊢
  unfold isTake at h3
  split at h3
  · rename_i l p1 d1 p2 p3 z j p4 p5 z2 j2 p6 p7 p8 i p9 d2 p10 p apos cpos p11 m p12 p13 p14
    obtain ⟨h3, g11⟩ := and2 h3
    obtain ⟨h3, g10⟩ := and2 h3
    obtain ⟨h3, g9⟩ := and2 h3
    obtain ⟨h3, g8⟩ := and2 h3
    obtain ⟨h3, g7⟩ := and2 h3
    obtain ⟨h3, g6⟩ := and2 h3
    obtain ⟨h3, g5⟩ := and2 h3
    obtain ⟨h3, g4⟩ := and2 h3
    obtain ⟨h3, g3⟩ := and2 h3
    obtain ⟨g1, g2⟩ := and2 h3
    obtain rfl := of_decide_eq_true g2
    obtain rfl := of_decide_eq_true g4
    obtain rfl := of_decide_eq_true g5
    obtain rfl := of_decide_eq_true g7
    obtain rfl := of_decide_eq_true g9
    obtain ⟨l1, l2, l3, l4⟩ := o.bi (x := "len") g1
    obtain ⟨i1, i2, i3, i4⟩ := o.bi (x := "int") g6
    unfold takeP at q
    dsimp only at q
    split at q
    · rename_i mm hds qq
      obtain ⟨hm, q⟩ := q
      cases r with
      | cons r1 r =>
        cases r with
        | cons r2 r =>
          cases r
          cases r2
          cases r1 with
          | @opq l _ hop =>
            obtain ⟨hfz, ob, hH, ns, rfl, hns⟩ := g.op _ _ hop
            refine ⟨_, pss_cons (ps_if (pt_cmpR op_eq (pe_callB call_len_seq l1 l4 (by decide +kernel) (pa_cons (o.var g3) pa_nil (star_cons fun _ _ => by simp)) l3 l2 (star_cons fun _ _ => by simp) rfl) pe_int (nomark _)) (pss_one (ps_ret pe_int)) pss_nil)
              (pss_one (ps_ret (pe_op op_mod (pe_callTy call_int1 i1 i4 (by decide +kernel) (pa_cons (pe_bm0 PySem.F.plainAttrs_list PySem.F.slot_list_pop PySem.F.type_list_pop mt_pop (o.var g8) (base_of rfl _ _ _) g10) pa_nil (star_cons fun _ _ => by simp)) i3 i2 (star_cons fun _ _ => by simp) rfl) (o.var g11)))), ?_⟩
            have hst : ∀ i : Int, L2.start N [V.ref l, V.int i] = [some (.ref l), some (.int i)] := fun i => by unfold L2.start; rw [h1]; rfl
            rw [hst]
            refine ⟨_, rfl, l, _, rfl, .inl (SqL.of hH), rfl, _, rfl, ?_⟩
            by_cases hz : ns = []
            · subst hz
              refine iteT ?_
              exact q 0 (Int.le_refl _) hm _ H F ⟨g, Step.refl _ _, .int 0⟩
            · have hlen : 0 < ns.length := by cases ns with | nil => exact absurd rfl hz | cons a l => simp
              have hd : decide (V.int ((ns.map V.int).length : Nat) = V.int 0) = false := decide_eq_false fun z => by
                injection z with z
                rw [List.length_map] at z
                omega
              rw [hd]
              refine iteF ?_
              have hget : (ns.map V.int)[(ns.map V.int).length - 1]? = some (V.int (ns[ns.length - 1]'(by omega))) := by
                rw [List.length_map, List.getElem?_map, List.getElem?_eq_getElem (by omega)]
                rfl
              refine ⟨_, rfl, .inl ⟨rfl, _, SqL.of hH⟩, l, _, _, rfl, rfl, hH, hget, .inl ⟨_, rfl, ?_⟩⟩
              refine ⟨_, rfl, _, _, rfl, rfl, hm, ?_⟩
              have hn : ∀ b, F.fz b ≠ none → b ≠ l := fun b h z => h (by rw [z]; exact hfz)
              have g' : Good F (upd H l (.lst (ns.map V.int).dropLast)) := ⟨fun b u e => by
                  rw [upd_ne (hn b (by rw [e]; simp))]
                  exact g.fz b u e, fun b k e => by
                  obtain ⟨z1, u, z2, z3⟩ := g.op b k e
                  by_cases hb : b = l
                  · subst hb
                    refine ⟨z1, _, upd_same, ns.dropLast, by rw [List.map_dropLast], fun n hn => hns n (List.dropLast_subset _ hn)⟩
                  · exact ⟨z1, u, by rw [upd_ne hb]; exact z2, z3⟩⟩
              have s' : Step F H F (upd H l (.lst (ns.map V.int).dropLast)) := ⟨fun _ _ e => e, fun _ _ e => e, fun b u e n => by
                  rw [upd_ne (by rintro rfl; rw [hop] at n; cases n)]
                  exact e, fun _ n1 n2 _ => ⟨n1, n2⟩⟩
              exact q _ (Int.emod_nonneg _ (by omega)) (Int.emod_lt_of_pos _ hm) _ _ F ⟨g', s', .int _⟩
    · exact q.elim
  · cases h3
/-! ### the law -/
def spLaw (K : PySem.W.Frag) : Sp := fun vs H Q _ => ∃ (a : Addr) (ns : List Int), vs = [.ref a] ∧ SqL K H a (ns.map V.int) ∧ ns.length ≤ 63 ∧ ∀ H', Q (.bl true) H'
theorem law_ok {L f : Nat} {a : Addr} {fd : FuncData} {ps : List Str} (mono : MonoP (phi fns cs L)) (hp : ps.length = 1) (F : FnOk P w K mg base CX0 L a fd ps (spOf K (phi fns cs L).f f ps.length))
    (hm : ∀ ns : List Int, ns.length ≤ 63 → (phi fns cs L).f f [.scr ns] fun s => s = .val (.bl true)) : FnOk P w K mg base CX0 L a fd ps (spLaw K) := by
  refine F.imp fun vs H Q E ⟨a, ns, e, hs, hl, q⟩ => ?_
  subst e
  let F1 : FS := ⟨fun b => if b = a then H b else none, fun _ => none⟩
  have ha : F1.fz a = H a := if_pos rfl
  have g : Good F1 H := by
    refine ⟨fun b o e => ?_, fun b k e => by cases e⟩
    have e : (if b = a then H b else none) = some o := e
    split at e
    · exact e
    · cases e
  have hs' : SqL K F1.fz a (ns.map V.int) := by
    rcases hs with (h | ⟨o, h⟩) | h
    · exact .inl (.inl (by rw [ha]; exact h))
    · exact .inl (.inr ⟨o, by rw [ha]; exact h⟩)
    · exact .inr h
  refine ⟨F1, [.scr ns], g, .cons (.scr hs') .nil, by rw [hp]; rfl, mono f _ _ _ (fun s e v H' F' r => ?_) (hm ns hl)⟩
  subst e
  obtain ⟨_, _, r⟩ := r
  cases r
  exact q H'
/-- a def of the text, found behind the top -/
structure FnHas (K : PySem.W.Frag) (x : Str) (st : Stmt) : Prop where
  ex : ∃ (a : Addr) (fd : FuncData), PySem.W.nsIn K mainGlobals x = some (some (.ref a)) ∧ Fun K x x st a fd
theorem fnHas {x : Str} {st : Stmt} {f : Addr} {oc : Value} {od an : Option Addr} {osl : Array (Option Value)} {kV doc pm cdv ct : Value} (n : PySem.W.nsIn K mainGlobals x = some (some (.ref f)))
    (l : K.lookup f = some ⟨oc, od, .func (PySem.W.fnOf x x (defArgs st) (defBody st) (defScope st) .none kV doc pm an cdv ct), osl⟩)
    (c : PySem.W.codeIn K cdv x = true) (k : PySem.W.keepIn K (.ref f) = true) : FnHas K x st := ⟨f, _, n, fun_mk l c k⟩
theorem _root_.L2.Fun.look {K : PySem.W.Frag} {x q : Str} {st : Stmt} {a : Addr} {fd : FuncData} (F : Fun K x q st a fd) : ∃ oc od osl, K.lookup a = some ⟨oc, od, .func fd, osl⟩ := by
  obtain ⟨oc, od, kV, doc, pm, an, cdv, ct, osl, rfl, lk, _⟩ := F.ex
  exact ⟨oc, od, osl, lk⟩
theorem fd_same {K : PySem.W.Frag} {a : Addr} {fd fd' : FuncData} (h : ∃ oc od osl, K.lookup a = some ⟨oc, od, .func fd, osl⟩) (h' : ∃ oc od osl, K.lookup a = some ⟨oc, od, .func fd', osl⟩) : fd = fd' := by
  obtain ⟨_, _, _, e⟩ := h
  obtain ⟨_, _, _, e'⟩ := h'
  rw [e] at e'
  cases e'
  rfl
/-- how a plain def binds -/
abbrev BindOk (x : Str) (st : Stmt) (ps : List Str) : Prop := ∀ (kV doc pm : Value) (an : Option Addr) (cdv ct : Value) (us : List Value), us.length = ps.length → bindArgs (PySem.W.fnOf x x (defArgs st) (defBody st) (defScope st) .none kV doc pm an cdv ct) ⟨us, []⟩ = pure (ps.zip us)
theorem ent_code {h : Heap} {f : Nat} {x y : Str} {ps qs N : List Str} {st : Stmt} {b : CSs} {kw : Bool} (X : K.In h) (G : h.Ns mainGlobals mg) (H : FnHas K x st) (hb : BindOk x st ps) (ht : tieF T N ps b st = true) (hf : fns[f]? = some (Dn.code N.length b)) (e : some (x, ps, false) = some (y, qs, kw)) :
    ∃ a fd, mg y = some (.ref a) ∧ PySem.W.keepIn K (.ref a) = true ∧ BindsK K fd qs kw ∧ (∃ oc od osl, K.lookup a = some ⟨oc, od, .func fd, osl⟩) ∧
      ((∃ n b N st, fns[f]? = some (Dn.code n b) ∧ n = N.length ∧ Fun K y y st a fd ∧ tieF T N qs b st = true) ∨ (∃ p, fns[f]? = some (Dn.prim p) ∧ FnOk P w K mg base CX0 1 a fd qs (spOf K (fun _ => p) 0 qs.length))) := by
  cases e
  obtain ⟨a, fd, n, F⟩ := H.ex
  exact ⟨a, fd, PySem.W.mg_of X G n, F.kp, F.binds hb, F.look, .inl ⟨_, b, N, st, hf, rfl, F, ht⟩⟩
/-- how a def with a keyword-only parameter k binds -/
abbrev BindKw (x : Str) (st : Stmt) (ps : List Str) (k : Str) : Prop := ∀ (kV doc pm : Value) (an : Option Addr) (cdv ct : Value) (us : List Value) (u : Value), us.length + 1 = ps.length → bindArgs (PySem.W.fnOf x x (defArgs st) (defBody st) (defScope st) .none kV doc pm an cdv ct) ⟨us, [(k, u)]⟩ = pure (ps.zip (us ++ [u]))
theorem kw_binds {x k : Str} {st : Stmt} {a : Addr} {fd : FuncData} {ps : List Str} (F : Fun K x x st a fd) (hb : BindKw x st ps k) (h0 : 0 < ps.length) (hk : ps.getLast? = some k) : BindsK K fd ps true := fun k' e => by
  rw [hk] at e
  cases e
  obtain ⟨oc, od, kV, doc, pm, an, cdv, ct, osl, rfl, lk, hcd⟩ := F.ex
  refine ⟨fun s us ws _ hl => ?_, fun {vs us zs ws} r rz => ?_⟩
  · unfold gKw at hl ⊢
    split at hl
    · rename_i h1
      match ws, h1 with
      | [u], _ =>
        rw [if_pos (show ([u] : List Value).length = 1 from rfl)]
        exact .of_eq (hb kV doc pm an cdv ct us u (by rw [List.length_append] at hl; simpa using hl))
    · rw [List.length_nil] at hl
      omega
  · unfold gKw
    rw [rz.length]
    split
    · exact r.append rz
    · exact .nil
theorem ent_kw {h : Heap} {f : Nat} {x y k : Str} {ps qs N : List Str} {st : Stmt} {b : CSs} {kw : Bool} (X : K.In h) (G : h.Ns mainGlobals mg) (H : FnHas K x st) (hb : BindKw x st ps k) (h0 : 0 < ps.length) (hk : ps.getLast? = some k) (ht : tieF T N ps b st = true) (hf : fns[f]? = some (Dn.code N.length b)) (e : some (x, ps, true) = some (y, qs, kw)) :
    ∃ a fd, mg y = some (.ref a) ∧ PySem.W.keepIn K (.ref a) = true ∧ BindsK K fd qs kw ∧ (∃ oc od osl, K.lookup a = some ⟨oc, od, .func fd, osl⟩) ∧
      ((∃ n b N st, fns[f]? = some (Dn.code n b) ∧ n = N.length ∧ Fun K y y st a fd ∧ tieF T N qs b st = true) ∨ (∃ p, fns[f]? = some (Dn.prim p) ∧ FnOk P w K mg base CX0 1 a fd qs (spOf K (fun _ => p) 0 qs.length))) := by
  cases e
  obtain ⟨a, fd, n, F⟩ := H.ex
  exact ⟨a, fd, PySem.W.mg_of X G n, F.kp, kw_binds F hb h0 hk, F.look, .inl ⟨_, b, N, st, hf, rfl, F, ht⟩⟩
/-- a constant of the module -/
structure CstHas (K : PySem.W.Frag) (x : Str) (d : D) : Prop where
  ex : ∃ u v, PySem.W.nsIn K mainGlobals x = some (some u) ∧ RelV v u ∧ ∀ F, Rep K F v d
def litV : D → Value → Bool
  | .bl b, .bool b' => b == b'
  | .int i, .int j _ => decide (i = j)
  | .str s, .str s' _ => decide (s = s') && PyData.strOk s
  | _, _ => false
def litsV : List D → List Value → Bool
  | [], [] => true
  | d :: ds, v :: vs => litV d v && litsV ds vs
  | _, _ => false
theorem litV_ok {d : D} {u : Value} (h : litV d u = true) : ∃ v, RelV v u ∧ ∀ F, Rep K F v d := by
  cases d <;> cases u <;> first | (simp [litV] at h; done) | skip
  · rename_i b b'
    obtain rfl : b = b' := by simpa [litV] using h
    exact ⟨.bl b, rfl, fun F => .bl _⟩
  · rename_i i j t
    obtain rfl : i = j := by simpa [litV] using h
    exact ⟨.int i, ⟨t, rfl⟩, fun F => .int _⟩
  · rename_i x y t
    obtain ⟨h1, h2⟩ : x = y ∧ PyData.strOk x = true := by simpa [litV] using h
    subst h1
    exact ⟨.str x, ⟨t, rfl⟩, fun F => .str _ h2⟩
theorem litsV_ok : ∀ {ds : List D} {us : List Value}, litsV ds us = true → ∃ vs, Vals vs us ∧ ∀ F, RepL K F vs ds
  | [], [], _ => ⟨[], .nil, fun F => .nil⟩
  | d :: ds, u :: us, h => by
    obtain ⟨h1, h2⟩ := and2 (show (litV d u && litsV ds us) = true from h)
    obtain ⟨v, r, f⟩ := litV_ok (K := K) h1
    obtain ⟨vs, rs, fs⟩ := litsV_ok h2
    exact ⟨v :: vs, .cons r rs, fun F => .cons (f F) (fs F)⟩
theorem cstTup {x : Str} {ds : List D} {a : Addr} {its : Array Value} {n : Nat} (hn : PySem.W.nsIn K mainGlobals x = some (some (.ref a))) (hl : K.lookup a = some ⟨.type "tuple", none, .seq its n, #[]⟩) (hc : (litsV ds its.toList && decide (its.size ≤ 1000)) = true) : CstHas K x (.tup ds) := by
  obtain ⟨h1, h2⟩ := and2 hc
  obtain ⟨vs, r, f⟩ := litsV_ok (K := K) h1
  exact ⟨.ref a, .ref a, hn, rfl, fun F => .tup (.inr ⟨_, its, n, hl, rfl, rfl, Nat.le_trans (of_decide_eq_true h2) (by rw [sizeLine_eq]; omega), r⟩) (.inr ⟨_, hl, rfl⟩) (f F)⟩
theorem cst_of {h : Heap} {x y : Str} {d : D} (X : K.In h) (G : h.Ns mainGlobals mg) (H : CstHas K x d) (e : some x = some y) : ∃ u v, mg y = some u ∧ RelV v u ∧ ∀ F, Rep K F v d := by
  cases e
  obtain ⟨u, v, n, r, f⟩ := H.ex
  exact ⟨u, v, PySem.W.mg_of X G n, r, f⟩
theorem ent_take {h : Heap} {f : Nat} {x y : Str} {ps qs : List Str} {st : Stmt} {kw : Bool} (X : K.In h) (G : h.Ns mainGlobals mg) (H : FnHas K x st) (hb : BindOk x st ps) (hbi : ∀ x ∈ T.bis, mg x = none) (ht : tieTake T ps st = true) (hf : fns[f]? = some (Dn.prim takeP)) (e : some (x, ps, false) = some (y, qs, kw)) :
    ∃ a fd, mg y = some (.ref a) ∧ PySem.W.keepIn K (.ref a) = true ∧ BindsK K fd qs kw ∧ (∃ oc od osl, K.lookup a = some ⟨oc, od, .func fd, osl⟩) ∧
      ((∃ n b N st, fns[f]? = some (Dn.code n b) ∧ n = N.length ∧ Fun K y y st a fd ∧ tieF T N qs b st = true) ∨ (∃ p, fns[f]? = some (Dn.prim p) ∧ FnOk P w K mg base CX0 1 a fd qs (spOf K (fun _ => p) 0 qs.length))) := by
  cases e
  obtain ⟨a, fd, n, F⟩ := H.ex
  exact ⟨a, fd, PySem.W.mg_of X G n, F.kp, F.binds hb, F.look, .inr ⟨takeP, hf, take_ok F ht hbi⟩⟩
theorem walk {l : PySem.W.OpenLaw} {q : Program} {loose : List Str} {XP : (Str → Option Value) → Heap → Prop} {YP : World → Heap → Prop} {d : DefRec} {K : Params → PySem.W.Frag} (hn : l.most = some 63) (hdf : d.params.defaults = [])
    (hY : ∀ (w : World) (h : Heap), YP w h → (K w.params).In h)
    (F : ∀ (w : World) (mg : Str → Option Value) (fa : Addr) (h : Heap), (K w.params).In h → h.Ns mainGlobals mg → mg d.name = some (.ref fa) →
      ∃ fd : FuncData, (∀ (s : Shared) (u : Value), BindsTo s fd ⟨[u], []⟩ [("script", u)]) ∧ ∀ base : Heap, (K w.params).In base → base.Ns mainGlobals mg → FnOk l.prog w (K w.params) mg base CX0 65 fa fd ["script"] (spLaw (K w.params))) :
    PySem.W.WalkO q loose XP YP l.row.toRowW d [] (fun f vs => PySem.call f vs) :=
  L2.walk_of (n := 63) (k := 65) (x := "script") (CX := fun _ => CX0) (sp := fun w => spLaw (K w.params)) hn (by decide) hdf ⟨rfl, by decide, by decide⟩ hY F (fun _ _ a ns hl _ hS => ⟨a, ns, rfl, hS, hl, fun _ => rfl⟩) fun _ _ _ _ _ z => z
end
end DL

/-! DLaw: tools for the plain half. -/
namespace DL
open PySem L2
def tst (x : D) (A B : Prop) : Prop := match x with | .bl true => A | .bl false => B | _ => False
section
variable (Φ : Sm) (ε : List Slot) (Q : D → Prop) (E : DEnds)
theorem sE_var (i : Nat) : semE Φ (.var i) ε Q = match ε[i]? with | some (.val d) => Q d | _ => False := rfl
theorem sE_lit (d : D) : semE Φ (.lit d) ε Q = Q d := rfl
theorem sE_glob (k : Nat) : semE Φ (.glob k) ε Q = Q (Φ.c k) := rfl
theorem sE_bin (o : O2) (a b : CE) : semE Φ (.bin o a b) ε Q = semE Φ a ε fun x => semE Φ b ε fun y => op2 o x y Q := rfl
theorem sE_cmp (o : OC) (a b : CE) : semE Φ (.cmp o a b) ε Q = semE Φ a ε fun x => semE Φ b ε fun y => opc o x y Q := rfl
theorem sE_idx (a b : CE) : semE Φ (.idx a b) ε Q = semE Φ a ε fun x => semE Φ b ε fun y => opIx x y Q := rfl
theorem sE_isi (a : CE) (ts : List Ty) : semE Φ (.isi a ts) ε Q = semE Φ a ε fun x => Q (.bl (ts.any x.isa)) := rfl
theorem sE_bi (b : Bi) (es : CEs) : semE Φ (.bi b es) ε Q = semEs Φ es ε fun ds => bi b ds Q := rfl
theorem sE_not (a : CE) : semE Φ (.not a) ε Q = semE Φ a ε fun x => match x with | .bl k => Q (.bl (!k)) | _ => False := rfl
theorem sE_and (a b : CE) : semE Φ (.and a b) ε Q = semE Φ a ε fun x => tst x (semE Φ b ε Q) (Q (.bl false)) := rfl
theorem sE_or (a b : CE) : semE Φ (.or a b) ε Q = semE Φ a ε fun x => tst x (Q (.bl true)) (semE Φ b ε Q) := rfl
theorem sE_ite (c a b : CE) : semE Φ (.ite c a b) ε Q = semE Φ c ε fun x => tst x (semE Φ a ε Q) (semE Φ b ε Q) := rfl
theorem sS_iff (c : CE) (a b : CSs) : semS Φ (.iff c a b) E ε = semE Φ c ε fun x => tst x (semSs Φ a E ε) (semSs Φ b E ε) := rfl
end
theorem tst_bl (b : Bool) (A B : Prop) : tst (.bl b) A B = ((b = true → A) ∧ (b = false → B)) := by
  cases b <;> simp [tst]
theorem tst_t (A B : Prop) : tst (.bl true) A B = A := rfl
theorem tst_f (A B : Prop) : tst (.bl false) A B = B := rfl
/-! ### operations at known data -/
section
variable (Q : D → Prop) (i j : Int)
theorem o2_add : op2 .add (.int i) (.int j) Q = Q (.int (i + j)) := rfl
theorem o2_sub : op2 .sub (.int i) (.int j) Q = Q (.int (i - j)) := rfl
theorem o2_mul : op2 .mul (.int i) (.int j) Q = (CMul i j ∧ Q (.int (i * j))) := rfl
theorem o2_fdiv : op2 .fdiv (.int i) (.int j) Q = ((0 < j ∧ j < 1073741824) ∧ Q (.int (i / j))) := rfl
theorem o2_mod : op2 .mod (.int i) (.int j) Q = (0 < j ∧ Q (.int (i % j))) := rfl
theorem o2_pow : op2 .pow (.int i) (.int j) Q = (CPow i j ∧ Q (.int (i ^ j.toNat))) := rfl
theorem o2_adds (a b : Str) : op2 .add (.str a) (.str b) Q = (a.length + b.length ≤ sizeLine ∧ Q (.str (a ++ b))) := rfl
theorem o2_addt (a b : List D) : op2 .add (.tup a) (.tup b) Q = (a.length + b.length ≤ sizeLine ∧ Q (.tup (a ++ b))) := rfl
theorem oc_eqi : opc .eq (.int i) (.int j) Q = Q (.bl (decide (i = j))) := by
  show ((_ ∧ _) ∧ Q (.bl (D.eqv (.int i) (.int j)))) = _
  have : D.eqv (.int i) (.int j) = decide (i = j) := by unfold D.eqv; rfl
  rw [this]; simp [D.ok]
theorem oc_nei : opc .ne (.int i) (.int j) Q = Q (.bl (!decide (i = j))) := by
  show ((_ ∧ _) ∧ Q (.bl !(D.eqv (.int i) (.int j)))) = _
  have : D.eqv (.int i) (.int j) = decide (i = j) := by unfold D.eqv; rfl
  rw [this]; simp [D.ok]
theorem oc_eqs (a b : Str) : opc .eq (.str a) (.str b) Q = Q (.bl (decide (a = b))) := by
  show ((_ ∧ _) ∧ Q (.bl (D.eqv (.str a) (.str b)))) = _
  have : D.eqv (.str a) (.str b) = decide (a = b) := by unfold D.eqv; by_cases h : a = b <;> simp [h]
  rw [this]; simp [D.ok]
theorem oc_eqb (a b : Bool) : opc .eq (.bl a) (.bl b) Q = Q (.bl (a == b)) := by
  show ((_ ∧ _) ∧ Q (.bl (D.eqv (.bl a) (.bl b)))) = _
  have : D.eqv (.bl a) (.bl b) = (a == b) := by unfold D.eqv; rfl
  rw [this]; simp [D.ok]
theorem oc_neb (a b : Bool) : opc .ne (.bl a) (.bl b) Q = Q (.bl (!(a == b))) := by
  show ((_ ∧ _) ∧ Q (.bl !(D.eqv (.bl a) (.bl b)))) = _
  have : D.eqv (.bl a) (.bl b) = (a == b) := by unfold D.eqv; rfl
  rw [this]; simp [D.ok]
theorem oc_eq (x y : D) : opc .eq x y Q = ((x.ok 60 = true ∧ y.ok 60 = true) ∧ Q (.bl (x.eqv y))) := rfl
theorem oc_ne (x y : D) : opc .ne x y Q = ((x.ok 60 = true ∧ y.ok 60 = true) ∧ Q (.bl (!x.eqv y))) := rfl
theorem oc_lt : opc .lt (.int i) (.int j) Q = Q (.bl (decide (i < j))) := rfl
theorem oc_le : opc .le (.int i) (.int j) Q = Q (.bl (decide (i ≤ j))) := rfl
theorem oc_gt : opc .gt (.int i) (.int j) Q = Q (.bl (decide (j < i))) := rfl
theorem oc_ge : opc .ge (.int i) (.int j) Q = Q (.bl (decide (j ≤ i))) := rfl
theorem oc_is (x : D) : opc .is x .non Q = Q (.bl x.isNon) := by cases x <;> rfl
theorem oc_isn (x : D) : opc .isn x .non Q = Q (.bl (!x.isNon)) := by cases x <;> rfl
theorem oc_innl (x : D) (ys : List D) : opc .inn x (.lst ys) Q = ((x.flat = true ∧ ys.all D.flat = true) ∧ Q (.bl (ys.any fun y => y.eqv x))) := by cases x <;> rfl
theorem oc_innt (x : D) (ys : List D) : opc .inn x (.tup ys) Q = ((x.flat = true ∧ ys.all D.flat = true) ∧ Q (.bl (ys.any fun y => y.eqv x))) := by cases x <;> rfl
theorem oc_ninl (x : D) (ys : List D) : opc .nin x (.lst ys) Q = ((x.flat = true ∧ ys.all D.flat = true) ∧ Q (.bl (!ys.any fun y => y.eqv x))) := by cases x <;> rfl
theorem oc_nint (x : D) (ys : List D) : opc .nin x (.tup ys) Q = ((x.flat = true ∧ ys.all D.flat = true) ∧ Q (.bl (!ys.any fun y => y.eqv x))) := by cases x <;> rfl
theorem isNon_non : D.isNon .non = true := rfl
theorem isNon_bl (b : Bool) : D.isNon (.bl b) = false := rfl
theorem isNon_int : D.isNon (.int i) = false := rfl
theorem isNon_str (s : Str) : D.isNon (.str s) = false := rfl
theorem isNon_tup (s : List D) : D.isNon (.tup s) = false := rfl
theorem isNon_lst (s : List D) : D.isNon (.lst s) = false := rfl
theorem ix_l (ds : List D) : opIx (.lst ds) (.int i) Q = ∃ d, getI ds i = some d ∧ Q d := rfl
theorem ix_t (ds : List D) : opIx (.tup ds) (.int i) Q = ∃ d, getI ds i = some d ∧ Q d := rfl
theorem ix_s (ns : List Int) : opIx (.scr ns) (.int i) Q = ∃ n, getI ns i = some n ∧ Q (.int n) := rfl
theorem ix_t0 (a : D) (ds : List D) : opIx (.tup (a :: ds)) (.int 0) Q = Q a := by
  show (∃ d, getI (a :: ds) 0 = some d ∧ Q d) = _
  simp [getI]
theorem ix_t1 (a b : D) (ds : List D) : opIx (.tup (a :: b :: ds)) (.int 1) Q = Q b := by
  show (∃ d, getI (a :: b :: ds) 1 = some d ∧ Q d) = _
  simp [getI]
theorem ix_t2 (a b c : D) (ds : List D) : opIx (.tup (a :: b :: c :: ds)) (.int 2) Q = Q c := by
  show (∃ d, getI (a :: b :: c :: ds) 2 = some d ∧ Q d) = _
  simp [getI]
theorem ix_t3 (a b c d : D) (ds : List D) : opIx (.tup (a :: b :: c :: d :: ds)) (.int 3) Q = Q d := by
  show (∃ z, getI (a :: b :: c :: d :: ds) 3 = some z ∧ Q z) = _
  simp [getI]
theorem ix_t4 (a b c d e : D) (ds : List D) : opIx (.tup (a :: b :: c :: d :: e :: ds)) (.int 4) Q = Q e := by
  show (∃ z, getI (a :: b :: c :: d :: e :: ds) 4 = some z ∧ Q z) = _
  simp [getI]
theorem b_lenl (ds : List D) : bi .len [.lst ds] Q = Q (.int ds.length) := rfl
theorem b_lent (ds : List D) : bi .len [.tup ds] Q = Q (.int ds.length) := rfl
theorem b_lens (ns : List Int) : bi .len [.scr ns] Q = Q (.int ns.length) := rfl
theorem b_lenc (s : Str) : bi .len [.str s] Q = (s.length ≤ sizeLine ∧ Q (.int s.length)) := rfl
theorem b_int : bi .int [.int i] Q = Q (.int i) := rfl
theorem b_intb (b : Bool) : bi .int [.bl b] Q = Q (.int (if b then 1 else 0)) := rfl
theorem b_abs : bi .abs [.int i] Q = Q (.int (if i < 0 then -i else i)) := rfl
theorem b_max2 : bi .max2 [.int i, .int j] Q = Q (.int (if j > i then j else i)) := rfl
theorem b_min2 : bi .min2 [.int i, .int j] Q = Q (.int (if j < i then j else i)) := rfl
theorem b_tl (ds : List D) : bi .tuple [.lst ds] Q = Q (.tup ds) := rfl
theorem b_tt (ds : List D) : bi .tuple [.tup ds] Q = Q (.tup ds) := rfl
theorem b_ll (ds : List D) : bi .list [.lst ds] Q = Q (.lst ds) := rfl
theorem b_lt (ds : List D) : bi .list [.tup ds] Q = Q (.lst ds) := rfl
theorem b_ls (ns : List Int) : bi .list [.scr ns] Q = Q (.lst (ns.map .int)) := rfl
theorem b_maxL (ds : List D) : bi .maxL [.lst ds] Q = ∃ ns : List Int, ds = ns.map D.int ∧ 0 < ns.length ∧ ∀ m, m ∈ ns → (∀ y, y ∈ ns → y ≤ m) → Q (.int m) := rfl
theorem b_minL (ds : List D) : bi .minL [.lst ds] Q = ∃ ns : List Int, ds = ns.map D.int ∧ 0 < ns.length ∧ ∀ m, m ∈ ns → (∀ y, y ∈ ns → m ≤ y) → Q (.int m) := rfl
theorem b_any (ds : List D) : bi .any [.lst ds] Q = ∃ bs : List Bool, ds = bs.map D.bl ∧ Q (.bl (bs.any id)) := rfl
theorem b_all (ds : List D) : bi .all [.lst ds] Q = ∃ bs : List Bool, ds = bs.map D.bl ∧ Q (.bl (bs.all id)) := rfl
end
theorem take_eq (m : Int) (Q : Slot → Prop) : takeP [.opq 0, .int m] Q = (0 < m ∧ ∀ k : Int, 0 ≤ k → k < m → Q (.val (.int k))) := rfl

/-! ### loops -/
theorem loopE_all {α : Type} {bind : D → List Slot → (List Slot → Prop) → Prop} {c e : DE} {ε : List Slot} {en : α → D} (g : α → Option D) (hb : ∀ d ε P P', (∀ s, P s → P' s) → bind d ε P → bind d ε P') (hc : MonoE c) :
    ∀ (xs : List α) (acc : List D) (Q : D → Prop), acc.length + xs.length ≤ sizeLine →
    (∀ a ∈ xs, bind (en a) ε fun ε' => c ε' fun k => tst k (∀ R : D → Prop, (∀ y, g a = some y → R y) → e ε' R) (g a = none)) → Q (.lst (acc ++ xs.filterMap g)) → loopE bind c e ε (xs.map en) acc Q
  | [], acc, Q, hl, h, q => by simpa [loopE] using q
  | a :: xs, acc, Q, hl, h, q => by
    unfold loopE
    rw [List.map_cons]
    refine hb _ _ _ _ (fun ε' z => hc _ _ _ (fun k z => ?_) z) (h a List.mem_cons_self)
    rw [List.length_cons] at hl
    have h' := fun b hb => h b (List.mem_cons_of_mem _ hb)
    match k, z with
    | .bl true, z =>
      have z : ∀ R : D → Prop, (∀ y, g a = some y → R y) → e ε' R := z
      refine z _ fun y hy => ⟨by omega, loopE_all g hb hc xs (acc ++ [y]) Q (by rw [List.length_append, List.length_singleton]; omega) h' ?_⟩
      rw [List.filterMap_cons, hy] at q
      simpa using q
    | .bl false, z =>
      have z : g a = none := z
      refine loopE_all g hb hc xs acc Q (by omega) h' ?_
      rw [List.filterMap_cons, z] at q
      exact q
/-- a comprehension without a test, whose items are drawn: each result has P -/
theorem loopE_each {bind : D → List Slot → (List Slot → Prop) → Prop} {e : DE} {ε : List Slot} {β : Type} {eo : β → D} {P : β → Prop} (hb : ∀ d ε P P', (∀ s, P s → P' s) → bind d ε P → bind d ε P') (Φ : Sm) :
    ∀ (ds acc : List D) (Q : D → Prop), acc.length + ds.length ≤ sizeLine →
    (∀ a ∈ ds, ∀ R : D → Prop, (∀ b, P b → R (eo b)) → bind a ε fun ε' => e ε' R) →
    (∀ bs : List β, bs.length = ds.length → (∀ b ∈ bs, P b) → Q (.lst (acc ++ bs.map eo))) → loopE bind (semC Φ .no) e ε ds acc Q
  | [], acc, Q, hl, h, q => by simpa [loopE] using q [] rfl (by simp)
  | a :: ds, acc, Q, hl, h, q => by
    unfold loopE
    rw [List.length_cons] at hl
    refine hb _ _ _ _ (fun ε' z => ?_) (h a List.mem_cons_self (fun y => acc.length < sizeLine ∧ loopE bind (semC Φ .no) e ε ds (acc ++ [y]) Q) fun b pb => ⟨by omega, ?_⟩)
    · show e ε' _
      exact z
    · refine loopE_each hb Φ ds (acc ++ [eo b]) Q (by rw [List.length_append, List.length_singleton]; omega) (fun x hx => h x (List.mem_cons_of_mem _ hx)) fun bs hl hp => ?_
      have := q (b :: bs) (by simp [hl]) (fun x hx => by rcases List.mem_cons.mp hx with rfl | hx; exact pb; exact hp x hx)
      simpa using this
/-- a for loop keeps an invariant over the items already walked -/
theorem loopS_go {α : Type} {en : α → D} {bind : D → List Slot → (List Slot → Prop) → Prop} {b : DS} {E : DEnds} (I : List α → List Slot → Prop) (hs : MonoS b) (hb : ∀ d ε P P', (∀ s, P s → P' s) → bind d ε P → bind d ε P') (xs : List α)
    (h : ∀ (ps : List α) d (ss : List α) ε, I ps ε → xs = ps ++ d :: ss → bind (en d) ε fun ε' => b ⟨I (ps ++ [d]), E.rt, E.nx, I (ps ++ [d])⟩ ε') (q : ∀ ε, I xs ε → E.nx ε) :
    ∀ (ds ps : List α) (ε : List Slot), xs = ps ++ ds → I ps ε → loopS bind b (ds.map en) E ε
  | [], ps, ε, hx, hi => by
    unfold loopS
    exact q _ (by rw [hx]; simpa using hi)
  | d :: ds, ps, ε, hx, hi => by
    rw [List.map_cons]
    unfold loopS
    have hn : ∀ ε', I (ps ++ [d]) ε' → loopS bind b (ds.map en) E ε' := fun ε' hi' => loopS_go I hs hb xs h q ds (ps ++ [d]) ε' (by simp [hx]) hi'
    exact hb _ _ _ _ (fun ε' z => hs ⟨I (ps ++ [d]), E.rt, E.nx, I (ps ++ [d])⟩ ⟨loopS bind b (ds.map en) E, E.rt, E.nx, loopS bind b (ds.map en) E⟩ ε' ⟨hn, fun _ z => z, fun _ z => z, hn⟩ z) (h ps d ds ε hi hx)
theorem loopS_inv {α : Type} {en : α → D} {bind : D → List Slot → (List Slot → Prop) → Prop} {b : DS} {E : DEnds} {ε : List Slot} {xs : List α} (I : List α → List Slot → Prop) (hs : MonoS b) (hb : ∀ d ε P P', (∀ s, P s → P' s) → bind d ε P → bind d ε P')
    (hi : I [] ε) (h : ∀ (ps : List α) d (ss : List α) ε, I ps ε → xs = ps ++ d :: ss → bind (en d) ε fun ε' => b ⟨I (ps ++ [d]), E.rt, E.nx, I (ps ++ [d])⟩ ε') (q : ∀ ε, I xs ε → E.nx ε) : loopS bind b (xs.map en) E ε :=
  loopS_go I hs hb xs h q xs [] ε rfl hi
/-- over raw items -/
theorem loopS_raw {bind : D → List Slot → (List Slot → Prop) → Prop} {b : DS} {E : DEnds} {ε : List Slot} {xs : List D} (I : List D → List Slot → Prop) (hs : MonoS b) (hb : ∀ d ε P P', (∀ s, P s → P' s) → bind d ε P → bind d ε P')
    (hi : I [] ε) (h : ∀ (ps : List D) d (ss : List D) ε, I ps ε → xs = ps ++ d :: ss → bind d ε fun ε' => b ⟨I (ps ++ [d]), E.rt, E.nx, I (ps ++ [d])⟩ ε') (q : ∀ ε, I xs ε → E.nx ε) : loopS bind b xs E ε := by
  have := loopS_inv (en := fun d : D => d) I hs hb hi h q
  rwa [List.map_id'] at this
theorem rangeD_map (lo hi : Int) : rangeD lo hi = (List.range (hi - lo).toNat).map fun i : Nat => D.int (lo + (i : Nat)) := rfl
theorem mem_rangeD {lo hi : Int} {d : D} : d ∈ rangeD lo hi ↔ ∃ i : Int, lo ≤ i ∧ i < hi ∧ d = .int i := by
  unfold rangeD
  rw [List.mem_map]
  constructor
  · rintro ⟨i, h, rfl⟩
    rw [List.mem_range] at h
    exact ⟨_, by omega, by omega, rfl⟩
  · rintro ⟨i, h1, h2, rfl⟩
    exact ⟨(i - lo).toNat, List.mem_range.mpr (by omega), by congr 1; omega⟩
end DL
namespace DL
open PySem L2
theorem oks_mem : ∀ {n : Nat} {ds : List D}, oks n ds = true → ∀ d ∈ ds, d.ok n = true
  | n, [], h, d, hd => by cases hd
  | n, x :: xs, h, d, hd => by
    unfold oks at h
    rw [Bool.and_eq_true] at h
    rcases List.mem_cons.mp hd with rfl | hd
    · exact h.1
    · exact oks_mem h.2 d hd
theorem oks_of : ∀ {n : Nat} {ds : List D}, (∀ d ∈ ds, d.ok n = true) → oks n ds = true
  | n, [], h => by unfold oks; rfl
  | n, x :: xs, h => by
    unfold oks
    rw [Bool.and_eq_true]
    exact ⟨h x List.mem_cons_self, oks_of fun d hd => h d (List.mem_cons_of_mem _ hd)⟩
theorem ok_tup (n : Nat) (ds : List D) : D.ok (n + 1) (.tup ds) = oks n ds := by unfold D.ok; rfl
theorem ok_lst (n : Nat) (ds : List D) : D.ok (n + 1) (.lst ds) = oks n ds := by unfold D.ok; rfl
theorem getI_nat {α : Type} (ds : List α) (i : Int) (h0 : 0 ≤ i) (h1 : i < ds.length) : getI ds i = some (ds[i.toNat]'(by omega)) := by
  unfold getI
  rw [if_pos h0, List.getElem?_eq_getElem]
end DL
namespace DL
open PySem L2
mutual
/-- plain data of at most this depth, no part of it too long -/
def D.sm : Nat → D → Bool
  | _, .non | _, .bl _ | _, .int _ | _, .str _ => true
  | 0, .tup _ | 0, .lst _ => false
  | k + 1, .tup ds | k + 1, .lst ds => decide (ds.length ≤ sizeLine) && sms k ds
  | _, .scr _ | _, .opq _ => false
def sms : Nat → List D → Bool
  | _, [] => true
  | k, d :: ds => d.sm k && sms k ds
end
theorem sms_mem : ∀ {n : Nat} {ds : List D}, sms n ds = true → ∀ d ∈ ds, d.sm n = true
  | n, [], h, d, hd => by cases hd
  | n, x :: xs, h, d, hd => by
    unfold sms at h
    rw [Bool.and_eq_true] at h
    rcases List.mem_cons.mp hd with rfl | hd
    · exact h.1
    · exact sms_mem h.2 d hd
theorem sms_of : ∀ {n : Nat} {ds : List D}, (∀ d ∈ ds, d.sm n = true) → sms n ds = true
  | n, [], h => by unfold sms; rfl
  | n, x :: xs, h => by
    unfold sms
    rw [Bool.and_eq_true]
    exact ⟨h x List.mem_cons_self, sms_of fun d hd => h d (List.mem_cons_of_mem _ hd)⟩
theorem sm_tup (n : Nat) (ds : List D) : D.sm (n + 1) (.tup ds) = (decide (ds.length ≤ sizeLine) && sms n ds) := by conv => lhs; unfold D.sm
theorem sm_lst (n : Nat) (ds : List D) : D.sm (n + 1) (.lst ds) = (decide (ds.length ≤ sizeLine) && sms n ds) := by conv => lhs; unfold D.sm
theorem sm_ok : ∀ (n : Nat) (d : D), d.sm n = true → d.ok n = true
  | 0, .tup ds, h => by unfold D.sm at h; cases h
  | 0, .lst ds, h => by unfold D.sm at h; cases h
  | n + 1, .tup ds, h => by
    rw [sm_tup, Bool.and_eq_true] at h
    rw [ok_tup]
    exact oks_of fun d hd => sm_ok n d (sms_mem h.2 d hd)
  | n + 1, .lst ds, h => by
    rw [sm_lst, Bool.and_eq_true] at h
    rw [ok_lst]
    exact oks_of fun d hd => sm_ok n d (sms_mem h.2 d hd)
  | n, .non, h => by unfold D.ok; rfl
  | n, .bl _, h => by unfold D.ok; rfl
  | n, .int _, h => by unfold D.ok; rfl
  | n, .str _, h => by unfold D.ok; rfl
  | n, .scr _, h => by cases n <;> · unfold D.sm at h; cases h
  | n, .opq _, h => by cases n <;> · unfold D.sm at h; cases h
mutual
theorem eqv_refl : ∀ (n : Nat) (d : D), d.ok n = true → d.eqv d = true
  | 0, .tup ds, h => by unfold D.ok at h; cases h
  | 0, .lst ds, h => by unfold D.ok at h; cases h
  | n + 1, .tup ds, h => by rw [ok_tup] at h; unfold D.eqv; exact eqvs_refl n ds h
  | n + 1, .lst ds, h => by rw [ok_lst] at h; unfold D.eqv; exact eqvs_refl n ds h
  | n, .non, h => by unfold D.eqv; rfl
  | n, .bl _, h => by simp [D.eqv]
  | n, .int _, h => by simp [D.eqv]
  | n, .str _, h => by simp [D.eqv]
  | n, .scr _, h => by cases n <;> · unfold D.ok at h; cases h
  | n, .opq _, h => by cases n <;> · unfold D.ok at h; cases h
theorem eqvs_refl : ∀ (n : Nat) (ds : List D), oks n ds = true → eqvs ds ds = true
  | n, [], h => by unfold eqvs; rfl
  | n, d :: ds, h => by
    unfold oks at h
    rw [Bool.and_eq_true] at h
    unfold eqvs
    rw [Bool.and_eq_true]
    exact ⟨eqv_refl n d h.1, eqvs_refl n ds h.2⟩
end
end DL
namespace DL
theorem noL_bl (b : Bool) : (D.bl b).noL = true := by unfold D.noL; rfl
theorem noL_int (b : Int) : (D.int b).noL = true := by unfold D.noL; rfl
theorem noL_non : (D.non).noL = true := by unfold D.noL; rfl
theorem noL_str (s : PySem.Str) : (D.str s).noL = true := by unfold D.noL; rfl
theorem cut_lo {α : Type} (xs : List α) (i : Int) (h0 : 0 ≤ i) (h1 : i ≤ xs.length) : cut xs none (some i) = xs.take i.toNat := by
  simp only [cut, sIx]
  rw [if_neg (by omega)]
  simp
  try omega
theorem cut_hi {α : Type} (xs : List α) (i : Int) (h0 : 0 ≤ i) (h1 : i ≤ xs.length) : cut xs (some i) none = xs.drop i.toNat := by
  simp only [cut, sIx]
  rw [if_neg (by omega), Nat.min_eq_left (by omega), List.take_of_length_le (by simp)]
end DL

/-! DLv: unfolding by slot numbers (printed by gen_ops.py). -/
namespace DL
open PySem L2
def ownQ (d : D) (K : List D → Prop) : Prop := match d with | .lst ds => K ds | _ => False
theorem ownQ_l (ds : List D) (K : List D → Prop) : ownQ (.lst ds) K = K ds := rfl
def setQ (ds : List D) (v y : D) (K : List D → Prop) : Prop := match y with | .int n => ∃ j, ixN ds.length n = some j ∧ K (ds.set j v) | _ => False
theorem setQ_i (ds : List D) (v : D) (n : Int) (K : List D → Prop) : setQ ds v (.int n) K = ∃ j, ixN ds.length n = some j ∧ K (ds.set j v) := rfl
def callQ (s : Slot) (Q : D → Prop) : Prop := match s with | .val d => Q d | .own ds => Q (.lst ds) | .non => False
theorem callQ_v (d : D) (Q : D → Prop) : callQ (.val d) Q = Q d := rfl
theorem callQ_o (ds : List D) (Q : D → Prop) : callQ (.own ds) Q = Q (.lst ds) := rfl
def callO (s : Slot) (Q : D → Prop) : Prop := match s with | .own ds => Q (.lst ds) | _ => False
theorem callO_o (ds : List D) (Q : D → Prop) : callO (.own ds) Q = Q (.lst ds) := rfl
def intQ (d : D) (K : Int → Prop) : Prop := match d with | .int i => K i | _ => False
theorem intQ_i (i : Int) (K : Int → Prop) : intQ (.int i) K = K i := rfl
def lstQ (d : D) (K : List D → Prop) : Prop := match d with | .lst i => K i | _ => False
theorem lstQ_l (i : List D) (K : List D → Prop) : lstQ (.lst i) K = K i := rfl
def tupQ (d : D) (K : List D → Prop) : Prop := match d with | .tup i => K i | _ => False
theorem tupQ_l (i : List D) (K : List D → Prop) : tupQ (.tup i) K = K i := rfl
def seqQ (d : D) (K : List D → Prop) : Prop := match d with | .lst ds => K ds | .tup ds => K ds | .scr ns => K (ns.map D.int) | _ => False
theorem seqQ_l (i : List D) (K : List D → Prop) : seqQ (.lst i) K = K i := rfl
theorem seqQ_t (i : List D) (K : List D → Prop) : seqQ (.tup i) K = K i := rfl
theorem seqQ_s (i : List Int) (K : List D → Prop) : seqQ (.scr i) K = K (i.map D.int) := rfl
def enmQ (d : D) (K : List D → Prop) : Prop := match d with | .lst ds => K (enumD 0 ds) | .tup ds => K (enumD 0 ds) | _ => False
theorem enmQ_l (i : List D) (K : List D → Prop) : enmQ (.lst i) K = K (enumD 0 i) := rfl
theorem enmQ_t (i : List D) (K : List D → Prop) : enmQ (.tup i) K = K (enumD 0 i) := rfl
def blQ (d : D) (K : Bool → Prop) : Prop := match d with | .bl b => K b | _ => False
theorem blQ_b (b : Bool) (K : Bool → Prop) : blQ (.bl b) K = K b := rfl
theorem eq_of_iff_rfl {P : Prop} : P = P := rfl
theorem u_tup (Φ : Sm) (ε : List Slot) (Q : D → Prop) (es : CEs) : semE Φ (.tup es) ε Q = semEs Φ es ε fun ds => ds.length ≤ sizeLine ∧ Q (.tup ds) := rfl
theorem u_lst (Φ : Sm) (ε : List Slot) (Q : D → Prop) (es : CEs) : semE Φ (.lst es) ε Q = semEs Φ es ε fun ds => ds.length ≤ sizeLine ∧ Q (.lst ds) := rfl
theorem u_neg (Φ : Sm) (ε : List Slot) (Q : D → Prop) (a : CE) : semE Φ (.neg a) ε Q = semE Φ a ε fun x => intQ x fun i => Q (.int (-i)) := rfl
theorem u_not (Φ : Sm) (ε : List Slot) (Q : D → Prop) (a : CE) : semE Φ (.not a) ε Q = semE Φ a ε fun x => blQ x fun i => Q (.bl (!i)) := rfl
theorem u_rep (Φ : Sm) (ε : List Slot) (Q : D → Prop) (a k : CE) : semE Φ (.rep a k) ε Q = semE Φ a ε fun x => semE Φ k ε fun y => lstQ x fun ds => intQ y fun i => (-(2 ^ 63) ≤ i ∧ i < 2 ^ 63 ∧ ds.length * i.toNat ≤ sizeLine) ∧ Q (.lst (List.replicate i.toNat ds).flatten) := by
  show (semE Φ a ε fun x => semE Φ k ε fun y => _) = _
  congr 1; funext x; congr 1; funext y
  cases x <;> cases y <;> rfl
theorem u_cat (Φ : Sm) (ε : List Slot) (Q : D → Prop) (a b : CE) : semE Φ (.cat a b) ε Q = semE Φ a ε fun x => semE Φ b ε fun y => lstQ x fun xs => lstQ y fun ys => xs.length + ys.length ≤ sizeLine ∧ Q (.lst (xs ++ ys)) := by
  show (semE Φ a ε fun x => semE Φ b ε fun y => _) = _
  congr 1; funext x; congr 1; funext y
  cases x <;> cases y <;> rfl
theorem u_slL (Φ : Sm) (ε : List Slot) (Q : D → Prop) (a : CE) (lo hi : CO) : semE Φ (.slL a lo hi) ε Q = semE Φ a ε fun x => semO Φ lo ε fun l => semO Φ hi ε fun h => lstQ x fun ds => Q (.lst (cut ds l h)) := rfl
theorem u_slT (Φ : Sm) (ε : List Slot) (Q : D → Prop) (a : CE) (lo hi : CO) : semE Φ (.slT a lo hi) ε Q = semE Φ a ε fun x => semO Φ lo ε fun l => semO Φ hi ε fun h => tupQ x fun ds => Q (.tup (cut ds l h)) := rfl
def strQ (d : D) (K : Str → Prop) : Prop := match d with | .str s => K s | _ => False
theorem strQ_s (s : Str) (K : Str → Prop) : strQ (.str s) K = K s := rfl
theorem u_joinS (Φ : Sm) (ε : List Slot) (Q : D → Prop) (a b : CE) : semE Φ (.joinS a b) ε Q = semE Φ a ε fun x => strQ x fun s => semE Φ b ε fun y => lstQ y fun ds => ∃ ys : List Str, ds = ys.map D.str ∧ (ys.map (·.length)).sum + ys.length * s.length ≤ 16777216 ∧ Q (.str (Txt.join s ys)) := rfl
theorem u_call (Φ : Sm) (ε : List Slot) (Q : D → Prop) (f : Nat) (es : CEs) : semE Φ (.call f es) ε Q = semEs Φ es ε fun ds => Φ.f f ds fun s => callQ s Q := rfl
theorem u_callO (Φ : Sm) (ε : List Slot) (Q : D → Prop) (f : Nat) (es : CEs) : semE Φ (.callO f es) ε Q = semEs Φ es ε fun ds => Φ.f f ds fun s => callO s Q := rfl
theorem u_lc (Φ : Sm) (ε : List Slot) (Q : D → Prop) (e : CE) (t : CT) (it : CI) (c : CO) (vs : List Nat) : semE Φ (.lc e t it c vs) ε Q = semI Φ it ε fun ds => loopE (bindT t) (semC Φ c) (semE Φ e) (wipeE ε vs) ds [] Q := rfl
theorem u_es0 (Φ : Sm) (ε : List Slot) (Q : List D → Prop) : semEs Φ .nil ε Q = Q [] := rfl
theorem u_es1 (Φ : Sm) (ε : List Slot) (Q : List D → Prop) (e : CE) (es : CEs) : semEs Φ (.cons e es) ε Q = semE Φ e ε fun d => semEs Φ es ε fun ds => Q (d :: ds) := rfl
theorem u_o0 (Φ : Sm) (ε : List Slot) (Q : Option Int → Prop) : semO Φ .no ε Q = Q none := rfl
theorem u_o1 (Φ : Sm) (ε : List Slot) (Q : Option Int → Prop) (e : CE) : semO Φ (.yes e) ε Q = semE Φ e ε fun d => intQ d fun i => Q (some i) := rfl
theorem u_c0 (Φ : Sm) (ε : List Slot) (Q : D → Prop) : semC Φ .no ε Q = Q (.bl true) := rfl
theorem u_c1 (Φ : Sm) (ε : List Slot) (Q : D → Prop) (e : CE) : semC Φ (.yes e) ε Q = semE Φ e ε Q := rfl
theorem u_seq (Φ : Sm) (ε : List Slot) (Q : List D → Prop) (e : CE) : semI Φ (.seq e) ε Q = semE Φ e ε fun d => seqQ d Q := rfl
theorem u_rng1 (Φ : Sm) (ε : List Slot) (Q : List D → Prop) (e : CE) : semI Φ (.rng1 e) ε Q = semE Φ e ε fun d => intQ d fun n => Q (rangeD 0 n) := rfl
theorem u_rng2 (Φ : Sm) (ε : List Slot) (Q : List D → Prop) (a b : CE) : semI Φ (.rng2 a b) ε Q = semE Φ a ε fun x => semE Φ b ε fun y => intQ x fun i => intQ y fun j => Q (rangeD i j) := by
  show (semE Φ a ε fun x => semE Φ b ε fun y => _) = _
  congr 1; funext x; congr 1; funext y
  cases x <;> cases y <;> rfl
theorem u_enum (Φ : Sm) (ε : List Slot) (Q : List D → Prop) (e : CE) : semI Φ (.enum e) ε Q = semE Φ e ε fun d => enmQ d Q := rfl
theorem u_sset (Φ : Sm) (ε : List Slot) (Q : D → Prop) (a : CE) : semE Φ (.sset a) ε Q = semE Φ a ε fun x => ssetR x Q := rfl
theorem u_maxD (Φ : Sm) (ε : List Slot) (Q : D → Prop) (a : CE) (d : Int) : semE Φ (.maxD a d) ε Q = semE Φ a ε fun x => lstQ x fun ds => ∃ ns : List Int, ds = ns.map D.int ∧ (ns = [] → Q (.int d)) ∧ ∀ m, m ∈ ns → (∀ y, y ∈ ns → y ≤ m) → Q (.int m) := rfl
theorem u_idxOf (Φ : Sm) (ε : List Slot) (Q : D → Prop) (a b : CE) : semE Φ (.idxOf a b) ε Q = semE Φ a ε fun x => isSeq x ∧ semE Φ b ε fun y => idxR x y Q := rfl
theorem isSeq_t (xs : List D) : isSeq (.tup xs) = True := rfl
theorem isSeq_l (xs : List D) : isSeq (.lst xs) = True := rfl
theorem u_callK (Φ : Sm) (ε : List Slot) (Q : D → Prop) (f : Nat) (es : CEs) (k : Str) (e : CE) : semE Φ (.callK f es k e) ε Q = semEs Φ es ε fun ds => semE Φ e ε fun d => Φ.f f (ds ++ [d]) fun s => callQ s Q := rfl
theorem u_rrng1 (Φ : Sm) (ε : List Slot) (Q : List D → Prop) (e : CE) : semI Φ (.rrng1 e) ε Q = semE Φ e ε fun d => intQ d fun n => Q (rangeD 0 n).reverse := rfl
theorem u_rrng2 (Φ : Sm) (ε : List Slot) (Q : List D → Prop) (a b : CE) : semI Φ (.rrng2 a b) ε Q = semE Φ a ε fun x => semE Φ b ε fun y => intQ x fun i => intQ y fun j => Q (rangeD i j).reverse := by
  show (semE Φ a ε fun x => semE Φ b ε fun y => _) = _
  congr 1; funext x; congr 1; funext y
  cases x <;> cases y <;> rfl
def zipQ (x y : D) (K : List D → Prop) : Prop := match x, y with | .lst xs, .lst ys => K (zipD xs ys) | .tup xs, .tup ys => K (zipD xs ys) | _, _ => False
theorem zipQ_l (x y : List D) (K : List D → Prop) : zipQ (.lst x) (.lst y) K = K (zipD x y) := rfl
theorem zipQ_t (x y : List D) (K : List D → Prop) : zipQ (.tup x) (.tup y) K = K (zipD x y) := rfl
theorem u_zip (Φ : Sm) (ε : List Slot) (Q : List D → Prop) (a b : CE) : semI Φ (.zip a b) ε Q = semE Φ a ε fun x => semE Φ b ε fun y => zipQ x y Q := rfl
theorem u_rai (Φ : Sm) (E : DEnds) (ε : List Slot) : semS Φ .rai E ε = False := rfl
theorem u_set (Φ : Sm) (E : DEnds) (ε : List Slot) (t : CT) (e : CE) : semS Φ (.set t e) E ε = semE Φ e ε fun d => bindT t d ε E.nx := rfl
theorem u_expr (Φ : Sm) (E : DEnds) (ε : List Slot) (e : CE) : semS Φ (.expr e) E ε = semE Φ e ε fun _ => E.nx ε := rfl
theorem u_for (Φ : Sm) (E : DEnds) (ε : List Slot) (t : CT) (it : CI) (b : CSs) : semS Φ (.forr t it b) E ε = semI Φ it ε fun ds => loopS (bindT t) (semSs Φ b) ds E ε := rfl
theorem u_while (Φ : Sm) (E : DEnds) (ε : List Slot) (c : CE) (b : CSs) : semS Φ (.whil c b) E ε = ∃ n, whileS (semE Φ c) (semSs Φ b) n E ε := rfl
theorem u_ret (Φ : Sm) (E : DEnds) (ε : List Slot) (e : CE) : semS Φ (.ret e) E ε = semE Φ e ε fun d => E.rt (.val d) := rfl
theorem u_retN (Φ : Sm) (E : DEnds) (ε : List Slot) : semS Φ .retN E ε = E.rt (.val .non) := rfl
theorem u_brk (Φ : Sm) (E : DEnds) (ε : List Slot) : semS Φ .brk E ε = E.bk ε := rfl
theorem u_cont (Φ : Sm) (E : DEnds) (ε : List Slot) : semS Φ .cont E ε = E.ct ε := rfl
theorem u_nil (Φ : Sm) (E : DEnds) (ε : List Slot) : semSs Φ .nil E ε = E.nx ε := rfl
theorem u_cons (Φ : Sm) (E : DEnds) (ε : List Slot) (s : CS) (r : CSs) : semSs Φ (.cons s r) E ε = semS Φ s ⟨semSs Φ r E, E.rt, E.bk, E.ct⟩ ε := rfl
theorem u_bt0 (ε : List Slot) (K : List Slot → Prop) : bindT .nil (.tup []) ε K = K ε := by unfold bindT; rfl
theorem u_bt1 (t r : CT) (d : D) (ds : List D) (ε : List Slot) (K : List Slot → Prop) : bindT (.cons t r) (.tup (d :: ds)) ε K = bindT t d ε fun ε' => bindT r (.tup ds) ε' K := by rw [bindT]
theorem wipe_set (ε : List Slot) (v : Nat) : ∀ vs : List Nat, wipeE (ε.set v .non) vs = (wipeE ε vs).set v .non
  | [] => rfl
  | w :: vs => by
    show (wipeE (ε.set v .non) vs).set w .non = ((wipeE ε vs).set w .non).set v .non
    rw [wipe_set ε v vs]
    by_cases h : v = w
    · rw [h]
    · rw [List.set_comm _ _ h]
theorem u_wp2 (ε : List Slot) (v w : Nat) (vs : List Nat) : wipeE ε (v :: w :: vs) = wipeE (wipeE ε [v]) (w :: vs) := by
  show _ = wipeE (ε.set v .non) (w :: vs)
  rw [wipe_set]
  rfl
theorem u_semF (Φ : Sm) (n : Nat) (b : CSs) (ds : List D) (Q : Slot → Prop) : semF Φ n b ds Q = semSs Φ b ⟨fun _ => Q (.val .non), Q, fun _ => False, fun _ => False⟩ (startE n ds) := rfl
theorem yv0 (Φ : Sm) (ε : List Slot) (Q : D → Prop)  (d : D) : semE Φ (.var 0) (.val d :: ε) Q = Q d := rfl
theorem ylo0 (Φ : Sm) (ε : List Slot) (Q : D → Prop)  (ds : List D) : semE Φ (.lenO 0) (.own ds :: ε) Q = Q (.int ds.length) := rfl
theorem ylv0 (Φ : Sm) (ε : List Slot) (Q : D → Prop)  (ds : List D) : semE Φ (.lenO 0) (.val (.lst ds) :: ε) Q = Q (.int ds.length) := rfl
theorem yxo0 (Φ : Sm) (ε : List Slot) (Q : D → Prop)  (ds : List D) (k : CE) : semE Φ (.idxO 0 k) (.own ds :: ε) Q = semE Φ k (.own ds :: ε) fun y => opIx (.lst ds) y Q := rfl
theorem yxv0 (Φ : Sm) (ε : List Slot) (Q : D → Prop)  (ds : List D) (k : CE) : semE Φ (.idxO 0 k) (.val (.lst ds) :: ε) Q = semE Φ k (.val (.lst ds) :: ε) fun y => opIx (.lst ds) y Q := rfl
theorem yldo0 (Φ : Sm) (ε : List Slot) (Q : D → Prop)  (ds : List D) (e : CE) : semE Φ (.lend 0 e) (.own ds :: ε) Q = semE Φ e (.val (.lst ds) :: ε) fun d => d.noL = true ∧ Q d := rfl
theorem yldv0 (Φ : Sm) (ε : List Slot) (Q : D → Prop)  (d : D) (e : CE) : semE Φ (.lend 0 e) (.val d :: ε) Q = semE Φ e (.val d :: ε) Q := rfl
theorem ynm0 (ε : List Slot) (K : List Slot → Prop)  (x : Slot) (d : D) : bindT (.nm 0) d (x :: ε) K = K (.val d :: ε) := rfl
theorem ywp0 (ε : List Slot)  (x : Slot) : wipeE (x :: ε) [0] = .non :: ε := rfl
theorem yow0 (Φ : Sm) (E : DEnds) (ε : List Slot)  (x : Slot) (e : CE) : semS Φ (.own 0 e) E (x :: ε) = semE Φ e (x :: ε) fun d => ownQ d fun ds => E.nx (.own ds :: ε) := rfl
theorem yap0 (Φ : Sm) (E : DEnds) (ε : List Slot)  (ds : List D) (e : CE) : semS Φ (.app 0 e) E (.own ds :: ε) = semE Φ e (.own ds :: ε) fun v => ds.length < sizeLine ∧ E.nx (.own (ds ++ [v]) :: ε) := rfl
theorem yrv0 (Φ : Sm) (E : DEnds) (ε : List Slot)  (ds : List D) : semS Φ (.rev 0) E (.own ds :: ε) = E.nx (.own ds.reverse :: ε) := rfl
theorem ysi0 (Φ : Sm) (E : DEnds) (ε : List Slot)  (ds : List D) (k e : CE) : semS Φ (.setIx 0 k e) E (.own ds :: ε) = semE Φ e (.own ds :: ε) fun v => semE Φ k (.own ds :: ε) fun y => setQ ds v y fun ds' => E.nx (.own ds' :: ε) := rfl
theorem yau0 (Φ : Sm) (E : DEnds) (ε : List Slot)  (n : Int) (o : O2) (e : CE) : semS Φ (.aug 0 o e) E (.val (.int n) :: ε) = semE Φ e (.val (.int n) :: ε) fun y => op2 o (.int n) y fun z => E.nx (.val z :: ε) := rfl
theorem ypo0 (Φ : Sm) (E : DEnds) (ε : List Slot)  (ds : List D) : semS Φ (.pop 0) E (.own ds :: ε) = (0 < ds.length ∧ E.nx (.own ds.dropLast :: ε)) := rfl
theorem yro0 (Φ : Sm) (E : DEnds) (ε : List Slot)  (ds : List D) : semS Φ (.retO 0) E (.own ds :: ε) = E.rt (.own ds) := rfl
theorem yfo0 (Φ : Sm) (E : DEnds) (ε : List Slot)  (ds : List D) (r : CSs) : semSs Φ (.frz 0 r) E (.own ds :: ε) = semSs Φ r E (.val (.lst ds) :: ε) := rfl
theorem yfv0 (Φ : Sm) (E : DEnds) (ε : List Slot)  (d : D) (r : CSs) : semSs Φ (.frz 0 r) E (.val d :: ε) = semSs Φ r E (.val d :: ε) := rfl
theorem yop0 (Φ : Sm) (E : DEnds) (ε : List Slot)  (ds : List D) (r : CSs) : semSs Φ (.opn 0 r) E (.own ds :: ε) = ((∃ ns : List Int, ds = ns.map D.int ∧ ∀ n ∈ ns, 0 ≤ n) ∧ semSs Φ r E (.val (.opq 0) :: ε)) := rfl
theorem yv1 (Φ : Sm) (ε : List Slot) (Q : D → Prop) (s0 : Slot) (d : D) : semE Φ (.var 1) (s0 :: .val d :: ε) Q = Q d := rfl
theorem ylo1 (Φ : Sm) (ε : List Slot) (Q : D → Prop) (s0 : Slot) (ds : List D) : semE Φ (.lenO 1) (s0 :: .own ds :: ε) Q = Q (.int ds.length) := rfl
theorem ylv1 (Φ : Sm) (ε : List Slot) (Q : D → Prop) (s0 : Slot) (ds : List D) : semE Φ (.lenO 1) (s0 :: .val (.lst ds) :: ε) Q = Q (.int ds.length) := rfl
theorem yxo1 (Φ : Sm) (ε : List Slot) (Q : D → Prop) (s0 : Slot) (ds : List D) (k : CE) : semE Φ (.idxO 1 k) (s0 :: .own ds :: ε) Q = semE Φ k (s0 :: .own ds :: ε) fun y => opIx (.lst ds) y Q := rfl
theorem yxv1 (Φ : Sm) (ε : List Slot) (Q : D → Prop) (s0 : Slot) (ds : List D) (k : CE) : semE Φ (.idxO 1 k) (s0 :: .val (.lst ds) :: ε) Q = semE Φ k (s0 :: .val (.lst ds) :: ε) fun y => opIx (.lst ds) y Q := rfl
theorem yldo1 (Φ : Sm) (ε : List Slot) (Q : D → Prop) (s0 : Slot) (ds : List D) (e : CE) : semE Φ (.lend 1 e) (s0 :: .own ds :: ε) Q = semE Φ e (s0 :: .val (.lst ds) :: ε) fun d => d.noL = true ∧ Q d := rfl
theorem yldv1 (Φ : Sm) (ε : List Slot) (Q : D → Prop) (s0 : Slot) (d : D) (e : CE) : semE Φ (.lend 1 e) (s0 :: .val d :: ε) Q = semE Φ e (s0 :: .val d :: ε) Q := rfl
theorem ynm1 (ε : List Slot) (K : List Slot → Prop) (s0 : Slot) (x : Slot) (d : D) : bindT (.nm 1) d (s0 :: x :: ε) K = K (s0 :: .val d :: ε) := rfl
theorem ywp1 (ε : List Slot) (s0 : Slot) (x : Slot) : wipeE (s0 :: x :: ε) [1] = s0 :: .non :: ε := rfl
theorem yow1 (Φ : Sm) (E : DEnds) (ε : List Slot) (s0 : Slot) (x : Slot) (e : CE) : semS Φ (.own 1 e) E (s0 :: x :: ε) = semE Φ e (s0 :: x :: ε) fun d => ownQ d fun ds => E.nx (s0 :: .own ds :: ε) := rfl
theorem yap1 (Φ : Sm) (E : DEnds) (ε : List Slot) (s0 : Slot) (ds : List D) (e : CE) : semS Φ (.app 1 e) E (s0 :: .own ds :: ε) = semE Φ e (s0 :: .own ds :: ε) fun v => ds.length < sizeLine ∧ E.nx (s0 :: .own (ds ++ [v]) :: ε) := rfl
theorem yrv1 (Φ : Sm) (E : DEnds) (ε : List Slot) (s0 : Slot) (ds : List D) : semS Φ (.rev 1) E (s0 :: .own ds :: ε) = E.nx (s0 :: .own ds.reverse :: ε) := rfl
theorem ysi1 (Φ : Sm) (E : DEnds) (ε : List Slot) (s0 : Slot) (ds : List D) (k e : CE) : semS Φ (.setIx 1 k e) E (s0 :: .own ds :: ε) = semE Φ e (s0 :: .own ds :: ε) fun v => semE Φ k (s0 :: .own ds :: ε) fun y => setQ ds v y fun ds' => E.nx (s0 :: .own ds' :: ε) := rfl
theorem yau1 (Φ : Sm) (E : DEnds) (ε : List Slot) (s0 : Slot) (n : Int) (o : O2) (e : CE) : semS Φ (.aug 1 o e) E (s0 :: .val (.int n) :: ε) = semE Φ e (s0 :: .val (.int n) :: ε) fun y => op2 o (.int n) y fun z => E.nx (s0 :: .val z :: ε) := rfl
theorem ypo1 (Φ : Sm) (E : DEnds) (ε : List Slot) (s0 : Slot) (ds : List D) : semS Φ (.pop 1) E (s0 :: .own ds :: ε) = (0 < ds.length ∧ E.nx (s0 :: .own ds.dropLast :: ε)) := rfl
theorem yro1 (Φ : Sm) (E : DEnds) (ε : List Slot) (s0 : Slot) (ds : List D) : semS Φ (.retO 1) E (s0 :: .own ds :: ε) = E.rt (.own ds) := rfl
theorem yfo1 (Φ : Sm) (E : DEnds) (ε : List Slot) (s0 : Slot) (ds : List D) (r : CSs) : semSs Φ (.frz 1 r) E (s0 :: .own ds :: ε) = semSs Φ r E (s0 :: .val (.lst ds) :: ε) := rfl
theorem yfv1 (Φ : Sm) (E : DEnds) (ε : List Slot) (s0 : Slot) (d : D) (r : CSs) : semSs Φ (.frz 1 r) E (s0 :: .val d :: ε) = semSs Φ r E (s0 :: .val d :: ε) := rfl
theorem yop1 (Φ : Sm) (E : DEnds) (ε : List Slot) (s0 : Slot) (ds : List D) (r : CSs) : semSs Φ (.opn 1 r) E (s0 :: .own ds :: ε) = ((∃ ns : List Int, ds = ns.map D.int ∧ ∀ n ∈ ns, 0 ≤ n) ∧ semSs Φ r E (s0 :: .val (.opq 0) :: ε)) := rfl
theorem yv2 (Φ : Sm) (ε : List Slot) (Q : D → Prop) (s0 s1 : Slot) (d : D) : semE Φ (.var 2) (s0 :: s1 :: .val d :: ε) Q = Q d := rfl
theorem ylo2 (Φ : Sm) (ε : List Slot) (Q : D → Prop) (s0 s1 : Slot) (ds : List D) : semE Φ (.lenO 2) (s0 :: s1 :: .own ds :: ε) Q = Q (.int ds.length) := rfl
theorem ylv2 (Φ : Sm) (ε : List Slot) (Q : D → Prop) (s0 s1 : Slot) (ds : List D) : semE Φ (.lenO 2) (s0 :: s1 :: .val (.lst ds) :: ε) Q = Q (.int ds.length) := rfl
theorem yxo2 (Φ : Sm) (ε : List Slot) (Q : D → Prop) (s0 s1 : Slot) (ds : List D) (k : CE) : semE Φ (.idxO 2 k) (s0 :: s1 :: .own ds :: ε) Q = semE Φ k (s0 :: s1 :: .own ds :: ε) fun y => opIx (.lst ds) y Q := rfl
theorem yxv2 (Φ : Sm) (ε : List Slot) (Q : D → Prop) (s0 s1 : Slot) (ds : List D) (k : CE) : semE Φ (.idxO 2 k) (s0 :: s1 :: .val (.lst ds) :: ε) Q = semE Φ k (s0 :: s1 :: .val (.lst ds) :: ε) fun y => opIx (.lst ds) y Q := rfl
theorem yldo2 (Φ : Sm) (ε : List Slot) (Q : D → Prop) (s0 s1 : Slot) (ds : List D) (e : CE) : semE Φ (.lend 2 e) (s0 :: s1 :: .own ds :: ε) Q = semE Φ e (s0 :: s1 :: .val (.lst ds) :: ε) fun d => d.noL = true ∧ Q d := rfl
theorem yldv2 (Φ : Sm) (ε : List Slot) (Q : D → Prop) (s0 s1 : Slot) (d : D) (e : CE) : semE Φ (.lend 2 e) (s0 :: s1 :: .val d :: ε) Q = semE Φ e (s0 :: s1 :: .val d :: ε) Q := rfl
theorem ynm2 (ε : List Slot) (K : List Slot → Prop) (s0 s1 : Slot) (x : Slot) (d : D) : bindT (.nm 2) d (s0 :: s1 :: x :: ε) K = K (s0 :: s1 :: .val d :: ε) := rfl
theorem ywp2 (ε : List Slot) (s0 s1 : Slot) (x : Slot) : wipeE (s0 :: s1 :: x :: ε) [2] = s0 :: s1 :: .non :: ε := rfl
theorem yow2 (Φ : Sm) (E : DEnds) (ε : List Slot) (s0 s1 : Slot) (x : Slot) (e : CE) : semS Φ (.own 2 e) E (s0 :: s1 :: x :: ε) = semE Φ e (s0 :: s1 :: x :: ε) fun d => ownQ d fun ds => E.nx (s0 :: s1 :: .own ds :: ε) := rfl
theorem yap2 (Φ : Sm) (E : DEnds) (ε : List Slot) (s0 s1 : Slot) (ds : List D) (e : CE) : semS Φ (.app 2 e) E (s0 :: s1 :: .own ds :: ε) = semE Φ e (s0 :: s1 :: .own ds :: ε) fun v => ds.length < sizeLine ∧ E.nx (s0 :: s1 :: .own (ds ++ [v]) :: ε) := rfl
theorem yrv2 (Φ : Sm) (E : DEnds) (ε : List Slot) (s0 s1 : Slot) (ds : List D) : semS Φ (.rev 2) E (s0 :: s1 :: .own ds :: ε) = E.nx (s0 :: s1 :: .own ds.reverse :: ε) := rfl
theorem ysi2 (Φ : Sm) (E : DEnds) (ε : List Slot) (s0 s1 : Slot) (ds : List D) (k e : CE) : semS Φ (.setIx 2 k e) E (s0 :: s1 :: .own ds :: ε) = semE Φ e (s0 :: s1 :: .own ds :: ε) fun v => semE Φ k (s0 :: s1 :: .own ds :: ε) fun y => setQ ds v y fun ds' => E.nx (s0 :: s1 :: .own ds' :: ε) := rfl
theorem yau2 (Φ : Sm) (E : DEnds) (ε : List Slot) (s0 s1 : Slot) (n : Int) (o : O2) (e : CE) : semS Φ (.aug 2 o e) E (s0 :: s1 :: .val (.int n) :: ε) = semE Φ e (s0 :: s1 :: .val (.int n) :: ε) fun y => op2 o (.int n) y fun z => E.nx (s0 :: s1 :: .val z :: ε) := rfl
theorem ypo2 (Φ : Sm) (E : DEnds) (ε : List Slot) (s0 s1 : Slot) (ds : List D) : semS Φ (.pop 2) E (s0 :: s1 :: .own ds :: ε) = (0 < ds.length ∧ E.nx (s0 :: s1 :: .own ds.dropLast :: ε)) := rfl
theorem yro2 (Φ : Sm) (E : DEnds) (ε : List Slot) (s0 s1 : Slot) (ds : List D) : semS Φ (.retO 2) E (s0 :: s1 :: .own ds :: ε) = E.rt (.own ds) := rfl
theorem yfo2 (Φ : Sm) (E : DEnds) (ε : List Slot) (s0 s1 : Slot) (ds : List D) (r : CSs) : semSs Φ (.frz 2 r) E (s0 :: s1 :: .own ds :: ε) = semSs Φ r E (s0 :: s1 :: .val (.lst ds) :: ε) := rfl
theorem yfv2 (Φ : Sm) (E : DEnds) (ε : List Slot) (s0 s1 : Slot) (d : D) (r : CSs) : semSs Φ (.frz 2 r) E (s0 :: s1 :: .val d :: ε) = semSs Φ r E (s0 :: s1 :: .val d :: ε) := rfl
theorem yop2 (Φ : Sm) (E : DEnds) (ε : List Slot) (s0 s1 : Slot) (ds : List D) (r : CSs) : semSs Φ (.opn 2 r) E (s0 :: s1 :: .own ds :: ε) = ((∃ ns : List Int, ds = ns.map D.int ∧ ∀ n ∈ ns, 0 ≤ n) ∧ semSs Φ r E (s0 :: s1 :: .val (.opq 0) :: ε)) := rfl
theorem yv3 (Φ : Sm) (ε : List Slot) (Q : D → Prop) (s0 s1 s2 : Slot) (d : D) : semE Φ (.var 3) (s0 :: s1 :: s2 :: .val d :: ε) Q = Q d := rfl
theorem ylo3 (Φ : Sm) (ε : List Slot) (Q : D → Prop) (s0 s1 s2 : Slot) (ds : List D) : semE Φ (.lenO 3) (s0 :: s1 :: s2 :: .own ds :: ε) Q = Q (.int ds.length) := rfl
theorem ylv3 (Φ : Sm) (ε : List Slot) (Q : D → Prop) (s0 s1 s2 : Slot) (ds : List D) : semE Φ (.lenO 3) (s0 :: s1 :: s2 :: .val (.lst ds) :: ε) Q = Q (.int ds.length) := rfl
theorem yxo3 (Φ : Sm) (ε : List Slot) (Q : D → Prop) (s0 s1 s2 : Slot) (ds : List D) (k : CE) : semE Φ (.idxO 3 k) (s0 :: s1 :: s2 :: .own ds :: ε) Q = semE Φ k (s0 :: s1 :: s2 :: .own ds :: ε) fun y => opIx (.lst ds) y Q := rfl
theorem yxv3 (Φ : Sm) (ε : List Slot) (Q : D → Prop) (s0 s1 s2 : Slot) (ds : List D) (k : CE) : semE Φ (.idxO 3 k) (s0 :: s1 :: s2 :: .val (.lst ds) :: ε) Q = semE Φ k (s0 :: s1 :: s2 :: .val (.lst ds) :: ε) fun y => opIx (.lst ds) y Q := rfl
theorem yldo3 (Φ : Sm) (ε : List Slot) (Q : D → Prop) (s0 s1 s2 : Slot) (ds : List D) (e : CE) : semE Φ (.lend 3 e) (s0 :: s1 :: s2 :: .own ds :: ε) Q = semE Φ e (s0 :: s1 :: s2 :: .val (.lst ds) :: ε) fun d => d.noL = true ∧ Q d := rfl
theorem yldv3 (Φ : Sm) (ε : List Slot) (Q : D → Prop) (s0 s1 s2 : Slot) (d : D) (e : CE) : semE Φ (.lend 3 e) (s0 :: s1 :: s2 :: .val d :: ε) Q = semE Φ e (s0 :: s1 :: s2 :: .val d :: ε) Q := rfl
theorem ynm3 (ε : List Slot) (K : List Slot → Prop) (s0 s1 s2 : Slot) (x : Slot) (d : D) : bindT (.nm 3) d (s0 :: s1 :: s2 :: x :: ε) K = K (s0 :: s1 :: s2 :: .val d :: ε) := rfl
theorem ywp3 (ε : List Slot) (s0 s1 s2 : Slot) (x : Slot) : wipeE (s0 :: s1 :: s2 :: x :: ε) [3] = s0 :: s1 :: s2 :: .non :: ε := rfl
theorem yow3 (Φ : Sm) (E : DEnds) (ε : List Slot) (s0 s1 s2 : Slot) (x : Slot) (e : CE) : semS Φ (.own 3 e) E (s0 :: s1 :: s2 :: x :: ε) = semE Φ e (s0 :: s1 :: s2 :: x :: ε) fun d => ownQ d fun ds => E.nx (s0 :: s1 :: s2 :: .own ds :: ε) := rfl
theorem yap3 (Φ : Sm) (E : DEnds) (ε : List Slot) (s0 s1 s2 : Slot) (ds : List D) (e : CE) : semS Φ (.app 3 e) E (s0 :: s1 :: s2 :: .own ds :: ε) = semE Φ e (s0 :: s1 :: s2 :: .own ds :: ε) fun v => ds.length < sizeLine ∧ E.nx (s0 :: s1 :: s2 :: .own (ds ++ [v]) :: ε) := rfl
theorem yrv3 (Φ : Sm) (E : DEnds) (ε : List Slot) (s0 s1 s2 : Slot) (ds : List D) : semS Φ (.rev 3) E (s0 :: s1 :: s2 :: .own ds :: ε) = E.nx (s0 :: s1 :: s2 :: .own ds.reverse :: ε) := rfl
theorem ysi3 (Φ : Sm) (E : DEnds) (ε : List Slot) (s0 s1 s2 : Slot) (ds : List D) (k e : CE) : semS Φ (.setIx 3 k e) E (s0 :: s1 :: s2 :: .own ds :: ε) = semE Φ e (s0 :: s1 :: s2 :: .own ds :: ε) fun v => semE Φ k (s0 :: s1 :: s2 :: .own ds :: ε) fun y => setQ ds v y fun ds' => E.nx (s0 :: s1 :: s2 :: .own ds' :: ε) := rfl
theorem yau3 (Φ : Sm) (E : DEnds) (ε : List Slot) (s0 s1 s2 : Slot) (n : Int) (o : O2) (e : CE) : semS Φ (.aug 3 o e) E (s0 :: s1 :: s2 :: .val (.int n) :: ε) = semE Φ e (s0 :: s1 :: s2 :: .val (.int n) :: ε) fun y => op2 o (.int n) y fun z => E.nx (s0 :: s1 :: s2 :: .val z :: ε) := rfl
theorem ypo3 (Φ : Sm) (E : DEnds) (ε : List Slot) (s0 s1 s2 : Slot) (ds : List D) : semS Φ (.pop 3) E (s0 :: s1 :: s2 :: .own ds :: ε) = (0 < ds.length ∧ E.nx (s0 :: s1 :: s2 :: .own ds.dropLast :: ε)) := rfl
theorem yro3 (Φ : Sm) (E : DEnds) (ε : List Slot) (s0 s1 s2 : Slot) (ds : List D) : semS Φ (.retO 3) E (s0 :: s1 :: s2 :: .own ds :: ε) = E.rt (.own ds) := rfl
theorem yfo3 (Φ : Sm) (E : DEnds) (ε : List Slot) (s0 s1 s2 : Slot) (ds : List D) (r : CSs) : semSs Φ (.frz 3 r) E (s0 :: s1 :: s2 :: .own ds :: ε) = semSs Φ r E (s0 :: s1 :: s2 :: .val (.lst ds) :: ε) := rfl
theorem yfv3 (Φ : Sm) (E : DEnds) (ε : List Slot) (s0 s1 s2 : Slot) (d : D) (r : CSs) : semSs Φ (.frz 3 r) E (s0 :: s1 :: s2 :: .val d :: ε) = semSs Φ r E (s0 :: s1 :: s2 :: .val d :: ε) := rfl
theorem yop3 (Φ : Sm) (E : DEnds) (ε : List Slot) (s0 s1 s2 : Slot) (ds : List D) (r : CSs) : semSs Φ (.opn 3 r) E (s0 :: s1 :: s2 :: .own ds :: ε) = ((∃ ns : List Int, ds = ns.map D.int ∧ ∀ n ∈ ns, 0 ≤ n) ∧ semSs Φ r E (s0 :: s1 :: s2 :: .val (.opq 0) :: ε)) := rfl
theorem yv4 (Φ : Sm) (ε : List Slot) (Q : D → Prop) (s0 s1 s2 s3 : Slot) (d : D) : semE Φ (.var 4) (s0 :: s1 :: s2 :: s3 :: .val d :: ε) Q = Q d := rfl
theorem ylo4 (Φ : Sm) (ε : List Slot) (Q : D → Prop) (s0 s1 s2 s3 : Slot) (ds : List D) : semE Φ (.lenO 4) (s0 :: s1 :: s2 :: s3 :: .own ds :: ε) Q = Q (.int ds.length) := rfl
theorem ylv4 (Φ : Sm) (ε : List Slot) (Q : D → Prop) (s0 s1 s2 s3 : Slot) (ds : List D) : semE Φ (.lenO 4) (s0 :: s1 :: s2 :: s3 :: .val (.lst ds) :: ε) Q = Q (.int ds.length) := rfl
theorem yxo4 (Φ : Sm) (ε : List Slot) (Q : D → Prop) (s0 s1 s2 s3 : Slot) (ds : List D) (k : CE) : semE Φ (.idxO 4 k) (s0 :: s1 :: s2 :: s3 :: .own ds :: ε) Q = semE Φ k (s0 :: s1 :: s2 :: s3 :: .own ds :: ε) fun y => opIx (.lst ds) y Q := rfl
theorem yxv4 (Φ : Sm) (ε : List Slot) (Q : D → Prop) (s0 s1 s2 s3 : Slot) (ds : List D) (k : CE) : semE Φ (.idxO 4 k) (s0 :: s1 :: s2 :: s3 :: .val (.lst ds) :: ε) Q = semE Φ k (s0 :: s1 :: s2 :: s3 :: .val (.lst ds) :: ε) fun y => opIx (.lst ds) y Q := rfl
theorem yldo4 (Φ : Sm) (ε : List Slot) (Q : D → Prop) (s0 s1 s2 s3 : Slot) (ds : List D) (e : CE) : semE Φ (.lend 4 e) (s0 :: s1 :: s2 :: s3 :: .own ds :: ε) Q = semE Φ e (s0 :: s1 :: s2 :: s3 :: .val (.lst ds) :: ε) fun d => d.noL = true ∧ Q d := rfl
theorem yldv4 (Φ : Sm) (ε : List Slot) (Q : D → Prop) (s0 s1 s2 s3 : Slot) (d : D) (e : CE) : semE Φ (.lend 4 e) (s0 :: s1 :: s2 :: s3 :: .val d :: ε) Q = semE Φ e (s0 :: s1 :: s2 :: s3 :: .val d :: ε) Q := rfl
theorem ynm4 (ε : List Slot) (K : List Slot → Prop) (s0 s1 s2 s3 : Slot) (x : Slot) (d : D) : bindT (.nm 4) d (s0 :: s1 :: s2 :: s3 :: x :: ε) K = K (s0 :: s1 :: s2 :: s3 :: .val d :: ε) := rfl
theorem ywp4 (ε : List Slot) (s0 s1 s2 s3 : Slot) (x : Slot) : wipeE (s0 :: s1 :: s2 :: s3 :: x :: ε) [4] = s0 :: s1 :: s2 :: s3 :: .non :: ε := rfl
theorem yow4 (Φ : Sm) (E : DEnds) (ε : List Slot) (s0 s1 s2 s3 : Slot) (x : Slot) (e : CE) : semS Φ (.own 4 e) E (s0 :: s1 :: s2 :: s3 :: x :: ε) = semE Φ e (s0 :: s1 :: s2 :: s3 :: x :: ε) fun d => ownQ d fun ds => E.nx (s0 :: s1 :: s2 :: s3 :: .own ds :: ε) := rfl
theorem yap4 (Φ : Sm) (E : DEnds) (ε : List Slot) (s0 s1 s2 s3 : Slot) (ds : List D) (e : CE) : semS Φ (.app 4 e) E (s0 :: s1 :: s2 :: s3 :: .own ds :: ε) = semE Φ e (s0 :: s1 :: s2 :: s3 :: .own ds :: ε) fun v => ds.length < sizeLine ∧ E.nx (s0 :: s1 :: s2 :: s3 :: .own (ds ++ [v]) :: ε) := rfl
theorem yrv4 (Φ : Sm) (E : DEnds) (ε : List Slot) (s0 s1 s2 s3 : Slot) (ds : List D) : semS Φ (.rev 4) E (s0 :: s1 :: s2 :: s3 :: .own ds :: ε) = E.nx (s0 :: s1 :: s2 :: s3 :: .own ds.reverse :: ε) := rfl
theorem ysi4 (Φ : Sm) (E : DEnds) (ε : List Slot) (s0 s1 s2 s3 : Slot) (ds : List D) (k e : CE) : semS Φ (.setIx 4 k e) E (s0 :: s1 :: s2 :: s3 :: .own ds :: ε) = semE Φ e (s0 :: s1 :: s2 :: s3 :: .own ds :: ε) fun v => semE Φ k (s0 :: s1 :: s2 :: s3 :: .own ds :: ε) fun y => setQ ds v y fun ds' => E.nx (s0 :: s1 :: s2 :: s3 :: .own ds' :: ε) := rfl
theorem yau4 (Φ : Sm) (E : DEnds) (ε : List Slot) (s0 s1 s2 s3 : Slot) (n : Int) (o : O2) (e : CE) : semS Φ (.aug 4 o e) E (s0 :: s1 :: s2 :: s3 :: .val (.int n) :: ε) = semE Φ e (s0 :: s1 :: s2 :: s3 :: .val (.int n) :: ε) fun y => op2 o (.int n) y fun z => E.nx (s0 :: s1 :: s2 :: s3 :: .val z :: ε) := rfl
theorem ypo4 (Φ : Sm) (E : DEnds) (ε : List Slot) (s0 s1 s2 s3 : Slot) (ds : List D) : semS Φ (.pop 4) E (s0 :: s1 :: s2 :: s3 :: .own ds :: ε) = (0 < ds.length ∧ E.nx (s0 :: s1 :: s2 :: s3 :: .own ds.dropLast :: ε)) := rfl
theorem yro4 (Φ : Sm) (E : DEnds) (ε : List Slot) (s0 s1 s2 s3 : Slot) (ds : List D) : semS Φ (.retO 4) E (s0 :: s1 :: s2 :: s3 :: .own ds :: ε) = E.rt (.own ds) := rfl
theorem yfo4 (Φ : Sm) (E : DEnds) (ε : List Slot) (s0 s1 s2 s3 : Slot) (ds : List D) (r : CSs) : semSs Φ (.frz 4 r) E (s0 :: s1 :: s2 :: s3 :: .own ds :: ε) = semSs Φ r E (s0 :: s1 :: s2 :: s3 :: .val (.lst ds) :: ε) := rfl
theorem yfv4 (Φ : Sm) (E : DEnds) (ε : List Slot) (s0 s1 s2 s3 : Slot) (d : D) (r : CSs) : semSs Φ (.frz 4 r) E (s0 :: s1 :: s2 :: s3 :: .val d :: ε) = semSs Φ r E (s0 :: s1 :: s2 :: s3 :: .val d :: ε) := rfl
theorem yop4 (Φ : Sm) (E : DEnds) (ε : List Slot) (s0 s1 s2 s3 : Slot) (ds : List D) (r : CSs) : semSs Φ (.opn 4 r) E (s0 :: s1 :: s2 :: s3 :: .own ds :: ε) = ((∃ ns : List Int, ds = ns.map D.int ∧ ∀ n ∈ ns, 0 ≤ n) ∧ semSs Φ r E (s0 :: s1 :: s2 :: s3 :: .val (.opq 0) :: ε)) := rfl
theorem yv5 (Φ : Sm) (ε : List Slot) (Q : D → Prop) (s0 s1 s2 s3 s4 : Slot) (d : D) : semE Φ (.var 5) (s0 :: s1 :: s2 :: s3 :: s4 :: .val d :: ε) Q = Q d := rfl
theorem ylo5 (Φ : Sm) (ε : List Slot) (Q : D → Prop) (s0 s1 s2 s3 s4 : Slot) (ds : List D) : semE Φ (.lenO 5) (s0 :: s1 :: s2 :: s3 :: s4 :: .own ds :: ε) Q = Q (.int ds.length) := rfl
theorem ylv5 (Φ : Sm) (ε : List Slot) (Q : D → Prop) (s0 s1 s2 s3 s4 : Slot) (ds : List D) : semE Φ (.lenO 5) (s0 :: s1 :: s2 :: s3 :: s4 :: .val (.lst ds) :: ε) Q = Q (.int ds.length) := rfl
theorem yxo5 (Φ : Sm) (ε : List Slot) (Q : D → Prop) (s0 s1 s2 s3 s4 : Slot) (ds : List D) (k : CE) : semE Φ (.idxO 5 k) (s0 :: s1 :: s2 :: s3 :: s4 :: .own ds :: ε) Q = semE Φ k (s0 :: s1 :: s2 :: s3 :: s4 :: .own ds :: ε) fun y => opIx (.lst ds) y Q := rfl
theorem yxv5 (Φ : Sm) (ε : List Slot) (Q : D → Prop) (s0 s1 s2 s3 s4 : Slot) (ds : List D) (k : CE) : semE Φ (.idxO 5 k) (s0 :: s1 :: s2 :: s3 :: s4 :: .val (.lst ds) :: ε) Q = semE Φ k (s0 :: s1 :: s2 :: s3 :: s4 :: .val (.lst ds) :: ε) fun y => opIx (.lst ds) y Q := rfl
theorem yldo5 (Φ : Sm) (ε : List Slot) (Q : D → Prop) (s0 s1 s2 s3 s4 : Slot) (ds : List D) (e : CE) : semE Φ (.lend 5 e) (s0 :: s1 :: s2 :: s3 :: s4 :: .own ds :: ε) Q = semE Φ e (s0 :: s1 :: s2 :: s3 :: s4 :: .val (.lst ds) :: ε) fun d => d.noL = true ∧ Q d := rfl
theorem yldv5 (Φ : Sm) (ε : List Slot) (Q : D → Prop) (s0 s1 s2 s3 s4 : Slot) (d : D) (e : CE) : semE Φ (.lend 5 e) (s0 :: s1 :: s2 :: s3 :: s4 :: .val d :: ε) Q = semE Φ e (s0 :: s1 :: s2 :: s3 :: s4 :: .val d :: ε) Q := rfl
theorem ynm5 (ε : List Slot) (K : List Slot → Prop) (s0 s1 s2 s3 s4 : Slot) (x : Slot) (d : D) : bindT (.nm 5) d (s0 :: s1 :: s2 :: s3 :: s4 :: x :: ε) K = K (s0 :: s1 :: s2 :: s3 :: s4 :: .val d :: ε) := rfl
theorem ywp5 (ε : List Slot) (s0 s1 s2 s3 s4 : Slot) (x : Slot) : wipeE (s0 :: s1 :: s2 :: s3 :: s4 :: x :: ε) [5] = s0 :: s1 :: s2 :: s3 :: s4 :: .non :: ε := rfl
theorem yow5 (Φ : Sm) (E : DEnds) (ε : List Slot) (s0 s1 s2 s3 s4 : Slot) (x : Slot) (e : CE) : semS Φ (.own 5 e) E (s0 :: s1 :: s2 :: s3 :: s4 :: x :: ε) = semE Φ e (s0 :: s1 :: s2 :: s3 :: s4 :: x :: ε) fun d => ownQ d fun ds => E.nx (s0 :: s1 :: s2 :: s3 :: s4 :: .own ds :: ε) := rfl
theorem yap5 (Φ : Sm) (E : DEnds) (ε : List Slot) (s0 s1 s2 s3 s4 : Slot) (ds : List D) (e : CE) : semS Φ (.app 5 e) E (s0 :: s1 :: s2 :: s3 :: s4 :: .own ds :: ε) = semE Φ e (s0 :: s1 :: s2 :: s3 :: s4 :: .own ds :: ε) fun v => ds.length < sizeLine ∧ E.nx (s0 :: s1 :: s2 :: s3 :: s4 :: .own (ds ++ [v]) :: ε) := rfl
theorem yrv5 (Φ : Sm) (E : DEnds) (ε : List Slot) (s0 s1 s2 s3 s4 : Slot) (ds : List D) : semS Φ (.rev 5) E (s0 :: s1 :: s2 :: s3 :: s4 :: .own ds :: ε) = E.nx (s0 :: s1 :: s2 :: s3 :: s4 :: .own ds.reverse :: ε) := rfl
theorem ysi5 (Φ : Sm) (E : DEnds) (ε : List Slot) (s0 s1 s2 s3 s4 : Slot) (ds : List D) (k e : CE) : semS Φ (.setIx 5 k e) E (s0 :: s1 :: s2 :: s3 :: s4 :: .own ds :: ε) = semE Φ e (s0 :: s1 :: s2 :: s3 :: s4 :: .own ds :: ε) fun v => semE Φ k (s0 :: s1 :: s2 :: s3 :: s4 :: .own ds :: ε) fun y => setQ ds v y fun ds' => E.nx (s0 :: s1 :: s2 :: s3 :: s4 :: .own ds' :: ε) := rfl
theorem yau5 (Φ : Sm) (E : DEnds) (ε : List Slot) (s0 s1 s2 s3 s4 : Slot) (n : Int) (o : O2) (e : CE) : semS Φ (.aug 5 o e) E (s0 :: s1 :: s2 :: s3 :: s4 :: .val (.int n) :: ε) = semE Φ e (s0 :: s1 :: s2 :: s3 :: s4 :: .val (.int n) :: ε) fun y => op2 o (.int n) y fun z => E.nx (s0 :: s1 :: s2 :: s3 :: s4 :: .val z :: ε) := rfl
theorem ypo5 (Φ : Sm) (E : DEnds) (ε : List Slot) (s0 s1 s2 s3 s4 : Slot) (ds : List D) : semS Φ (.pop 5) E (s0 :: s1 :: s2 :: s3 :: s4 :: .own ds :: ε) = (0 < ds.length ∧ E.nx (s0 :: s1 :: s2 :: s3 :: s4 :: .own ds.dropLast :: ε)) := rfl
theorem yro5 (Φ : Sm) (E : DEnds) (ε : List Slot) (s0 s1 s2 s3 s4 : Slot) (ds : List D) : semS Φ (.retO 5) E (s0 :: s1 :: s2 :: s3 :: s4 :: .own ds :: ε) = E.rt (.own ds) := rfl
theorem yfo5 (Φ : Sm) (E : DEnds) (ε : List Slot) (s0 s1 s2 s3 s4 : Slot) (ds : List D) (r : CSs) : semSs Φ (.frz 5 r) E (s0 :: s1 :: s2 :: s3 :: s4 :: .own ds :: ε) = semSs Φ r E (s0 :: s1 :: s2 :: s3 :: s4 :: .val (.lst ds) :: ε) := rfl
theorem yfv5 (Φ : Sm) (E : DEnds) (ε : List Slot) (s0 s1 s2 s3 s4 : Slot) (d : D) (r : CSs) : semSs Φ (.frz 5 r) E (s0 :: s1 :: s2 :: s3 :: s4 :: .val d :: ε) = semSs Φ r E (s0 :: s1 :: s2 :: s3 :: s4 :: .val d :: ε) := rfl
theorem yop5 (Φ : Sm) (E : DEnds) (ε : List Slot) (s0 s1 s2 s3 s4 : Slot) (ds : List D) (r : CSs) : semSs Φ (.opn 5 r) E (s0 :: s1 :: s2 :: s3 :: s4 :: .own ds :: ε) = ((∃ ns : List Int, ds = ns.map D.int ∧ ∀ n ∈ ns, 0 ≤ n) ∧ semSs Φ r E (s0 :: s1 :: s2 :: s3 :: s4 :: .val (.opq 0) :: ε)) := rfl
theorem yv6 (Φ : Sm) (ε : List Slot) (Q : D → Prop) (s0 s1 s2 s3 s4 s5 : Slot) (d : D) : semE Φ (.var 6) (s0 :: s1 :: s2 :: s3 :: s4 :: s5 :: .val d :: ε) Q = Q d := rfl
theorem ylo6 (Φ : Sm) (ε : List Slot) (Q : D → Prop) (s0 s1 s2 s3 s4 s5 : Slot) (ds : List D) : semE Φ (.lenO 6) (s0 :: s1 :: s2 :: s3 :: s4 :: s5 :: .own ds :: ε) Q = Q (.int ds.length) := rfl
theorem ylv6 (Φ : Sm) (ε : List Slot) (Q : D → Prop) (s0 s1 s2 s3 s4 s5 : Slot) (ds : List D) : semE Φ (.lenO 6) (s0 :: s1 :: s2 :: s3 :: s4 :: s5 :: .val (.lst ds) :: ε) Q = Q (.int ds.length) := rfl
theorem yxo6 (Φ : Sm) (ε : List Slot) (Q : D → Prop) (s0 s1 s2 s3 s4 s5 : Slot) (ds : List D) (k : CE) : semE Φ (.idxO 6 k) (s0 :: s1 :: s2 :: s3 :: s4 :: s5 :: .own ds :: ε) Q = semE Φ k (s0 :: s1 :: s2 :: s3 :: s4 :: s5 :: .own ds :: ε) fun y => opIx (.lst ds) y Q := rfl
theorem yxv6 (Φ : Sm) (ε : List Slot) (Q : D → Prop) (s0 s1 s2 s3 s4 s5 : Slot) (ds : List D) (k : CE) : semE Φ (.idxO 6 k) (s0 :: s1 :: s2 :: s3 :: s4 :: s5 :: .val (.lst ds) :: ε) Q = semE Φ k (s0 :: s1 :: s2 :: s3 :: s4 :: s5 :: .val (.lst ds) :: ε) fun y => opIx (.lst ds) y Q := rfl
theorem yldo6 (Φ : Sm) (ε : List Slot) (Q : D → Prop) (s0 s1 s2 s3 s4 s5 : Slot) (ds : List D) (e : CE) : semE Φ (.lend 6 e) (s0 :: s1 :: s2 :: s3 :: s4 :: s5 :: .own ds :: ε) Q = semE Φ e (s0 :: s1 :: s2 :: s3 :: s4 :: s5 :: .val (.lst ds) :: ε) fun d => d.noL = true ∧ Q d := rfl
theorem yldv6 (Φ : Sm) (ε : List Slot) (Q : D → Prop) (s0 s1 s2 s3 s4 s5 : Slot) (d : D) (e : CE) : semE Φ (.lend 6 e) (s0 :: s1 :: s2 :: s3 :: s4 :: s5 :: .val d :: ε) Q = semE Φ e (s0 :: s1 :: s2 :: s3 :: s4 :: s5 :: .val d :: ε) Q := rfl
theorem ynm6 (ε : List Slot) (K : List Slot → Prop) (s0 s1 s2 s3 s4 s5 : Slot) (x : Slot) (d : D) : bindT (.nm 6) d (s0 :: s1 :: s2 :: s3 :: s4 :: s5 :: x :: ε) K = K (s0 :: s1 :: s2 :: s3 :: s4 :: s5 :: .val d :: ε) := rfl
theorem ywp6 (ε : List Slot) (s0 s1 s2 s3 s4 s5 : Slot) (x : Slot) : wipeE (s0 :: s1 :: s2 :: s3 :: s4 :: s5 :: x :: ε) [6] = s0 :: s1 :: s2 :: s3 :: s4 :: s5 :: .non :: ε := rfl
theorem yow6 (Φ : Sm) (E : DEnds) (ε : List Slot) (s0 s1 s2 s3 s4 s5 : Slot) (x : Slot) (e : CE) : semS Φ (.own 6 e) E (s0 :: s1 :: s2 :: s3 :: s4 :: s5 :: x :: ε) = semE Φ e (s0 :: s1 :: s2 :: s3 :: s4 :: s5 :: x :: ε) fun d => ownQ d fun ds => E.nx (s0 :: s1 :: s2 :: s3 :: s4 :: s5 :: .own ds :: ε) := rfl
theorem yap6 (Φ : Sm) (E : DEnds) (ε : List Slot) (s0 s1 s2 s3 s4 s5 : Slot) (ds : List D) (e : CE) : semS Φ (.app 6 e) E (s0 :: s1 :: s2 :: s3 :: s4 :: s5 :: .own ds :: ε) = semE Φ e (s0 :: s1 :: s2 :: s3 :: s4 :: s5 :: .own ds :: ε) fun v => ds.length < sizeLine ∧ E.nx (s0 :: s1 :: s2 :: s3 :: s4 :: s5 :: .own (ds ++ [v]) :: ε) := rfl
theorem yrv6 (Φ : Sm) (E : DEnds) (ε : List Slot) (s0 s1 s2 s3 s4 s5 : Slot) (ds : List D) : semS Φ (.rev 6) E (s0 :: s1 :: s2 :: s3 :: s4 :: s5 :: .own ds :: ε) = E.nx (s0 :: s1 :: s2 :: s3 :: s4 :: s5 :: .own ds.reverse :: ε) := rfl
theorem ysi6 (Φ : Sm) (E : DEnds) (ε : List Slot) (s0 s1 s2 s3 s4 s5 : Slot) (ds : List D) (k e : CE) : semS Φ (.setIx 6 k e) E (s0 :: s1 :: s2 :: s3 :: s4 :: s5 :: .own ds :: ε) = semE Φ e (s0 :: s1 :: s2 :: s3 :: s4 :: s5 :: .own ds :: ε) fun v => semE Φ k (s0 :: s1 :: s2 :: s3 :: s4 :: s5 :: .own ds :: ε) fun y => setQ ds v y fun ds' => E.nx (s0 :: s1 :: s2 :: s3 :: s4 :: s5 :: .own ds' :: ε) := rfl
theorem yau6 (Φ : Sm) (E : DEnds) (ε : List Slot) (s0 s1 s2 s3 s4 s5 : Slot) (n : Int) (o : O2) (e : CE) : semS Φ (.aug 6 o e) E (s0 :: s1 :: s2 :: s3 :: s4 :: s5 :: .val (.int n) :: ε) = semE Φ e (s0 :: s1 :: s2 :: s3 :: s4 :: s5 :: .val (.int n) :: ε) fun y => op2 o (.int n) y fun z => E.nx (s0 :: s1 :: s2 :: s3 :: s4 :: s5 :: .val z :: ε) := rfl
theorem ypo6 (Φ : Sm) (E : DEnds) (ε : List Slot) (s0 s1 s2 s3 s4 s5 : Slot) (ds : List D) : semS Φ (.pop 6) E (s0 :: s1 :: s2 :: s3 :: s4 :: s5 :: .own ds :: ε) = (0 < ds.length ∧ E.nx (s0 :: s1 :: s2 :: s3 :: s4 :: s5 :: .own ds.dropLast :: ε)) := rfl
theorem yro6 (Φ : Sm) (E : DEnds) (ε : List Slot) (s0 s1 s2 s3 s4 s5 : Slot) (ds : List D) : semS Φ (.retO 6) E (s0 :: s1 :: s2 :: s3 :: s4 :: s5 :: .own ds :: ε) = E.rt (.own ds) := rfl
theorem yfo6 (Φ : Sm) (E : DEnds) (ε : List Slot) (s0 s1 s2 s3 s4 s5 : Slot) (ds : List D) (r : CSs) : semSs Φ (.frz 6 r) E (s0 :: s1 :: s2 :: s3 :: s4 :: s5 :: .own ds :: ε) = semSs Φ r E (s0 :: s1 :: s2 :: s3 :: s4 :: s5 :: .val (.lst ds) :: ε) := rfl
theorem yfv6 (Φ : Sm) (E : DEnds) (ε : List Slot) (s0 s1 s2 s3 s4 s5 : Slot) (d : D) (r : CSs) : semSs Φ (.frz 6 r) E (s0 :: s1 :: s2 :: s3 :: s4 :: s5 :: .val d :: ε) = semSs Φ r E (s0 :: s1 :: s2 :: s3 :: s4 :: s5 :: .val d :: ε) := rfl
theorem yop6 (Φ : Sm) (E : DEnds) (ε : List Slot) (s0 s1 s2 s3 s4 s5 : Slot) (ds : List D) (r : CSs) : semSs Φ (.opn 6 r) E (s0 :: s1 :: s2 :: s3 :: s4 :: s5 :: .own ds :: ε) = ((∃ ns : List Int, ds = ns.map D.int ∧ ∀ n ∈ ns, 0 ≤ n) ∧ semSs Φ r E (s0 :: s1 :: s2 :: s3 :: s4 :: s5 :: .val (.opq 0) :: ε)) := rfl
theorem yv7 (Φ : Sm) (ε : List Slot) (Q : D → Prop) (s0 s1 s2 s3 s4 s5 s6 : Slot) (d : D) : semE Φ (.var 7) (s0 :: s1 :: s2 :: s3 :: s4 :: s5 :: s6 :: .val d :: ε) Q = Q d := rfl
theorem ylo7 (Φ : Sm) (ε : List Slot) (Q : D → Prop) (s0 s1 s2 s3 s4 s5 s6 : Slot) (ds : List D) : semE Φ (.lenO 7) (s0 :: s1 :: s2 :: s3 :: s4 :: s5 :: s6 :: .own ds :: ε) Q = Q (.int ds.length) := rfl
theorem ylv7 (Φ : Sm) (ε : List Slot) (Q : D → Prop) (s0 s1 s2 s3 s4 s5 s6 : Slot) (ds : List D) : semE Φ (.lenO 7) (s0 :: s1 :: s2 :: s3 :: s4 :: s5 :: s6 :: .val (.lst ds) :: ε) Q = Q (.int ds.length) := rfl
theorem yxo7 (Φ : Sm) (ε : List Slot) (Q : D → Prop) (s0 s1 s2 s3 s4 s5 s6 : Slot) (ds : List D) (k : CE) : semE Φ (.idxO 7 k) (s0 :: s1 :: s2 :: s3 :: s4 :: s5 :: s6 :: .own ds :: ε) Q = semE Φ k (s0 :: s1 :: s2 :: s3 :: s4 :: s5 :: s6 :: .own ds :: ε) fun y => opIx (.lst ds) y Q := rfl
theorem yxv7 (Φ : Sm) (ε : List Slot) (Q : D → Prop) (s0 s1 s2 s3 s4 s5 s6 : Slot) (ds : List D) (k : CE) : semE Φ (.idxO 7 k) (s0 :: s1 :: s2 :: s3 :: s4 :: s5 :: s6 :: .val (.lst ds) :: ε) Q = semE Φ k (s0 :: s1 :: s2 :: s3 :: s4 :: s5 :: s6 :: .val (.lst ds) :: ε) fun y => opIx (.lst ds) y Q := rfl
theorem yldo7 (Φ : Sm) (ε : List Slot) (Q : D → Prop) (s0 s1 s2 s3 s4 s5 s6 : Slot) (ds : List D) (e : CE) : semE Φ (.lend 7 e) (s0 :: s1 :: s2 :: s3 :: s4 :: s5 :: s6 :: .own ds :: ε) Q = semE Φ e (s0 :: s1 :: s2 :: s3 :: s4 :: s5 :: s6 :: .val (.lst ds) :: ε) fun d => d.noL = true ∧ Q d := rfl
theorem yldv7 (Φ : Sm) (ε : List Slot) (Q : D → Prop) (s0 s1 s2 s3 s4 s5 s6 : Slot) (d : D) (e : CE) : semE Φ (.lend 7 e) (s0 :: s1 :: s2 :: s3 :: s4 :: s5 :: s6 :: .val d :: ε) Q = semE Φ e (s0 :: s1 :: s2 :: s3 :: s4 :: s5 :: s6 :: .val d :: ε) Q := rfl
theorem ynm7 (ε : List Slot) (K : List Slot → Prop) (s0 s1 s2 s3 s4 s5 s6 : Slot) (x : Slot) (d : D) : bindT (.nm 7) d (s0 :: s1 :: s2 :: s3 :: s4 :: s5 :: s6 :: x :: ε) K = K (s0 :: s1 :: s2 :: s3 :: s4 :: s5 :: s6 :: .val d :: ε) := rfl
theorem ywp7 (ε : List Slot) (s0 s1 s2 s3 s4 s5 s6 : Slot) (x : Slot) : wipeE (s0 :: s1 :: s2 :: s3 :: s4 :: s5 :: s6 :: x :: ε) [7] = s0 :: s1 :: s2 :: s3 :: s4 :: s5 :: s6 :: .non :: ε := rfl
theorem yow7 (Φ : Sm) (E : DEnds) (ε : List Slot) (s0 s1 s2 s3 s4 s5 s6 : Slot) (x : Slot) (e : CE) : semS Φ (.own 7 e) E (s0 :: s1 :: s2 :: s3 :: s4 :: s5 :: s6 :: x :: ε) = semE Φ e (s0 :: s1 :: s2 :: s3 :: s4 :: s5 :: s6 :: x :: ε) fun d => ownQ d fun ds => E.nx (s0 :: s1 :: s2 :: s3 :: s4 :: s5 :: s6 :: .own ds :: ε) := rfl
theorem yap7 (Φ : Sm) (E : DEnds) (ε : List Slot) (s0 s1 s2 s3 s4 s5 s6 : Slot) (ds : List D) (e : CE) : semS Φ (.app 7 e) E (s0 :: s1 :: s2 :: s3 :: s4 :: s5 :: s6 :: .own ds :: ε) = semE Φ e (s0 :: s1 :: s2 :: s3 :: s4 :: s5 :: s6 :: .own ds :: ε) fun v => ds.length < sizeLine ∧ E.nx (s0 :: s1 :: s2 :: s3 :: s4 :: s5 :: s6 :: .own (ds ++ [v]) :: ε) := rfl
theorem yrv7 (Φ : Sm) (E : DEnds) (ε : List Slot) (s0 s1 s2 s3 s4 s5 s6 : Slot) (ds : List D) : semS Φ (.rev 7) E (s0 :: s1 :: s2 :: s3 :: s4 :: s5 :: s6 :: .own ds :: ε) = E.nx (s0 :: s1 :: s2 :: s3 :: s4 :: s5 :: s6 :: .own ds.reverse :: ε) := rfl
theorem ysi7 (Φ : Sm) (E : DEnds) (ε : List Slot) (s0 s1 s2 s3 s4 s5 s6 : Slot) (ds : List D) (k e : CE) : semS Φ (.setIx 7 k e) E (s0 :: s1 :: s2 :: s3 :: s4 :: s5 :: s6 :: .own ds :: ε) = semE Φ e (s0 :: s1 :: s2 :: s3 :: s4 :: s5 :: s6 :: .own ds :: ε) fun v => semE Φ k (s0 :: s1 :: s2 :: s3 :: s4 :: s5 :: s6 :: .own ds :: ε) fun y => setQ ds v y fun ds' => E.nx (s0 :: s1 :: s2 :: s3 :: s4 :: s5 :: s6 :: .own ds' :: ε) := rfl
theorem yau7 (Φ : Sm) (E : DEnds) (ε : List Slot) (s0 s1 s2 s3 s4 s5 s6 : Slot) (n : Int) (o : O2) (e : CE) : semS Φ (.aug 7 o e) E (s0 :: s1 :: s2 :: s3 :: s4 :: s5 :: s6 :: .val (.int n) :: ε) = semE Φ e (s0 :: s1 :: s2 :: s3 :: s4 :: s5 :: s6 :: .val (.int n) :: ε) fun y => op2 o (.int n) y fun z => E.nx (s0 :: s1 :: s2 :: s3 :: s4 :: s5 :: s6 :: .val z :: ε) := rfl
theorem ypo7 (Φ : Sm) (E : DEnds) (ε : List Slot) (s0 s1 s2 s3 s4 s5 s6 : Slot) (ds : List D) : semS Φ (.pop 7) E (s0 :: s1 :: s2 :: s3 :: s4 :: s5 :: s6 :: .own ds :: ε) = (0 < ds.length ∧ E.nx (s0 :: s1 :: s2 :: s3 :: s4 :: s5 :: s6 :: .own ds.dropLast :: ε)) := rfl
theorem yro7 (Φ : Sm) (E : DEnds) (ε : List Slot) (s0 s1 s2 s3 s4 s5 s6 : Slot) (ds : List D) : semS Φ (.retO 7) E (s0 :: s1 :: s2 :: s3 :: s4 :: s5 :: s6 :: .own ds :: ε) = E.rt (.own ds) := rfl
theorem yfo7 (Φ : Sm) (E : DEnds) (ε : List Slot) (s0 s1 s2 s3 s4 s5 s6 : Slot) (ds : List D) (r : CSs) : semSs Φ (.frz 7 r) E (s0 :: s1 :: s2 :: s3 :: s4 :: s5 :: s6 :: .own ds :: ε) = semSs Φ r E (s0 :: s1 :: s2 :: s3 :: s4 :: s5 :: s6 :: .val (.lst ds) :: ε) := rfl
theorem yfv7 (Φ : Sm) (E : DEnds) (ε : List Slot) (s0 s1 s2 s3 s4 s5 s6 : Slot) (d : D) (r : CSs) : semSs Φ (.frz 7 r) E (s0 :: s1 :: s2 :: s3 :: s4 :: s5 :: s6 :: .val d :: ε) = semSs Φ r E (s0 :: s1 :: s2 :: s3 :: s4 :: s5 :: s6 :: .val d :: ε) := rfl
theorem yop7 (Φ : Sm) (E : DEnds) (ε : List Slot) (s0 s1 s2 s3 s4 s5 s6 : Slot) (ds : List D) (r : CSs) : semSs Φ (.opn 7 r) E (s0 :: s1 :: s2 :: s3 :: s4 :: s5 :: s6 :: .own ds :: ε) = ((∃ ns : List Int, ds = ns.map D.int ∧ ∀ n ∈ ns, 0 ≤ n) ∧ semSs Φ r E (s0 :: s1 :: s2 :: s3 :: s4 :: s5 :: s6 :: .val (.opq 0) :: ε)) := rfl
theorem yv8 (Φ : Sm) (ε : List Slot) (Q : D → Prop) (s0 s1 s2 s3 s4 s5 s6 s7 : Slot) (d : D) : semE Φ (.var 8) (s0 :: s1 :: s2 :: s3 :: s4 :: s5 :: s6 :: s7 :: .val d :: ε) Q = Q d := rfl
theorem ylo8 (Φ : Sm) (ε : List Slot) (Q : D → Prop) (s0 s1 s2 s3 s4 s5 s6 s7 : Slot) (ds : List D) : semE Φ (.lenO 8) (s0 :: s1 :: s2 :: s3 :: s4 :: s5 :: s6 :: s7 :: .own ds :: ε) Q = Q (.int ds.length) := rfl
theorem ylv8 (Φ : Sm) (ε : List Slot) (Q : D → Prop) (s0 s1 s2 s3 s4 s5 s6 s7 : Slot) (ds : List D) : semE Φ (.lenO 8) (s0 :: s1 :: s2 :: s3 :: s4 :: s5 :: s6 :: s7 :: .val (.lst ds) :: ε) Q = Q (.int ds.length) := rfl
theorem yxo8 (Φ : Sm) (ε : List Slot) (Q : D → Prop) (s0 s1 s2 s3 s4 s5 s6 s7 : Slot) (ds : List D) (k : CE) : semE Φ (.idxO 8 k) (s0 :: s1 :: s2 :: s3 :: s4 :: s5 :: s6 :: s7 :: .own ds :: ε) Q = semE Φ k (s0 :: s1 :: s2 :: s3 :: s4 :: s5 :: s6 :: s7 :: .own ds :: ε) fun y => opIx (.lst ds) y Q := rfl
theorem yxv8 (Φ : Sm) (ε : List Slot) (Q : D → Prop) (s0 s1 s2 s3 s4 s5 s6 s7 : Slot) (ds : List D) (k : CE) : semE Φ (.idxO 8 k) (s0 :: s1 :: s2 :: s3 :: s4 :: s5 :: s6 :: s7 :: .val (.lst ds) :: ε) Q = semE Φ k (s0 :: s1 :: s2 :: s3 :: s4 :: s5 :: s6 :: s7 :: .val (.lst ds) :: ε) fun y => opIx (.lst ds) y Q := rfl
theorem yldo8 (Φ : Sm) (ε : List Slot) (Q : D → Prop) (s0 s1 s2 s3 s4 s5 s6 s7 : Slot) (ds : List D) (e : CE) : semE Φ (.lend 8 e) (s0 :: s1 :: s2 :: s3 :: s4 :: s5 :: s6 :: s7 :: .own ds :: ε) Q = semE Φ e (s0 :: s1 :: s2 :: s3 :: s4 :: s5 :: s6 :: s7 :: .val (.lst ds) :: ε) fun d => d.noL = true ∧ Q d := rfl
theorem yldv8 (Φ : Sm) (ε : List Slot) (Q : D → Prop) (s0 s1 s2 s3 s4 s5 s6 s7 : Slot) (d : D) (e : CE) : semE Φ (.lend 8 e) (s0 :: s1 :: s2 :: s3 :: s4 :: s5 :: s6 :: s7 :: .val d :: ε) Q = semE Φ e (s0 :: s1 :: s2 :: s3 :: s4 :: s5 :: s6 :: s7 :: .val d :: ε) Q := rfl
theorem ynm8 (ε : List Slot) (K : List Slot → Prop) (s0 s1 s2 s3 s4 s5 s6 s7 : Slot) (x : Slot) (d : D) : bindT (.nm 8) d (s0 :: s1 :: s2 :: s3 :: s4 :: s5 :: s6 :: s7 :: x :: ε) K = K (s0 :: s1 :: s2 :: s3 :: s4 :: s5 :: s6 :: s7 :: .val d :: ε) := rfl
theorem ywp8 (ε : List Slot) (s0 s1 s2 s3 s4 s5 s6 s7 : Slot) (x : Slot) : wipeE (s0 :: s1 :: s2 :: s3 :: s4 :: s5 :: s6 :: s7 :: x :: ε) [8] = s0 :: s1 :: s2 :: s3 :: s4 :: s5 :: s6 :: s7 :: .non :: ε := rfl
theorem yow8 (Φ : Sm) (E : DEnds) (ε : List Slot) (s0 s1 s2 s3 s4 s5 s6 s7 : Slot) (x : Slot) (e : CE) : semS Φ (.own 8 e) E (s0 :: s1 :: s2 :: s3 :: s4 :: s5 :: s6 :: s7 :: x :: ε) = semE Φ e (s0 :: s1 :: s2 :: s3 :: s4 :: s5 :: s6 :: s7 :: x :: ε) fun d => ownQ d fun ds => E.nx (s0 :: s1 :: s2 :: s3 :: s4 :: s5 :: s6 :: s7 :: .own ds :: ε) := rfl
theorem yap8 (Φ : Sm) (E : DEnds) (ε : List Slot) (s0 s1 s2 s3 s4 s5 s6 s7 : Slot) (ds : List D) (e : CE) : semS Φ (.app 8 e) E (s0 :: s1 :: s2 :: s3 :: s4 :: s5 :: s6 :: s7 :: .own ds :: ε) = semE Φ e (s0 :: s1 :: s2 :: s3 :: s4 :: s5 :: s6 :: s7 :: .own ds :: ε) fun v => ds.length < sizeLine ∧ E.nx (s0 :: s1 :: s2 :: s3 :: s4 :: s5 :: s6 :: s7 :: .own (ds ++ [v]) :: ε) := rfl
theorem yrv8 (Φ : Sm) (E : DEnds) (ε : List Slot) (s0 s1 s2 s3 s4 s5 s6 s7 : Slot) (ds : List D) : semS Φ (.rev 8) E (s0 :: s1 :: s2 :: s3 :: s4 :: s5 :: s6 :: s7 :: .own ds :: ε) = E.nx (s0 :: s1 :: s2 :: s3 :: s4 :: s5 :: s6 :: s7 :: .own ds.reverse :: ε) := rfl
theorem ysi8 (Φ : Sm) (E : DEnds) (ε : List Slot) (s0 s1 s2 s3 s4 s5 s6 s7 : Slot) (ds : List D) (k e : CE) : semS Φ (.setIx 8 k e) E (s0 :: s1 :: s2 :: s3 :: s4 :: s5 :: s6 :: s7 :: .own ds :: ε) = semE Φ e (s0 :: s1 :: s2 :: s3 :: s4 :: s5 :: s6 :: s7 :: .own ds :: ε) fun v => semE Φ k (s0 :: s1 :: s2 :: s3 :: s4 :: s5 :: s6 :: s7 :: .own ds :: ε) fun y => setQ ds v y fun ds' => E.nx (s0 :: s1 :: s2 :: s3 :: s4 :: s5 :: s6 :: s7 :: .own ds' :: ε) := rfl
theorem yau8 (Φ : Sm) (E : DEnds) (ε : List Slot) (s0 s1 s2 s3 s4 s5 s6 s7 : Slot) (n : Int) (o : O2) (e : CE) : semS Φ (.aug 8 o e) E (s0 :: s1 :: s2 :: s3 :: s4 :: s5 :: s6 :: s7 :: .val (.int n) :: ε) = semE Φ e (s0 :: s1 :: s2 :: s3 :: s4 :: s5 :: s6 :: s7 :: .val (.int n) :: ε) fun y => op2 o (.int n) y fun z => E.nx (s0 :: s1 :: s2 :: s3 :: s4 :: s5 :: s6 :: s7 :: .val z :: ε) := rfl
theorem ypo8 (Φ : Sm) (E : DEnds) (ε : List Slot) (s0 s1 s2 s3 s4 s5 s6 s7 : Slot) (ds : List D) : semS Φ (.pop 8) E (s0 :: s1 :: s2 :: s3 :: s4 :: s5 :: s6 :: s7 :: .own ds :: ε) = (0 < ds.length ∧ E.nx (s0 :: s1 :: s2 :: s3 :: s4 :: s5 :: s6 :: s7 :: .own ds.dropLast :: ε)) := rfl
theorem yro8 (Φ : Sm) (E : DEnds) (ε : List Slot) (s0 s1 s2 s3 s4 s5 s6 s7 : Slot) (ds : List D) : semS Φ (.retO 8) E (s0 :: s1 :: s2 :: s3 :: s4 :: s5 :: s6 :: s7 :: .own ds :: ε) = E.rt (.own ds) := rfl
theorem yfo8 (Φ : Sm) (E : DEnds) (ε : List Slot) (s0 s1 s2 s3 s4 s5 s6 s7 : Slot) (ds : List D) (r : CSs) : semSs Φ (.frz 8 r) E (s0 :: s1 :: s2 :: s3 :: s4 :: s5 :: s6 :: s7 :: .own ds :: ε) = semSs Φ r E (s0 :: s1 :: s2 :: s3 :: s4 :: s5 :: s6 :: s7 :: .val (.lst ds) :: ε) := rfl
theorem yfv8 (Φ : Sm) (E : DEnds) (ε : List Slot) (s0 s1 s2 s3 s4 s5 s6 s7 : Slot) (d : D) (r : CSs) : semSs Φ (.frz 8 r) E (s0 :: s1 :: s2 :: s3 :: s4 :: s5 :: s6 :: s7 :: .val d :: ε) = semSs Φ r E (s0 :: s1 :: s2 :: s3 :: s4 :: s5 :: s6 :: s7 :: .val d :: ε) := rfl
theorem yop8 (Φ : Sm) (E : DEnds) (ε : List Slot) (s0 s1 s2 s3 s4 s5 s6 s7 : Slot) (ds : List D) (r : CSs) : semSs Φ (.opn 8 r) E (s0 :: s1 :: s2 :: s3 :: s4 :: s5 :: s6 :: s7 :: .own ds :: ε) = ((∃ ns : List Int, ds = ns.map D.int ∧ ∀ n ∈ ns, 0 ≤ n) ∧ semSs Φ r E (s0 :: s1 :: s2 :: s3 :: s4 :: s5 :: s6 :: s7 :: .val (.opq 0) :: ε)) := rfl
theorem yv9 (Φ : Sm) (ε : List Slot) (Q : D → Prop) (s0 s1 s2 s3 s4 s5 s6 s7 s8 : Slot) (d : D) : semE Φ (.var 9) (s0 :: s1 :: s2 :: s3 :: s4 :: s5 :: s6 :: s7 :: s8 :: .val d :: ε) Q = Q d := rfl
theorem ylo9 (Φ : Sm) (ε : List Slot) (Q : D → Prop) (s0 s1 s2 s3 s4 s5 s6 s7 s8 : Slot) (ds : List D) : semE Φ (.lenO 9) (s0 :: s1 :: s2 :: s3 :: s4 :: s5 :: s6 :: s7 :: s8 :: .own ds :: ε) Q = Q (.int ds.length) := rfl
theorem ylv9 (Φ : Sm) (ε : List Slot) (Q : D → Prop) (s0 s1 s2 s3 s4 s5 s6 s7 s8 : Slot) (ds : List D) : semE Φ (.lenO 9) (s0 :: s1 :: s2 :: s3 :: s4 :: s5 :: s6 :: s7 :: s8 :: .val (.lst ds) :: ε) Q = Q (.int ds.length) := rfl
theorem yxo9 (Φ : Sm) (ε : List Slot) (Q : D → Prop) (s0 s1 s2 s3 s4 s5 s6 s7 s8 : Slot) (ds : List D) (k : CE) : semE Φ (.idxO 9 k) (s0 :: s1 :: s2 :: s3 :: s4 :: s5 :: s6 :: s7 :: s8 :: .own ds :: ε) Q = semE Φ k (s0 :: s1 :: s2 :: s3 :: s4 :: s5 :: s6 :: s7 :: s8 :: .own ds :: ε) fun y => opIx (.lst ds) y Q := rfl
theorem yxv9 (Φ : Sm) (ε : List Slot) (Q : D → Prop) (s0 s1 s2 s3 s4 s5 s6 s7 s8 : Slot) (ds : List D) (k : CE) : semE Φ (.idxO 9 k) (s0 :: s1 :: s2 :: s3 :: s4 :: s5 :: s6 :: s7 :: s8 :: .val (.lst ds) :: ε) Q = semE Φ k (s0 :: s1 :: s2 :: s3 :: s4 :: s5 :: s6 :: s7 :: s8 :: .val (.lst ds) :: ε) fun y => opIx (.lst ds) y Q := rfl
theorem yldo9 (Φ : Sm) (ε : List Slot) (Q : D → Prop) (s0 s1 s2 s3 s4 s5 s6 s7 s8 : Slot) (ds : List D) (e : CE) : semE Φ (.lend 9 e) (s0 :: s1 :: s2 :: s3 :: s4 :: s5 :: s6 :: s7 :: s8 :: .own ds :: ε) Q = semE Φ e (s0 :: s1 :: s2 :: s3 :: s4 :: s5 :: s6 :: s7 :: s8 :: .val (.lst ds) :: ε) fun d => d.noL = true ∧ Q d := rfl
theorem yldv9 (Φ : Sm) (ε : List Slot) (Q : D → Prop) (s0 s1 s2 s3 s4 s5 s6 s7 s8 : Slot) (d : D) (e : CE) : semE Φ (.lend 9 e) (s0 :: s1 :: s2 :: s3 :: s4 :: s5 :: s6 :: s7 :: s8 :: .val d :: ε) Q = semE Φ e (s0 :: s1 :: s2 :: s3 :: s4 :: s5 :: s6 :: s7 :: s8 :: .val d :: ε) Q := rfl
theorem ynm9 (ε : List Slot) (K : List Slot → Prop) (s0 s1 s2 s3 s4 s5 s6 s7 s8 : Slot) (x : Slot) (d : D) : bindT (.nm 9) d (s0 :: s1 :: s2 :: s3 :: s4 :: s5 :: s6 :: s7 :: s8 :: x :: ε) K = K (s0 :: s1 :: s2 :: s3 :: s4 :: s5 :: s6 :: s7 :: s8 :: .val d :: ε) := rfl
theorem ywp9 (ε : List Slot) (s0 s1 s2 s3 s4 s5 s6 s7 s8 : Slot) (x : Slot) : wipeE (s0 :: s1 :: s2 :: s3 :: s4 :: s5 :: s6 :: s7 :: s8 :: x :: ε) [9] = s0 :: s1 :: s2 :: s3 :: s4 :: s5 :: s6 :: s7 :: s8 :: .non :: ε := rfl
theorem yow9 (Φ : Sm) (E : DEnds) (ε : List Slot) (s0 s1 s2 s3 s4 s5 s6 s7 s8 : Slot) (x : Slot) (e : CE) : semS Φ (.own 9 e) E (s0 :: s1 :: s2 :: s3 :: s4 :: s5 :: s6 :: s7 :: s8 :: x :: ε) = semE Φ e (s0 :: s1 :: s2 :: s3 :: s4 :: s5 :: s6 :: s7 :: s8 :: x :: ε) fun d => ownQ d fun ds => E.nx (s0 :: s1 :: s2 :: s3 :: s4 :: s5 :: s6 :: s7 :: s8 :: .own ds :: ε) := rfl
theorem yap9 (Φ : Sm) (E : DEnds) (ε : List Slot) (s0 s1 s2 s3 s4 s5 s6 s7 s8 : Slot) (ds : List D) (e : CE) : semS Φ (.app 9 e) E (s0 :: s1 :: s2 :: s3 :: s4 :: s5 :: s6 :: s7 :: s8 :: .own ds :: ε) = semE Φ e (s0 :: s1 :: s2 :: s3 :: s4 :: s5 :: s6 :: s7 :: s8 :: .own ds :: ε) fun v => ds.length < sizeLine ∧ E.nx (s0 :: s1 :: s2 :: s3 :: s4 :: s5 :: s6 :: s7 :: s8 :: .own (ds ++ [v]) :: ε) := rfl
theorem yrv9 (Φ : Sm) (E : DEnds) (ε : List Slot) (s0 s1 s2 s3 s4 s5 s6 s7 s8 : Slot) (ds : List D) : semS Φ (.rev 9) E (s0 :: s1 :: s2 :: s3 :: s4 :: s5 :: s6 :: s7 :: s8 :: .own ds :: ε) = E.nx (s0 :: s1 :: s2 :: s3 :: s4 :: s5 :: s6 :: s7 :: s8 :: .own ds.reverse :: ε) := rfl
theorem ysi9 (Φ : Sm) (E : DEnds) (ε : List Slot) (s0 s1 s2 s3 s4 s5 s6 s7 s8 : Slot) (ds : List D) (k e : CE) : semS Φ (.setIx 9 k e) E (s0 :: s1 :: s2 :: s3 :: s4 :: s5 :: s6 :: s7 :: s8 :: .own ds :: ε) = semE Φ e (s0 :: s1 :: s2 :: s3 :: s4 :: s5 :: s6 :: s7 :: s8 :: .own ds :: ε) fun v => semE Φ k (s0 :: s1 :: s2 :: s3 :: s4 :: s5 :: s6 :: s7 :: s8 :: .own ds :: ε) fun y => setQ ds v y fun ds' => E.nx (s0 :: s1 :: s2 :: s3 :: s4 :: s5 :: s6 :: s7 :: s8 :: .own ds' :: ε) := rfl
theorem yau9 (Φ : Sm) (E : DEnds) (ε : List Slot) (s0 s1 s2 s3 s4 s5 s6 s7 s8 : Slot) (n : Int) (o : O2) (e : CE) : semS Φ (.aug 9 o e) E (s0 :: s1 :: s2 :: s3 :: s4 :: s5 :: s6 :: s7 :: s8 :: .val (.int n) :: ε) = semE Φ e (s0 :: s1 :: s2 :: s3 :: s4 :: s5 :: s6 :: s7 :: s8 :: .val (.int n) :: ε) fun y => op2 o (.int n) y fun z => E.nx (s0 :: s1 :: s2 :: s3 :: s4 :: s5 :: s6 :: s7 :: s8 :: .val z :: ε) := rfl
theorem ypo9 (Φ : Sm) (E : DEnds) (ε : List Slot) (s0 s1 s2 s3 s4 s5 s6 s7 s8 : Slot) (ds : List D) : semS Φ (.pop 9) E (s0 :: s1 :: s2 :: s3 :: s4 :: s5 :: s6 :: s7 :: s8 :: .own ds :: ε) = (0 < ds.length ∧ E.nx (s0 :: s1 :: s2 :: s3 :: s4 :: s5 :: s6 :: s7 :: s8 :: .own ds.dropLast :: ε)) := rfl
theorem yro9 (Φ : Sm) (E : DEnds) (ε : List Slot) (s0 s1 s2 s3 s4 s5 s6 s7 s8 : Slot) (ds : List D) : semS Φ (.retO 9) E (s0 :: s1 :: s2 :: s3 :: s4 :: s5 :: s6 :: s7 :: s8 :: .own ds :: ε) = E.rt (.own ds) := rfl
theorem yfo9 (Φ : Sm) (E : DEnds) (ε : List Slot) (s0 s1 s2 s3 s4 s5 s6 s7 s8 : Slot) (ds : List D) (r : CSs) : semSs Φ (.frz 9 r) E (s0 :: s1 :: s2 :: s3 :: s4 :: s5 :: s6 :: s7 :: s8 :: .own ds :: ε) = semSs Φ r E (s0 :: s1 :: s2 :: s3 :: s4 :: s5 :: s6 :: s7 :: s8 :: .val (.lst ds) :: ε) := rfl
theorem yfv9 (Φ : Sm) (E : DEnds) (ε : List Slot) (s0 s1 s2 s3 s4 s5 s6 s7 s8 : Slot) (d : D) (r : CSs) : semSs Φ (.frz 9 r) E (s0 :: s1 :: s2 :: s3 :: s4 :: s5 :: s6 :: s7 :: s8 :: .val d :: ε) = semSs Φ r E (s0 :: s1 :: s2 :: s3 :: s4 :: s5 :: s6 :: s7 :: s8 :: .val d :: ε) := rfl
theorem yop9 (Φ : Sm) (E : DEnds) (ε : List Slot) (s0 s1 s2 s3 s4 s5 s6 s7 s8 : Slot) (ds : List D) (r : CSs) : semSs Φ (.opn 9 r) E (s0 :: s1 :: s2 :: s3 :: s4 :: s5 :: s6 :: s7 :: s8 :: .own ds :: ε) = ((∃ ns : List Int, ds = ns.map D.int ∧ ∀ n ∈ ns, 0 ≤ n) ∧ semSs Φ r E (s0 :: s1 :: s2 :: s3 :: s4 :: s5 :: s6 :: s7 :: s8 :: .val (.opq 0) :: ε)) := rfl
theorem yv10 (Φ : Sm) (ε : List Slot) (Q : D → Prop) (s0 s1 s2 s3 s4 s5 s6 s7 s8 s9 : Slot) (d : D) : semE Φ (.var 10) (s0 :: s1 :: s2 :: s3 :: s4 :: s5 :: s6 :: s7 :: s8 :: s9 :: .val d :: ε) Q = Q d := rfl
theorem ylo10 (Φ : Sm) (ε : List Slot) (Q : D → Prop) (s0 s1 s2 s3 s4 s5 s6 s7 s8 s9 : Slot) (ds : List D) : semE Φ (.lenO 10) (s0 :: s1 :: s2 :: s3 :: s4 :: s5 :: s6 :: s7 :: s8 :: s9 :: .own ds :: ε) Q = Q (.int ds.length) := rfl
theorem ylv10 (Φ : Sm) (ε : List Slot) (Q : D → Prop) (s0 s1 s2 s3 s4 s5 s6 s7 s8 s9 : Slot) (ds : List D) : semE Φ (.lenO 10) (s0 :: s1 :: s2 :: s3 :: s4 :: s5 :: s6 :: s7 :: s8 :: s9 :: .val (.lst ds) :: ε) Q = Q (.int ds.length) := rfl
theorem yxo10 (Φ : Sm) (ε : List Slot) (Q : D → Prop) (s0 s1 s2 s3 s4 s5 s6 s7 s8 s9 : Slot) (ds : List D) (k : CE) : semE Φ (.idxO 10 k) (s0 :: s1 :: s2 :: s3 :: s4 :: s5 :: s6 :: s7 :: s8 :: s9 :: .own ds :: ε) Q = semE Φ k (s0 :: s1 :: s2 :: s3 :: s4 :: s5 :: s6 :: s7 :: s8 :: s9 :: .own ds :: ε) fun y => opIx (.lst ds) y Q := rfl
theorem yxv10 (Φ : Sm) (ε : List Slot) (Q : D → Prop) (s0 s1 s2 s3 s4 s5 s6 s7 s8 s9 : Slot) (ds : List D) (k : CE) : semE Φ (.idxO 10 k) (s0 :: s1 :: s2 :: s3 :: s4 :: s5 :: s6 :: s7 :: s8 :: s9 :: .val (.lst ds) :: ε) Q = semE Φ k (s0 :: s1 :: s2 :: s3 :: s4 :: s5 :: s6 :: s7 :: s8 :: s9 :: .val (.lst ds) :: ε) fun y => opIx (.lst ds) y Q := rfl
theorem yldo10 (Φ : Sm) (ε : List Slot) (Q : D → Prop) (s0 s1 s2 s3 s4 s5 s6 s7 s8 s9 : Slot) (ds : List D) (e : CE) : semE Φ (.lend 10 e) (s0 :: s1 :: s2 :: s3 :: s4 :: s5 :: s6 :: s7 :: s8 :: s9 :: .own ds :: ε) Q = semE Φ e (s0 :: s1 :: s2 :: s3 :: s4 :: s5 :: s6 :: s7 :: s8 :: s9 :: .val (.lst ds) :: ε) fun d => d.noL = true ∧ Q d := rfl
theorem yldv10 (Φ : Sm) (ε : List Slot) (Q : D → Prop) (s0 s1 s2 s3 s4 s5 s6 s7 s8 s9 : Slot) (d : D) (e : CE) : semE Φ (.lend 10 e) (s0 :: s1 :: s2 :: s3 :: s4 :: s5 :: s6 :: s7 :: s8 :: s9 :: .val d :: ε) Q = semE Φ e (s0 :: s1 :: s2 :: s3 :: s4 :: s5 :: s6 :: s7 :: s8 :: s9 :: .val d :: ε) Q := rfl
theorem ynm10 (ε : List Slot) (K : List Slot → Prop) (s0 s1 s2 s3 s4 s5 s6 s7 s8 s9 : Slot) (x : Slot) (d : D) : bindT (.nm 10) d (s0 :: s1 :: s2 :: s3 :: s4 :: s5 :: s6 :: s7 :: s8 :: s9 :: x :: ε) K = K (s0 :: s1 :: s2 :: s3 :: s4 :: s5 :: s6 :: s7 :: s8 :: s9 :: .val d :: ε) := rfl
theorem ywp10 (ε : List Slot) (s0 s1 s2 s3 s4 s5 s6 s7 s8 s9 : Slot) (x : Slot) : wipeE (s0 :: s1 :: s2 :: s3 :: s4 :: s5 :: s6 :: s7 :: s8 :: s9 :: x :: ε) [10] = s0 :: s1 :: s2 :: s3 :: s4 :: s5 :: s6 :: s7 :: s8 :: s9 :: .non :: ε := rfl
theorem yow10 (Φ : Sm) (E : DEnds) (ε : List Slot) (s0 s1 s2 s3 s4 s5 s6 s7 s8 s9 : Slot) (x : Slot) (e : CE) : semS Φ (.own 10 e) E (s0 :: s1 :: s2 :: s3 :: s4 :: s5 :: s6 :: s7 :: s8 :: s9 :: x :: ε) = semE Φ e (s0 :: s1 :: s2 :: s3 :: s4 :: s5 :: s6 :: s7 :: s8 :: s9 :: x :: ε) fun d => ownQ d fun ds => E.nx (s0 :: s1 :: s2 :: s3 :: s4 :: s5 :: s6 :: s7 :: s8 :: s9 :: .own ds :: ε) := rfl
theorem yap10 (Φ : Sm) (E : DEnds) (ε : List Slot) (s0 s1 s2 s3 s4 s5 s6 s7 s8 s9 : Slot) (ds : List D) (e : CE) : semS Φ (.app 10 e) E (s0 :: s1 :: s2 :: s3 :: s4 :: s5 :: s6 :: s7 :: s8 :: s9 :: .own ds :: ε) = semE Φ e (s0 :: s1 :: s2 :: s3 :: s4 :: s5 :: s6 :: s7 :: s8 :: s9 :: .own ds :: ε) fun v => ds.length < sizeLine ∧ E.nx (s0 :: s1 :: s2 :: s3 :: s4 :: s5 :: s6 :: s7 :: s8 :: s9 :: .own (ds ++ [v]) :: ε) := rfl
theorem yrv10 (Φ : Sm) (E : DEnds) (ε : List Slot) (s0 s1 s2 s3 s4 s5 s6 s7 s8 s9 : Slot) (ds : List D) : semS Φ (.rev 10) E (s0 :: s1 :: s2 :: s3 :: s4 :: s5 :: s6 :: s7 :: s8 :: s9 :: .own ds :: ε) = E.nx (s0 :: s1 :: s2 :: s3 :: s4 :: s5 :: s6 :: s7 :: s8 :: s9 :: .own ds.reverse :: ε) := rfl
theorem ysi10 (Φ : Sm) (E : DEnds) (ε : List Slot) (s0 s1 s2 s3 s4 s5 s6 s7 s8 s9 : Slot) (ds : List D) (k e : CE) : semS Φ (.setIx 10 k e) E (s0 :: s1 :: s2 :: s3 :: s4 :: s5 :: s6 :: s7 :: s8 :: s9 :: .own ds :: ε) = semE Φ e (s0 :: s1 :: s2 :: s3 :: s4 :: s5 :: s6 :: s7 :: s8 :: s9 :: .own ds :: ε) fun v => semE Φ k (s0 :: s1 :: s2 :: s3 :: s4 :: s5 :: s6 :: s7 :: s8 :: s9 :: .own ds :: ε) fun y => setQ ds v y fun ds' => E.nx (s0 :: s1 :: s2 :: s3 :: s4 :: s5 :: s6 :: s7 :: s8 :: s9 :: .own ds' :: ε) := rfl
theorem yau10 (Φ : Sm) (E : DEnds) (ε : List Slot) (s0 s1 s2 s3 s4 s5 s6 s7 s8 s9 : Slot) (n : Int) (o : O2) (e : CE) : semS Φ (.aug 10 o e) E (s0 :: s1 :: s2 :: s3 :: s4 :: s5 :: s6 :: s7 :: s8 :: s9 :: .val (.int n) :: ε) = semE Φ e (s0 :: s1 :: s2 :: s3 :: s4 :: s5 :: s6 :: s7 :: s8 :: s9 :: .val (.int n) :: ε) fun y => op2 o (.int n) y fun z => E.nx (s0 :: s1 :: s2 :: s3 :: s4 :: s5 :: s6 :: s7 :: s8 :: s9 :: .val z :: ε) := rfl
theorem ypo10 (Φ : Sm) (E : DEnds) (ε : List Slot) (s0 s1 s2 s3 s4 s5 s6 s7 s8 s9 : Slot) (ds : List D) : semS Φ (.pop 10) E (s0 :: s1 :: s2 :: s3 :: s4 :: s5 :: s6 :: s7 :: s8 :: s9 :: .own ds :: ε) = (0 < ds.length ∧ E.nx (s0 :: s1 :: s2 :: s3 :: s4 :: s5 :: s6 :: s7 :: s8 :: s9 :: .own ds.dropLast :: ε)) := rfl
theorem yro10 (Φ : Sm) (E : DEnds) (ε : List Slot) (s0 s1 s2 s3 s4 s5 s6 s7 s8 s9 : Slot) (ds : List D) : semS Φ (.retO 10) E (s0 :: s1 :: s2 :: s3 :: s4 :: s5 :: s6 :: s7 :: s8 :: s9 :: .own ds :: ε) = E.rt (.own ds) := rfl
theorem yfo10 (Φ : Sm) (E : DEnds) (ε : List Slot) (s0 s1 s2 s3 s4 s5 s6 s7 s8 s9 : Slot) (ds : List D) (r : CSs) : semSs Φ (.frz 10 r) E (s0 :: s1 :: s2 :: s3 :: s4 :: s5 :: s6 :: s7 :: s8 :: s9 :: .own ds :: ε) = semSs Φ r E (s0 :: s1 :: s2 :: s3 :: s4 :: s5 :: s6 :: s7 :: s8 :: s9 :: .val (.lst ds) :: ε) := rfl
theorem yfv10 (Φ : Sm) (E : DEnds) (ε : List Slot) (s0 s1 s2 s3 s4 s5 s6 s7 s8 s9 : Slot) (d : D) (r : CSs) : semSs Φ (.frz 10 r) E (s0 :: s1 :: s2 :: s3 :: s4 :: s5 :: s6 :: s7 :: s8 :: s9 :: .val d :: ε) = semSs Φ r E (s0 :: s1 :: s2 :: s3 :: s4 :: s5 :: s6 :: s7 :: s8 :: s9 :: .val d :: ε) := rfl
theorem yop10 (Φ : Sm) (E : DEnds) (ε : List Slot) (s0 s1 s2 s3 s4 s5 s6 s7 s8 s9 : Slot) (ds : List D) (r : CSs) : semSs Φ (.opn 10 r) E (s0 :: s1 :: s2 :: s3 :: s4 :: s5 :: s6 :: s7 :: s8 :: s9 :: .own ds :: ε) = ((∃ ns : List Int, ds = ns.map D.int ∧ ∀ n ∈ ns, 0 ≤ n) ∧ semSs Φ r E (s0 :: s1 :: s2 :: s3 :: s4 :: s5 :: s6 :: s7 :: s8 :: s9 :: .val (.opq 0) :: ε)) := rfl
theorem yv11 (Φ : Sm) (ε : List Slot) (Q : D → Prop) (s0 s1 s2 s3 s4 s5 s6 s7 s8 s9 s10 : Slot) (d : D) : semE Φ (.var 11) (s0 :: s1 :: s2 :: s3 :: s4 :: s5 :: s6 :: s7 :: s8 :: s9 :: s10 :: .val d :: ε) Q = Q d := rfl
theorem ylo11 (Φ : Sm) (ε : List Slot) (Q : D → Prop) (s0 s1 s2 s3 s4 s5 s6 s7 s8 s9 s10 : Slot) (ds : List D) : semE Φ (.lenO 11) (s0 :: s1 :: s2 :: s3 :: s4 :: s5 :: s6 :: s7 :: s8 :: s9 :: s10 :: .own ds :: ε) Q = Q (.int ds.length) := rfl
theorem ylv11 (Φ : Sm) (ε : List Slot) (Q : D → Prop) (s0 s1 s2 s3 s4 s5 s6 s7 s8 s9 s10 : Slot) (ds : List D) : semE Φ (.lenO 11) (s0 :: s1 :: s2 :: s3 :: s4 :: s5 :: s6 :: s7 :: s8 :: s9 :: s10 :: .val (.lst ds) :: ε) Q = Q (.int ds.length) := rfl
theorem yxo11 (Φ : Sm) (ε : List Slot) (Q : D → Prop) (s0 s1 s2 s3 s4 s5 s6 s7 s8 s9 s10 : Slot) (ds : List D) (k : CE) : semE Φ (.idxO 11 k) (s0 :: s1 :: s2 :: s3 :: s4 :: s5 :: s6 :: s7 :: s8 :: s9 :: s10 :: .own ds :: ε) Q = semE Φ k (s0 :: s1 :: s2 :: s3 :: s4 :: s5 :: s6 :: s7 :: s8 :: s9 :: s10 :: .own ds :: ε) fun y => opIx (.lst ds) y Q := rfl
theorem yxv11 (Φ : Sm) (ε : List Slot) (Q : D → Prop) (s0 s1 s2 s3 s4 s5 s6 s7 s8 s9 s10 : Slot) (ds : List D) (k : CE) : semE Φ (.idxO 11 k) (s0 :: s1 :: s2 :: s3 :: s4 :: s5 :: s6 :: s7 :: s8 :: s9 :: s10 :: .val (.lst ds) :: ε) Q = semE Φ k (s0 :: s1 :: s2 :: s3 :: s4 :: s5 :: s6 :: s7 :: s8 :: s9 :: s10 :: .val (.lst ds) :: ε) fun y => opIx (.lst ds) y Q := rfl
theorem yldo11 (Φ : Sm) (ε : List Slot) (Q : D → Prop) (s0 s1 s2 s3 s4 s5 s6 s7 s8 s9 s10 : Slot) (ds : List D) (e : CE) : semE Φ (.lend 11 e) (s0 :: s1 :: s2 :: s3 :: s4 :: s5 :: s6 :: s7 :: s8 :: s9 :: s10 :: .own ds :: ε) Q = semE Φ e (s0 :: s1 :: s2 :: s3 :: s4 :: s5 :: s6 :: s7 :: s8 :: s9 :: s10 :: .val (.lst ds) :: ε) fun d => d.noL = true ∧ Q d := rfl
theorem yldv11 (Φ : Sm) (ε : List Slot) (Q : D → Prop) (s0 s1 s2 s3 s4 s5 s6 s7 s8 s9 s10 : Slot) (d : D) (e : CE) : semE Φ (.lend 11 e) (s0 :: s1 :: s2 :: s3 :: s4 :: s5 :: s6 :: s7 :: s8 :: s9 :: s10 :: .val d :: ε) Q = semE Φ e (s0 :: s1 :: s2 :: s3 :: s4 :: s5 :: s6 :: s7 :: s8 :: s9 :: s10 :: .val d :: ε) Q := rfl
theorem ynm11 (ε : List Slot) (K : List Slot → Prop) (s0 s1 s2 s3 s4 s5 s6 s7 s8 s9 s10 : Slot) (x : Slot) (d : D) : bindT (.nm 11) d (s0 :: s1 :: s2 :: s3 :: s4 :: s5 :: s6 :: s7 :: s8 :: s9 :: s10 :: x :: ε) K = K (s0 :: s1 :: s2 :: s3 :: s4 :: s5 :: s6 :: s7 :: s8 :: s9 :: s10 :: .val d :: ε) := rfl
theorem ywp11 (ε : List Slot) (s0 s1 s2 s3 s4 s5 s6 s7 s8 s9 s10 : Slot) (x : Slot) : wipeE (s0 :: s1 :: s2 :: s3 :: s4 :: s5 :: s6 :: s7 :: s8 :: s9 :: s10 :: x :: ε) [11] = s0 :: s1 :: s2 :: s3 :: s4 :: s5 :: s6 :: s7 :: s8 :: s9 :: s10 :: .non :: ε := rfl
theorem yow11 (Φ : Sm) (E : DEnds) (ε : List Slot) (s0 s1 s2 s3 s4 s5 s6 s7 s8 s9 s10 : Slot) (x : Slot) (e : CE) : semS Φ (.own 11 e) E (s0 :: s1 :: s2 :: s3 :: s4 :: s5 :: s6 :: s7 :: s8 :: s9 :: s10 :: x :: ε) = semE Φ e (s0 :: s1 :: s2 :: s3 :: s4 :: s5 :: s6 :: s7 :: s8 :: s9 :: s10 :: x :: ε) fun d => ownQ d fun ds => E.nx (s0 :: s1 :: s2 :: s3 :: s4 :: s5 :: s6 :: s7 :: s8 :: s9 :: s10 :: .own ds :: ε) := rfl
theorem yap11 (Φ : Sm) (E : DEnds) (ε : List Slot) (s0 s1 s2 s3 s4 s5 s6 s7 s8 s9 s10 : Slot) (ds : List D) (e : CE) : semS Φ (.app 11 e) E (s0 :: s1 :: s2 :: s3 :: s4 :: s5 :: s6 :: s7 :: s8 :: s9 :: s10 :: .own ds :: ε) = semE Φ e (s0 :: s1 :: s2 :: s3 :: s4 :: s5 :: s6 :: s7 :: s8 :: s9 :: s10 :: .own ds :: ε) fun v => ds.length < sizeLine ∧ E.nx (s0 :: s1 :: s2 :: s3 :: s4 :: s5 :: s6 :: s7 :: s8 :: s9 :: s10 :: .own (ds ++ [v]) :: ε) := rfl
theorem yrv11 (Φ : Sm) (E : DEnds) (ε : List Slot) (s0 s1 s2 s3 s4 s5 s6 s7 s8 s9 s10 : Slot) (ds : List D) : semS Φ (.rev 11) E (s0 :: s1 :: s2 :: s3 :: s4 :: s5 :: s6 :: s7 :: s8 :: s9 :: s10 :: .own ds :: ε) = E.nx (s0 :: s1 :: s2 :: s3 :: s4 :: s5 :: s6 :: s7 :: s8 :: s9 :: s10 :: .own ds.reverse :: ε) := rfl
theorem ysi11 (Φ : Sm) (E : DEnds) (ε : List Slot) (s0 s1 s2 s3 s4 s5 s6 s7 s8 s9 s10 : Slot) (ds : List D) (k e : CE) : semS Φ (.setIx 11 k e) E (s0 :: s1 :: s2 :: s3 :: s4 :: s5 :: s6 :: s7 :: s8 :: s9 :: s10 :: .own ds :: ε) = semE Φ e (s0 :: s1 :: s2 :: s3 :: s4 :: s5 :: s6 :: s7 :: s8 :: s9 :: s10 :: .own ds :: ε) fun v => semE Φ k (s0 :: s1 :: s2 :: s3 :: s4 :: s5 :: s6 :: s7 :: s8 :: s9 :: s10 :: .own ds :: ε) fun y => setQ ds v y fun ds' => E.nx (s0 :: s1 :: s2 :: s3 :: s4 :: s5 :: s6 :: s7 :: s8 :: s9 :: s10 :: .own ds' :: ε) := rfl
theorem yau11 (Φ : Sm) (E : DEnds) (ε : List Slot) (s0 s1 s2 s3 s4 s5 s6 s7 s8 s9 s10 : Slot) (n : Int) (o : O2) (e : CE) : semS Φ (.aug 11 o e) E (s0 :: s1 :: s2 :: s3 :: s4 :: s5 :: s6 :: s7 :: s8 :: s9 :: s10 :: .val (.int n) :: ε) = semE Φ e (s0 :: s1 :: s2 :: s3 :: s4 :: s5 :: s6 :: s7 :: s8 :: s9 :: s10 :: .val (.int n) :: ε) fun y => op2 o (.int n) y fun z => E.nx (s0 :: s1 :: s2 :: s3 :: s4 :: s5 :: s6 :: s7 :: s8 :: s9 :: s10 :: .val z :: ε) := rfl
theorem ypo11 (Φ : Sm) (E : DEnds) (ε : List Slot) (s0 s1 s2 s3 s4 s5 s6 s7 s8 s9 s10 : Slot) (ds : List D) : semS Φ (.pop 11) E (s0 :: s1 :: s2 :: s3 :: s4 :: s5 :: s6 :: s7 :: s8 :: s9 :: s10 :: .own ds :: ε) = (0 < ds.length ∧ E.nx (s0 :: s1 :: s2 :: s3 :: s4 :: s5 :: s6 :: s7 :: s8 :: s9 :: s10 :: .own ds.dropLast :: ε)) := rfl
theorem yro11 (Φ : Sm) (E : DEnds) (ε : List Slot) (s0 s1 s2 s3 s4 s5 s6 s7 s8 s9 s10 : Slot) (ds : List D) : semS Φ (.retO 11) E (s0 :: s1 :: s2 :: s3 :: s4 :: s5 :: s6 :: s7 :: s8 :: s9 :: s10 :: .own ds :: ε) = E.rt (.own ds) := rfl
theorem yfo11 (Φ : Sm) (E : DEnds) (ε : List Slot) (s0 s1 s2 s3 s4 s5 s6 s7 s8 s9 s10 : Slot) (ds : List D) (r : CSs) : semSs Φ (.frz 11 r) E (s0 :: s1 :: s2 :: s3 :: s4 :: s5 :: s6 :: s7 :: s8 :: s9 :: s10 :: .own ds :: ε) = semSs Φ r E (s0 :: s1 :: s2 :: s3 :: s4 :: s5 :: s6 :: s7 :: s8 :: s9 :: s10 :: .val (.lst ds) :: ε) := rfl
theorem yfv11 (Φ : Sm) (E : DEnds) (ε : List Slot) (s0 s1 s2 s3 s4 s5 s6 s7 s8 s9 s10 : Slot) (d : D) (r : CSs) : semSs Φ (.frz 11 r) E (s0 :: s1 :: s2 :: s3 :: s4 :: s5 :: s6 :: s7 :: s8 :: s9 :: s10 :: .val d :: ε) = semSs Φ r E (s0 :: s1 :: s2 :: s3 :: s4 :: s5 :: s6 :: s7 :: s8 :: s9 :: s10 :: .val d :: ε) := rfl
theorem yop11 (Φ : Sm) (E : DEnds) (ε : List Slot) (s0 s1 s2 s3 s4 s5 s6 s7 s8 s9 s10 : Slot) (ds : List D) (r : CSs) : semSs Φ (.opn 11 r) E (s0 :: s1 :: s2 :: s3 :: s4 :: s5 :: s6 :: s7 :: s8 :: s9 :: s10 :: .own ds :: ε) = ((∃ ns : List Int, ds = ns.map D.int ∧ ∀ n ∈ ns, 0 ≤ n) ∧ semSs Φ r E (s0 :: s1 :: s2 :: s3 :: s4 :: s5 :: s6 :: s7 :: s8 :: s9 :: s10 :: .val (.opq 0) :: ε)) := rfl
theorem yv12 (Φ : Sm) (ε : List Slot) (Q : D → Prop) (s0 s1 s2 s3 s4 s5 s6 s7 s8 s9 s10 s11 : Slot) (d : D) : semE Φ (.var 12) (s0 :: s1 :: s2 :: s3 :: s4 :: s5 :: s6 :: s7 :: s8 :: s9 :: s10 :: s11 :: .val d :: ε) Q = Q d := rfl
theorem ylo12 (Φ : Sm) (ε : List Slot) (Q : D → Prop) (s0 s1 s2 s3 s4 s5 s6 s7 s8 s9 s10 s11 : Slot) (ds : List D) : semE Φ (.lenO 12) (s0 :: s1 :: s2 :: s3 :: s4 :: s5 :: s6 :: s7 :: s8 :: s9 :: s10 :: s11 :: .own ds :: ε) Q = Q (.int ds.length) := rfl
theorem ylv12 (Φ : Sm) (ε : List Slot) (Q : D → Prop) (s0 s1 s2 s3 s4 s5 s6 s7 s8 s9 s10 s11 : Slot) (ds : List D) : semE Φ (.lenO 12) (s0 :: s1 :: s2 :: s3 :: s4 :: s5 :: s6 :: s7 :: s8 :: s9 :: s10 :: s11 :: .val (.lst ds) :: ε) Q = Q (.int ds.length) := rfl
theorem yxo12 (Φ : Sm) (ε : List Slot) (Q : D → Prop) (s0 s1 s2 s3 s4 s5 s6 s7 s8 s9 s10 s11 : Slot) (ds : List D) (k : CE) : semE Φ (.idxO 12 k) (s0 :: s1 :: s2 :: s3 :: s4 :: s5 :: s6 :: s7 :: s8 :: s9 :: s10 :: s11 :: .own ds :: ε) Q = semE Φ k (s0 :: s1 :: s2 :: s3 :: s4 :: s5 :: s6 :: s7 :: s8 :: s9 :: s10 :: s11 :: .own ds :: ε) fun y => opIx (.lst ds) y Q := rfl
theorem yxv12 (Φ : Sm) (ε : List Slot) (Q : D → Prop) (s0 s1 s2 s3 s4 s5 s6 s7 s8 s9 s10 s11 : Slot) (ds : List D) (k : CE) : semE Φ (.idxO 12 k) (s0 :: s1 :: s2 :: s3 :: s4 :: s5 :: s6 :: s7 :: s8 :: s9 :: s10 :: s11 :: .val (.lst ds) :: ε) Q = semE Φ k (s0 :: s1 :: s2 :: s3 :: s4 :: s5 :: s6 :: s7 :: s8 :: s9 :: s10 :: s11 :: .val (.lst ds) :: ε) fun y => opIx (.lst ds) y Q := rfl
theorem yldo12 (Φ : Sm) (ε : List Slot) (Q : D → Prop) (s0 s1 s2 s3 s4 s5 s6 s7 s8 s9 s10 s11 : Slot) (ds : List D) (e : CE) : semE Φ (.lend 12 e) (s0 :: s1 :: s2 :: s3 :: s4 :: s5 :: s6 :: s7 :: s8 :: s9 :: s10 :: s11 :: .own ds :: ε) Q = semE Φ e (s0 :: s1 :: s2 :: s3 :: s4 :: s5 :: s6 :: s7 :: s8 :: s9 :: s10 :: s11 :: .val (.lst ds) :: ε) fun d => d.noL = true ∧ Q d := rfl
theorem yldv12 (Φ : Sm) (ε : List Slot) (Q : D → Prop) (s0 s1 s2 s3 s4 s5 s6 s7 s8 s9 s10 s11 : Slot) (d : D) (e : CE) : semE Φ (.lend 12 e) (s0 :: s1 :: s2 :: s3 :: s4 :: s5 :: s6 :: s7 :: s8 :: s9 :: s10 :: s11 :: .val d :: ε) Q = semE Φ e (s0 :: s1 :: s2 :: s3 :: s4 :: s5 :: s6 :: s7 :: s8 :: s9 :: s10 :: s11 :: .val d :: ε) Q := rfl
theorem ynm12 (ε : List Slot) (K : List Slot → Prop) (s0 s1 s2 s3 s4 s5 s6 s7 s8 s9 s10 s11 : Slot) (x : Slot) (d : D) : bindT (.nm 12) d (s0 :: s1 :: s2 :: s3 :: s4 :: s5 :: s6 :: s7 :: s8 :: s9 :: s10 :: s11 :: x :: ε) K = K (s0 :: s1 :: s2 :: s3 :: s4 :: s5 :: s6 :: s7 :: s8 :: s9 :: s10 :: s11 :: .val d :: ε) := rfl
theorem ywp12 (ε : List Slot) (s0 s1 s2 s3 s4 s5 s6 s7 s8 s9 s10 s11 : Slot) (x : Slot) : wipeE (s0 :: s1 :: s2 :: s3 :: s4 :: s5 :: s6 :: s7 :: s8 :: s9 :: s10 :: s11 :: x :: ε) [12] = s0 :: s1 :: s2 :: s3 :: s4 :: s5 :: s6 :: s7 :: s8 :: s9 :: s10 :: s11 :: .non :: ε := rfl
theorem yow12 (Φ : Sm) (E : DEnds) (ε : List Slot) (s0 s1 s2 s3 s4 s5 s6 s7 s8 s9 s10 s11 : Slot) (x : Slot) (e : CE) : semS Φ (.own 12 e) E (s0 :: s1 :: s2 :: s3 :: s4 :: s5 :: s6 :: s7 :: s8 :: s9 :: s10 :: s11 :: x :: ε) = semE Φ e (s0 :: s1 :: s2 :: s3 :: s4 :: s5 :: s6 :: s7 :: s8 :: s9 :: s10 :: s11 :: x :: ε) fun d => ownQ d fun ds => E.nx (s0 :: s1 :: s2 :: s3 :: s4 :: s5 :: s6 :: s7 :: s8 :: s9 :: s10 :: s11 :: .own ds :: ε) := rfl
theorem yap12 (Φ : Sm) (E : DEnds) (ε : List Slot) (s0 s1 s2 s3 s4 s5 s6 s7 s8 s9 s10 s11 : Slot) (ds : List D) (e : CE) : semS Φ (.app 12 e) E (s0 :: s1 :: s2 :: s3 :: s4 :: s5 :: s6 :: s7 :: s8 :: s9 :: s10 :: s11 :: .own ds :: ε) = semE Φ e (s0 :: s1 :: s2 :: s3 :: s4 :: s5 :: s6 :: s7 :: s8 :: s9 :: s10 :: s11 :: .own ds :: ε) fun v => ds.length < sizeLine ∧ E.nx (s0 :: s1 :: s2 :: s3 :: s4 :: s5 :: s6 :: s7 :: s8 :: s9 :: s10 :: s11 :: .own (ds ++ [v]) :: ε) := rfl
theorem yrv12 (Φ : Sm) (E : DEnds) (ε : List Slot) (s0 s1 s2 s3 s4 s5 s6 s7 s8 s9 s10 s11 : Slot) (ds : List D) : semS Φ (.rev 12) E (s0 :: s1 :: s2 :: s3 :: s4 :: s5 :: s6 :: s7 :: s8 :: s9 :: s10 :: s11 :: .own ds :: ε) = E.nx (s0 :: s1 :: s2 :: s3 :: s4 :: s5 :: s6 :: s7 :: s8 :: s9 :: s10 :: s11 :: .own ds.reverse :: ε) := rfl
theorem ysi12 (Φ : Sm) (E : DEnds) (ε : List Slot) (s0 s1 s2 s3 s4 s5 s6 s7 s8 s9 s10 s11 : Slot) (ds : List D) (k e : CE) : semS Φ (.setIx 12 k e) E (s0 :: s1 :: s2 :: s3 :: s4 :: s5 :: s6 :: s7 :: s8 :: s9 :: s10 :: s11 :: .own ds :: ε) = semE Φ e (s0 :: s1 :: s2 :: s3 :: s4 :: s5 :: s6 :: s7 :: s8 :: s9 :: s10 :: s11 :: .own ds :: ε) fun v => semE Φ k (s0 :: s1 :: s2 :: s3 :: s4 :: s5 :: s6 :: s7 :: s8 :: s9 :: s10 :: s11 :: .own ds :: ε) fun y => setQ ds v y fun ds' => E.nx (s0 :: s1 :: s2 :: s3 :: s4 :: s5 :: s6 :: s7 :: s8 :: s9 :: s10 :: s11 :: .own ds' :: ε) := rfl
theorem yau12 (Φ : Sm) (E : DEnds) (ε : List Slot) (s0 s1 s2 s3 s4 s5 s6 s7 s8 s9 s10 s11 : Slot) (n : Int) (o : O2) (e : CE) : semS Φ (.aug 12 o e) E (s0 :: s1 :: s2 :: s3 :: s4 :: s5 :: s6 :: s7 :: s8 :: s9 :: s10 :: s11 :: .val (.int n) :: ε) = semE Φ e (s0 :: s1 :: s2 :: s3 :: s4 :: s5 :: s6 :: s7 :: s8 :: s9 :: s10 :: s11 :: .val (.int n) :: ε) fun y => op2 o (.int n) y fun z => E.nx (s0 :: s1 :: s2 :: s3 :: s4 :: s5 :: s6 :: s7 :: s8 :: s9 :: s10 :: s11 :: .val z :: ε) := rfl
theorem ypo12 (Φ : Sm) (E : DEnds) (ε : List Slot) (s0 s1 s2 s3 s4 s5 s6 s7 s8 s9 s10 s11 : Slot) (ds : List D) : semS Φ (.pop 12) E (s0 :: s1 :: s2 :: s3 :: s4 :: s5 :: s6 :: s7 :: s8 :: s9 :: s10 :: s11 :: .own ds :: ε) = (0 < ds.length ∧ E.nx (s0 :: s1 :: s2 :: s3 :: s4 :: s5 :: s6 :: s7 :: s8 :: s9 :: s10 :: s11 :: .own ds.dropLast :: ε)) := rfl
theorem yro12 (Φ : Sm) (E : DEnds) (ε : List Slot) (s0 s1 s2 s3 s4 s5 s6 s7 s8 s9 s10 s11 : Slot) (ds : List D) : semS Φ (.retO 12) E (s0 :: s1 :: s2 :: s3 :: s4 :: s5 :: s6 :: s7 :: s8 :: s9 :: s10 :: s11 :: .own ds :: ε) = E.rt (.own ds) := rfl
theorem yfo12 (Φ : Sm) (E : DEnds) (ε : List Slot) (s0 s1 s2 s3 s4 s5 s6 s7 s8 s9 s10 s11 : Slot) (ds : List D) (r : CSs) : semSs Φ (.frz 12 r) E (s0 :: s1 :: s2 :: s3 :: s4 :: s5 :: s6 :: s7 :: s8 :: s9 :: s10 :: s11 :: .own ds :: ε) = semSs Φ r E (s0 :: s1 :: s2 :: s3 :: s4 :: s5 :: s6 :: s7 :: s8 :: s9 :: s10 :: s11 :: .val (.lst ds) :: ε) := rfl
theorem yfv12 (Φ : Sm) (E : DEnds) (ε : List Slot) (s0 s1 s2 s3 s4 s5 s6 s7 s8 s9 s10 s11 : Slot) (d : D) (r : CSs) : semSs Φ (.frz 12 r) E (s0 :: s1 :: s2 :: s3 :: s4 :: s5 :: s6 :: s7 :: s8 :: s9 :: s10 :: s11 :: .val d :: ε) = semSs Φ r E (s0 :: s1 :: s2 :: s3 :: s4 :: s5 :: s6 :: s7 :: s8 :: s9 :: s10 :: s11 :: .val d :: ε) := rfl
theorem yop12 (Φ : Sm) (E : DEnds) (ε : List Slot) (s0 s1 s2 s3 s4 s5 s6 s7 s8 s9 s10 s11 : Slot) (ds : List D) (r : CSs) : semSs Φ (.opn 12 r) E (s0 :: s1 :: s2 :: s3 :: s4 :: s5 :: s6 :: s7 :: s8 :: s9 :: s10 :: s11 :: .own ds :: ε) = ((∃ ns : List Int, ds = ns.map D.int ∧ ∀ n ∈ ns, 0 ≤ n) ∧ semSs Φ r E (s0 :: s1 :: s2 :: s3 :: s4 :: s5 :: s6 :: s7 :: s8 :: s9 :: s10 :: s11 :: .val (.opq 0) :: ε)) := rfl
theorem yv13 (Φ : Sm) (ε : List Slot) (Q : D → Prop) (s0 s1 s2 s3 s4 s5 s6 s7 s8 s9 s10 s11 s12 : Slot) (d : D) : semE Φ (.var 13) (s0 :: s1 :: s2 :: s3 :: s4 :: s5 :: s6 :: s7 :: s8 :: s9 :: s10 :: s11 :: s12 :: .val d :: ε) Q = Q d := rfl
theorem ylo13 (Φ : Sm) (ε : List Slot) (Q : D → Prop) (s0 s1 s2 s3 s4 s5 s6 s7 s8 s9 s10 s11 s12 : Slot) (ds : List D) : semE Φ (.lenO 13) (s0 :: s1 :: s2 :: s3 :: s4 :: s5 :: s6 :: s7 :: s8 :: s9 :: s10 :: s11 :: s12 :: .own ds :: ε) Q = Q (.int ds.length) := rfl
theorem ylv13 (Φ : Sm) (ε : List Slot) (Q : D → Prop) (s0 s1 s2 s3 s4 s5 s6 s7 s8 s9 s10 s11 s12 : Slot) (ds : List D) : semE Φ (.lenO 13) (s0 :: s1 :: s2 :: s3 :: s4 :: s5 :: s6 :: s7 :: s8 :: s9 :: s10 :: s11 :: s12 :: .val (.lst ds) :: ε) Q = Q (.int ds.length) := rfl
theorem yxo13 (Φ : Sm) (ε : List Slot) (Q : D → Prop) (s0 s1 s2 s3 s4 s5 s6 s7 s8 s9 s10 s11 s12 : Slot) (ds : List D) (k : CE) : semE Φ (.idxO 13 k) (s0 :: s1 :: s2 :: s3 :: s4 :: s5 :: s6 :: s7 :: s8 :: s9 :: s10 :: s11 :: s12 :: .own ds :: ε) Q = semE Φ k (s0 :: s1 :: s2 :: s3 :: s4 :: s5 :: s6 :: s7 :: s8 :: s9 :: s10 :: s11 :: s12 :: .own ds :: ε) fun y => opIx (.lst ds) y Q := rfl
theorem yxv13 (Φ : Sm) (ε : List Slot) (Q : D → Prop) (s0 s1 s2 s3 s4 s5 s6 s7 s8 s9 s10 s11 s12 : Slot) (ds : List D) (k : CE) : semE Φ (.idxO 13 k) (s0 :: s1 :: s2 :: s3 :: s4 :: s5 :: s6 :: s7 :: s8 :: s9 :: s10 :: s11 :: s12 :: .val (.lst ds) :: ε) Q = semE Φ k (s0 :: s1 :: s2 :: s3 :: s4 :: s5 :: s6 :: s7 :: s8 :: s9 :: s10 :: s11 :: s12 :: .val (.lst ds) :: ε) fun y => opIx (.lst ds) y Q := rfl
theorem yldo13 (Φ : Sm) (ε : List Slot) (Q : D → Prop) (s0 s1 s2 s3 s4 s5 s6 s7 s8 s9 s10 s11 s12 : Slot) (ds : List D) (e : CE) : semE Φ (.lend 13 e) (s0 :: s1 :: s2 :: s3 :: s4 :: s5 :: s6 :: s7 :: s8 :: s9 :: s10 :: s11 :: s12 :: .own ds :: ε) Q = semE Φ e (s0 :: s1 :: s2 :: s3 :: s4 :: s5 :: s6 :: s7 :: s8 :: s9 :: s10 :: s11 :: s12 :: .val (.lst ds) :: ε) fun d => d.noL = true ∧ Q d := rfl
theorem yldv13 (Φ : Sm) (ε : List Slot) (Q : D → Prop) (s0 s1 s2 s3 s4 s5 s6 s7 s8 s9 s10 s11 s12 : Slot) (d : D) (e : CE) : semE Φ (.lend 13 e) (s0 :: s1 :: s2 :: s3 :: s4 :: s5 :: s6 :: s7 :: s8 :: s9 :: s10 :: s11 :: s12 :: .val d :: ε) Q = semE Φ e (s0 :: s1 :: s2 :: s3 :: s4 :: s5 :: s6 :: s7 :: s8 :: s9 :: s10 :: s11 :: s12 :: .val d :: ε) Q := rfl
theorem ynm13 (ε : List Slot) (K : List Slot → Prop) (s0 s1 s2 s3 s4 s5 s6 s7 s8 s9 s10 s11 s12 : Slot) (x : Slot) (d : D) : bindT (.nm 13) d (s0 :: s1 :: s2 :: s3 :: s4 :: s5 :: s6 :: s7 :: s8 :: s9 :: s10 :: s11 :: s12 :: x :: ε) K = K (s0 :: s1 :: s2 :: s3 :: s4 :: s5 :: s6 :: s7 :: s8 :: s9 :: s10 :: s11 :: s12 :: .val d :: ε) := rfl
theorem ywp13 (ε : List Slot) (s0 s1 s2 s3 s4 s5 s6 s7 s8 s9 s10 s11 s12 : Slot) (x : Slot) : wipeE (s0 :: s1 :: s2 :: s3 :: s4 :: s5 :: s6 :: s7 :: s8 :: s9 :: s10 :: s11 :: s12 :: x :: ε) [13] = s0 :: s1 :: s2 :: s3 :: s4 :: s5 :: s6 :: s7 :: s8 :: s9 :: s10 :: s11 :: s12 :: .non :: ε := rfl
theorem yow13 (Φ : Sm) (E : DEnds) (ε : List Slot) (s0 s1 s2 s3 s4 s5 s6 s7 s8 s9 s10 s11 s12 : Slot) (x : Slot) (e : CE) : semS Φ (.own 13 e) E (s0 :: s1 :: s2 :: s3 :: s4 :: s5 :: s6 :: s7 :: s8 :: s9 :: s10 :: s11 :: s12 :: x :: ε) = semE Φ e (s0 :: s1 :: s2 :: s3 :: s4 :: s5 :: s6 :: s7 :: s8 :: s9 :: s10 :: s11 :: s12 :: x :: ε) fun d => ownQ d fun ds => E.nx (s0 :: s1 :: s2 :: s3 :: s4 :: s5 :: s6 :: s7 :: s8 :: s9 :: s10 :: s11 :: s12 :: .own ds :: ε) := rfl
theorem yap13 (Φ : Sm) (E : DEnds) (ε : List Slot) (s0 s1 s2 s3 s4 s5 s6 s7 s8 s9 s10 s11 s12 : Slot) (ds : List D) (e : CE) : semS Φ (.app 13 e) E (s0 :: s1 :: s2 :: s3 :: s4 :: s5 :: s6 :: s7 :: s8 :: s9 :: s10 :: s11 :: s12 :: .own ds :: ε) = semE Φ e (s0 :: s1 :: s2 :: s3 :: s4 :: s5 :: s6 :: s7 :: s8 :: s9 :: s10 :: s11 :: s12 :: .own ds :: ε) fun v => ds.length < sizeLine ∧ E.nx (s0 :: s1 :: s2 :: s3 :: s4 :: s5 :: s6 :: s7 :: s8 :: s9 :: s10 :: s11 :: s12 :: .own (ds ++ [v]) :: ε) := rfl
theorem yrv13 (Φ : Sm) (E : DEnds) (ε : List Slot) (s0 s1 s2 s3 s4 s5 s6 s7 s8 s9 s10 s11 s12 : Slot) (ds : List D) : semS Φ (.rev 13) E (s0 :: s1 :: s2 :: s3 :: s4 :: s5 :: s6 :: s7 :: s8 :: s9 :: s10 :: s11 :: s12 :: .own ds :: ε) = E.nx (s0 :: s1 :: s2 :: s3 :: s4 :: s5 :: s6 :: s7 :: s8 :: s9 :: s10 :: s11 :: s12 :: .own ds.reverse :: ε) := rfl
theorem ysi13 (Φ : Sm) (E : DEnds) (ε : List Slot) (s0 s1 s2 s3 s4 s5 s6 s7 s8 s9 s10 s11 s12 : Slot) (ds : List D) (k e : CE) : semS Φ (.setIx 13 k e) E (s0 :: s1 :: s2 :: s3 :: s4 :: s5 :: s6 :: s7 :: s8 :: s9 :: s10 :: s11 :: s12 :: .own ds :: ε) = semE Φ e (s0 :: s1 :: s2 :: s3 :: s4 :: s5 :: s6 :: s7 :: s8 :: s9 :: s10 :: s11 :: s12 :: .own ds :: ε) fun v => semE Φ k (s0 :: s1 :: s2 :: s3 :: s4 :: s5 :: s6 :: s7 :: s8 :: s9 :: s10 :: s11 :: s12 :: .own ds :: ε) fun y => setQ ds v y fun ds' => E.nx (s0 :: s1 :: s2 :: s3 :: s4 :: s5 :: s6 :: s7 :: s8 :: s9 :: s10 :: s11 :: s12 :: .own ds' :: ε) := rfl
theorem yau13 (Φ : Sm) (E : DEnds) (ε : List Slot) (s0 s1 s2 s3 s4 s5 s6 s7 s8 s9 s10 s11 s12 : Slot) (n : Int) (o : O2) (e : CE) : semS Φ (.aug 13 o e) E (s0 :: s1 :: s2 :: s3 :: s4 :: s5 :: s6 :: s7 :: s8 :: s9 :: s10 :: s11 :: s12 :: .val (.int n) :: ε) = semE Φ e (s0 :: s1 :: s2 :: s3 :: s4 :: s5 :: s6 :: s7 :: s8 :: s9 :: s10 :: s11 :: s12 :: .val (.int n) :: ε) fun y => op2 o (.int n) y fun z => E.nx (s0 :: s1 :: s2 :: s3 :: s4 :: s5 :: s6 :: s7 :: s8 :: s9 :: s10 :: s11 :: s12 :: .val z :: ε) := rfl
theorem ypo13 (Φ : Sm) (E : DEnds) (ε : List Slot) (s0 s1 s2 s3 s4 s5 s6 s7 s8 s9 s10 s11 s12 : Slot) (ds : List D) : semS Φ (.pop 13) E (s0 :: s1 :: s2 :: s3 :: s4 :: s5 :: s6 :: s7 :: s8 :: s9 :: s10 :: s11 :: s12 :: .own ds :: ε) = (0 < ds.length ∧ E.nx (s0 :: s1 :: s2 :: s3 :: s4 :: s5 :: s6 :: s7 :: s8 :: s9 :: s10 :: s11 :: s12 :: .own ds.dropLast :: ε)) := rfl
theorem yro13 (Φ : Sm) (E : DEnds) (ε : List Slot) (s0 s1 s2 s3 s4 s5 s6 s7 s8 s9 s10 s11 s12 : Slot) (ds : List D) : semS Φ (.retO 13) E (s0 :: s1 :: s2 :: s3 :: s4 :: s5 :: s6 :: s7 :: s8 :: s9 :: s10 :: s11 :: s12 :: .own ds :: ε) = E.rt (.own ds) := rfl
theorem yfo13 (Φ : Sm) (E : DEnds) (ε : List Slot) (s0 s1 s2 s3 s4 s5 s6 s7 s8 s9 s10 s11 s12 : Slot) (ds : List D) (r : CSs) : semSs Φ (.frz 13 r) E (s0 :: s1 :: s2 :: s3 :: s4 :: s5 :: s6 :: s7 :: s8 :: s9 :: s10 :: s11 :: s12 :: .own ds :: ε) = semSs Φ r E (s0 :: s1 :: s2 :: s3 :: s4 :: s5 :: s6 :: s7 :: s8 :: s9 :: s10 :: s11 :: s12 :: .val (.lst ds) :: ε) := rfl
theorem yfv13 (Φ : Sm) (E : DEnds) (ε : List Slot) (s0 s1 s2 s3 s4 s5 s6 s7 s8 s9 s10 s11 s12 : Slot) (d : D) (r : CSs) : semSs Φ (.frz 13 r) E (s0 :: s1 :: s2 :: s3 :: s4 :: s5 :: s6 :: s7 :: s8 :: s9 :: s10 :: s11 :: s12 :: .val d :: ε) = semSs Φ r E (s0 :: s1 :: s2 :: s3 :: s4 :: s5 :: s6 :: s7 :: s8 :: s9 :: s10 :: s11 :: s12 :: .val d :: ε) := rfl
theorem yop13 (Φ : Sm) (E : DEnds) (ε : List Slot) (s0 s1 s2 s3 s4 s5 s6 s7 s8 s9 s10 s11 s12 : Slot) (ds : List D) (r : CSs) : semSs Φ (.opn 13 r) E (s0 :: s1 :: s2 :: s3 :: s4 :: s5 :: s6 :: s7 :: s8 :: s9 :: s10 :: s11 :: s12 :: .own ds :: ε) = ((∃ ns : List Int, ds = ns.map D.int ∧ ∀ n ∈ ns, 0 ≤ n) ∧ semSs Φ r E (s0 :: s1 :: s2 :: s3 :: s4 :: s5 :: s6 :: s7 :: s8 :: s9 :: s10 :: s11 :: s12 :: .val (.opq 0) :: ε)) := rfl
theorem yv14 (Φ : Sm) (ε : List Slot) (Q : D → Prop) (s0 s1 s2 s3 s4 s5 s6 s7 s8 s9 s10 s11 s12 s13 : Slot) (d : D) : semE Φ (.var 14) (s0 :: s1 :: s2 :: s3 :: s4 :: s5 :: s6 :: s7 :: s8 :: s9 :: s10 :: s11 :: s12 :: s13 :: .val d :: ε) Q = Q d := rfl
theorem ylo14 (Φ : Sm) (ε : List Slot) (Q : D → Prop) (s0 s1 s2 s3 s4 s5 s6 s7 s8 s9 s10 s11 s12 s13 : Slot) (ds : List D) : semE Φ (.lenO 14) (s0 :: s1 :: s2 :: s3 :: s4 :: s5 :: s6 :: s7 :: s8 :: s9 :: s10 :: s11 :: s12 :: s13 :: .own ds :: ε) Q = Q (.int ds.length) := rfl
theorem ylv14 (Φ : Sm) (ε : List Slot) (Q : D → Prop) (s0 s1 s2 s3 s4 s5 s6 s7 s8 s9 s10 s11 s12 s13 : Slot) (ds : List D) : semE Φ (.lenO 14) (s0 :: s1 :: s2 :: s3 :: s4 :: s5 :: s6 :: s7 :: s8 :: s9 :: s10 :: s11 :: s12 :: s13 :: .val (.lst ds) :: ε) Q = Q (.int ds.length) := rfl
theorem yxo14 (Φ : Sm) (ε : List Slot) (Q : D → Prop) (s0 s1 s2 s3 s4 s5 s6 s7 s8 s9 s10 s11 s12 s13 : Slot) (ds : List D) (k : CE) : semE Φ (.idxO 14 k) (s0 :: s1 :: s2 :: s3 :: s4 :: s5 :: s6 :: s7 :: s8 :: s9 :: s10 :: s11 :: s12 :: s13 :: .own ds :: ε) Q = semE Φ k (s0 :: s1 :: s2 :: s3 :: s4 :: s5 :: s6 :: s7 :: s8 :: s9 :: s10 :: s11 :: s12 :: s13 :: .own ds :: ε) fun y => opIx (.lst ds) y Q := rfl
theorem yxv14 (Φ : Sm) (ε : List Slot) (Q : D → Prop) (s0 s1 s2 s3 s4 s5 s6 s7 s8 s9 s10 s11 s12 s13 : Slot) (ds : List D) (k : CE) : semE Φ (.idxO 14 k) (s0 :: s1 :: s2 :: s3 :: s4 :: s5 :: s6 :: s7 :: s8 :: s9 :: s10 :: s11 :: s12 :: s13 :: .val (.lst ds) :: ε) Q = semE Φ k (s0 :: s1 :: s2 :: s3 :: s4 :: s5 :: s6 :: s7 :: s8 :: s9 :: s10 :: s11 :: s12 :: s13 :: .val (.lst ds) :: ε) fun y => opIx (.lst ds) y Q := rfl
theorem yldo14 (Φ : Sm) (ε : List Slot) (Q : D → Prop) (s0 s1 s2 s3 s4 s5 s6 s7 s8 s9 s10 s11 s12 s13 : Slot) (ds : List D) (e : CE) : semE Φ (.lend 14 e) (s0 :: s1 :: s2 :: s3 :: s4 :: s5 :: s6 :: s7 :: s8 :: s9 :: s10 :: s11 :: s12 :: s13 :: .own ds :: ε) Q = semE Φ e (s0 :: s1 :: s2 :: s3 :: s4 :: s5 :: s6 :: s7 :: s8 :: s9 :: s10 :: s11 :: s12 :: s13 :: .val (.lst ds) :: ε) fun d => d.noL = true ∧ Q d := rfl
theorem yldv14 (Φ : Sm) (ε : List Slot) (Q : D → Prop) (s0 s1 s2 s3 s4 s5 s6 s7 s8 s9 s10 s11 s12 s13 : Slot) (d : D) (e : CE) : semE Φ (.lend 14 e) (s0 :: s1 :: s2 :: s3 :: s4 :: s5 :: s6 :: s7 :: s8 :: s9 :: s10 :: s11 :: s12 :: s13 :: .val d :: ε) Q = semE Φ e (s0 :: s1 :: s2 :: s3 :: s4 :: s5 :: s6 :: s7 :: s8 :: s9 :: s10 :: s11 :: s12 :: s13 :: .val d :: ε) Q := rfl
theorem ynm14 (ε : List Slot) (K : List Slot → Prop) (s0 s1 s2 s3 s4 s5 s6 s7 s8 s9 s10 s11 s12 s13 : Slot) (x : Slot) (d : D) : bindT (.nm 14) d (s0 :: s1 :: s2 :: s3 :: s4 :: s5 :: s6 :: s7 :: s8 :: s9 :: s10 :: s11 :: s12 :: s13 :: x :: ε) K = K (s0 :: s1 :: s2 :: s3 :: s4 :: s5 :: s6 :: s7 :: s8 :: s9 :: s10 :: s11 :: s12 :: s13 :: .val d :: ε) := rfl
theorem ywp14 (ε : List Slot) (s0 s1 s2 s3 s4 s5 s6 s7 s8 s9 s10 s11 s12 s13 : Slot) (x : Slot) : wipeE (s0 :: s1 :: s2 :: s3 :: s4 :: s5 :: s6 :: s7 :: s8 :: s9 :: s10 :: s11 :: s12 :: s13 :: x :: ε) [14] = s0 :: s1 :: s2 :: s3 :: s4 :: s5 :: s6 :: s7 :: s8 :: s9 :: s10 :: s11 :: s12 :: s13 :: .non :: ε := rfl
theorem yow14 (Φ : Sm) (E : DEnds) (ε : List Slot) (s0 s1 s2 s3 s4 s5 s6 s7 s8 s9 s10 s11 s12 s13 : Slot) (x : Slot) (e : CE) : semS Φ (.own 14 e) E (s0 :: s1 :: s2 :: s3 :: s4 :: s5 :: s6 :: s7 :: s8 :: s9 :: s10 :: s11 :: s12 :: s13 :: x :: ε) = semE Φ e (s0 :: s1 :: s2 :: s3 :: s4 :: s5 :: s6 :: s7 :: s8 :: s9 :: s10 :: s11 :: s12 :: s13 :: x :: ε) fun d => ownQ d fun ds => E.nx (s0 :: s1 :: s2 :: s3 :: s4 :: s5 :: s6 :: s7 :: s8 :: s9 :: s10 :: s11 :: s12 :: s13 :: .own ds :: ε) := rfl
theorem yap14 (Φ : Sm) (E : DEnds) (ε : List Slot) (s0 s1 s2 s3 s4 s5 s6 s7 s8 s9 s10 s11 s12 s13 : Slot) (ds : List D) (e : CE) : semS Φ (.app 14 e) E (s0 :: s1 :: s2 :: s3 :: s4 :: s5 :: s6 :: s7 :: s8 :: s9 :: s10 :: s11 :: s12 :: s13 :: .own ds :: ε) = semE Φ e (s0 :: s1 :: s2 :: s3 :: s4 :: s5 :: s6 :: s7 :: s8 :: s9 :: s10 :: s11 :: s12 :: s13 :: .own ds :: ε) fun v => ds.length < sizeLine ∧ E.nx (s0 :: s1 :: s2 :: s3 :: s4 :: s5 :: s6 :: s7 :: s8 :: s9 :: s10 :: s11 :: s12 :: s13 :: .own (ds ++ [v]) :: ε) := rfl
theorem yrv14 (Φ : Sm) (E : DEnds) (ε : List Slot) (s0 s1 s2 s3 s4 s5 s6 s7 s8 s9 s10 s11 s12 s13 : Slot) (ds : List D) : semS Φ (.rev 14) E (s0 :: s1 :: s2 :: s3 :: s4 :: s5 :: s6 :: s7 :: s8 :: s9 :: s10 :: s11 :: s12 :: s13 :: .own ds :: ε) = E.nx (s0 :: s1 :: s2 :: s3 :: s4 :: s5 :: s6 :: s7 :: s8 :: s9 :: s10 :: s11 :: s12 :: s13 :: .own ds.reverse :: ε) := rfl
theorem ysi14 (Φ : Sm) (E : DEnds) (ε : List Slot) (s0 s1 s2 s3 s4 s5 s6 s7 s8 s9 s10 s11 s12 s13 : Slot) (ds : List D) (k e : CE) : semS Φ (.setIx 14 k e) E (s0 :: s1 :: s2 :: s3 :: s4 :: s5 :: s6 :: s7 :: s8 :: s9 :: s10 :: s11 :: s12 :: s13 :: .own ds :: ε) = semE Φ e (s0 :: s1 :: s2 :: s3 :: s4 :: s5 :: s6 :: s7 :: s8 :: s9 :: s10 :: s11 :: s12 :: s13 :: .own ds :: ε) fun v => semE Φ k (s0 :: s1 :: s2 :: s3 :: s4 :: s5 :: s6 :: s7 :: s8 :: s9 :: s10 :: s11 :: s12 :: s13 :: .own ds :: ε) fun y => setQ ds v y fun ds' => E.nx (s0 :: s1 :: s2 :: s3 :: s4 :: s5 :: s6 :: s7 :: s8 :: s9 :: s10 :: s11 :: s12 :: s13 :: .own ds' :: ε) := rfl
theorem yau14 (Φ : Sm) (E : DEnds) (ε : List Slot) (s0 s1 s2 s3 s4 s5 s6 s7 s8 s9 s10 s11 s12 s13 : Slot) (n : Int) (o : O2) (e : CE) : semS Φ (.aug 14 o e) E (s0 :: s1 :: s2 :: s3 :: s4 :: s5 :: s6 :: s7 :: s8 :: s9 :: s10 :: s11 :: s12 :: s13 :: .val (.int n) :: ε) = semE Φ e (s0 :: s1 :: s2 :: s3 :: s4 :: s5 :: s6 :: s7 :: s8 :: s9 :: s10 :: s11 :: s12 :: s13 :: .val (.int n) :: ε) fun y => op2 o (.int n) y fun z => E.nx (s0 :: s1 :: s2 :: s3 :: s4 :: s5 :: s6 :: s7 :: s8 :: s9 :: s10 :: s11 :: s12 :: s13 :: .val z :: ε) := rfl
theorem ypo14 (Φ : Sm) (E : DEnds) (ε : List Slot) (s0 s1 s2 s3 s4 s5 s6 s7 s8 s9 s10 s11 s12 s13 : Slot) (ds : List D) : semS Φ (.pop 14) E (s0 :: s1 :: s2 :: s3 :: s4 :: s5 :: s6 :: s7 :: s8 :: s9 :: s10 :: s11 :: s12 :: s13 :: .own ds :: ε) = (0 < ds.length ∧ E.nx (s0 :: s1 :: s2 :: s3 :: s4 :: s5 :: s6 :: s7 :: s8 :: s9 :: s10 :: s11 :: s12 :: s13 :: .own ds.dropLast :: ε)) := rfl
theorem yro14 (Φ : Sm) (E : DEnds) (ε : List Slot) (s0 s1 s2 s3 s4 s5 s6 s7 s8 s9 s10 s11 s12 s13 : Slot) (ds : List D) : semS Φ (.retO 14) E (s0 :: s1 :: s2 :: s3 :: s4 :: s5 :: s6 :: s7 :: s8 :: s9 :: s10 :: s11 :: s12 :: s13 :: .own ds :: ε) = E.rt (.own ds) := rfl
theorem yfo14 (Φ : Sm) (E : DEnds) (ε : List Slot) (s0 s1 s2 s3 s4 s5 s6 s7 s8 s9 s10 s11 s12 s13 : Slot) (ds : List D) (r : CSs) : semSs Φ (.frz 14 r) E (s0 :: s1 :: s2 :: s3 :: s4 :: s5 :: s6 :: s7 :: s8 :: s9 :: s10 :: s11 :: s12 :: s13 :: .own ds :: ε) = semSs Φ r E (s0 :: s1 :: s2 :: s3 :: s4 :: s5 :: s6 :: s7 :: s8 :: s9 :: s10 :: s11 :: s12 :: s13 :: .val (.lst ds) :: ε) := rfl
theorem yfv14 (Φ : Sm) (E : DEnds) (ε : List Slot) (s0 s1 s2 s3 s4 s5 s6 s7 s8 s9 s10 s11 s12 s13 : Slot) (d : D) (r : CSs) : semSs Φ (.frz 14 r) E (s0 :: s1 :: s2 :: s3 :: s4 :: s5 :: s6 :: s7 :: s8 :: s9 :: s10 :: s11 :: s12 :: s13 :: .val d :: ε) = semSs Φ r E (s0 :: s1 :: s2 :: s3 :: s4 :: s5 :: s6 :: s7 :: s8 :: s9 :: s10 :: s11 :: s12 :: s13 :: .val d :: ε) := rfl
theorem yop14 (Φ : Sm) (E : DEnds) (ε : List Slot) (s0 s1 s2 s3 s4 s5 s6 s7 s8 s9 s10 s11 s12 s13 : Slot) (ds : List D) (r : CSs) : semSs Φ (.opn 14 r) E (s0 :: s1 :: s2 :: s3 :: s4 :: s5 :: s6 :: s7 :: s8 :: s9 :: s10 :: s11 :: s12 :: s13 :: .own ds :: ε) = ((∃ ns : List Int, ds = ns.map D.int ∧ ∀ n ∈ ns, 0 ≤ n) ∧ semSs Φ r E (s0 :: s1 :: s2 :: s3 :: s4 :: s5 :: s6 :: s7 :: s8 :: s9 :: s10 :: s11 :: s12 :: s13 :: .val (.opq 0) :: ε)) := rfl
theorem yv15 (Φ : Sm) (ε : List Slot) (Q : D → Prop) (s0 s1 s2 s3 s4 s5 s6 s7 s8 s9 s10 s11 s12 s13 s14 : Slot) (d : D) : semE Φ (.var 15) (s0 :: s1 :: s2 :: s3 :: s4 :: s5 :: s6 :: s7 :: s8 :: s9 :: s10 :: s11 :: s12 :: s13 :: s14 :: .val d :: ε) Q = Q d := rfl
theorem ylo15 (Φ : Sm) (ε : List Slot) (Q : D → Prop) (s0 s1 s2 s3 s4 s5 s6 s7 s8 s9 s10 s11 s12 s13 s14 : Slot) (ds : List D) : semE Φ (.lenO 15) (s0 :: s1 :: s2 :: s3 :: s4 :: s5 :: s6 :: s7 :: s8 :: s9 :: s10 :: s11 :: s12 :: s13 :: s14 :: .own ds :: ε) Q = Q (.int ds.length) := rfl
theorem ylv15 (Φ : Sm) (ε : List Slot) (Q : D → Prop) (s0 s1 s2 s3 s4 s5 s6 s7 s8 s9 s10 s11 s12 s13 s14 : Slot) (ds : List D) : semE Φ (.lenO 15) (s0 :: s1 :: s2 :: s3 :: s4 :: s5 :: s6 :: s7 :: s8 :: s9 :: s10 :: s11 :: s12 :: s13 :: s14 :: .val (.lst ds) :: ε) Q = Q (.int ds.length) := rfl
theorem yxo15 (Φ : Sm) (ε : List Slot) (Q : D → Prop) (s0 s1 s2 s3 s4 s5 s6 s7 s8 s9 s10 s11 s12 s13 s14 : Slot) (ds : List D) (k : CE) : semE Φ (.idxO 15 k) (s0 :: s1 :: s2 :: s3 :: s4 :: s5 :: s6 :: s7 :: s8 :: s9 :: s10 :: s11 :: s12 :: s13 :: s14 :: .own ds :: ε) Q = semE Φ k (s0 :: s1 :: s2 :: s3 :: s4 :: s5 :: s6 :: s7 :: s8 :: s9 :: s10 :: s11 :: s12 :: s13 :: s14 :: .own ds :: ε) fun y => opIx (.lst ds) y Q := rfl
theorem yxv15 (Φ : Sm) (ε : List Slot) (Q : D → Prop) (s0 s1 s2 s3 s4 s5 s6 s7 s8 s9 s10 s11 s12 s13 s14 : Slot) (ds : List D) (k : CE) : semE Φ (.idxO 15 k) (s0 :: s1 :: s2 :: s3 :: s4 :: s5 :: s6 :: s7 :: s8 :: s9 :: s10 :: s11 :: s12 :: s13 :: s14 :: .val (.lst ds) :: ε) Q = semE Φ k (s0 :: s1 :: s2 :: s3 :: s4 :: s5 :: s6 :: s7 :: s8 :: s9 :: s10 :: s11 :: s12 :: s13 :: s14 :: .val (.lst ds) :: ε) fun y => opIx (.lst ds) y Q := rfl
theorem yldo15 (Φ : Sm) (ε : List Slot) (Q : D → Prop) (s0 s1 s2 s3 s4 s5 s6 s7 s8 s9 s10 s11 s12 s13 s14 : Slot) (ds : List D) (e : CE) : semE Φ (.lend 15 e) (s0 :: s1 :: s2 :: s3 :: s4 :: s5 :: s6 :: s7 :: s8 :: s9 :: s10 :: s11 :: s12 :: s13 :: s14 :: .own ds :: ε) Q = semE Φ e (s0 :: s1 :: s2 :: s3 :: s4 :: s5 :: s6 :: s7 :: s8 :: s9 :: s10 :: s11 :: s12 :: s13 :: s14 :: .val (.lst ds) :: ε) fun d => d.noL = true ∧ Q d := rfl
theorem yldv15 (Φ : Sm) (ε : List Slot) (Q : D → Prop) (s0 s1 s2 s3 s4 s5 s6 s7 s8 s9 s10 s11 s12 s13 s14 : Slot) (d : D) (e : CE) : semE Φ (.lend 15 e) (s0 :: s1 :: s2 :: s3 :: s4 :: s5 :: s6 :: s7 :: s8 :: s9 :: s10 :: s11 :: s12 :: s13 :: s14 :: .val d :: ε) Q = semE Φ e (s0 :: s1 :: s2 :: s3 :: s4 :: s5 :: s6 :: s7 :: s8 :: s9 :: s10 :: s11 :: s12 :: s13 :: s14 :: .val d :: ε) Q := rfl
theorem ynm15 (ε : List Slot) (K : List Slot → Prop) (s0 s1 s2 s3 s4 s5 s6 s7 s8 s9 s10 s11 s12 s13 s14 : Slot) (x : Slot) (d : D) : bindT (.nm 15) d (s0 :: s1 :: s2 :: s3 :: s4 :: s5 :: s6 :: s7 :: s8 :: s9 :: s10 :: s11 :: s12 :: s13 :: s14 :: x :: ε) K = K (s0 :: s1 :: s2 :: s3 :: s4 :: s5 :: s6 :: s7 :: s8 :: s9 :: s10 :: s11 :: s12 :: s13 :: s14 :: .val d :: ε) := rfl
theorem ywp15 (ε : List Slot) (s0 s1 s2 s3 s4 s5 s6 s7 s8 s9 s10 s11 s12 s13 s14 : Slot) (x : Slot) : wipeE (s0 :: s1 :: s2 :: s3 :: s4 :: s5 :: s6 :: s7 :: s8 :: s9 :: s10 :: s11 :: s12 :: s13 :: s14 :: x :: ε) [15] = s0 :: s1 :: s2 :: s3 :: s4 :: s5 :: s6 :: s7 :: s8 :: s9 :: s10 :: s11 :: s12 :: s13 :: s14 :: .non :: ε := rfl
theorem yow15 (Φ : Sm) (E : DEnds) (ε : List Slot) (s0 s1 s2 s3 s4 s5 s6 s7 s8 s9 s10 s11 s12 s13 s14 : Slot) (x : Slot) (e : CE) : semS Φ (.own 15 e) E (s0 :: s1 :: s2 :: s3 :: s4 :: s5 :: s6 :: s7 :: s8 :: s9 :: s10 :: s11 :: s12 :: s13 :: s14 :: x :: ε) = semE Φ e (s0 :: s1 :: s2 :: s3 :: s4 :: s5 :: s6 :: s7 :: s8 :: s9 :: s10 :: s11 :: s12 :: s13 :: s14 :: x :: ε) fun d => ownQ d fun ds => E.nx (s0 :: s1 :: s2 :: s3 :: s4 :: s5 :: s6 :: s7 :: s8 :: s9 :: s10 :: s11 :: s12 :: s13 :: s14 :: .own ds :: ε) := rfl
theorem yap15 (Φ : Sm) (E : DEnds) (ε : List Slot) (s0 s1 s2 s3 s4 s5 s6 s7 s8 s9 s10 s11 s12 s13 s14 : Slot) (ds : List D) (e : CE) : semS Φ (.app 15 e) E (s0 :: s1 :: s2 :: s3 :: s4 :: s5 :: s6 :: s7 :: s8 :: s9 :: s10 :: s11 :: s12 :: s13 :: s14 :: .own ds :: ε) = semE Φ e (s0 :: s1 :: s2 :: s3 :: s4 :: s5 :: s6 :: s7 :: s8 :: s9 :: s10 :: s11 :: s12 :: s13 :: s14 :: .own ds :: ε) fun v => ds.length < sizeLine ∧ E.nx (s0 :: s1 :: s2 :: s3 :: s4 :: s5 :: s6 :: s7 :: s8 :: s9 :: s10 :: s11 :: s12 :: s13 :: s14 :: .own (ds ++ [v]) :: ε) := rfl
theorem yrv15 (Φ : Sm) (E : DEnds) (ε : List Slot) (s0 s1 s2 s3 s4 s5 s6 s7 s8 s9 s10 s11 s12 s13 s14 : Slot) (ds : List D) : semS Φ (.rev 15) E (s0 :: s1 :: s2 :: s3 :: s4 :: s5 :: s6 :: s7 :: s8 :: s9 :: s10 :: s11 :: s12 :: s13 :: s14 :: .own ds :: ε) = E.nx (s0 :: s1 :: s2 :: s3 :: s4 :: s5 :: s6 :: s7 :: s8 :: s9 :: s10 :: s11 :: s12 :: s13 :: s14 :: .own ds.reverse :: ε) := rfl
theorem ysi15 (Φ : Sm) (E : DEnds) (ε : List Slot) (s0 s1 s2 s3 s4 s5 s6 s7 s8 s9 s10 s11 s12 s13 s14 : Slot) (ds : List D) (k e : CE) : semS Φ (.setIx 15 k e) E (s0 :: s1 :: s2 :: s3 :: s4 :: s5 :: s6 :: s7 :: s8 :: s9 :: s10 :: s11 :: s12 :: s13 :: s14 :: .own ds :: ε) = semE Φ e (s0 :: s1 :: s2 :: s3 :: s4 :: s5 :: s6 :: s7 :: s8 :: s9 :: s10 :: s11 :: s12 :: s13 :: s14 :: .own ds :: ε) fun v => semE Φ k (s0 :: s1 :: s2 :: s3 :: s4 :: s5 :: s6 :: s7 :: s8 :: s9 :: s10 :: s11 :: s12 :: s13 :: s14 :: .own ds :: ε) fun y => setQ ds v y fun ds' => E.nx (s0 :: s1 :: s2 :: s3 :: s4 :: s5 :: s6 :: s7 :: s8 :: s9 :: s10 :: s11 :: s12 :: s13 :: s14 :: .own ds' :: ε) := rfl
theorem yau15 (Φ : Sm) (E : DEnds) (ε : List Slot) (s0 s1 s2 s3 s4 s5 s6 s7 s8 s9 s10 s11 s12 s13 s14 : Slot) (n : Int) (o : O2) (e : CE) : semS Φ (.aug 15 o e) E (s0 :: s1 :: s2 :: s3 :: s4 :: s5 :: s6 :: s7 :: s8 :: s9 :: s10 :: s11 :: s12 :: s13 :: s14 :: .val (.int n) :: ε) = semE Φ e (s0 :: s1 :: s2 :: s3 :: s4 :: s5 :: s6 :: s7 :: s8 :: s9 :: s10 :: s11 :: s12 :: s13 :: s14 :: .val (.int n) :: ε) fun y => op2 o (.int n) y fun z => E.nx (s0 :: s1 :: s2 :: s3 :: s4 :: s5 :: s6 :: s7 :: s8 :: s9 :: s10 :: s11 :: s12 :: s13 :: s14 :: .val z :: ε) := rfl
theorem ypo15 (Φ : Sm) (E : DEnds) (ε : List Slot) (s0 s1 s2 s3 s4 s5 s6 s7 s8 s9 s10 s11 s12 s13 s14 : Slot) (ds : List D) : semS Φ (.pop 15) E (s0 :: s1 :: s2 :: s3 :: s4 :: s5 :: s6 :: s7 :: s8 :: s9 :: s10 :: s11 :: s12 :: s13 :: s14 :: .own ds :: ε) = (0 < ds.length ∧ E.nx (s0 :: s1 :: s2 :: s3 :: s4 :: s5 :: s6 :: s7 :: s8 :: s9 :: s10 :: s11 :: s12 :: s13 :: s14 :: .own ds.dropLast :: ε)) := rfl
theorem yro15 (Φ : Sm) (E : DEnds) (ε : List Slot) (s0 s1 s2 s3 s4 s5 s6 s7 s8 s9 s10 s11 s12 s13 s14 : Slot) (ds : List D) : semS Φ (.retO 15) E (s0 :: s1 :: s2 :: s3 :: s4 :: s5 :: s6 :: s7 :: s8 :: s9 :: s10 :: s11 :: s12 :: s13 :: s14 :: .own ds :: ε) = E.rt (.own ds) := rfl
theorem yfo15 (Φ : Sm) (E : DEnds) (ε : List Slot) (s0 s1 s2 s3 s4 s5 s6 s7 s8 s9 s10 s11 s12 s13 s14 : Slot) (ds : List D) (r : CSs) : semSs Φ (.frz 15 r) E (s0 :: s1 :: s2 :: s3 :: s4 :: s5 :: s6 :: s7 :: s8 :: s9 :: s10 :: s11 :: s12 :: s13 :: s14 :: .own ds :: ε) = semSs Φ r E (s0 :: s1 :: s2 :: s3 :: s4 :: s5 :: s6 :: s7 :: s8 :: s9 :: s10 :: s11 :: s12 :: s13 :: s14 :: .val (.lst ds) :: ε) := rfl
theorem yfv15 (Φ : Sm) (E : DEnds) (ε : List Slot) (s0 s1 s2 s3 s4 s5 s6 s7 s8 s9 s10 s11 s12 s13 s14 : Slot) (d : D) (r : CSs) : semSs Φ (.frz 15 r) E (s0 :: s1 :: s2 :: s3 :: s4 :: s5 :: s6 :: s7 :: s8 :: s9 :: s10 :: s11 :: s12 :: s13 :: s14 :: .val d :: ε) = semSs Φ r E (s0 :: s1 :: s2 :: s3 :: s4 :: s5 :: s6 :: s7 :: s8 :: s9 :: s10 :: s11 :: s12 :: s13 :: s14 :: .val d :: ε) := rfl
theorem yop15 (Φ : Sm) (E : DEnds) (ε : List Slot) (s0 s1 s2 s3 s4 s5 s6 s7 s8 s9 s10 s11 s12 s13 s14 : Slot) (ds : List D) (r : CSs) : semSs Φ (.opn 15 r) E (s0 :: s1 :: s2 :: s3 :: s4 :: s5 :: s6 :: s7 :: s8 :: s9 :: s10 :: s11 :: s12 :: s13 :: s14 :: .own ds :: ε) = ((∃ ns : List Int, ds = ns.map D.int ∧ ∀ n ∈ ns, 0 ≤ n) ∧ semSs Φ r E (s0 :: s1 :: s2 :: s3 :: s4 :: s5 :: s6 :: s7 :: s8 :: s9 :: s10 :: s11 :: s12 :: s13 :: s14 :: .val (.opq 0) :: ε)) := rfl
theorem yv16 (Φ : Sm) (ε : List Slot) (Q : D → Prop) (s0 s1 s2 s3 s4 s5 s6 s7 s8 s9 s10 s11 s12 s13 s14 s15 : Slot) (d : D) : semE Φ (.var 16) (s0 :: s1 :: s2 :: s3 :: s4 :: s5 :: s6 :: s7 :: s8 :: s9 :: s10 :: s11 :: s12 :: s13 :: s14 :: s15 :: .val d :: ε) Q = Q d := rfl
theorem ylo16 (Φ : Sm) (ε : List Slot) (Q : D → Prop) (s0 s1 s2 s3 s4 s5 s6 s7 s8 s9 s10 s11 s12 s13 s14 s15 : Slot) (ds : List D) : semE Φ (.lenO 16) (s0 :: s1 :: s2 :: s3 :: s4 :: s5 :: s6 :: s7 :: s8 :: s9 :: s10 :: s11 :: s12 :: s13 :: s14 :: s15 :: .own ds :: ε) Q = Q (.int ds.length) := rfl
theorem ylv16 (Φ : Sm) (ε : List Slot) (Q : D → Prop) (s0 s1 s2 s3 s4 s5 s6 s7 s8 s9 s10 s11 s12 s13 s14 s15 : Slot) (ds : List D) : semE Φ (.lenO 16) (s0 :: s1 :: s2 :: s3 :: s4 :: s5 :: s6 :: s7 :: s8 :: s9 :: s10 :: s11 :: s12 :: s13 :: s14 :: s15 :: .val (.lst ds) :: ε) Q = Q (.int ds.length) := rfl
theorem yxo16 (Φ : Sm) (ε : List Slot) (Q : D → Prop) (s0 s1 s2 s3 s4 s5 s6 s7 s8 s9 s10 s11 s12 s13 s14 s15 : Slot) (ds : List D) (k : CE) : semE Φ (.idxO 16 k) (s0 :: s1 :: s2 :: s3 :: s4 :: s5 :: s6 :: s7 :: s8 :: s9 :: s10 :: s11 :: s12 :: s13 :: s14 :: s15 :: .own ds :: ε) Q = semE Φ k (s0 :: s1 :: s2 :: s3 :: s4 :: s5 :: s6 :: s7 :: s8 :: s9 :: s10 :: s11 :: s12 :: s13 :: s14 :: s15 :: .own ds :: ε) fun y => opIx (.lst ds) y Q := rfl
theorem yxv16 (Φ : Sm) (ε : List Slot) (Q : D → Prop) (s0 s1 s2 s3 s4 s5 s6 s7 s8 s9 s10 s11 s12 s13 s14 s15 : Slot) (ds : List D) (k : CE) : semE Φ (.idxO 16 k) (s0 :: s1 :: s2 :: s3 :: s4 :: s5 :: s6 :: s7 :: s8 :: s9 :: s10 :: s11 :: s12 :: s13 :: s14 :: s15 :: .val (.lst ds) :: ε) Q = semE Φ k (s0 :: s1 :: s2 :: s3 :: s4 :: s5 :: s6 :: s7 :: s8 :: s9 :: s10 :: s11 :: s12 :: s13 :: s14 :: s15 :: .val (.lst ds) :: ε) fun y => opIx (.lst ds) y Q := rfl
theorem yldo16 (Φ : Sm) (ε : List Slot) (Q : D → Prop) (s0 s1 s2 s3 s4 s5 s6 s7 s8 s9 s10 s11 s12 s13 s14 s15 : Slot) (ds : List D) (e : CE) : semE Φ (.lend 16 e) (s0 :: s1 :: s2 :: s3 :: s4 :: s5 :: s6 :: s7 :: s8 :: s9 :: s10 :: s11 :: s12 :: s13 :: s14 :: s15 :: .own ds :: ε) Q = semE Φ e (s0 :: s1 :: s2 :: s3 :: s4 :: s5 :: s6 :: s7 :: s8 :: s9 :: s10 :: s11 :: s12 :: s13 :: s14 :: s15 :: .val (.lst ds) :: ε) fun d => d.noL = true ∧ Q d := rfl
theorem yldv16 (Φ : Sm) (ε : List Slot) (Q : D → Prop) (s0 s1 s2 s3 s4 s5 s6 s7 s8 s9 s10 s11 s12 s13 s14 s15 : Slot) (d : D) (e : CE) : semE Φ (.lend 16 e) (s0 :: s1 :: s2 :: s3 :: s4 :: s5 :: s6 :: s7 :: s8 :: s9 :: s10 :: s11 :: s12 :: s13 :: s14 :: s15 :: .val d :: ε) Q = semE Φ e (s0 :: s1 :: s2 :: s3 :: s4 :: s5 :: s6 :: s7 :: s8 :: s9 :: s10 :: s11 :: s12 :: s13 :: s14 :: s15 :: .val d :: ε) Q := rfl
theorem ynm16 (ε : List Slot) (K : List Slot → Prop) (s0 s1 s2 s3 s4 s5 s6 s7 s8 s9 s10 s11 s12 s13 s14 s15 : Slot) (x : Slot) (d : D) : bindT (.nm 16) d (s0 :: s1 :: s2 :: s3 :: s4 :: s5 :: s6 :: s7 :: s8 :: s9 :: s10 :: s11 :: s12 :: s13 :: s14 :: s15 :: x :: ε) K = K (s0 :: s1 :: s2 :: s3 :: s4 :: s5 :: s6 :: s7 :: s8 :: s9 :: s10 :: s11 :: s12 :: s13 :: s14 :: s15 :: .val d :: ε) := rfl
theorem ywp16 (ε : List Slot) (s0 s1 s2 s3 s4 s5 s6 s7 s8 s9 s10 s11 s12 s13 s14 s15 : Slot) (x : Slot) : wipeE (s0 :: s1 :: s2 :: s3 :: s4 :: s5 :: s6 :: s7 :: s8 :: s9 :: s10 :: s11 :: s12 :: s13 :: s14 :: s15 :: x :: ε) [16] = s0 :: s1 :: s2 :: s3 :: s4 :: s5 :: s6 :: s7 :: s8 :: s9 :: s10 :: s11 :: s12 :: s13 :: s14 :: s15 :: .non :: ε := rfl
theorem yow16 (Φ : Sm) (E : DEnds) (ε : List Slot) (s0 s1 s2 s3 s4 s5 s6 s7 s8 s9 s10 s11 s12 s13 s14 s15 : Slot) (x : Slot) (e : CE) : semS Φ (.own 16 e) E (s0 :: s1 :: s2 :: s3 :: s4 :: s5 :: s6 :: s7 :: s8 :: s9 :: s10 :: s11 :: s12 :: s13 :: s14 :: s15 :: x :: ε) = semE Φ e (s0 :: s1 :: s2 :: s3 :: s4 :: s5 :: s6 :: s7 :: s8 :: s9 :: s10 :: s11 :: s12 :: s13 :: s14 :: s15 :: x :: ε) fun d => ownQ d fun ds => E.nx (s0 :: s1 :: s2 :: s3 :: s4 :: s5 :: s6 :: s7 :: s8 :: s9 :: s10 :: s11 :: s12 :: s13 :: s14 :: s15 :: .own ds :: ε) := rfl
theorem yap16 (Φ : Sm) (E : DEnds) (ε : List Slot) (s0 s1 s2 s3 s4 s5 s6 s7 s8 s9 s10 s11 s12 s13 s14 s15 : Slot) (ds : List D) (e : CE) : semS Φ (.app 16 e) E (s0 :: s1 :: s2 :: s3 :: s4 :: s5 :: s6 :: s7 :: s8 :: s9 :: s10 :: s11 :: s12 :: s13 :: s14 :: s15 :: .own ds :: ε) = semE Φ e (s0 :: s1 :: s2 :: s3 :: s4 :: s5 :: s6 :: s7 :: s8 :: s9 :: s10 :: s11 :: s12 :: s13 :: s14 :: s15 :: .own ds :: ε) fun v => ds.length < sizeLine ∧ E.nx (s0 :: s1 :: s2 :: s3 :: s4 :: s5 :: s6 :: s7 :: s8 :: s9 :: s10 :: s11 :: s12 :: s13 :: s14 :: s15 :: .own (ds ++ [v]) :: ε) := rfl
theorem yrv16 (Φ : Sm) (E : DEnds) (ε : List Slot) (s0 s1 s2 s3 s4 s5 s6 s7 s8 s9 s10 s11 s12 s13 s14 s15 : Slot) (ds : List D) : semS Φ (.rev 16) E (s0 :: s1 :: s2 :: s3 :: s4 :: s5 :: s6 :: s7 :: s8 :: s9 :: s10 :: s11 :: s12 :: s13 :: s14 :: s15 :: .own ds :: ε) = E.nx (s0 :: s1 :: s2 :: s3 :: s4 :: s5 :: s6 :: s7 :: s8 :: s9 :: s10 :: s11 :: s12 :: s13 :: s14 :: s15 :: .own ds.reverse :: ε) := rfl
theorem ysi16 (Φ : Sm) (E : DEnds) (ε : List Slot) (s0 s1 s2 s3 s4 s5 s6 s7 s8 s9 s10 s11 s12 s13 s14 s15 : Slot) (ds : List D) (k e : CE) : semS Φ (.setIx 16 k e) E (s0 :: s1 :: s2 :: s3 :: s4 :: s5 :: s6 :: s7 :: s8 :: s9 :: s10 :: s11 :: s12 :: s13 :: s14 :: s15 :: .own ds :: ε) = semE Φ e (s0 :: s1 :: s2 :: s3 :: s4 :: s5 :: s6 :: s7 :: s8 :: s9 :: s10 :: s11 :: s12 :: s13 :: s14 :: s15 :: .own ds :: ε) fun v => semE Φ k (s0 :: s1 :: s2 :: s3 :: s4 :: s5 :: s6 :: s7 :: s8 :: s9 :: s10 :: s11 :: s12 :: s13 :: s14 :: s15 :: .own ds :: ε) fun y => setQ ds v y fun ds' => E.nx (s0 :: s1 :: s2 :: s3 :: s4 :: s5 :: s6 :: s7 :: s8 :: s9 :: s10 :: s11 :: s12 :: s13 :: s14 :: s15 :: .own ds' :: ε) := rfl
theorem yau16 (Φ : Sm) (E : DEnds) (ε : List Slot) (s0 s1 s2 s3 s4 s5 s6 s7 s8 s9 s10 s11 s12 s13 s14 s15 : Slot) (n : Int) (o : O2) (e : CE) : semS Φ (.aug 16 o e) E (s0 :: s1 :: s2 :: s3 :: s4 :: s5 :: s6 :: s7 :: s8 :: s9 :: s10 :: s11 :: s12 :: s13 :: s14 :: s15 :: .val (.int n) :: ε) = semE Φ e (s0 :: s1 :: s2 :: s3 :: s4 :: s5 :: s6 :: s7 :: s8 :: s9 :: s10 :: s11 :: s12 :: s13 :: s14 :: s15 :: .val (.int n) :: ε) fun y => op2 o (.int n) y fun z => E.nx (s0 :: s1 :: s2 :: s3 :: s4 :: s5 :: s6 :: s7 :: s8 :: s9 :: s10 :: s11 :: s12 :: s13 :: s14 :: s15 :: .val z :: ε) := rfl
theorem ypo16 (Φ : Sm) (E : DEnds) (ε : List Slot) (s0 s1 s2 s3 s4 s5 s6 s7 s8 s9 s10 s11 s12 s13 s14 s15 : Slot) (ds : List D) : semS Φ (.pop 16) E (s0 :: s1 :: s2 :: s3 :: s4 :: s5 :: s6 :: s7 :: s8 :: s9 :: s10 :: s11 :: s12 :: s13 :: s14 :: s15 :: .own ds :: ε) = (0 < ds.length ∧ E.nx (s0 :: s1 :: s2 :: s3 :: s4 :: s5 :: s6 :: s7 :: s8 :: s9 :: s10 :: s11 :: s12 :: s13 :: s14 :: s15 :: .own ds.dropLast :: ε)) := rfl
theorem yro16 (Φ : Sm) (E : DEnds) (ε : List Slot) (s0 s1 s2 s3 s4 s5 s6 s7 s8 s9 s10 s11 s12 s13 s14 s15 : Slot) (ds : List D) : semS Φ (.retO 16) E (s0 :: s1 :: s2 :: s3 :: s4 :: s5 :: s6 :: s7 :: s8 :: s9 :: s10 :: s11 :: s12 :: s13 :: s14 :: s15 :: .own ds :: ε) = E.rt (.own ds) := rfl
theorem yfo16 (Φ : Sm) (E : DEnds) (ε : List Slot) (s0 s1 s2 s3 s4 s5 s6 s7 s8 s9 s10 s11 s12 s13 s14 s15 : Slot) (ds : List D) (r : CSs) : semSs Φ (.frz 16 r) E (s0 :: s1 :: s2 :: s3 :: s4 :: s5 :: s6 :: s7 :: s8 :: s9 :: s10 :: s11 :: s12 :: s13 :: s14 :: s15 :: .own ds :: ε) = semSs Φ r E (s0 :: s1 :: s2 :: s3 :: s4 :: s5 :: s6 :: s7 :: s8 :: s9 :: s10 :: s11 :: s12 :: s13 :: s14 :: s15 :: .val (.lst ds) :: ε) := rfl
theorem yfv16 (Φ : Sm) (E : DEnds) (ε : List Slot) (s0 s1 s2 s3 s4 s5 s6 s7 s8 s9 s10 s11 s12 s13 s14 s15 : Slot) (d : D) (r : CSs) : semSs Φ (.frz 16 r) E (s0 :: s1 :: s2 :: s3 :: s4 :: s5 :: s6 :: s7 :: s8 :: s9 :: s10 :: s11 :: s12 :: s13 :: s14 :: s15 :: .val d :: ε) = semSs Φ r E (s0 :: s1 :: s2 :: s3 :: s4 :: s5 :: s6 :: s7 :: s8 :: s9 :: s10 :: s11 :: s12 :: s13 :: s14 :: s15 :: .val d :: ε) := rfl
theorem yop16 (Φ : Sm) (E : DEnds) (ε : List Slot) (s0 s1 s2 s3 s4 s5 s6 s7 s8 s9 s10 s11 s12 s13 s14 s15 : Slot) (ds : List D) (r : CSs) : semSs Φ (.opn 16 r) E (s0 :: s1 :: s2 :: s3 :: s4 :: s5 :: s6 :: s7 :: s8 :: s9 :: s10 :: s11 :: s12 :: s13 :: s14 :: s15 :: .own ds :: ε) = ((∃ ns : List Int, ds = ns.map D.int ∧ ∀ n ∈ ns, 0 ≤ n) ∧ semSs Φ r E (s0 :: s1 :: s2 :: s3 :: s4 :: s5 :: s6 :: s7 :: s8 :: s9 :: s10 :: s11 :: s12 :: s13 :: s14 :: s15 :: .val (.opq 0) :: ε)) := rfl
theorem yv17 (Φ : Sm) (ε : List Slot) (Q : D → Prop) (s0 s1 s2 s3 s4 s5 s6 s7 s8 s9 s10 s11 s12 s13 s14 s15 s16 : Slot) (d : D) : semE Φ (.var 17) (s0 :: s1 :: s2 :: s3 :: s4 :: s5 :: s6 :: s7 :: s8 :: s9 :: s10 :: s11 :: s12 :: s13 :: s14 :: s15 :: s16 :: .val d :: ε) Q = Q d := rfl
theorem ylo17 (Φ : Sm) (ε : List Slot) (Q : D → Prop) (s0 s1 s2 s3 s4 s5 s6 s7 s8 s9 s10 s11 s12 s13 s14 s15 s16 : Slot) (ds : List D) : semE Φ (.lenO 17) (s0 :: s1 :: s2 :: s3 :: s4 :: s5 :: s6 :: s7 :: s8 :: s9 :: s10 :: s11 :: s12 :: s13 :: s14 :: s15 :: s16 :: .own ds :: ε) Q = Q (.int ds.length) := rfl
theorem ylv17 (Φ : Sm) (ε : List Slot) (Q : D → Prop) (s0 s1 s2 s3 s4 s5 s6 s7 s8 s9 s10 s11 s12 s13 s14 s15 s16 : Slot) (ds : List D) : semE Φ (.lenO 17) (s0 :: s1 :: s2 :: s3 :: s4 :: s5 :: s6 :: s7 :: s8 :: s9 :: s10 :: s11 :: s12 :: s13 :: s14 :: s15 :: s16 :: .val (.lst ds) :: ε) Q = Q (.int ds.length) := rfl
theorem yxo17 (Φ : Sm) (ε : List Slot) (Q : D → Prop) (s0 s1 s2 s3 s4 s5 s6 s7 s8 s9 s10 s11 s12 s13 s14 s15 s16 : Slot) (ds : List D) (k : CE) : semE Φ (.idxO 17 k) (s0 :: s1 :: s2 :: s3 :: s4 :: s5 :: s6 :: s7 :: s8 :: s9 :: s10 :: s11 :: s12 :: s13 :: s14 :: s15 :: s16 :: .own ds :: ε) Q = semE Φ k (s0 :: s1 :: s2 :: s3 :: s4 :: s5 :: s6 :: s7 :: s8 :: s9 :: s10 :: s11 :: s12 :: s13 :: s14 :: s15 :: s16 :: .own ds :: ε) fun y => opIx (.lst ds) y Q := rfl
theorem yxv17 (Φ : Sm) (ε : List Slot) (Q : D → Prop) (s0 s1 s2 s3 s4 s5 s6 s7 s8 s9 s10 s11 s12 s13 s14 s15 s16 : Slot) (ds : List D) (k : CE) : semE Φ (.idxO 17 k) (s0 :: s1 :: s2 :: s3 :: s4 :: s5 :: s6 :: s7 :: s8 :: s9 :: s10 :: s11 :: s12 :: s13 :: s14 :: s15 :: s16 :: .val (.lst ds) :: ε) Q = semE Φ k (s0 :: s1 :: s2 :: s3 :: s4 :: s5 :: s6 :: s7 :: s8 :: s9 :: s10 :: s11 :: s12 :: s13 :: s14 :: s15 :: s16 :: .val (.lst ds) :: ε) fun y => opIx (.lst ds) y Q := rfl
theorem yldo17 (Φ : Sm) (ε : List Slot) (Q : D → Prop) (s0 s1 s2 s3 s4 s5 s6 s7 s8 s9 s10 s11 s12 s13 s14 s15 s16 : Slot) (ds : List D) (e : CE) : semE Φ (.lend 17 e) (s0 :: s1 :: s2 :: s3 :: s4 :: s5 :: s6 :: s7 :: s8 :: s9 :: s10 :: s11 :: s12 :: s13 :: s14 :: s15 :: s16 :: .own ds :: ε) Q = semE Φ e (s0 :: s1 :: s2 :: s3 :: s4 :: s5 :: s6 :: s7 :: s8 :: s9 :: s10 :: s11 :: s12 :: s13 :: s14 :: s15 :: s16 :: .val (.lst ds) :: ε) fun d => d.noL = true ∧ Q d := rfl
theorem yldv17 (Φ : Sm) (ε : List Slot) (Q : D → Prop) (s0 s1 s2 s3 s4 s5 s6 s7 s8 s9 s10 s11 s12 s13 s14 s15 s16 : Slot) (d : D) (e : CE) : semE Φ (.lend 17 e) (s0 :: s1 :: s2 :: s3 :: s4 :: s5 :: s6 :: s7 :: s8 :: s9 :: s10 :: s11 :: s12 :: s13 :: s14 :: s15 :: s16 :: .val d :: ε) Q = semE Φ e (s0 :: s1 :: s2 :: s3 :: s4 :: s5 :: s6 :: s7 :: s8 :: s9 :: s10 :: s11 :: s12 :: s13 :: s14 :: s15 :: s16 :: .val d :: ε) Q := rfl
theorem ynm17 (ε : List Slot) (K : List Slot → Prop) (s0 s1 s2 s3 s4 s5 s6 s7 s8 s9 s10 s11 s12 s13 s14 s15 s16 : Slot) (x : Slot) (d : D) : bindT (.nm 17) d (s0 :: s1 :: s2 :: s3 :: s4 :: s5 :: s6 :: s7 :: s8 :: s9 :: s10 :: s11 :: s12 :: s13 :: s14 :: s15 :: s16 :: x :: ε) K = K (s0 :: s1 :: s2 :: s3 :: s4 :: s5 :: s6 :: s7 :: s8 :: s9 :: s10 :: s11 :: s12 :: s13 :: s14 :: s15 :: s16 :: .val d :: ε) := rfl
theorem ywp17 (ε : List Slot) (s0 s1 s2 s3 s4 s5 s6 s7 s8 s9 s10 s11 s12 s13 s14 s15 s16 : Slot) (x : Slot) : wipeE (s0 :: s1 :: s2 :: s3 :: s4 :: s5 :: s6 :: s7 :: s8 :: s9 :: s10 :: s11 :: s12 :: s13 :: s14 :: s15 :: s16 :: x :: ε) [17] = s0 :: s1 :: s2 :: s3 :: s4 :: s5 :: s6 :: s7 :: s8 :: s9 :: s10 :: s11 :: s12 :: s13 :: s14 :: s15 :: s16 :: .non :: ε := rfl
theorem yow17 (Φ : Sm) (E : DEnds) (ε : List Slot) (s0 s1 s2 s3 s4 s5 s6 s7 s8 s9 s10 s11 s12 s13 s14 s15 s16 : Slot) (x : Slot) (e : CE) : semS Φ (.own 17 e) E (s0 :: s1 :: s2 :: s3 :: s4 :: s5 :: s6 :: s7 :: s8 :: s9 :: s10 :: s11 :: s12 :: s13 :: s14 :: s15 :: s16 :: x :: ε) = semE Φ e (s0 :: s1 :: s2 :: s3 :: s4 :: s5 :: s6 :: s7 :: s8 :: s9 :: s10 :: s11 :: s12 :: s13 :: s14 :: s15 :: s16 :: x :: ε) fun d => ownQ d fun ds => E.nx (s0 :: s1 :: s2 :: s3 :: s4 :: s5 :: s6 :: s7 :: s8 :: s9 :: s10 :: s11 :: s12 :: s13 :: s14 :: s15 :: s16 :: .own ds :: ε) := rfl
theorem yap17 (Φ : Sm) (E : DEnds) (ε : List Slot) (s0 s1 s2 s3 s4 s5 s6 s7 s8 s9 s10 s11 s12 s13 s14 s15 s16 : Slot) (ds : List D) (e : CE) : semS Φ (.app 17 e) E (s0 :: s1 :: s2 :: s3 :: s4 :: s5 :: s6 :: s7 :: s8 :: s9 :: s10 :: s11 :: s12 :: s13 :: s14 :: s15 :: s16 :: .own ds :: ε) = semE Φ e (s0 :: s1 :: s2 :: s3 :: s4 :: s5 :: s6 :: s7 :: s8 :: s9 :: s10 :: s11 :: s12 :: s13 :: s14 :: s15 :: s16 :: .own ds :: ε) fun v => ds.length < sizeLine ∧ E.nx (s0 :: s1 :: s2 :: s3 :: s4 :: s5 :: s6 :: s7 :: s8 :: s9 :: s10 :: s11 :: s12 :: s13 :: s14 :: s15 :: s16 :: .own (ds ++ [v]) :: ε) := rfl
theorem yrv17 (Φ : Sm) (E : DEnds) (ε : List Slot) (s0 s1 s2 s3 s4 s5 s6 s7 s8 s9 s10 s11 s12 s13 s14 s15 s16 : Slot) (ds : List D) : semS Φ (.rev 17) E (s0 :: s1 :: s2 :: s3 :: s4 :: s5 :: s6 :: s7 :: s8 :: s9 :: s10 :: s11 :: s12 :: s13 :: s14 :: s15 :: s16 :: .own ds :: ε) = E.nx (s0 :: s1 :: s2 :: s3 :: s4 :: s5 :: s6 :: s7 :: s8 :: s9 :: s10 :: s11 :: s12 :: s13 :: s14 :: s15 :: s16 :: .own ds.reverse :: ε) := rfl
theorem ysi17 (Φ : Sm) (E : DEnds) (ε : List Slot) (s0 s1 s2 s3 s4 s5 s6 s7 s8 s9 s10 s11 s12 s13 s14 s15 s16 : Slot) (ds : List D) (k e : CE) : semS Φ (.setIx 17 k e) E (s0 :: s1 :: s2 :: s3 :: s4 :: s5 :: s6 :: s7 :: s8 :: s9 :: s10 :: s11 :: s12 :: s13 :: s14 :: s15 :: s16 :: .own ds :: ε) = semE Φ e (s0 :: s1 :: s2 :: s3 :: s4 :: s5 :: s6 :: s7 :: s8 :: s9 :: s10 :: s11 :: s12 :: s13 :: s14 :: s15 :: s16 :: .own ds :: ε) fun v => semE Φ k (s0 :: s1 :: s2 :: s3 :: s4 :: s5 :: s6 :: s7 :: s8 :: s9 :: s10 :: s11 :: s12 :: s13 :: s14 :: s15 :: s16 :: .own ds :: ε) fun y => setQ ds v y fun ds' => E.nx (s0 :: s1 :: s2 :: s3 :: s4 :: s5 :: s6 :: s7 :: s8 :: s9 :: s10 :: s11 :: s12 :: s13 :: s14 :: s15 :: s16 :: .own ds' :: ε) := rfl
theorem yau17 (Φ : Sm) (E : DEnds) (ε : List Slot) (s0 s1 s2 s3 s4 s5 s6 s7 s8 s9 s10 s11 s12 s13 s14 s15 s16 : Slot) (n : Int) (o : O2) (e : CE) : semS Φ (.aug 17 o e) E (s0 :: s1 :: s2 :: s3 :: s4 :: s5 :: s6 :: s7 :: s8 :: s9 :: s10 :: s11 :: s12 :: s13 :: s14 :: s15 :: s16 :: .val (.int n) :: ε) = semE Φ e (s0 :: s1 :: s2 :: s3 :: s4 :: s5 :: s6 :: s7 :: s8 :: s9 :: s10 :: s11 :: s12 :: s13 :: s14 :: s15 :: s16 :: .val (.int n) :: ε) fun y => op2 o (.int n) y fun z => E.nx (s0 :: s1 :: s2 :: s3 :: s4 :: s5 :: s6 :: s7 :: s8 :: s9 :: s10 :: s11 :: s12 :: s13 :: s14 :: s15 :: s16 :: .val z :: ε) := rfl
theorem ypo17 (Φ : Sm) (E : DEnds) (ε : List Slot) (s0 s1 s2 s3 s4 s5 s6 s7 s8 s9 s10 s11 s12 s13 s14 s15 s16 : Slot) (ds : List D) : semS Φ (.pop 17) E (s0 :: s1 :: s2 :: s3 :: s4 :: s5 :: s6 :: s7 :: s8 :: s9 :: s10 :: s11 :: s12 :: s13 :: s14 :: s15 :: s16 :: .own ds :: ε) = (0 < ds.length ∧ E.nx (s0 :: s1 :: s2 :: s3 :: s4 :: s5 :: s6 :: s7 :: s8 :: s9 :: s10 :: s11 :: s12 :: s13 :: s14 :: s15 :: s16 :: .own ds.dropLast :: ε)) := rfl
theorem yro17 (Φ : Sm) (E : DEnds) (ε : List Slot) (s0 s1 s2 s3 s4 s5 s6 s7 s8 s9 s10 s11 s12 s13 s14 s15 s16 : Slot) (ds : List D) : semS Φ (.retO 17) E (s0 :: s1 :: s2 :: s3 :: s4 :: s5 :: s6 :: s7 :: s8 :: s9 :: s10 :: s11 :: s12 :: s13 :: s14 :: s15 :: s16 :: .own ds :: ε) = E.rt (.own ds) := rfl
theorem yfo17 (Φ : Sm) (E : DEnds) (ε : List Slot) (s0 s1 s2 s3 s4 s5 s6 s7 s8 s9 s10 s11 s12 s13 s14 s15 s16 : Slot) (ds : List D) (r : CSs) : semSs Φ (.frz 17 r) E (s0 :: s1 :: s2 :: s3 :: s4 :: s5 :: s6 :: s7 :: s8 :: s9 :: s10 :: s11 :: s12 :: s13 :: s14 :: s15 :: s16 :: .own ds :: ε) = semSs Φ r E (s0 :: s1 :: s2 :: s3 :: s4 :: s5 :: s6 :: s7 :: s8 :: s9 :: s10 :: s11 :: s12 :: s13 :: s14 :: s15 :: s16 :: .val (.lst ds) :: ε) := rfl
theorem yfv17 (Φ : Sm) (E : DEnds) (ε : List Slot) (s0 s1 s2 s3 s4 s5 s6 s7 s8 s9 s10 s11 s12 s13 s14 s15 s16 : Slot) (d : D) (r : CSs) : semSs Φ (.frz 17 r) E (s0 :: s1 :: s2 :: s3 :: s4 :: s5 :: s6 :: s7 :: s8 :: s9 :: s10 :: s11 :: s12 :: s13 :: s14 :: s15 :: s16 :: .val d :: ε) = semSs Φ r E (s0 :: s1 :: s2 :: s3 :: s4 :: s5 :: s6 :: s7 :: s8 :: s9 :: s10 :: s11 :: s12 :: s13 :: s14 :: s15 :: s16 :: .val d :: ε) := rfl
theorem yop17 (Φ : Sm) (E : DEnds) (ε : List Slot) (s0 s1 s2 s3 s4 s5 s6 s7 s8 s9 s10 s11 s12 s13 s14 s15 s16 : Slot) (ds : List D) (r : CSs) : semSs Φ (.opn 17 r) E (s0 :: s1 :: s2 :: s3 :: s4 :: s5 :: s6 :: s7 :: s8 :: s9 :: s10 :: s11 :: s12 :: s13 :: s14 :: s15 :: s16 :: .own ds :: ε) = ((∃ ns : List Int, ds = ns.map D.int ∧ ∀ n ∈ ns, 0 ≤ n) ∧ semSs Φ r E (s0 :: s1 :: s2 :: s3 :: s4 :: s5 :: s6 :: s7 :: s8 :: s9 :: s10 :: s11 :: s12 :: s13 :: s14 :: s15 :: s16 :: .val (.opq 0) :: ε)) := rfl
theorem yv18 (Φ : Sm) (ε : List Slot) (Q : D → Prop) (s0 s1 s2 s3 s4 s5 s6 s7 s8 s9 s10 s11 s12 s13 s14 s15 s16 s17 : Slot) (d : D) : semE Φ (.var 18) (s0 :: s1 :: s2 :: s3 :: s4 :: s5 :: s6 :: s7 :: s8 :: s9 :: s10 :: s11 :: s12 :: s13 :: s14 :: s15 :: s16 :: s17 :: .val d :: ε) Q = Q d := rfl
theorem ylo18 (Φ : Sm) (ε : List Slot) (Q : D → Prop) (s0 s1 s2 s3 s4 s5 s6 s7 s8 s9 s10 s11 s12 s13 s14 s15 s16 s17 : Slot) (ds : List D) : semE Φ (.lenO 18) (s0 :: s1 :: s2 :: s3 :: s4 :: s5 :: s6 :: s7 :: s8 :: s9 :: s10 :: s11 :: s12 :: s13 :: s14 :: s15 :: s16 :: s17 :: .own ds :: ε) Q = Q (.int ds.length) := rfl
theorem ylv18 (Φ : Sm) (ε : List Slot) (Q : D → Prop) (s0 s1 s2 s3 s4 s5 s6 s7 s8 s9 s10 s11 s12 s13 s14 s15 s16 s17 : Slot) (ds : List D) : semE Φ (.lenO 18) (s0 :: s1 :: s2 :: s3 :: s4 :: s5 :: s6 :: s7 :: s8 :: s9 :: s10 :: s11 :: s12 :: s13 :: s14 :: s15 :: s16 :: s17 :: .val (.lst ds) :: ε) Q = Q (.int ds.length) := rfl
theorem yxo18 (Φ : Sm) (ε : List Slot) (Q : D → Prop) (s0 s1 s2 s3 s4 s5 s6 s7 s8 s9 s10 s11 s12 s13 s14 s15 s16 s17 : Slot) (ds : List D) (k : CE) : semE Φ (.idxO 18 k) (s0 :: s1 :: s2 :: s3 :: s4 :: s5 :: s6 :: s7 :: s8 :: s9 :: s10 :: s11 :: s12 :: s13 :: s14 :: s15 :: s16 :: s17 :: .own ds :: ε) Q = semE Φ k (s0 :: s1 :: s2 :: s3 :: s4 :: s5 :: s6 :: s7 :: s8 :: s9 :: s10 :: s11 :: s12 :: s13 :: s14 :: s15 :: s16 :: s17 :: .own ds :: ε) fun y => opIx (.lst ds) y Q := rfl
theorem yxv18 (Φ : Sm) (ε : List Slot) (Q : D → Prop) (s0 s1 s2 s3 s4 s5 s6 s7 s8 s9 s10 s11 s12 s13 s14 s15 s16 s17 : Slot) (ds : List D) (k : CE) : semE Φ (.idxO 18 k) (s0 :: s1 :: s2 :: s3 :: s4 :: s5 :: s6 :: s7 :: s8 :: s9 :: s10 :: s11 :: s12 :: s13 :: s14 :: s15 :: s16 :: s17 :: .val (.lst ds) :: ε) Q = semE Φ k (s0 :: s1 :: s2 :: s3 :: s4 :: s5 :: s6 :: s7 :: s8 :: s9 :: s10 :: s11 :: s12 :: s13 :: s14 :: s15 :: s16 :: s17 :: .val (.lst ds) :: ε) fun y => opIx (.lst ds) y Q := rfl
theorem yldo18 (Φ : Sm) (ε : List Slot) (Q : D → Prop) (s0 s1 s2 s3 s4 s5 s6 s7 s8 s9 s10 s11 s12 s13 s14 s15 s16 s17 : Slot) (ds : List D) (e : CE) : semE Φ (.lend 18 e) (s0 :: s1 :: s2 :: s3 :: s4 :: s5 :: s6 :: s7 :: s8 :: s9 :: s10 :: s11 :: s12 :: s13 :: s14 :: s15 :: s16 :: s17 :: .own ds :: ε) Q = semE Φ e (s0 :: s1 :: s2 :: s3 :: s4 :: s5 :: s6 :: s7 :: s8 :: s9 :: s10 :: s11 :: s12 :: s13 :: s14 :: s15 :: s16 :: s17 :: .val (.lst ds) :: ε) fun d => d.noL = true ∧ Q d := rfl
theorem yldv18 (Φ : Sm) (ε : List Slot) (Q : D → Prop) (s0 s1 s2 s3 s4 s5 s6 s7 s8 s9 s10 s11 s12 s13 s14 s15 s16 s17 : Slot) (d : D) (e : CE) : semE Φ (.lend 18 e) (s0 :: s1 :: s2 :: s3 :: s4 :: s5 :: s6 :: s7 :: s8 :: s9 :: s10 :: s11 :: s12 :: s13 :: s14 :: s15 :: s16 :: s17 :: .val d :: ε) Q = semE Φ e (s0 :: s1 :: s2 :: s3 :: s4 :: s5 :: s6 :: s7 :: s8 :: s9 :: s10 :: s11 :: s12 :: s13 :: s14 :: s15 :: s16 :: s17 :: .val d :: ε) Q := rfl
theorem ynm18 (ε : List Slot) (K : List Slot → Prop) (s0 s1 s2 s3 s4 s5 s6 s7 s8 s9 s10 s11 s12 s13 s14 s15 s16 s17 : Slot) (x : Slot) (d : D) : bindT (.nm 18) d (s0 :: s1 :: s2 :: s3 :: s4 :: s5 :: s6 :: s7 :: s8 :: s9 :: s10 :: s11 :: s12 :: s13 :: s14 :: s15 :: s16 :: s17 :: x :: ε) K = K (s0 :: s1 :: s2 :: s3 :: s4 :: s5 :: s6 :: s7 :: s8 :: s9 :: s10 :: s11 :: s12 :: s13 :: s14 :: s15 :: s16 :: s17 :: .val d :: ε) := rfl
theorem ywp18 (ε : List Slot) (s0 s1 s2 s3 s4 s5 s6 s7 s8 s9 s10 s11 s12 s13 s14 s15 s16 s17 : Slot) (x : Slot) : wipeE (s0 :: s1 :: s2 :: s3 :: s4 :: s5 :: s6 :: s7 :: s8 :: s9 :: s10 :: s11 :: s12 :: s13 :: s14 :: s15 :: s16 :: s17 :: x :: ε) [18] = s0 :: s1 :: s2 :: s3 :: s4 :: s5 :: s6 :: s7 :: s8 :: s9 :: s10 :: s11 :: s12 :: s13 :: s14 :: s15 :: s16 :: s17 :: .non :: ε := rfl
theorem yow18 (Φ : Sm) (E : DEnds) (ε : List Slot) (s0 s1 s2 s3 s4 s5 s6 s7 s8 s9 s10 s11 s12 s13 s14 s15 s16 s17 : Slot) (x : Slot) (e : CE) : semS Φ (.own 18 e) E (s0 :: s1 :: s2 :: s3 :: s4 :: s5 :: s6 :: s7 :: s8 :: s9 :: s10 :: s11 :: s12 :: s13 :: s14 :: s15 :: s16 :: s17 :: x :: ε) = semE Φ e (s0 :: s1 :: s2 :: s3 :: s4 :: s5 :: s6 :: s7 :: s8 :: s9 :: s10 :: s11 :: s12 :: s13 :: s14 :: s15 :: s16 :: s17 :: x :: ε) fun d => ownQ d fun ds => E.nx (s0 :: s1 :: s2 :: s3 :: s4 :: s5 :: s6 :: s7 :: s8 :: s9 :: s10 :: s11 :: s12 :: s13 :: s14 :: s15 :: s16 :: s17 :: .own ds :: ε) := rfl
theorem yap18 (Φ : Sm) (E : DEnds) (ε : List Slot) (s0 s1 s2 s3 s4 s5 s6 s7 s8 s9 s10 s11 s12 s13 s14 s15 s16 s17 : Slot) (ds : List D) (e : CE) : semS Φ (.app 18 e) E (s0 :: s1 :: s2 :: s3 :: s4 :: s5 :: s6 :: s7 :: s8 :: s9 :: s10 :: s11 :: s12 :: s13 :: s14 :: s15 :: s16 :: s17 :: .own ds :: ε) = semE Φ e (s0 :: s1 :: s2 :: s3 :: s4 :: s5 :: s6 :: s7 :: s8 :: s9 :: s10 :: s11 :: s12 :: s13 :: s14 :: s15 :: s16 :: s17 :: .own ds :: ε) fun v => ds.length < sizeLine ∧ E.nx (s0 :: s1 :: s2 :: s3 :: s4 :: s5 :: s6 :: s7 :: s8 :: s9 :: s10 :: s11 :: s12 :: s13 :: s14 :: s15 :: s16 :: s17 :: .own (ds ++ [v]) :: ε) := rfl
theorem yrv18 (Φ : Sm) (E : DEnds) (ε : List Slot) (s0 s1 s2 s3 s4 s5 s6 s7 s8 s9 s10 s11 s12 s13 s14 s15 s16 s17 : Slot) (ds : List D) : semS Φ (.rev 18) E (s0 :: s1 :: s2 :: s3 :: s4 :: s5 :: s6 :: s7 :: s8 :: s9 :: s10 :: s11 :: s12 :: s13 :: s14 :: s15 :: s16 :: s17 :: .own ds :: ε) = E.nx (s0 :: s1 :: s2 :: s3 :: s4 :: s5 :: s6 :: s7 :: s8 :: s9 :: s10 :: s11 :: s12 :: s13 :: s14 :: s15 :: s16 :: s17 :: .own ds.reverse :: ε) := rfl
theorem ysi18 (Φ : Sm) (E : DEnds) (ε : List Slot) (s0 s1 s2 s3 s4 s5 s6 s7 s8 s9 s10 s11 s12 s13 s14 s15 s16 s17 : Slot) (ds : List D) (k e : CE) : semS Φ (.setIx 18 k e) E (s0 :: s1 :: s2 :: s3 :: s4 :: s5 :: s6 :: s7 :: s8 :: s9 :: s10 :: s11 :: s12 :: s13 :: s14 :: s15 :: s16 :: s17 :: .own ds :: ε) = semE Φ e (s0 :: s1 :: s2 :: s3 :: s4 :: s5 :: s6 :: s7 :: s8 :: s9 :: s10 :: s11 :: s12 :: s13 :: s14 :: s15 :: s16 :: s17 :: .own ds :: ε) fun v => semE Φ k (s0 :: s1 :: s2 :: s3 :: s4 :: s5 :: s6 :: s7 :: s8 :: s9 :: s10 :: s11 :: s12 :: s13 :: s14 :: s15 :: s16 :: s17 :: .own ds :: ε) fun y => setQ ds v y fun ds' => E.nx (s0 :: s1 :: s2 :: s3 :: s4 :: s5 :: s6 :: s7 :: s8 :: s9 :: s10 :: s11 :: s12 :: s13 :: s14 :: s15 :: s16 :: s17 :: .own ds' :: ε) := rfl
theorem yau18 (Φ : Sm) (E : DEnds) (ε : List Slot) (s0 s1 s2 s3 s4 s5 s6 s7 s8 s9 s10 s11 s12 s13 s14 s15 s16 s17 : Slot) (n : Int) (o : O2) (e : CE) : semS Φ (.aug 18 o e) E (s0 :: s1 :: s2 :: s3 :: s4 :: s5 :: s6 :: s7 :: s8 :: s9 :: s10 :: s11 :: s12 :: s13 :: s14 :: s15 :: s16 :: s17 :: .val (.int n) :: ε) = semE Φ e (s0 :: s1 :: s2 :: s3 :: s4 :: s5 :: s6 :: s7 :: s8 :: s9 :: s10 :: s11 :: s12 :: s13 :: s14 :: s15 :: s16 :: s17 :: .val (.int n) :: ε) fun y => op2 o (.int n) y fun z => E.nx (s0 :: s1 :: s2 :: s3 :: s4 :: s5 :: s6 :: s7 :: s8 :: s9 :: s10 :: s11 :: s12 :: s13 :: s14 :: s15 :: s16 :: s17 :: .val z :: ε) := rfl
theorem ypo18 (Φ : Sm) (E : DEnds) (ε : List Slot) (s0 s1 s2 s3 s4 s5 s6 s7 s8 s9 s10 s11 s12 s13 s14 s15 s16 s17 : Slot) (ds : List D) : semS Φ (.pop 18) E (s0 :: s1 :: s2 :: s3 :: s4 :: s5 :: s6 :: s7 :: s8 :: s9 :: s10 :: s11 :: s12 :: s13 :: s14 :: s15 :: s16 :: s17 :: .own ds :: ε) = (0 < ds.length ∧ E.nx (s0 :: s1 :: s2 :: s3 :: s4 :: s5 :: s6 :: s7 :: s8 :: s9 :: s10 :: s11 :: s12 :: s13 :: s14 :: s15 :: s16 :: s17 :: .own ds.dropLast :: ε)) := rfl
theorem yro18 (Φ : Sm) (E : DEnds) (ε : List Slot) (s0 s1 s2 s3 s4 s5 s6 s7 s8 s9 s10 s11 s12 s13 s14 s15 s16 s17 : Slot) (ds : List D) : semS Φ (.retO 18) E (s0 :: s1 :: s2 :: s3 :: s4 :: s5 :: s6 :: s7 :: s8 :: s9 :: s10 :: s11 :: s12 :: s13 :: s14 :: s15 :: s16 :: s17 :: .own ds :: ε) = E.rt (.own ds) := rfl
theorem yfo18 (Φ : Sm) (E : DEnds) (ε : List Slot) (s0 s1 s2 s3 s4 s5 s6 s7 s8 s9 s10 s11 s12 s13 s14 s15 s16 s17 : Slot) (ds : List D) (r : CSs) : semSs Φ (.frz 18 r) E (s0 :: s1 :: s2 :: s3 :: s4 :: s5 :: s6 :: s7 :: s8 :: s9 :: s10 :: s11 :: s12 :: s13 :: s14 :: s15 :: s16 :: s17 :: .own ds :: ε) = semSs Φ r E (s0 :: s1 :: s2 :: s3 :: s4 :: s5 :: s6 :: s7 :: s8 :: s9 :: s10 :: s11 :: s12 :: s13 :: s14 :: s15 :: s16 :: s17 :: .val (.lst ds) :: ε) := rfl
theorem yfv18 (Φ : Sm) (E : DEnds) (ε : List Slot) (s0 s1 s2 s3 s4 s5 s6 s7 s8 s9 s10 s11 s12 s13 s14 s15 s16 s17 : Slot) (d : D) (r : CSs) : semSs Φ (.frz 18 r) E (s0 :: s1 :: s2 :: s3 :: s4 :: s5 :: s6 :: s7 :: s8 :: s9 :: s10 :: s11 :: s12 :: s13 :: s14 :: s15 :: s16 :: s17 :: .val d :: ε) = semSs Φ r E (s0 :: s1 :: s2 :: s3 :: s4 :: s5 :: s6 :: s7 :: s8 :: s9 :: s10 :: s11 :: s12 :: s13 :: s14 :: s15 :: s16 :: s17 :: .val d :: ε) := rfl
theorem yop18 (Φ : Sm) (E : DEnds) (ε : List Slot) (s0 s1 s2 s3 s4 s5 s6 s7 s8 s9 s10 s11 s12 s13 s14 s15 s16 s17 : Slot) (ds : List D) (r : CSs) : semSs Φ (.opn 18 r) E (s0 :: s1 :: s2 :: s3 :: s4 :: s5 :: s6 :: s7 :: s8 :: s9 :: s10 :: s11 :: s12 :: s13 :: s14 :: s15 :: s16 :: s17 :: .own ds :: ε) = ((∃ ns : List Int, ds = ns.map D.int ∧ ∀ n ∈ ns, 0 ≤ n) ∧ semSs Φ r E (s0 :: s1 :: s2 :: s3 :: s4 :: s5 :: s6 :: s7 :: s8 :: s9 :: s10 :: s11 :: s12 :: s13 :: s14 :: s15 :: s16 :: s17 :: .val (.opq 0) :: ε)) := rfl
theorem yv19 (Φ : Sm) (ε : List Slot) (Q : D → Prop) (s0 s1 s2 s3 s4 s5 s6 s7 s8 s9 s10 s11 s12 s13 s14 s15 s16 s17 s18 : Slot) (d : D) : semE Φ (.var 19) (s0 :: s1 :: s2 :: s3 :: s4 :: s5 :: s6 :: s7 :: s8 :: s9 :: s10 :: s11 :: s12 :: s13 :: s14 :: s15 :: s16 :: s17 :: s18 :: .val d :: ε) Q = Q d := rfl
theorem ylo19 (Φ : Sm) (ε : List Slot) (Q : D → Prop) (s0 s1 s2 s3 s4 s5 s6 s7 s8 s9 s10 s11 s12 s13 s14 s15 s16 s17 s18 : Slot) (ds : List D) : semE Φ (.lenO 19) (s0 :: s1 :: s2 :: s3 :: s4 :: s5 :: s6 :: s7 :: s8 :: s9 :: s10 :: s11 :: s12 :: s13 :: s14 :: s15 :: s16 :: s17 :: s18 :: .own ds :: ε) Q = Q (.int ds.length) := rfl
theorem ylv19 (Φ : Sm) (ε : List Slot) (Q : D → Prop) (s0 s1 s2 s3 s4 s5 s6 s7 s8 s9 s10 s11 s12 s13 s14 s15 s16 s17 s18 : Slot) (ds : List D) : semE Φ (.lenO 19) (s0 :: s1 :: s2 :: s3 :: s4 :: s5 :: s6 :: s7 :: s8 :: s9 :: s10 :: s11 :: s12 :: s13 :: s14 :: s15 :: s16 :: s17 :: s18 :: .val (.lst ds) :: ε) Q = Q (.int ds.length) := rfl
theorem yxo19 (Φ : Sm) (ε : List Slot) (Q : D → Prop) (s0 s1 s2 s3 s4 s5 s6 s7 s8 s9 s10 s11 s12 s13 s14 s15 s16 s17 s18 : Slot) (ds : List D) (k : CE) : semE Φ (.idxO 19 k) (s0 :: s1 :: s2 :: s3 :: s4 :: s5 :: s6 :: s7 :: s8 :: s9 :: s10 :: s11 :: s12 :: s13 :: s14 :: s15 :: s16 :: s17 :: s18 :: .own ds :: ε) Q = semE Φ k (s0 :: s1 :: s2 :: s3 :: s4 :: s5 :: s6 :: s7 :: s8 :: s9 :: s10 :: s11 :: s12 :: s13 :: s14 :: s15 :: s16 :: s17 :: s18 :: .own ds :: ε) fun y => opIx (.lst ds) y Q := rfl
theorem yxv19 (Φ : Sm) (ε : List Slot) (Q : D → Prop) (s0 s1 s2 s3 s4 s5 s6 s7 s8 s9 s10 s11 s12 s13 s14 s15 s16 s17 s18 : Slot) (ds : List D) (k : CE) : semE Φ (.idxO 19 k) (s0 :: s1 :: s2 :: s3 :: s4 :: s5 :: s6 :: s7 :: s8 :: s9 :: s10 :: s11 :: s12 :: s13 :: s14 :: s15 :: s16 :: s17 :: s18 :: .val (.lst ds) :: ε) Q = semE Φ k (s0 :: s1 :: s2 :: s3 :: s4 :: s5 :: s6 :: s7 :: s8 :: s9 :: s10 :: s11 :: s12 :: s13 :: s14 :: s15 :: s16 :: s17 :: s18 :: .val (.lst ds) :: ε) fun y => opIx (.lst ds) y Q := rfl
theorem yldo19 (Φ : Sm) (ε : List Slot) (Q : D → Prop) (s0 s1 s2 s3 s4 s5 s6 s7 s8 s9 s10 s11 s12 s13 s14 s15 s16 s17 s18 : Slot) (ds : List D) (e : CE) : semE Φ (.lend 19 e) (s0 :: s1 :: s2 :: s3 :: s4 :: s5 :: s6 :: s7 :: s8 :: s9 :: s10 :: s11 :: s12 :: s13 :: s14 :: s15 :: s16 :: s17 :: s18 :: .own ds :: ε) Q = semE Φ e (s0 :: s1 :: s2 :: s3 :: s4 :: s5 :: s6 :: s7 :: s8 :: s9 :: s10 :: s11 :: s12 :: s13 :: s14 :: s15 :: s16 :: s17 :: s18 :: .val (.lst ds) :: ε) fun d => d.noL = true ∧ Q d := rfl
theorem yldv19 (Φ : Sm) (ε : List Slot) (Q : D → Prop) (s0 s1 s2 s3 s4 s5 s6 s7 s8 s9 s10 s11 s12 s13 s14 s15 s16 s17 s18 : Slot) (d : D) (e : CE) : semE Φ (.lend 19 e) (s0 :: s1 :: s2 :: s3 :: s4 :: s5 :: s6 :: s7 :: s8 :: s9 :: s10 :: s11 :: s12 :: s13 :: s14 :: s15 :: s16 :: s17 :: s18 :: .val d :: ε) Q = semE Φ e (s0 :: s1 :: s2 :: s3 :: s4 :: s5 :: s6 :: s7 :: s8 :: s9 :: s10 :: s11 :: s12 :: s13 :: s14 :: s15 :: s16 :: s17 :: s18 :: .val d :: ε) Q := rfl
theorem ynm19 (ε : List Slot) (K : List Slot → Prop) (s0 s1 s2 s3 s4 s5 s6 s7 s8 s9 s10 s11 s12 s13 s14 s15 s16 s17 s18 : Slot) (x : Slot) (d : D) : bindT (.nm 19) d (s0 :: s1 :: s2 :: s3 :: s4 :: s5 :: s6 :: s7 :: s8 :: s9 :: s10 :: s11 :: s12 :: s13 :: s14 :: s15 :: s16 :: s17 :: s18 :: x :: ε) K = K (s0 :: s1 :: s2 :: s3 :: s4 :: s5 :: s6 :: s7 :: s8 :: s9 :: s10 :: s11 :: s12 :: s13 :: s14 :: s15 :: s16 :: s17 :: s18 :: .val d :: ε) := rfl
theorem ywp19 (ε : List Slot) (s0 s1 s2 s3 s4 s5 s6 s7 s8 s9 s10 s11 s12 s13 s14 s15 s16 s17 s18 : Slot) (x : Slot) : wipeE (s0 :: s1 :: s2 :: s3 :: s4 :: s5 :: s6 :: s7 :: s8 :: s9 :: s10 :: s11 :: s12 :: s13 :: s14 :: s15 :: s16 :: s17 :: s18 :: x :: ε) [19] = s0 :: s1 :: s2 :: s3 :: s4 :: s5 :: s6 :: s7 :: s8 :: s9 :: s10 :: s11 :: s12 :: s13 :: s14 :: s15 :: s16 :: s17 :: s18 :: .non :: ε := rfl
theorem yow19 (Φ : Sm) (E : DEnds) (ε : List Slot) (s0 s1 s2 s3 s4 s5 s6 s7 s8 s9 s10 s11 s12 s13 s14 s15 s16 s17 s18 : Slot) (x : Slot) (e : CE) : semS Φ (.own 19 e) E (s0 :: s1 :: s2 :: s3 :: s4 :: s5 :: s6 :: s7 :: s8 :: s9 :: s10 :: s11 :: s12 :: s13 :: s14 :: s15 :: s16 :: s17 :: s18 :: x :: ε) = semE Φ e (s0 :: s1 :: s2 :: s3 :: s4 :: s5 :: s6 :: s7 :: s8 :: s9 :: s10 :: s11 :: s12 :: s13 :: s14 :: s15 :: s16 :: s17 :: s18 :: x :: ε) fun d => ownQ d fun ds => E.nx (s0 :: s1 :: s2 :: s3 :: s4 :: s5 :: s6 :: s7 :: s8 :: s9 :: s10 :: s11 :: s12 :: s13 :: s14 :: s15 :: s16 :: s17 :: s18 :: .own ds :: ε) := rfl
theorem yap19 (Φ : Sm) (E : DEnds) (ε : List Slot) (s0 s1 s2 s3 s4 s5 s6 s7 s8 s9 s10 s11 s12 s13 s14 s15 s16 s17 s18 : Slot) (ds : List D) (e : CE) : semS Φ (.app 19 e) E (s0 :: s1 :: s2 :: s3 :: s4 :: s5 :: s6 :: s7 :: s8 :: s9 :: s10 :: s11 :: s12 :: s13 :: s14 :: s15 :: s16 :: s17 :: s18 :: .own ds :: ε) = semE Φ e (s0 :: s1 :: s2 :: s3 :: s4 :: s5 :: s6 :: s7 :: s8 :: s9 :: s10 :: s11 :: s12 :: s13 :: s14 :: s15 :: s16 :: s17 :: s18 :: .own ds :: ε) fun v => ds.length < sizeLine ∧ E.nx (s0 :: s1 :: s2 :: s3 :: s4 :: s5 :: s6 :: s7 :: s8 :: s9 :: s10 :: s11 :: s12 :: s13 :: s14 :: s15 :: s16 :: s17 :: s18 :: .own (ds ++ [v]) :: ε) := rfl
theorem yrv19 (Φ : Sm) (E : DEnds) (ε : List Slot) (s0 s1 s2 s3 s4 s5 s6 s7 s8 s9 s10 s11 s12 s13 s14 s15 s16 s17 s18 : Slot) (ds : List D) : semS Φ (.rev 19) E (s0 :: s1 :: s2 :: s3 :: s4 :: s5 :: s6 :: s7 :: s8 :: s9 :: s10 :: s11 :: s12 :: s13 :: s14 :: s15 :: s16 :: s17 :: s18 :: .own ds :: ε) = E.nx (s0 :: s1 :: s2 :: s3 :: s4 :: s5 :: s6 :: s7 :: s8 :: s9 :: s10 :: s11 :: s12 :: s13 :: s14 :: s15 :: s16 :: s17 :: s18 :: .own ds.reverse :: ε) := rfl
theorem ysi19 (Φ : Sm) (E : DEnds) (ε : List Slot) (s0 s1 s2 s3 s4 s5 s6 s7 s8 s9 s10 s11 s12 s13 s14 s15 s16 s17 s18 : Slot) (ds : List D) (k e : CE) : semS Φ (.setIx 19 k e) E (s0 :: s1 :: s2 :: s3 :: s4 :: s5 :: s6 :: s7 :: s8 :: s9 :: s10 :: s11 :: s12 :: s13 :: s14 :: s15 :: s16 :: s17 :: s18 :: .own ds :: ε) = semE Φ e (s0 :: s1 :: s2 :: s3 :: s4 :: s5 :: s6 :: s7 :: s8 :: s9 :: s10 :: s11 :: s12 :: s13 :: s14 :: s15 :: s16 :: s17 :: s18 :: .own ds :: ε) fun v => semE Φ k (s0 :: s1 :: s2 :: s3 :: s4 :: s5 :: s6 :: s7 :: s8 :: s9 :: s10 :: s11 :: s12 :: s13 :: s14 :: s15 :: s16 :: s17 :: s18 :: .own ds :: ε) fun y => setQ ds v y fun ds' => E.nx (s0 :: s1 :: s2 :: s3 :: s4 :: s5 :: s6 :: s7 :: s8 :: s9 :: s10 :: s11 :: s12 :: s13 :: s14 :: s15 :: s16 :: s17 :: s18 :: .own ds' :: ε) := rfl
theorem yau19 (Φ : Sm) (E : DEnds) (ε : List Slot) (s0 s1 s2 s3 s4 s5 s6 s7 s8 s9 s10 s11 s12 s13 s14 s15 s16 s17 s18 : Slot) (n : Int) (o : O2) (e : CE) : semS Φ (.aug 19 o e) E (s0 :: s1 :: s2 :: s3 :: s4 :: s5 :: s6 :: s7 :: s8 :: s9 :: s10 :: s11 :: s12 :: s13 :: s14 :: s15 :: s16 :: s17 :: s18 :: .val (.int n) :: ε) = semE Φ e (s0 :: s1 :: s2 :: s3 :: s4 :: s5 :: s6 :: s7 :: s8 :: s9 :: s10 :: s11 :: s12 :: s13 :: s14 :: s15 :: s16 :: s17 :: s18 :: .val (.int n) :: ε) fun y => op2 o (.int n) y fun z => E.nx (s0 :: s1 :: s2 :: s3 :: s4 :: s5 :: s6 :: s7 :: s8 :: s9 :: s10 :: s11 :: s12 :: s13 :: s14 :: s15 :: s16 :: s17 :: s18 :: .val z :: ε) := rfl
theorem ypo19 (Φ : Sm) (E : DEnds) (ε : List Slot) (s0 s1 s2 s3 s4 s5 s6 s7 s8 s9 s10 s11 s12 s13 s14 s15 s16 s17 s18 : Slot) (ds : List D) : semS Φ (.pop 19) E (s0 :: s1 :: s2 :: s3 :: s4 :: s5 :: s6 :: s7 :: s8 :: s9 :: s10 :: s11 :: s12 :: s13 :: s14 :: s15 :: s16 :: s17 :: s18 :: .own ds :: ε) = (0 < ds.length ∧ E.nx (s0 :: s1 :: s2 :: s3 :: s4 :: s5 :: s6 :: s7 :: s8 :: s9 :: s10 :: s11 :: s12 :: s13 :: s14 :: s15 :: s16 :: s17 :: s18 :: .own ds.dropLast :: ε)) := rfl
theorem yro19 (Φ : Sm) (E : DEnds) (ε : List Slot) (s0 s1 s2 s3 s4 s5 s6 s7 s8 s9 s10 s11 s12 s13 s14 s15 s16 s17 s18 : Slot) (ds : List D) : semS Φ (.retO 19) E (s0 :: s1 :: s2 :: s3 :: s4 :: s5 :: s6 :: s7 :: s8 :: s9 :: s10 :: s11 :: s12 :: s13 :: s14 :: s15 :: s16 :: s17 :: s18 :: .own ds :: ε) = E.rt (.own ds) := rfl
theorem yfo19 (Φ : Sm) (E : DEnds) (ε : List Slot) (s0 s1 s2 s3 s4 s5 s6 s7 s8 s9 s10 s11 s12 s13 s14 s15 s16 s17 s18 : Slot) (ds : List D) (r : CSs) : semSs Φ (.frz 19 r) E (s0 :: s1 :: s2 :: s3 :: s4 :: s5 :: s6 :: s7 :: s8 :: s9 :: s10 :: s11 :: s12 :: s13 :: s14 :: s15 :: s16 :: s17 :: s18 :: .own ds :: ε) = semSs Φ r E (s0 :: s1 :: s2 :: s3 :: s4 :: s5 :: s6 :: s7 :: s8 :: s9 :: s10 :: s11 :: s12 :: s13 :: s14 :: s15 :: s16 :: s17 :: s18 :: .val (.lst ds) :: ε) := rfl
theorem yfv19 (Φ : Sm) (E : DEnds) (ε : List Slot) (s0 s1 s2 s3 s4 s5 s6 s7 s8 s9 s10 s11 s12 s13 s14 s15 s16 s17 s18 : Slot) (d : D) (r : CSs) : semSs Φ (.frz 19 r) E (s0 :: s1 :: s2 :: s3 :: s4 :: s5 :: s6 :: s7 :: s8 :: s9 :: s10 :: s11 :: s12 :: s13 :: s14 :: s15 :: s16 :: s17 :: s18 :: .val d :: ε) = semSs Φ r E (s0 :: s1 :: s2 :: s3 :: s4 :: s5 :: s6 :: s7 :: s8 :: s9 :: s10 :: s11 :: s12 :: s13 :: s14 :: s15 :: s16 :: s17 :: s18 :: .val d :: ε) := rfl
theorem yop19 (Φ : Sm) (E : DEnds) (ε : List Slot) (s0 s1 s2 s3 s4 s5 s6 s7 s8 s9 s10 s11 s12 s13 s14 s15 s16 s17 s18 : Slot) (ds : List D) (r : CSs) : semSs Φ (.opn 19 r) E (s0 :: s1 :: s2 :: s3 :: s4 :: s5 :: s6 :: s7 :: s8 :: s9 :: s10 :: s11 :: s12 :: s13 :: s14 :: s15 :: s16 :: s17 :: s18 :: .own ds :: ε) = ((∃ ns : List Int, ds = ns.map D.int ∧ ∀ n ∈ ns, 0 ≤ n) ∧ semSs Φ r E (s0 :: s1 :: s2 :: s3 :: s4 :: s5 :: s6 :: s7 :: s8 :: s9 :: s10 :: s11 :: s12 :: s13 :: s14 :: s15 :: s16 :: s17 :: s18 :: .val (.opq 0) :: ε)) := rfl
theorem yv20 (Φ : Sm) (ε : List Slot) (Q : D → Prop) (s0 s1 s2 s3 s4 s5 s6 s7 s8 s9 s10 s11 s12 s13 s14 s15 s16 s17 s18 s19 : Slot) (d : D) : semE Φ (.var 20) (s0 :: s1 :: s2 :: s3 :: s4 :: s5 :: s6 :: s7 :: s8 :: s9 :: s10 :: s11 :: s12 :: s13 :: s14 :: s15 :: s16 :: s17 :: s18 :: s19 :: .val d :: ε) Q = Q d := rfl
theorem ylo20 (Φ : Sm) (ε : List Slot) (Q : D → Prop) (s0 s1 s2 s3 s4 s5 s6 s7 s8 s9 s10 s11 s12 s13 s14 s15 s16 s17 s18 s19 : Slot) (ds : List D) : semE Φ (.lenO 20) (s0 :: s1 :: s2 :: s3 :: s4 :: s5 :: s6 :: s7 :: s8 :: s9 :: s10 :: s11 :: s12 :: s13 :: s14 :: s15 :: s16 :: s17 :: s18 :: s19 :: .own ds :: ε) Q = Q (.int ds.length) := rfl
theorem ylv20 (Φ : Sm) (ε : List Slot) (Q : D → Prop) (s0 s1 s2 s3 s4 s5 s6 s7 s8 s9 s10 s11 s12 s13 s14 s15 s16 s17 s18 s19 : Slot) (ds : List D) : semE Φ (.lenO 20) (s0 :: s1 :: s2 :: s3 :: s4 :: s5 :: s6 :: s7 :: s8 :: s9 :: s10 :: s11 :: s12 :: s13 :: s14 :: s15 :: s16 :: s17 :: s18 :: s19 :: .val (.lst ds) :: ε) Q = Q (.int ds.length) := rfl
theorem yxo20 (Φ : Sm) (ε : List Slot) (Q : D → Prop) (s0 s1 s2 s3 s4 s5 s6 s7 s8 s9 s10 s11 s12 s13 s14 s15 s16 s17 s18 s19 : Slot) (ds : List D) (k : CE) : semE Φ (.idxO 20 k) (s0 :: s1 :: s2 :: s3 :: s4 :: s5 :: s6 :: s7 :: s8 :: s9 :: s10 :: s11 :: s12 :: s13 :: s14 :: s15 :: s16 :: s17 :: s18 :: s19 :: .own ds :: ε) Q = semE Φ k (s0 :: s1 :: s2 :: s3 :: s4 :: s5 :: s6 :: s7 :: s8 :: s9 :: s10 :: s11 :: s12 :: s13 :: s14 :: s15 :: s16 :: s17 :: s18 :: s19 :: .own ds :: ε) fun y => opIx (.lst ds) y Q := rfl
theorem yxv20 (Φ : Sm) (ε : List Slot) (Q : D → Prop) (s0 s1 s2 s3 s4 s5 s6 s7 s8 s9 s10 s11 s12 s13 s14 s15 s16 s17 s18 s19 : Slot) (ds : List D) (k : CE) : semE Φ (.idxO 20 k) (s0 :: s1 :: s2 :: s3 :: s4 :: s5 :: s6 :: s7 :: s8 :: s9 :: s10 :: s11 :: s12 :: s13 :: s14 :: s15 :: s16 :: s17 :: s18 :: s19 :: .val (.lst ds) :: ε) Q = semE Φ k (s0 :: s1 :: s2 :: s3 :: s4 :: s5 :: s6 :: s7 :: s8 :: s9 :: s10 :: s11 :: s12 :: s13 :: s14 :: s15 :: s16 :: s17 :: s18 :: s19 :: .val (.lst ds) :: ε) fun y => opIx (.lst ds) y Q := rfl
theorem yldo20 (Φ : Sm) (ε : List Slot) (Q : D → Prop) (s0 s1 s2 s3 s4 s5 s6 s7 s8 s9 s10 s11 s12 s13 s14 s15 s16 s17 s18 s19 : Slot) (ds : List D) (e : CE) : semE Φ (.lend 20 e) (s0 :: s1 :: s2 :: s3 :: s4 :: s5 :: s6 :: s7 :: s8 :: s9 :: s10 :: s11 :: s12 :: s13 :: s14 :: s15 :: s16 :: s17 :: s18 :: s19 :: .own ds :: ε) Q = semE Φ e (s0 :: s1 :: s2 :: s3 :: s4 :: s5 :: s6 :: s7 :: s8 :: s9 :: s10 :: s11 :: s12 :: s13 :: s14 :: s15 :: s16 :: s17 :: s18 :: s19 :: .val (.lst ds) :: ε) fun d => d.noL = true ∧ Q d := rfl
theorem yldv20 (Φ : Sm) (ε : List Slot) (Q : D → Prop) (s0 s1 s2 s3 s4 s5 s6 s7 s8 s9 s10 s11 s12 s13 s14 s15 s16 s17 s18 s19 : Slot) (d : D) (e : CE) : semE Φ (.lend 20 e) (s0 :: s1 :: s2 :: s3 :: s4 :: s5 :: s6 :: s7 :: s8 :: s9 :: s10 :: s11 :: s12 :: s13 :: s14 :: s15 :: s16 :: s17 :: s18 :: s19 :: .val d :: ε) Q = semE Φ e (s0 :: s1 :: s2 :: s3 :: s4 :: s5 :: s6 :: s7 :: s8 :: s9 :: s10 :: s11 :: s12 :: s13 :: s14 :: s15 :: s16 :: s17 :: s18 :: s19 :: .val d :: ε) Q := rfl
theorem ynm20 (ε : List Slot) (K : List Slot → Prop) (s0 s1 s2 s3 s4 s5 s6 s7 s8 s9 s10 s11 s12 s13 s14 s15 s16 s17 s18 s19 : Slot) (x : Slot) (d : D) : bindT (.nm 20) d (s0 :: s1 :: s2 :: s3 :: s4 :: s5 :: s6 :: s7 :: s8 :: s9 :: s10 :: s11 :: s12 :: s13 :: s14 :: s15 :: s16 :: s17 :: s18 :: s19 :: x :: ε) K = K (s0 :: s1 :: s2 :: s3 :: s4 :: s5 :: s6 :: s7 :: s8 :: s9 :: s10 :: s11 :: s12 :: s13 :: s14 :: s15 :: s16 :: s17 :: s18 :: s19 :: .val d :: ε) := rfl
theorem ywp20 (ε : List Slot) (s0 s1 s2 s3 s4 s5 s6 s7 s8 s9 s10 s11 s12 s13 s14 s15 s16 s17 s18 s19 : Slot) (x : Slot) : wipeE (s0 :: s1 :: s2 :: s3 :: s4 :: s5 :: s6 :: s7 :: s8 :: s9 :: s10 :: s11 :: s12 :: s13 :: s14 :: s15 :: s16 :: s17 :: s18 :: s19 :: x :: ε) [20] = s0 :: s1 :: s2 :: s3 :: s4 :: s5 :: s6 :: s7 :: s8 :: s9 :: s10 :: s11 :: s12 :: s13 :: s14 :: s15 :: s16 :: s17 :: s18 :: s19 :: .non :: ε := rfl
theorem yow20 (Φ : Sm) (E : DEnds) (ε : List Slot) (s0 s1 s2 s3 s4 s5 s6 s7 s8 s9 s10 s11 s12 s13 s14 s15 s16 s17 s18 s19 : Slot) (x : Slot) (e : CE) : semS Φ (.own 20 e) E (s0 :: s1 :: s2 :: s3 :: s4 :: s5 :: s6 :: s7 :: s8 :: s9 :: s10 :: s11 :: s12 :: s13 :: s14 :: s15 :: s16 :: s17 :: s18 :: s19 :: x :: ε) = semE Φ e (s0 :: s1 :: s2 :: s3 :: s4 :: s5 :: s6 :: s7 :: s8 :: s9 :: s10 :: s11 :: s12 :: s13 :: s14 :: s15 :: s16 :: s17 :: s18 :: s19 :: x :: ε) fun d => ownQ d fun ds => E.nx (s0 :: s1 :: s2 :: s3 :: s4 :: s5 :: s6 :: s7 :: s8 :: s9 :: s10 :: s11 :: s12 :: s13 :: s14 :: s15 :: s16 :: s17 :: s18 :: s19 :: .own ds :: ε) := rfl
theorem yap20 (Φ : Sm) (E : DEnds) (ε : List Slot) (s0 s1 s2 s3 s4 s5 s6 s7 s8 s9 s10 s11 s12 s13 s14 s15 s16 s17 s18 s19 : Slot) (ds : List D) (e : CE) : semS Φ (.app 20 e) E (s0 :: s1 :: s2 :: s3 :: s4 :: s5 :: s6 :: s7 :: s8 :: s9 :: s10 :: s11 :: s12 :: s13 :: s14 :: s15 :: s16 :: s17 :: s18 :: s19 :: .own ds :: ε) = semE Φ e (s0 :: s1 :: s2 :: s3 :: s4 :: s5 :: s6 :: s7 :: s8 :: s9 :: s10 :: s11 :: s12 :: s13 :: s14 :: s15 :: s16 :: s17 :: s18 :: s19 :: .own ds :: ε) fun v => ds.length < sizeLine ∧ E.nx (s0 :: s1 :: s2 :: s3 :: s4 :: s5 :: s6 :: s7 :: s8 :: s9 :: s10 :: s11 :: s12 :: s13 :: s14 :: s15 :: s16 :: s17 :: s18 :: s19 :: .own (ds ++ [v]) :: ε) := rfl
theorem yrv20 (Φ : Sm) (E : DEnds) (ε : List Slot) (s0 s1 s2 s3 s4 s5 s6 s7 s8 s9 s10 s11 s12 s13 s14 s15 s16 s17 s18 s19 : Slot) (ds : List D) : semS Φ (.rev 20) E (s0 :: s1 :: s2 :: s3 :: s4 :: s5 :: s6 :: s7 :: s8 :: s9 :: s10 :: s11 :: s12 :: s13 :: s14 :: s15 :: s16 :: s17 :: s18 :: s19 :: .own ds :: ε) = E.nx (s0 :: s1 :: s2 :: s3 :: s4 :: s5 :: s6 :: s7 :: s8 :: s9 :: s10 :: s11 :: s12 :: s13 :: s14 :: s15 :: s16 :: s17 :: s18 :: s19 :: .own ds.reverse :: ε) := rfl
theorem ysi20 (Φ : Sm) (E : DEnds) (ε : List Slot) (s0 s1 s2 s3 s4 s5 s6 s7 s8 s9 s10 s11 s12 s13 s14 s15 s16 s17 s18 s19 : Slot) (ds : List D) (k e : CE) : semS Φ (.setIx 20 k e) E (s0 :: s1 :: s2 :: s3 :: s4 :: s5 :: s6 :: s7 :: s8 :: s9 :: s10 :: s11 :: s12 :: s13 :: s14 :: s15 :: s16 :: s17 :: s18 :: s19 :: .own ds :: ε) = semE Φ e (s0 :: s1 :: s2 :: s3 :: s4 :: s5 :: s6 :: s7 :: s8 :: s9 :: s10 :: s11 :: s12 :: s13 :: s14 :: s15 :: s16 :: s17 :: s18 :: s19 :: .own ds :: ε) fun v => semE Φ k (s0 :: s1 :: s2 :: s3 :: s4 :: s5 :: s6 :: s7 :: s8 :: s9 :: s10 :: s11 :: s12 :: s13 :: s14 :: s15 :: s16 :: s17 :: s18 :: s19 :: .own ds :: ε) fun y => setQ ds v y fun ds' => E.nx (s0 :: s1 :: s2 :: s3 :: s4 :: s5 :: s6 :: s7 :: s8 :: s9 :: s10 :: s11 :: s12 :: s13 :: s14 :: s15 :: s16 :: s17 :: s18 :: s19 :: .own ds' :: ε) := rfl
theorem yau20 (Φ : Sm) (E : DEnds) (ε : List Slot) (s0 s1 s2 s3 s4 s5 s6 s7 s8 s9 s10 s11 s12 s13 s14 s15 s16 s17 s18 s19 : Slot) (n : Int) (o : O2) (e : CE) : semS Φ (.aug 20 o e) E (s0 :: s1 :: s2 :: s3 :: s4 :: s5 :: s6 :: s7 :: s8 :: s9 :: s10 :: s11 :: s12 :: s13 :: s14 :: s15 :: s16 :: s17 :: s18 :: s19 :: .val (.int n) :: ε) = semE Φ e (s0 :: s1 :: s2 :: s3 :: s4 :: s5 :: s6 :: s7 :: s8 :: s9 :: s10 :: s11 :: s12 :: s13 :: s14 :: s15 :: s16 :: s17 :: s18 :: s19 :: .val (.int n) :: ε) fun y => op2 o (.int n) y fun z => E.nx (s0 :: s1 :: s2 :: s3 :: s4 :: s5 :: s6 :: s7 :: s8 :: s9 :: s10 :: s11 :: s12 :: s13 :: s14 :: s15 :: s16 :: s17 :: s18 :: s19 :: .val z :: ε) := rfl
theorem ypo20 (Φ : Sm) (E : DEnds) (ε : List Slot) (s0 s1 s2 s3 s4 s5 s6 s7 s8 s9 s10 s11 s12 s13 s14 s15 s16 s17 s18 s19 : Slot) (ds : List D) : semS Φ (.pop 20) E (s0 :: s1 :: s2 :: s3 :: s4 :: s5 :: s6 :: s7 :: s8 :: s9 :: s10 :: s11 :: s12 :: s13 :: s14 :: s15 :: s16 :: s17 :: s18 :: s19 :: .own ds :: ε) = (0 < ds.length ∧ E.nx (s0 :: s1 :: s2 :: s3 :: s4 :: s5 :: s6 :: s7 :: s8 :: s9 :: s10 :: s11 :: s12 :: s13 :: s14 :: s15 :: s16 :: s17 :: s18 :: s19 :: .own ds.dropLast :: ε)) := rfl
theorem yro20 (Φ : Sm) (E : DEnds) (ε : List Slot) (s0 s1 s2 s3 s4 s5 s6 s7 s8 s9 s10 s11 s12 s13 s14 s15 s16 s17 s18 s19 : Slot) (ds : List D) : semS Φ (.retO 20) E (s0 :: s1 :: s2 :: s3 :: s4 :: s5 :: s6 :: s7 :: s8 :: s9 :: s10 :: s11 :: s12 :: s13 :: s14 :: s15 :: s16 :: s17 :: s18 :: s19 :: .own ds :: ε) = E.rt (.own ds) := rfl
theorem yfo20 (Φ : Sm) (E : DEnds) (ε : List Slot) (s0 s1 s2 s3 s4 s5 s6 s7 s8 s9 s10 s11 s12 s13 s14 s15 s16 s17 s18 s19 : Slot) (ds : List D) (r : CSs) : semSs Φ (.frz 20 r) E (s0 :: s1 :: s2 :: s3 :: s4 :: s5 :: s6 :: s7 :: s8 :: s9 :: s10 :: s11 :: s12 :: s13 :: s14 :: s15 :: s16 :: s17 :: s18 :: s19 :: .own ds :: ε) = semSs Φ r E (s0 :: s1 :: s2 :: s3 :: s4 :: s5 :: s6 :: s7 :: s8 :: s9 :: s10 :: s11 :: s12 :: s13 :: s14 :: s15 :: s16 :: s17 :: s18 :: s19 :: .val (.lst ds) :: ε) := rfl
theorem yfv20 (Φ : Sm) (E : DEnds) (ε : List Slot) (s0 s1 s2 s3 s4 s5 s6 s7 s8 s9 s10 s11 s12 s13 s14 s15 s16 s17 s18 s19 : Slot) (d : D) (r : CSs) : semSs Φ (.frz 20 r) E (s0 :: s1 :: s2 :: s3 :: s4 :: s5 :: s6 :: s7 :: s8 :: s9 :: s10 :: s11 :: s12 :: s13 :: s14 :: s15 :: s16 :: s17 :: s18 :: s19 :: .val d :: ε) = semSs Φ r E (s0 :: s1 :: s2 :: s3 :: s4 :: s5 :: s6 :: s7 :: s8 :: s9 :: s10 :: s11 :: s12 :: s13 :: s14 :: s15 :: s16 :: s17 :: s18 :: s19 :: .val d :: ε) := rfl
theorem yop20 (Φ : Sm) (E : DEnds) (ε : List Slot) (s0 s1 s2 s3 s4 s5 s6 s7 s8 s9 s10 s11 s12 s13 s14 s15 s16 s17 s18 s19 : Slot) (ds : List D) (r : CSs) : semSs Φ (.opn 20 r) E (s0 :: s1 :: s2 :: s3 :: s4 :: s5 :: s6 :: s7 :: s8 :: s9 :: s10 :: s11 :: s12 :: s13 :: s14 :: s15 :: s16 :: s17 :: s18 :: s19 :: .own ds :: ε) = ((∃ ns : List Int, ds = ns.map D.int ∧ ∀ n ∈ ns, 0 ≤ n) ∧ semSs Φ r E (s0 :: s1 :: s2 :: s3 :: s4 :: s5 :: s6 :: s7 :: s8 :: s9 :: s10 :: s11 :: s12 :: s13 :: s14 :: s15 :: s16 :: s17 :: s18 :: s19 :: .val (.opq 0) :: ε)) := rfl
theorem yv21 (Φ : Sm) (ε : List Slot) (Q : D → Prop) (s0 s1 s2 s3 s4 s5 s6 s7 s8 s9 s10 s11 s12 s13 s14 s15 s16 s17 s18 s19 s20 : Slot) (d : D) : semE Φ (.var 21) (s0 :: s1 :: s2 :: s3 :: s4 :: s5 :: s6 :: s7 :: s8 :: s9 :: s10 :: s11 :: s12 :: s13 :: s14 :: s15 :: s16 :: s17 :: s18 :: s19 :: s20 :: .val d :: ε) Q = Q d := rfl
theorem ylo21 (Φ : Sm) (ε : List Slot) (Q : D → Prop) (s0 s1 s2 s3 s4 s5 s6 s7 s8 s9 s10 s11 s12 s13 s14 s15 s16 s17 s18 s19 s20 : Slot) (ds : List D) : semE Φ (.lenO 21) (s0 :: s1 :: s2 :: s3 :: s4 :: s5 :: s6 :: s7 :: s8 :: s9 :: s10 :: s11 :: s12 :: s13 :: s14 :: s15 :: s16 :: s17 :: s18 :: s19 :: s20 :: .own ds :: ε) Q = Q (.int ds.length) := rfl
theorem ylv21 (Φ : Sm) (ε : List Slot) (Q : D → Prop) (s0 s1 s2 s3 s4 s5 s6 s7 s8 s9 s10 s11 s12 s13 s14 s15 s16 s17 s18 s19 s20 : Slot) (ds : List D) : semE Φ (.lenO 21) (s0 :: s1 :: s2 :: s3 :: s4 :: s5 :: s6 :: s7 :: s8 :: s9 :: s10 :: s11 :: s12 :: s13 :: s14 :: s15 :: s16 :: s17 :: s18 :: s19 :: s20 :: .val (.lst ds) :: ε) Q = Q (.int ds.length) := rfl
theorem yxo21 (Φ : Sm) (ε : List Slot) (Q : D → Prop) (s0 s1 s2 s3 s4 s5 s6 s7 s8 s9 s10 s11 s12 s13 s14 s15 s16 s17 s18 s19 s20 : Slot) (ds : List D) (k : CE) : semE Φ (.idxO 21 k) (s0 :: s1 :: s2 :: s3 :: s4 :: s5 :: s6 :: s7 :: s8 :: s9 :: s10 :: s11 :: s12 :: s13 :: s14 :: s15 :: s16 :: s17 :: s18 :: s19 :: s20 :: .own ds :: ε) Q = semE Φ k (s0 :: s1 :: s2 :: s3 :: s4 :: s5 :: s6 :: s7 :: s8 :: s9 :: s10 :: s11 :: s12 :: s13 :: s14 :: s15 :: s16 :: s17 :: s18 :: s19 :: s20 :: .own ds :: ε) fun y => opIx (.lst ds) y Q := rfl
theorem yxv21 (Φ : Sm) (ε : List Slot) (Q : D → Prop) (s0 s1 s2 s3 s4 s5 s6 s7 s8 s9 s10 s11 s12 s13 s14 s15 s16 s17 s18 s19 s20 : Slot) (ds : List D) (k : CE) : semE Φ (.idxO 21 k) (s0 :: s1 :: s2 :: s3 :: s4 :: s5 :: s6 :: s7 :: s8 :: s9 :: s10 :: s11 :: s12 :: s13 :: s14 :: s15 :: s16 :: s17 :: s18 :: s19 :: s20 :: .val (.lst ds) :: ε) Q = semE Φ k (s0 :: s1 :: s2 :: s3 :: s4 :: s5 :: s6 :: s7 :: s8 :: s9 :: s10 :: s11 :: s12 :: s13 :: s14 :: s15 :: s16 :: s17 :: s18 :: s19 :: s20 :: .val (.lst ds) :: ε) fun y => opIx (.lst ds) y Q := rfl
theorem yldo21 (Φ : Sm) (ε : List Slot) (Q : D → Prop) (s0 s1 s2 s3 s4 s5 s6 s7 s8 s9 s10 s11 s12 s13 s14 s15 s16 s17 s18 s19 s20 : Slot) (ds : List D) (e : CE) : semE Φ (.lend 21 e) (s0 :: s1 :: s2 :: s3 :: s4 :: s5 :: s6 :: s7 :: s8 :: s9 :: s10 :: s11 :: s12 :: s13 :: s14 :: s15 :: s16 :: s17 :: s18 :: s19 :: s20 :: .own ds :: ε) Q = semE Φ e (s0 :: s1 :: s2 :: s3 :: s4 :: s5 :: s6 :: s7 :: s8 :: s9 :: s10 :: s11 :: s12 :: s13 :: s14 :: s15 :: s16 :: s17 :: s18 :: s19 :: s20 :: .val (.lst ds) :: ε) fun d => d.noL = true ∧ Q d := rfl
theorem yldv21 (Φ : Sm) (ε : List Slot) (Q : D → Prop) (s0 s1 s2 s3 s4 s5 s6 s7 s8 s9 s10 s11 s12 s13 s14 s15 s16 s17 s18 s19 s20 : Slot) (d : D) (e : CE) : semE Φ (.lend 21 e) (s0 :: s1 :: s2 :: s3 :: s4 :: s5 :: s6 :: s7 :: s8 :: s9 :: s10 :: s11 :: s12 :: s13 :: s14 :: s15 :: s16 :: s17 :: s18 :: s19 :: s20 :: .val d :: ε) Q = semE Φ e (s0 :: s1 :: s2 :: s3 :: s4 :: s5 :: s6 :: s7 :: s8 :: s9 :: s10 :: s11 :: s12 :: s13 :: s14 :: s15 :: s16 :: s17 :: s18 :: s19 :: s20 :: .val d :: ε) Q := rfl
theorem ynm21 (ε : List Slot) (K : List Slot → Prop) (s0 s1 s2 s3 s4 s5 s6 s7 s8 s9 s10 s11 s12 s13 s14 s15 s16 s17 s18 s19 s20 : Slot) (x : Slot) (d : D) : bindT (.nm 21) d (s0 :: s1 :: s2 :: s3 :: s4 :: s5 :: s6 :: s7 :: s8 :: s9 :: s10 :: s11 :: s12 :: s13 :: s14 :: s15 :: s16 :: s17 :: s18 :: s19 :: s20 :: x :: ε) K = K (s0 :: s1 :: s2 :: s3 :: s4 :: s5 :: s6 :: s7 :: s8 :: s9 :: s10 :: s11 :: s12 :: s13 :: s14 :: s15 :: s16 :: s17 :: s18 :: s19 :: s20 :: .val d :: ε) := rfl
theorem ywp21 (ε : List Slot) (s0 s1 s2 s3 s4 s5 s6 s7 s8 s9 s10 s11 s12 s13 s14 s15 s16 s17 s18 s19 s20 : Slot) (x : Slot) : wipeE (s0 :: s1 :: s2 :: s3 :: s4 :: s5 :: s6 :: s7 :: s8 :: s9 :: s10 :: s11 :: s12 :: s13 :: s14 :: s15 :: s16 :: s17 :: s18 :: s19 :: s20 :: x :: ε) [21] = s0 :: s1 :: s2 :: s3 :: s4 :: s5 :: s6 :: s7 :: s8 :: s9 :: s10 :: s11 :: s12 :: s13 :: s14 :: s15 :: s16 :: s17 :: s18 :: s19 :: s20 :: .non :: ε := rfl
theorem yow21 (Φ : Sm) (E : DEnds) (ε : List Slot) (s0 s1 s2 s3 s4 s5 s6 s7 s8 s9 s10 s11 s12 s13 s14 s15 s16 s17 s18 s19 s20 : Slot) (x : Slot) (e : CE) : semS Φ (.own 21 e) E (s0 :: s1 :: s2 :: s3 :: s4 :: s5 :: s6 :: s7 :: s8 :: s9 :: s10 :: s11 :: s12 :: s13 :: s14 :: s15 :: s16 :: s17 :: s18 :: s19 :: s20 :: x :: ε) = semE Φ e (s0 :: s1 :: s2 :: s3 :: s4 :: s5 :: s6 :: s7 :: s8 :: s9 :: s10 :: s11 :: s12 :: s13 :: s14 :: s15 :: s16 :: s17 :: s18 :: s19 :: s20 :: x :: ε) fun d => ownQ d fun ds => E.nx (s0 :: s1 :: s2 :: s3 :: s4 :: s5 :: s6 :: s7 :: s8 :: s9 :: s10 :: s11 :: s12 :: s13 :: s14 :: s15 :: s16 :: s17 :: s18 :: s19 :: s20 :: .own ds :: ε) := rfl
theorem yap21 (Φ : Sm) (E : DEnds) (ε : List Slot) (s0 s1 s2 s3 s4 s5 s6 s7 s8 s9 s10 s11 s12 s13 s14 s15 s16 s17 s18 s19 s20 : Slot) (ds : List D) (e : CE) : semS Φ (.app 21 e) E (s0 :: s1 :: s2 :: s3 :: s4 :: s5 :: s6 :: s7 :: s8 :: s9 :: s10 :: s11 :: s12 :: s13 :: s14 :: s15 :: s16 :: s17 :: s18 :: s19 :: s20 :: .own ds :: ε) = semE Φ e (s0 :: s1 :: s2 :: s3 :: s4 :: s5 :: s6 :: s7 :: s8 :: s9 :: s10 :: s11 :: s12 :: s13 :: s14 :: s15 :: s16 :: s17 :: s18 :: s19 :: s20 :: .own ds :: ε) fun v => ds.length < sizeLine ∧ E.nx (s0 :: s1 :: s2 :: s3 :: s4 :: s5 :: s6 :: s7 :: s8 :: s9 :: s10 :: s11 :: s12 :: s13 :: s14 :: s15 :: s16 :: s17 :: s18 :: s19 :: s20 :: .own (ds ++ [v]) :: ε) := rfl
theorem yrv21 (Φ : Sm) (E : DEnds) (ε : List Slot) (s0 s1 s2 s3 s4 s5 s6 s7 s8 s9 s10 s11 s12 s13 s14 s15 s16 s17 s18 s19 s20 : Slot) (ds : List D) : semS Φ (.rev 21) E (s0 :: s1 :: s2 :: s3 :: s4 :: s5 :: s6 :: s7 :: s8 :: s9 :: s10 :: s11 :: s12 :: s13 :: s14 :: s15 :: s16 :: s17 :: s18 :: s19 :: s20 :: .own ds :: ε) = E.nx (s0 :: s1 :: s2 :: s3 :: s4 :: s5 :: s6 :: s7 :: s8 :: s9 :: s10 :: s11 :: s12 :: s13 :: s14 :: s15 :: s16 :: s17 :: s18 :: s19 :: s20 :: .own ds.reverse :: ε) := rfl
theorem ysi21 (Φ : Sm) (E : DEnds) (ε : List Slot) (s0 s1 s2 s3 s4 s5 s6 s7 s8 s9 s10 s11 s12 s13 s14 s15 s16 s17 s18 s19 s20 : Slot) (ds : List D) (k e : CE) : semS Φ (.setIx 21 k e) E (s0 :: s1 :: s2 :: s3 :: s4 :: s5 :: s6 :: s7 :: s8 :: s9 :: s10 :: s11 :: s12 :: s13 :: s14 :: s15 :: s16 :: s17 :: s18 :: s19 :: s20 :: .own ds :: ε) = semE Φ e (s0 :: s1 :: s2 :: s3 :: s4 :: s5 :: s6 :: s7 :: s8 :: s9 :: s10 :: s11 :: s12 :: s13 :: s14 :: s15 :: s16 :: s17 :: s18 :: s19 :: s20 :: .own ds :: ε) fun v => semE Φ k (s0 :: s1 :: s2 :: s3 :: s4 :: s5 :: s6 :: s7 :: s8 :: s9 :: s10 :: s11 :: s12 :: s13 :: s14 :: s15 :: s16 :: s17 :: s18 :: s19 :: s20 :: .own ds :: ε) fun y => setQ ds v y fun ds' => E.nx (s0 :: s1 :: s2 :: s3 :: s4 :: s5 :: s6 :: s7 :: s8 :: s9 :: s10 :: s11 :: s12 :: s13 :: s14 :: s15 :: s16 :: s17 :: s18 :: s19 :: s20 :: .own ds' :: ε) := rfl
theorem yau21 (Φ : Sm) (E : DEnds) (ε : List Slot) (s0 s1 s2 s3 s4 s5 s6 s7 s8 s9 s10 s11 s12 s13 s14 s15 s16 s17 s18 s19 s20 : Slot) (n : Int) (o : O2) (e : CE) : semS Φ (.aug 21 o e) E (s0 :: s1 :: s2 :: s3 :: s4 :: s5 :: s6 :: s7 :: s8 :: s9 :: s10 :: s11 :: s12 :: s13 :: s14 :: s15 :: s16 :: s17 :: s18 :: s19 :: s20 :: .val (.int n) :: ε) = semE Φ e (s0 :: s1 :: s2 :: s3 :: s4 :: s5 :: s6 :: s7 :: s8 :: s9 :: s10 :: s11 :: s12 :: s13 :: s14 :: s15 :: s16 :: s17 :: s18 :: s19 :: s20 :: .val (.int n) :: ε) fun y => op2 o (.int n) y fun z => E.nx (s0 :: s1 :: s2 :: s3 :: s4 :: s5 :: s6 :: s7 :: s8 :: s9 :: s10 :: s11 :: s12 :: s13 :: s14 :: s15 :: s16 :: s17 :: s18 :: s19 :: s20 :: .val z :: ε) := rfl
theorem ypo21 (Φ : Sm) (E : DEnds) (ε : List Slot) (s0 s1 s2 s3 s4 s5 s6 s7 s8 s9 s10 s11 s12 s13 s14 s15 s16 s17 s18 s19 s20 : Slot) (ds : List D) : semS Φ (.pop 21) E (s0 :: s1 :: s2 :: s3 :: s4 :: s5 :: s6 :: s7 :: s8 :: s9 :: s10 :: s11 :: s12 :: s13 :: s14 :: s15 :: s16 :: s17 :: s18 :: s19 :: s20 :: .own ds :: ε) = (0 < ds.length ∧ E.nx (s0 :: s1 :: s2 :: s3 :: s4 :: s5 :: s6 :: s7 :: s8 :: s9 :: s10 :: s11 :: s12 :: s13 :: s14 :: s15 :: s16 :: s17 :: s18 :: s19 :: s20 :: .own ds.dropLast :: ε)) := rfl
theorem yro21 (Φ : Sm) (E : DEnds) (ε : List Slot) (s0 s1 s2 s3 s4 s5 s6 s7 s8 s9 s10 s11 s12 s13 s14 s15 s16 s17 s18 s19 s20 : Slot) (ds : List D) : semS Φ (.retO 21) E (s0 :: s1 :: s2 :: s3 :: s4 :: s5 :: s6 :: s7 :: s8 :: s9 :: s10 :: s11 :: s12 :: s13 :: s14 :: s15 :: s16 :: s17 :: s18 :: s19 :: s20 :: .own ds :: ε) = E.rt (.own ds) := rfl
theorem yfo21 (Φ : Sm) (E : DEnds) (ε : List Slot) (s0 s1 s2 s3 s4 s5 s6 s7 s8 s9 s10 s11 s12 s13 s14 s15 s16 s17 s18 s19 s20 : Slot) (ds : List D) (r : CSs) : semSs Φ (.frz 21 r) E (s0 :: s1 :: s2 :: s3 :: s4 :: s5 :: s6 :: s7 :: s8 :: s9 :: s10 :: s11 :: s12 :: s13 :: s14 :: s15 :: s16 :: s17 :: s18 :: s19 :: s20 :: .own ds :: ε) = semSs Φ r E (s0 :: s1 :: s2 :: s3 :: s4 :: s5 :: s6 :: s7 :: s8 :: s9 :: s10 :: s11 :: s12 :: s13 :: s14 :: s15 :: s16 :: s17 :: s18 :: s19 :: s20 :: .val (.lst ds) :: ε) := rfl
theorem yfv21 (Φ : Sm) (E : DEnds) (ε : List Slot) (s0 s1 s2 s3 s4 s5 s6 s7 s8 s9 s10 s11 s12 s13 s14 s15 s16 s17 s18 s19 s20 : Slot) (d : D) (r : CSs) : semSs Φ (.frz 21 r) E (s0 :: s1 :: s2 :: s3 :: s4 :: s5 :: s6 :: s7 :: s8 :: s9 :: s10 :: s11 :: s12 :: s13 :: s14 :: s15 :: s16 :: s17 :: s18 :: s19 :: s20 :: .val d :: ε) = semSs Φ r E (s0 :: s1 :: s2 :: s3 :: s4 :: s5 :: s6 :: s7 :: s8 :: s9 :: s10 :: s11 :: s12 :: s13 :: s14 :: s15 :: s16 :: s17 :: s18 :: s19 :: s20 :: .val d :: ε) := rfl
theorem yop21 (Φ : Sm) (E : DEnds) (ε : List Slot) (s0 s1 s2 s3 s4 s5 s6 s7 s8 s9 s10 s11 s12 s13 s14 s15 s16 s17 s18 s19 s20 : Slot) (ds : List D) (r : CSs) : semSs Φ (.opn 21 r) E (s0 :: s1 :: s2 :: s3 :: s4 :: s5 :: s6 :: s7 :: s8 :: s9 :: s10 :: s11 :: s12 :: s13 :: s14 :: s15 :: s16 :: s17 :: s18 :: s19 :: s20 :: .own ds :: ε) = ((∃ ns : List Int, ds = ns.map D.int ∧ ∀ n ∈ ns, 0 ≤ n) ∧ semSs Φ r E (s0 :: s1 :: s2 :: s3 :: s4 :: s5 :: s6 :: s7 :: s8 :: s9 :: s10 :: s11 :: s12 :: s13 :: s14 :: s15 :: s16 :: s17 :: s18 :: s19 :: s20 :: .val (.opq 0) :: ε)) := rfl
theorem yv22 (Φ : Sm) (ε : List Slot) (Q : D → Prop) (s0 s1 s2 s3 s4 s5 s6 s7 s8 s9 s10 s11 s12 s13 s14 s15 s16 s17 s18 s19 s20 s21 : Slot) (d : D) : semE Φ (.var 22) (s0 :: s1 :: s2 :: s3 :: s4 :: s5 :: s6 :: s7 :: s8 :: s9 :: s10 :: s11 :: s12 :: s13 :: s14 :: s15 :: s16 :: s17 :: s18 :: s19 :: s20 :: s21 :: .val d :: ε) Q = Q d := rfl
theorem ylo22 (Φ : Sm) (ε : List Slot) (Q : D → Prop) (s0 s1 s2 s3 s4 s5 s6 s7 s8 s9 s10 s11 s12 s13 s14 s15 s16 s17 s18 s19 s20 s21 : Slot) (ds : List D) : semE Φ (.lenO 22) (s0 :: s1 :: s2 :: s3 :: s4 :: s5 :: s6 :: s7 :: s8 :: s9 :: s10 :: s11 :: s12 :: s13 :: s14 :: s15 :: s16 :: s17 :: s18 :: s19 :: s20 :: s21 :: .own ds :: ε) Q = Q (.int ds.length) := rfl
theorem ylv22 (Φ : Sm) (ε : List Slot) (Q : D → Prop) (s0 s1 s2 s3 s4 s5 s6 s7 s8 s9 s10 s11 s12 s13 s14 s15 s16 s17 s18 s19 s20 s21 : Slot) (ds : List D) : semE Φ (.lenO 22) (s0 :: s1 :: s2 :: s3 :: s4 :: s5 :: s6 :: s7 :: s8 :: s9 :: s10 :: s11 :: s12 :: s13 :: s14 :: s15 :: s16 :: s17 :: s18 :: s19 :: s20 :: s21 :: .val (.lst ds) :: ε) Q = Q (.int ds.length) := rfl
theorem yxo22 (Φ : Sm) (ε : List Slot) (Q : D → Prop) (s0 s1 s2 s3 s4 s5 s6 s7 s8 s9 s10 s11 s12 s13 s14 s15 s16 s17 s18 s19 s20 s21 : Slot) (ds : List D) (k : CE) : semE Φ (.idxO 22 k) (s0 :: s1 :: s2 :: s3 :: s4 :: s5 :: s6 :: s7 :: s8 :: s9 :: s10 :: s11 :: s12 :: s13 :: s14 :: s15 :: s16 :: s17 :: s18 :: s19 :: s20 :: s21 :: .own ds :: ε) Q = semE Φ k (s0 :: s1 :: s2 :: s3 :: s4 :: s5 :: s6 :: s7 :: s8 :: s9 :: s10 :: s11 :: s12 :: s13 :: s14 :: s15 :: s16 :: s17 :: s18 :: s19 :: s20 :: s21 :: .own ds :: ε) fun y => opIx (.lst ds) y Q := rfl
theorem yxv22 (Φ : Sm) (ε : List Slot) (Q : D → Prop) (s0 s1 s2 s3 s4 s5 s6 s7 s8 s9 s10 s11 s12 s13 s14 s15 s16 s17 s18 s19 s20 s21 : Slot) (ds : List D) (k : CE) : semE Φ (.idxO 22 k) (s0 :: s1 :: s2 :: s3 :: s4 :: s5 :: s6 :: s7 :: s8 :: s9 :: s10 :: s11 :: s12 :: s13 :: s14 :: s15 :: s16 :: s17 :: s18 :: s19 :: s20 :: s21 :: .val (.lst ds) :: ε) Q = semE Φ k (s0 :: s1 :: s2 :: s3 :: s4 :: s5 :: s6 :: s7 :: s8 :: s9 :: s10 :: s11 :: s12 :: s13 :: s14 :: s15 :: s16 :: s17 :: s18 :: s19 :: s20 :: s21 :: .val (.lst ds) :: ε) fun y => opIx (.lst ds) y Q := rfl
theorem yldo22 (Φ : Sm) (ε : List Slot) (Q : D → Prop) (s0 s1 s2 s3 s4 s5 s6 s7 s8 s9 s10 s11 s12 s13 s14 s15 s16 s17 s18 s19 s20 s21 : Slot) (ds : List D) (e : CE) : semE Φ (.lend 22 e) (s0 :: s1 :: s2 :: s3 :: s4 :: s5 :: s6 :: s7 :: s8 :: s9 :: s10 :: s11 :: s12 :: s13 :: s14 :: s15 :: s16 :: s17 :: s18 :: s19 :: s20 :: s21 :: .own ds :: ε) Q = semE Φ e (s0 :: s1 :: s2 :: s3 :: s4 :: s5 :: s6 :: s7 :: s8 :: s9 :: s10 :: s11 :: s12 :: s13 :: s14 :: s15 :: s16 :: s17 :: s18 :: s19 :: s20 :: s21 :: .val (.lst ds) :: ε) fun d => d.noL = true ∧ Q d := rfl
theorem yldv22 (Φ : Sm) (ε : List Slot) (Q : D → Prop) (s0 s1 s2 s3 s4 s5 s6 s7 s8 s9 s10 s11 s12 s13 s14 s15 s16 s17 s18 s19 s20 s21 : Slot) (d : D) (e : CE) : semE Φ (.lend 22 e) (s0 :: s1 :: s2 :: s3 :: s4 :: s5 :: s6 :: s7 :: s8 :: s9 :: s10 :: s11 :: s12 :: s13 :: s14 :: s15 :: s16 :: s17 :: s18 :: s19 :: s20 :: s21 :: .val d :: ε) Q = semE Φ e (s0 :: s1 :: s2 :: s3 :: s4 :: s5 :: s6 :: s7 :: s8 :: s9 :: s10 :: s11 :: s12 :: s13 :: s14 :: s15 :: s16 :: s17 :: s18 :: s19 :: s20 :: s21 :: .val d :: ε) Q := rfl
theorem ynm22 (ε : List Slot) (K : List Slot → Prop) (s0 s1 s2 s3 s4 s5 s6 s7 s8 s9 s10 s11 s12 s13 s14 s15 s16 s17 s18 s19 s20 s21 : Slot) (x : Slot) (d : D) : bindT (.nm 22) d (s0 :: s1 :: s2 :: s3 :: s4 :: s5 :: s6 :: s7 :: s8 :: s9 :: s10 :: s11 :: s12 :: s13 :: s14 :: s15 :: s16 :: s17 :: s18 :: s19 :: s20 :: s21 :: x :: ε) K = K (s0 :: s1 :: s2 :: s3 :: s4 :: s5 :: s6 :: s7 :: s8 :: s9 :: s10 :: s11 :: s12 :: s13 :: s14 :: s15 :: s16 :: s17 :: s18 :: s19 :: s20 :: s21 :: .val d :: ε) := rfl
theorem ywp22 (ε : List Slot) (s0 s1 s2 s3 s4 s5 s6 s7 s8 s9 s10 s11 s12 s13 s14 s15 s16 s17 s18 s19 s20 s21 : Slot) (x : Slot) : wipeE (s0 :: s1 :: s2 :: s3 :: s4 :: s5 :: s6 :: s7 :: s8 :: s9 :: s10 :: s11 :: s12 :: s13 :: s14 :: s15 :: s16 :: s17 :: s18 :: s19 :: s20 :: s21 :: x :: ε) [22] = s0 :: s1 :: s2 :: s3 :: s4 :: s5 :: s6 :: s7 :: s8 :: s9 :: s10 :: s11 :: s12 :: s13 :: s14 :: s15 :: s16 :: s17 :: s18 :: s19 :: s20 :: s21 :: .non :: ε := rfl
theorem yow22 (Φ : Sm) (E : DEnds) (ε : List Slot) (s0 s1 s2 s3 s4 s5 s6 s7 s8 s9 s10 s11 s12 s13 s14 s15 s16 s17 s18 s19 s20 s21 : Slot) (x : Slot) (e : CE) : semS Φ (.own 22 e) E (s0 :: s1 :: s2 :: s3 :: s4 :: s5 :: s6 :: s7 :: s8 :: s9 :: s10 :: s11 :: s12 :: s13 :: s14 :: s15 :: s16 :: s17 :: s18 :: s19 :: s20 :: s21 :: x :: ε) = semE Φ e (s0 :: s1 :: s2 :: s3 :: s4 :: s5 :: s6 :: s7 :: s8 :: s9 :: s10 :: s11 :: s12 :: s13 :: s14 :: s15 :: s16 :: s17 :: s18 :: s19 :: s20 :: s21 :: x :: ε) fun d => ownQ d fun ds => E.nx (s0 :: s1 :: s2 :: s3 :: s4 :: s5 :: s6 :: s7 :: s8 :: s9 :: s10 :: s11 :: s12 :: s13 :: s14 :: s15 :: s16 :: s17 :: s18 :: s19 :: s20 :: s21 :: .own ds :: ε) := rfl
theorem yap22 (Φ : Sm) (E : DEnds) (ε : List Slot) (s0 s1 s2 s3 s4 s5 s6 s7 s8 s9 s10 s11 s12 s13 s14 s15 s16 s17 s18 s19 s20 s21 : Slot) (ds : List D) (e : CE) : semS Φ (.app 22 e) E (s0 :: s1 :: s2 :: s3 :: s4 :: s5 :: s6 :: s7 :: s8 :: s9 :: s10 :: s11 :: s12 :: s13 :: s14 :: s15 :: s16 :: s17 :: s18 :: s19 :: s20 :: s21 :: .own ds :: ε) = semE Φ e (s0 :: s1 :: s2 :: s3 :: s4 :: s5 :: s6 :: s7 :: s8 :: s9 :: s10 :: s11 :: s12 :: s13 :: s14 :: s15 :: s16 :: s17 :: s18 :: s19 :: s20 :: s21 :: .own ds :: ε) fun v => ds.length < sizeLine ∧ E.nx (s0 :: s1 :: s2 :: s3 :: s4 :: s5 :: s6 :: s7 :: s8 :: s9 :: s10 :: s11 :: s12 :: s13 :: s14 :: s15 :: s16 :: s17 :: s18 :: s19 :: s20 :: s21 :: .own (ds ++ [v]) :: ε) := rfl
theorem yrv22 (Φ : Sm) (E : DEnds) (ε : List Slot) (s0 s1 s2 s3 s4 s5 s6 s7 s8 s9 s10 s11 s12 s13 s14 s15 s16 s17 s18 s19 s20 s21 : Slot) (ds : List D) : semS Φ (.rev 22) E (s0 :: s1 :: s2 :: s3 :: s4 :: s5 :: s6 :: s7 :: s8 :: s9 :: s10 :: s11 :: s12 :: s13 :: s14 :: s15 :: s16 :: s17 :: s18 :: s19 :: s20 :: s21 :: .own ds :: ε) = E.nx (s0 :: s1 :: s2 :: s3 :: s4 :: s5 :: s6 :: s7 :: s8 :: s9 :: s10 :: s11 :: s12 :: s13 :: s14 :: s15 :: s16 :: s17 :: s18 :: s19 :: s20 :: s21 :: .own ds.reverse :: ε) := rfl
theorem ysi22 (Φ : Sm) (E : DEnds) (ε : List Slot) (s0 s1 s2 s3 s4 s5 s6 s7 s8 s9 s10 s11 s12 s13 s14 s15 s16 s17 s18 s19 s20 s21 : Slot) (ds : List D) (k e : CE) : semS Φ (.setIx 22 k e) E (s0 :: s1 :: s2 :: s3 :: s4 :: s5 :: s6 :: s7 :: s8 :: s9 :: s10 :: s11 :: s12 :: s13 :: s14 :: s15 :: s16 :: s17 :: s18 :: s19 :: s20 :: s21 :: .own ds :: ε) = semE Φ e (s0 :: s1 :: s2 :: s3 :: s4 :: s5 :: s6 :: s7 :: s8 :: s9 :: s10 :: s11 :: s12 :: s13 :: s14 :: s15 :: s16 :: s17 :: s18 :: s19 :: s20 :: s21 :: .own ds :: ε) fun v => semE Φ k (s0 :: s1 :: s2 :: s3 :: s4 :: s5 :: s6 :: s7 :: s8 :: s9 :: s10 :: s11 :: s12 :: s13 :: s14 :: s15 :: s16 :: s17 :: s18 :: s19 :: s20 :: s21 :: .own ds :: ε) fun y => setQ ds v y fun ds' => E.nx (s0 :: s1 :: s2 :: s3 :: s4 :: s5 :: s6 :: s7 :: s8 :: s9 :: s10 :: s11 :: s12 :: s13 :: s14 :: s15 :: s16 :: s17 :: s18 :: s19 :: s20 :: s21 :: .own ds' :: ε) := rfl
theorem yau22 (Φ : Sm) (E : DEnds) (ε : List Slot) (s0 s1 s2 s3 s4 s5 s6 s7 s8 s9 s10 s11 s12 s13 s14 s15 s16 s17 s18 s19 s20 s21 : Slot) (n : Int) (o : O2) (e : CE) : semS Φ (.aug 22 o e) E (s0 :: s1 :: s2 :: s3 :: s4 :: s5 :: s6 :: s7 :: s8 :: s9 :: s10 :: s11 :: s12 :: s13 :: s14 :: s15 :: s16 :: s17 :: s18 :: s19 :: s20 :: s21 :: .val (.int n) :: ε) = semE Φ e (s0 :: s1 :: s2 :: s3 :: s4 :: s5 :: s6 :: s7 :: s8 :: s9 :: s10 :: s11 :: s12 :: s13 :: s14 :: s15 :: s16 :: s17 :: s18 :: s19 :: s20 :: s21 :: .val (.int n) :: ε) fun y => op2 o (.int n) y fun z => E.nx (s0 :: s1 :: s2 :: s3 :: s4 :: s5 :: s6 :: s7 :: s8 :: s9 :: s10 :: s11 :: s12 :: s13 :: s14 :: s15 :: s16 :: s17 :: s18 :: s19 :: s20 :: s21 :: .val z :: ε) := rfl
theorem ypo22 (Φ : Sm) (E : DEnds) (ε : List Slot) (s0 s1 s2 s3 s4 s5 s6 s7 s8 s9 s10 s11 s12 s13 s14 s15 s16 s17 s18 s19 s20 s21 : Slot) (ds : List D) : semS Φ (.pop 22) E (s0 :: s1 :: s2 :: s3 :: s4 :: s5 :: s6 :: s7 :: s8 :: s9 :: s10 :: s11 :: s12 :: s13 :: s14 :: s15 :: s16 :: s17 :: s18 :: s19 :: s20 :: s21 :: .own ds :: ε) = (0 < ds.length ∧ E.nx (s0 :: s1 :: s2 :: s3 :: s4 :: s5 :: s6 :: s7 :: s8 :: s9 :: s10 :: s11 :: s12 :: s13 :: s14 :: s15 :: s16 :: s17 :: s18 :: s19 :: s20 :: s21 :: .own ds.dropLast :: ε)) := rfl
theorem yro22 (Φ : Sm) (E : DEnds) (ε : List Slot) (s0 s1 s2 s3 s4 s5 s6 s7 s8 s9 s10 s11 s12 s13 s14 s15 s16 s17 s18 s19 s20 s21 : Slot) (ds : List D) : semS Φ (.retO 22) E (s0 :: s1 :: s2 :: s3 :: s4 :: s5 :: s6 :: s7 :: s8 :: s9 :: s10 :: s11 :: s12 :: s13 :: s14 :: s15 :: s16 :: s17 :: s18 :: s19 :: s20 :: s21 :: .own ds :: ε) = E.rt (.own ds) := rfl
theorem yfo22 (Φ : Sm) (E : DEnds) (ε : List Slot) (s0 s1 s2 s3 s4 s5 s6 s7 s8 s9 s10 s11 s12 s13 s14 s15 s16 s17 s18 s19 s20 s21 : Slot) (ds : List D) (r : CSs) : semSs Φ (.frz 22 r) E (s0 :: s1 :: s2 :: s3 :: s4 :: s5 :: s6 :: s7 :: s8 :: s9 :: s10 :: s11 :: s12 :: s13 :: s14 :: s15 :: s16 :: s17 :: s18 :: s19 :: s20 :: s21 :: .own ds :: ε) = semSs Φ r E (s0 :: s1 :: s2 :: s3 :: s4 :: s5 :: s6 :: s7 :: s8 :: s9 :: s10 :: s11 :: s12 :: s13 :: s14 :: s15 :: s16 :: s17 :: s18 :: s19 :: s20 :: s21 :: .val (.lst ds) :: ε) := rfl
theorem yfv22 (Φ : Sm) (E : DEnds) (ε : List Slot) (s0 s1 s2 s3 s4 s5 s6 s7 s8 s9 s10 s11 s12 s13 s14 s15 s16 s17 s18 s19 s20 s21 : Slot) (d : D) (r : CSs) : semSs Φ (.frz 22 r) E (s0 :: s1 :: s2 :: s3 :: s4 :: s5 :: s6 :: s7 :: s8 :: s9 :: s10 :: s11 :: s12 :: s13 :: s14 :: s15 :: s16 :: s17 :: s18 :: s19 :: s20 :: s21 :: .val d :: ε) = semSs Φ r E (s0 :: s1 :: s2 :: s3 :: s4 :: s5 :: s6 :: s7 :: s8 :: s9 :: s10 :: s11 :: s12 :: s13 :: s14 :: s15 :: s16 :: s17 :: s18 :: s19 :: s20 :: s21 :: .val d :: ε) := rfl
theorem yop22 (Φ : Sm) (E : DEnds) (ε : List Slot) (s0 s1 s2 s3 s4 s5 s6 s7 s8 s9 s10 s11 s12 s13 s14 s15 s16 s17 s18 s19 s20 s21 : Slot) (ds : List D) (r : CSs) : semSs Φ (.opn 22 r) E (s0 :: s1 :: s2 :: s3 :: s4 :: s5 :: s6 :: s7 :: s8 :: s9 :: s10 :: s11 :: s12 :: s13 :: s14 :: s15 :: s16 :: s17 :: s18 :: s19 :: s20 :: s21 :: .own ds :: ε) = ((∃ ns : List Int, ds = ns.map D.int ∧ ∀ n ∈ ns, 0 ≤ n) ∧ semSs Φ r E (s0 :: s1 :: s2 :: s3 :: s4 :: s5 :: s6 :: s7 :: s8 :: s9 :: s10 :: s11 :: s12 :: s13 :: s14 :: s15 :: s16 :: s17 :: s18 :: s19 :: s20 :: s21 :: .val (.opq 0) :: ε)) := rfl
theorem yv23 (Φ : Sm) (ε : List Slot) (Q : D → Prop) (s0 s1 s2 s3 s4 s5 s6 s7 s8 s9 s10 s11 s12 s13 s14 s15 s16 s17 s18 s19 s20 s21 s22 : Slot) (d : D) : semE Φ (.var 23) (s0 :: s1 :: s2 :: s3 :: s4 :: s5 :: s6 :: s7 :: s8 :: s9 :: s10 :: s11 :: s12 :: s13 :: s14 :: s15 :: s16 :: s17 :: s18 :: s19 :: s20 :: s21 :: s22 :: .val d :: ε) Q = Q d := rfl
theorem ylo23 (Φ : Sm) (ε : List Slot) (Q : D → Prop) (s0 s1 s2 s3 s4 s5 s6 s7 s8 s9 s10 s11 s12 s13 s14 s15 s16 s17 s18 s19 s20 s21 s22 : Slot) (ds : List D) : semE Φ (.lenO 23) (s0 :: s1 :: s2 :: s3 :: s4 :: s5 :: s6 :: s7 :: s8 :: s9 :: s10 :: s11 :: s12 :: s13 :: s14 :: s15 :: s16 :: s17 :: s18 :: s19 :: s20 :: s21 :: s22 :: .own ds :: ε) Q = Q (.int ds.length) := rfl
theorem ylv23 (Φ : Sm) (ε : List Slot) (Q : D → Prop) (s0 s1 s2 s3 s4 s5 s6 s7 s8 s9 s10 s11 s12 s13 s14 s15 s16 s17 s18 s19 s20 s21 s22 : Slot) (ds : List D) : semE Φ (.lenO 23) (s0 :: s1 :: s2 :: s3 :: s4 :: s5 :: s6 :: s7 :: s8 :: s9 :: s10 :: s11 :: s12 :: s13 :: s14 :: s15 :: s16 :: s17 :: s18 :: s19 :: s20 :: s21 :: s22 :: .val (.lst ds) :: ε) Q = Q (.int ds.length) := rfl
theorem yxo23 (Φ : Sm) (ε : List Slot) (Q : D → Prop) (s0 s1 s2 s3 s4 s5 s6 s7 s8 s9 s10 s11 s12 s13 s14 s15 s16 s17 s18 s19 s20 s21 s22 : Slot) (ds : List D) (k : CE) : semE Φ (.idxO 23 k) (s0 :: s1 :: s2 :: s3 :: s4 :: s5 :: s6 :: s7 :: s8 :: s9 :: s10 :: s11 :: s12 :: s13 :: s14 :: s15 :: s16 :: s17 :: s18 :: s19 :: s20 :: s21 :: s22 :: .own ds :: ε) Q = semE Φ k (s0 :: s1 :: s2 :: s3 :: s4 :: s5 :: s6 :: s7 :: s8 :: s9 :: s10 :: s11 :: s12 :: s13 :: s14 :: s15 :: s16 :: s17 :: s18 :: s19 :: s20 :: s21 :: s22 :: .own ds :: ε) fun y => opIx (.lst ds) y Q := rfl
theorem yxv23 (Φ : Sm) (ε : List Slot) (Q : D → Prop) (s0 s1 s2 s3 s4 s5 s6 s7 s8 s9 s10 s11 s12 s13 s14 s15 s16 s17 s18 s19 s20 s21 s22 : Slot) (ds : List D) (k : CE) : semE Φ (.idxO 23 k) (s0 :: s1 :: s2 :: s3 :: s4 :: s5 :: s6 :: s7 :: s8 :: s9 :: s10 :: s11 :: s12 :: s13 :: s14 :: s15 :: s16 :: s17 :: s18 :: s19 :: s20 :: s21 :: s22 :: .val (.lst ds) :: ε) Q = semE Φ k (s0 :: s1 :: s2 :: s3 :: s4 :: s5 :: s6 :: s7 :: s8 :: s9 :: s10 :: s11 :: s12 :: s13 :: s14 :: s15 :: s16 :: s17 :: s18 :: s19 :: s20 :: s21 :: s22 :: .val (.lst ds) :: ε) fun y => opIx (.lst ds) y Q := rfl
theorem yldo23 (Φ : Sm) (ε : List Slot) (Q : D → Prop) (s0 s1 s2 s3 s4 s5 s6 s7 s8 s9 s10 s11 s12 s13 s14 s15 s16 s17 s18 s19 s20 s21 s22 : Slot) (ds : List D) (e : CE) : semE Φ (.lend 23 e) (s0 :: s1 :: s2 :: s3 :: s4 :: s5 :: s6 :: s7 :: s8 :: s9 :: s10 :: s11 :: s12 :: s13 :: s14 :: s15 :: s16 :: s17 :: s18 :: s19 :: s20 :: s21 :: s22 :: .own ds :: ε) Q = semE Φ e (s0 :: s1 :: s2 :: s3 :: s4 :: s5 :: s6 :: s7 :: s8 :: s9 :: s10 :: s11 :: s12 :: s13 :: s14 :: s15 :: s16 :: s17 :: s18 :: s19 :: s20 :: s21 :: s22 :: .val (.lst ds) :: ε) fun d => d.noL = true ∧ Q d := rfl
theorem yldv23 (Φ : Sm) (ε : List Slot) (Q : D → Prop) (s0 s1 s2 s3 s4 s5 s6 s7 s8 s9 s10 s11 s12 s13 s14 s15 s16 s17 s18 s19 s20 s21 s22 : Slot) (d : D) (e : CE) : semE Φ (.lend 23 e) (s0 :: s1 :: s2 :: s3 :: s4 :: s5 :: s6 :: s7 :: s8 :: s9 :: s10 :: s11 :: s12 :: s13 :: s14 :: s15 :: s16 :: s17 :: s18 :: s19 :: s20 :: s21 :: s22 :: .val d :: ε) Q = semE Φ e (s0 :: s1 :: s2 :: s3 :: s4 :: s5 :: s6 :: s7 :: s8 :: s9 :: s10 :: s11 :: s12 :: s13 :: s14 :: s15 :: s16 :: s17 :: s18 :: s19 :: s20 :: s21 :: s22 :: .val d :: ε) Q := rfl
theorem ynm23 (ε : List Slot) (K : List Slot → Prop) (s0 s1 s2 s3 s4 s5 s6 s7 s8 s9 s10 s11 s12 s13 s14 s15 s16 s17 s18 s19 s20 s21 s22 : Slot) (x : Slot) (d : D) : bindT (.nm 23) d (s0 :: s1 :: s2 :: s3 :: s4 :: s5 :: s6 :: s7 :: s8 :: s9 :: s10 :: s11 :: s12 :: s13 :: s14 :: s15 :: s16 :: s17 :: s18 :: s19 :: s20 :: s21 :: s22 :: x :: ε) K = K (s0 :: s1 :: s2 :: s3 :: s4 :: s5 :: s6 :: s7 :: s8 :: s9 :: s10 :: s11 :: s12 :: s13 :: s14 :: s15 :: s16 :: s17 :: s18 :: s19 :: s20 :: s21 :: s22 :: .val d :: ε) := rfl
theorem ywp23 (ε : List Slot) (s0 s1 s2 s3 s4 s5 s6 s7 s8 s9 s10 s11 s12 s13 s14 s15 s16 s17 s18 s19 s20 s21 s22 : Slot) (x : Slot) : wipeE (s0 :: s1 :: s2 :: s3 :: s4 :: s5 :: s6 :: s7 :: s8 :: s9 :: s10 :: s11 :: s12 :: s13 :: s14 :: s15 :: s16 :: s17 :: s18 :: s19 :: s20 :: s21 :: s22 :: x :: ε) [23] = s0 :: s1 :: s2 :: s3 :: s4 :: s5 :: s6 :: s7 :: s8 :: s9 :: s10 :: s11 :: s12 :: s13 :: s14 :: s15 :: s16 :: s17 :: s18 :: s19 :: s20 :: s21 :: s22 :: .non :: ε := rfl
theorem yow23 (Φ : Sm) (E : DEnds) (ε : List Slot) (s0 s1 s2 s3 s4 s5 s6 s7 s8 s9 s10 s11 s12 s13 s14 s15 s16 s17 s18 s19 s20 s21 s22 : Slot) (x : Slot) (e : CE) : semS Φ (.own 23 e) E (s0 :: s1 :: s2 :: s3 :: s4 :: s5 :: s6 :: s7 :: s8 :: s9 :: s10 :: s11 :: s12 :: s13 :: s14 :: s15 :: s16 :: s17 :: s18 :: s19 :: s20 :: s21 :: s22 :: x :: ε) = semE Φ e (s0 :: s1 :: s2 :: s3 :: s4 :: s5 :: s6 :: s7 :: s8 :: s9 :: s10 :: s11 :: s12 :: s13 :: s14 :: s15 :: s16 :: s17 :: s18 :: s19 :: s20 :: s21 :: s22 :: x :: ε) fun d => ownQ d fun ds => E.nx (s0 :: s1 :: s2 :: s3 :: s4 :: s5 :: s6 :: s7 :: s8 :: s9 :: s10 :: s11 :: s12 :: s13 :: s14 :: s15 :: s16 :: s17 :: s18 :: s19 :: s20 :: s21 :: s22 :: .own ds :: ε) := rfl
theorem yap23 (Φ : Sm) (E : DEnds) (ε : List Slot) (s0 s1 s2 s3 s4 s5 s6 s7 s8 s9 s10 s11 s12 s13 s14 s15 s16 s17 s18 s19 s20 s21 s22 : Slot) (ds : List D) (e : CE) : semS Φ (.app 23 e) E (s0 :: s1 :: s2 :: s3 :: s4 :: s5 :: s6 :: s7 :: s8 :: s9 :: s10 :: s11 :: s12 :: s13 :: s14 :: s15 :: s16 :: s17 :: s18 :: s19 :: s20 :: s21 :: s22 :: .own ds :: ε) = semE Φ e (s0 :: s1 :: s2 :: s3 :: s4 :: s5 :: s6 :: s7 :: s8 :: s9 :: s10 :: s11 :: s12 :: s13 :: s14 :: s15 :: s16 :: s17 :: s18 :: s19 :: s20 :: s21 :: s22 :: .own ds :: ε) fun v => ds.length < sizeLine ∧ E.nx (s0 :: s1 :: s2 :: s3 :: s4 :: s5 :: s6 :: s7 :: s8 :: s9 :: s10 :: s11 :: s12 :: s13 :: s14 :: s15 :: s16 :: s17 :: s18 :: s19 :: s20 :: s21 :: s22 :: .own (ds ++ [v]) :: ε) := rfl
theorem yrv23 (Φ : Sm) (E : DEnds) (ε : List Slot) (s0 s1 s2 s3 s4 s5 s6 s7 s8 s9 s10 s11 s12 s13 s14 s15 s16 s17 s18 s19 s20 s21 s22 : Slot) (ds : List D) : semS Φ (.rev 23) E (s0 :: s1 :: s2 :: s3 :: s4 :: s5 :: s6 :: s7 :: s8 :: s9 :: s10 :: s11 :: s12 :: s13 :: s14 :: s15 :: s16 :: s17 :: s18 :: s19 :: s20 :: s21 :: s22 :: .own ds :: ε) = E.nx (s0 :: s1 :: s2 :: s3 :: s4 :: s5 :: s6 :: s7 :: s8 :: s9 :: s10 :: s11 :: s12 :: s13 :: s14 :: s15 :: s16 :: s17 :: s18 :: s19 :: s20 :: s21 :: s22 :: .own ds.reverse :: ε) := rfl
theorem ysi23 (Φ : Sm) (E : DEnds) (ε : List Slot) (s0 s1 s2 s3 s4 s5 s6 s7 s8 s9 s10 s11 s12 s13 s14 s15 s16 s17 s18 s19 s20 s21 s22 : Slot) (ds : List D) (k e : CE) : semS Φ (.setIx 23 k e) E (s0 :: s1 :: s2 :: s3 :: s4 :: s5 :: s6 :: s7 :: s8 :: s9 :: s10 :: s11 :: s12 :: s13 :: s14 :: s15 :: s16 :: s17 :: s18 :: s19 :: s20 :: s21 :: s22 :: .own ds :: ε) = semE Φ e (s0 :: s1 :: s2 :: s3 :: s4 :: s5 :: s6 :: s7 :: s8 :: s9 :: s10 :: s11 :: s12 :: s13 :: s14 :: s15 :: s16 :: s17 :: s18 :: s19 :: s20 :: s21 :: s22 :: .own ds :: ε) fun v => semE Φ k (s0 :: s1 :: s2 :: s3 :: s4 :: s5 :: s6 :: s7 :: s8 :: s9 :: s10 :: s11 :: s12 :: s13 :: s14 :: s15 :: s16 :: s17 :: s18 :: s19 :: s20 :: s21 :: s22 :: .own ds :: ε) fun y => setQ ds v y fun ds' => E.nx (s0 :: s1 :: s2 :: s3 :: s4 :: s5 :: s6 :: s7 :: s8 :: s9 :: s10 :: s11 :: s12 :: s13 :: s14 :: s15 :: s16 :: s17 :: s18 :: s19 :: s20 :: s21 :: s22 :: .own ds' :: ε) := rfl
theorem yau23 (Φ : Sm) (E : DEnds) (ε : List Slot) (s0 s1 s2 s3 s4 s5 s6 s7 s8 s9 s10 s11 s12 s13 s14 s15 s16 s17 s18 s19 s20 s21 s22 : Slot) (n : Int) (o : O2) (e : CE) : semS Φ (.aug 23 o e) E (s0 :: s1 :: s2 :: s3 :: s4 :: s5 :: s6 :: s7 :: s8 :: s9 :: s10 :: s11 :: s12 :: s13 :: s14 :: s15 :: s16 :: s17 :: s18 :: s19 :: s20 :: s21 :: s22 :: .val (.int n) :: ε) = semE Φ e (s0 :: s1 :: s2 :: s3 :: s4 :: s5 :: s6 :: s7 :: s8 :: s9 :: s10 :: s11 :: s12 :: s13 :: s14 :: s15 :: s16 :: s17 :: s18 :: s19 :: s20 :: s21 :: s22 :: .val (.int n) :: ε) fun y => op2 o (.int n) y fun z => E.nx (s0 :: s1 :: s2 :: s3 :: s4 :: s5 :: s6 :: s7 :: s8 :: s9 :: s10 :: s11 :: s12 :: s13 :: s14 :: s15 :: s16 :: s17 :: s18 :: s19 :: s20 :: s21 :: s22 :: .val z :: ε) := rfl
theorem ypo23 (Φ : Sm) (E : DEnds) (ε : List Slot) (s0 s1 s2 s3 s4 s5 s6 s7 s8 s9 s10 s11 s12 s13 s14 s15 s16 s17 s18 s19 s20 s21 s22 : Slot) (ds : List D) : semS Φ (.pop 23) E (s0 :: s1 :: s2 :: s3 :: s4 :: s5 :: s6 :: s7 :: s8 :: s9 :: s10 :: s11 :: s12 :: s13 :: s14 :: s15 :: s16 :: s17 :: s18 :: s19 :: s20 :: s21 :: s22 :: .own ds :: ε) = (0 < ds.length ∧ E.nx (s0 :: s1 :: s2 :: s3 :: s4 :: s5 :: s6 :: s7 :: s8 :: s9 :: s10 :: s11 :: s12 :: s13 :: s14 :: s15 :: s16 :: s17 :: s18 :: s19 :: s20 :: s21 :: s22 :: .own ds.dropLast :: ε)) := rfl
theorem yro23 (Φ : Sm) (E : DEnds) (ε : List Slot) (s0 s1 s2 s3 s4 s5 s6 s7 s8 s9 s10 s11 s12 s13 s14 s15 s16 s17 s18 s19 s20 s21 s22 : Slot) (ds : List D) : semS Φ (.retO 23) E (s0 :: s1 :: s2 :: s3 :: s4 :: s5 :: s6 :: s7 :: s8 :: s9 :: s10 :: s11 :: s12 :: s13 :: s14 :: s15 :: s16 :: s17 :: s18 :: s19 :: s20 :: s21 :: s22 :: .own ds :: ε) = E.rt (.own ds) := rfl
theorem yfo23 (Φ : Sm) (E : DEnds) (ε : List Slot) (s0 s1 s2 s3 s4 s5 s6 s7 s8 s9 s10 s11 s12 s13 s14 s15 s16 s17 s18 s19 s20 s21 s22 : Slot) (ds : List D) (r : CSs) : semSs Φ (.frz 23 r) E (s0 :: s1 :: s2 :: s3 :: s4 :: s5 :: s6 :: s7 :: s8 :: s9 :: s10 :: s11 :: s12 :: s13 :: s14 :: s15 :: s16 :: s17 :: s18 :: s19 :: s20 :: s21 :: s22 :: .own ds :: ε) = semSs Φ r E (s0 :: s1 :: s2 :: s3 :: s4 :: s5 :: s6 :: s7 :: s8 :: s9 :: s10 :: s11 :: s12 :: s13 :: s14 :: s15 :: s16 :: s17 :: s18 :: s19 :: s20 :: s21 :: s22 :: .val (.lst ds) :: ε) := rfl
theorem yfv23 (Φ : Sm) (E : DEnds) (ε : List Slot) (s0 s1 s2 s3 s4 s5 s6 s7 s8 s9 s10 s11 s12 s13 s14 s15 s16 s17 s18 s19 s20 s21 s22 : Slot) (d : D) (r : CSs) : semSs Φ (.frz 23 r) E (s0 :: s1 :: s2 :: s3 :: s4 :: s5 :: s6 :: s7 :: s8 :: s9 :: s10 :: s11 :: s12 :: s13 :: s14 :: s15 :: s16 :: s17 :: s18 :: s19 :: s20 :: s21 :: s22 :: .val d :: ε) = semSs Φ r E (s0 :: s1 :: s2 :: s3 :: s4 :: s5 :: s6 :: s7 :: s8 :: s9 :: s10 :: s11 :: s12 :: s13 :: s14 :: s15 :: s16 :: s17 :: s18 :: s19 :: s20 :: s21 :: s22 :: .val d :: ε) := rfl
theorem yop23 (Φ : Sm) (E : DEnds) (ε : List Slot) (s0 s1 s2 s3 s4 s5 s6 s7 s8 s9 s10 s11 s12 s13 s14 s15 s16 s17 s18 s19 s20 s21 s22 : Slot) (ds : List D) (r : CSs) : semSs Φ (.opn 23 r) E (s0 :: s1 :: s2 :: s3 :: s4 :: s5 :: s6 :: s7 :: s8 :: s9 :: s10 :: s11 :: s12 :: s13 :: s14 :: s15 :: s16 :: s17 :: s18 :: s19 :: s20 :: s21 :: s22 :: .own ds :: ε) = ((∃ ns : List Int, ds = ns.map D.int ∧ ∀ n ∈ ns, 0 ≤ n) ∧ semSs Φ r E (s0 :: s1 :: s2 :: s3 :: s4 :: s5 :: s6 :: s7 :: s8 :: s9 :: s10 :: s11 :: s12 :: s13 :: s14 :: s15 :: s16 :: s17 :: s18 :: s19 :: s20 :: s21 :: s22 :: .val (.opq 0) :: ε)) := rfl
theorem yv24 (Φ : Sm) (ε : List Slot) (Q : D → Prop) (s0 s1 s2 s3 s4 s5 s6 s7 s8 s9 s10 s11 s12 s13 s14 s15 s16 s17 s18 s19 s20 s21 s22 s23 : Slot) (d : D) : semE Φ (.var 24) (s0 :: s1 :: s2 :: s3 :: s4 :: s5 :: s6 :: s7 :: s8 :: s9 :: s10 :: s11 :: s12 :: s13 :: s14 :: s15 :: s16 :: s17 :: s18 :: s19 :: s20 :: s21 :: s22 :: s23 :: .val d :: ε) Q = Q d := rfl
theorem ylo24 (Φ : Sm) (ε : List Slot) (Q : D → Prop) (s0 s1 s2 s3 s4 s5 s6 s7 s8 s9 s10 s11 s12 s13 s14 s15 s16 s17 s18 s19 s20 s21 s22 s23 : Slot) (ds : List D) : semE Φ (.lenO 24) (s0 :: s1 :: s2 :: s3 :: s4 :: s5 :: s6 :: s7 :: s8 :: s9 :: s10 :: s11 :: s12 :: s13 :: s14 :: s15 :: s16 :: s17 :: s18 :: s19 :: s20 :: s21 :: s22 :: s23 :: .own ds :: ε) Q = Q (.int ds.length) := rfl
theorem ylv24 (Φ : Sm) (ε : List Slot) (Q : D → Prop) (s0 s1 s2 s3 s4 s5 s6 s7 s8 s9 s10 s11 s12 s13 s14 s15 s16 s17 s18 s19 s20 s21 s22 s23 : Slot) (ds : List D) : semE Φ (.lenO 24) (s0 :: s1 :: s2 :: s3 :: s4 :: s5 :: s6 :: s7 :: s8 :: s9 :: s10 :: s11 :: s12 :: s13 :: s14 :: s15 :: s16 :: s17 :: s18 :: s19 :: s20 :: s21 :: s22 :: s23 :: .val (.lst ds) :: ε) Q = Q (.int ds.length) := rfl
theorem yxo24 (Φ : Sm) (ε : List Slot) (Q : D → Prop) (s0 s1 s2 s3 s4 s5 s6 s7 s8 s9 s10 s11 s12 s13 s14 s15 s16 s17 s18 s19 s20 s21 s22 s23 : Slot) (ds : List D) (k : CE) : semE Φ (.idxO 24 k) (s0 :: s1 :: s2 :: s3 :: s4 :: s5 :: s6 :: s7 :: s8 :: s9 :: s10 :: s11 :: s12 :: s13 :: s14 :: s15 :: s16 :: s17 :: s18 :: s19 :: s20 :: s21 :: s22 :: s23 :: .own ds :: ε) Q = semE Φ k (s0 :: s1 :: s2 :: s3 :: s4 :: s5 :: s6 :: s7 :: s8 :: s9 :: s10 :: s11 :: s12 :: s13 :: s14 :: s15 :: s16 :: s17 :: s18 :: s19 :: s20 :: s21 :: s22 :: s23 :: .own ds :: ε) fun y => opIx (.lst ds) y Q := rfl
theorem yxv24 (Φ : Sm) (ε : List Slot) (Q : D → Prop) (s0 s1 s2 s3 s4 s5 s6 s7 s8 s9 s10 s11 s12 s13 s14 s15 s16 s17 s18 s19 s20 s21 s22 s23 : Slot) (ds : List D) (k : CE) : semE Φ (.idxO 24 k) (s0 :: s1 :: s2 :: s3 :: s4 :: s5 :: s6 :: s7 :: s8 :: s9 :: s10 :: s11 :: s12 :: s13 :: s14 :: s15 :: s16 :: s17 :: s18 :: s19 :: s20 :: s21 :: s22 :: s23 :: .val (.lst ds) :: ε) Q = semE Φ k (s0 :: s1 :: s2 :: s3 :: s4 :: s5 :: s6 :: s7 :: s8 :: s9 :: s10 :: s11 :: s12 :: s13 :: s14 :: s15 :: s16 :: s17 :: s18 :: s19 :: s20 :: s21 :: s22 :: s23 :: .val (.lst ds) :: ε) fun y => opIx (.lst ds) y Q := rfl
theorem yldo24 (Φ : Sm) (ε : List Slot) (Q : D → Prop) (s0 s1 s2 s3 s4 s5 s6 s7 s8 s9 s10 s11 s12 s13 s14 s15 s16 s17 s18 s19 s20 s21 s22 s23 : Slot) (ds : List D) (e : CE) : semE Φ (.lend 24 e) (s0 :: s1 :: s2 :: s3 :: s4 :: s5 :: s6 :: s7 :: s8 :: s9 :: s10 :: s11 :: s12 :: s13 :: s14 :: s15 :: s16 :: s17 :: s18 :: s19 :: s20 :: s21 :: s22 :: s23 :: .own ds :: ε) Q = semE Φ e (s0 :: s1 :: s2 :: s3 :: s4 :: s5 :: s6 :: s7 :: s8 :: s9 :: s10 :: s11 :: s12 :: s13 :: s14 :: s15 :: s16 :: s17 :: s18 :: s19 :: s20 :: s21 :: s22 :: s23 :: .val (.lst ds) :: ε) fun d => d.noL = true ∧ Q d := rfl
theorem yldv24 (Φ : Sm) (ε : List Slot) (Q : D → Prop) (s0 s1 s2 s3 s4 s5 s6 s7 s8 s9 s10 s11 s12 s13 s14 s15 s16 s17 s18 s19 s20 s21 s22 s23 : Slot) (d : D) (e : CE) : semE Φ (.lend 24 e) (s0 :: s1 :: s2 :: s3 :: s4 :: s5 :: s6 :: s7 :: s8 :: s9 :: s10 :: s11 :: s12 :: s13 :: s14 :: s15 :: s16 :: s17 :: s18 :: s19 :: s20 :: s21 :: s22 :: s23 :: .val d :: ε) Q = semE Φ e (s0 :: s1 :: s2 :: s3 :: s4 :: s5 :: s6 :: s7 :: s8 :: s9 :: s10 :: s11 :: s12 :: s13 :: s14 :: s15 :: s16 :: s17 :: s18 :: s19 :: s20 :: s21 :: s22 :: s23 :: .val d :: ε) Q := rfl
theorem ynm24 (ε : List Slot) (K : List Slot → Prop) (s0 s1 s2 s3 s4 s5 s6 s7 s8 s9 s10 s11 s12 s13 s14 s15 s16 s17 s18 s19 s20 s21 s22 s23 : Slot) (x : Slot) (d : D) : bindT (.nm 24) d (s0 :: s1 :: s2 :: s3 :: s4 :: s5 :: s6 :: s7 :: s8 :: s9 :: s10 :: s11 :: s12 :: s13 :: s14 :: s15 :: s16 :: s17 :: s18 :: s19 :: s20 :: s21 :: s22 :: s23 :: x :: ε) K = K (s0 :: s1 :: s2 :: s3 :: s4 :: s5 :: s6 :: s7 :: s8 :: s9 :: s10 :: s11 :: s12 :: s13 :: s14 :: s15 :: s16 :: s17 :: s18 :: s19 :: s20 :: s21 :: s22 :: s23 :: .val d :: ε) := rfl
theorem ywp24 (ε : List Slot) (s0 s1 s2 s3 s4 s5 s6 s7 s8 s9 s10 s11 s12 s13 s14 s15 s16 s17 s18 s19 s20 s21 s22 s23 : Slot) (x : Slot) : wipeE (s0 :: s1 :: s2 :: s3 :: s4 :: s5 :: s6 :: s7 :: s8 :: s9 :: s10 :: s11 :: s12 :: s13 :: s14 :: s15 :: s16 :: s17 :: s18 :: s19 :: s20 :: s21 :: s22 :: s23 :: x :: ε) [24] = s0 :: s1 :: s2 :: s3 :: s4 :: s5 :: s6 :: s7 :: s8 :: s9 :: s10 :: s11 :: s12 :: s13 :: s14 :: s15 :: s16 :: s17 :: s18 :: s19 :: s20 :: s21 :: s22 :: s23 :: .non :: ε := rfl
theorem yow24 (Φ : Sm) (E : DEnds) (ε : List Slot) (s0 s1 s2 s3 s4 s5 s6 s7 s8 s9 s10 s11 s12 s13 s14 s15 s16 s17 s18 s19 s20 s21 s22 s23 : Slot) (x : Slot) (e : CE) : semS Φ (.own 24 e) E (s0 :: s1 :: s2 :: s3 :: s4 :: s5 :: s6 :: s7 :: s8 :: s9 :: s10 :: s11 :: s12 :: s13 :: s14 :: s15 :: s16 :: s17 :: s18 :: s19 :: s20 :: s21 :: s22 :: s23 :: x :: ε) = semE Φ e (s0 :: s1 :: s2 :: s3 :: s4 :: s5 :: s6 :: s7 :: s8 :: s9 :: s10 :: s11 :: s12 :: s13 :: s14 :: s15 :: s16 :: s17 :: s18 :: s19 :: s20 :: s21 :: s22 :: s23 :: x :: ε) fun d => ownQ d fun ds => E.nx (s0 :: s1 :: s2 :: s3 :: s4 :: s5 :: s6 :: s7 :: s8 :: s9 :: s10 :: s11 :: s12 :: s13 :: s14 :: s15 :: s16 :: s17 :: s18 :: s19 :: s20 :: s21 :: s22 :: s23 :: .own ds :: ε) := rfl
theorem yap24 (Φ : Sm) (E : DEnds) (ε : List Slot) (s0 s1 s2 s3 s4 s5 s6 s7 s8 s9 s10 s11 s12 s13 s14 s15 s16 s17 s18 s19 s20 s21 s22 s23 : Slot) (ds : List D) (e : CE) : semS Φ (.app 24 e) E (s0 :: s1 :: s2 :: s3 :: s4 :: s5 :: s6 :: s7 :: s8 :: s9 :: s10 :: s11 :: s12 :: s13 :: s14 :: s15 :: s16 :: s17 :: s18 :: s19 :: s20 :: s21 :: s22 :: s23 :: .own ds :: ε) = semE Φ e (s0 :: s1 :: s2 :: s3 :: s4 :: s5 :: s6 :: s7 :: s8 :: s9 :: s10 :: s11 :: s12 :: s13 :: s14 :: s15 :: s16 :: s17 :: s18 :: s19 :: s20 :: s21 :: s22 :: s23 :: .own ds :: ε) fun v => ds.length < sizeLine ∧ E.nx (s0 :: s1 :: s2 :: s3 :: s4 :: s5 :: s6 :: s7 :: s8 :: s9 :: s10 :: s11 :: s12 :: s13 :: s14 :: s15 :: s16 :: s17 :: s18 :: s19 :: s20 :: s21 :: s22 :: s23 :: .own (ds ++ [v]) :: ε) := rfl
theorem yrv24 (Φ : Sm) (E : DEnds) (ε : List Slot) (s0 s1 s2 s3 s4 s5 s6 s7 s8 s9 s10 s11 s12 s13 s14 s15 s16 s17 s18 s19 s20 s21 s22 s23 : Slot) (ds : List D) : semS Φ (.rev 24) E (s0 :: s1 :: s2 :: s3 :: s4 :: s5 :: s6 :: s7 :: s8 :: s9 :: s10 :: s11 :: s12 :: s13 :: s14 :: s15 :: s16 :: s17 :: s18 :: s19 :: s20 :: s21 :: s22 :: s23 :: .own ds :: ε) = E.nx (s0 :: s1 :: s2 :: s3 :: s4 :: s5 :: s6 :: s7 :: s8 :: s9 :: s10 :: s11 :: s12 :: s13 :: s14 :: s15 :: s16 :: s17 :: s18 :: s19 :: s20 :: s21 :: s22 :: s23 :: .own ds.reverse :: ε) := rfl
theorem ysi24 (Φ : Sm) (E : DEnds) (ε : List Slot) (s0 s1 s2 s3 s4 s5 s6 s7 s8 s9 s10 s11 s12 s13 s14 s15 s16 s17 s18 s19 s20 s21 s22 s23 : Slot) (ds : List D) (k e : CE) : semS Φ (.setIx 24 k e) E (s0 :: s1 :: s2 :: s3 :: s4 :: s5 :: s6 :: s7 :: s8 :: s9 :: s10 :: s11 :: s12 :: s13 :: s14 :: s15 :: s16 :: s17 :: s18 :: s19 :: s20 :: s21 :: s22 :: s23 :: .own ds :: ε) = semE Φ e (s0 :: s1 :: s2 :: s3 :: s4 :: s5 :: s6 :: s7 :: s8 :: s9 :: s10 :: s11 :: s12 :: s13 :: s14 :: s15 :: s16 :: s17 :: s18 :: s19 :: s20 :: s21 :: s22 :: s23 :: .own ds :: ε) fun v => semE Φ k (s0 :: s1 :: s2 :: s3 :: s4 :: s5 :: s6 :: s7 :: s8 :: s9 :: s10 :: s11 :: s12 :: s13 :: s14 :: s15 :: s16 :: s17 :: s18 :: s19 :: s20 :: s21 :: s22 :: s23 :: .own ds :: ε) fun y => setQ ds v y fun ds' => E.nx (s0 :: s1 :: s2 :: s3 :: s4 :: s5 :: s6 :: s7 :: s8 :: s9 :: s10 :: s11 :: s12 :: s13 :: s14 :: s15 :: s16 :: s17 :: s18 :: s19 :: s20 :: s21 :: s22 :: s23 :: .own ds' :: ε) := rfl
theorem yau24 (Φ : Sm) (E : DEnds) (ε : List Slot) (s0 s1 s2 s3 s4 s5 s6 s7 s8 s9 s10 s11 s12 s13 s14 s15 s16 s17 s18 s19 s20 s21 s22 s23 : Slot) (n : Int) (o : O2) (e : CE) : semS Φ (.aug 24 o e) E (s0 :: s1 :: s2 :: s3 :: s4 :: s5 :: s6 :: s7 :: s8 :: s9 :: s10 :: s11 :: s12 :: s13 :: s14 :: s15 :: s16 :: s17 :: s18 :: s19 :: s20 :: s21 :: s22 :: s23 :: .val (.int n) :: ε) = semE Φ e (s0 :: s1 :: s2 :: s3 :: s4 :: s5 :: s6 :: s7 :: s8 :: s9 :: s10 :: s11 :: s12 :: s13 :: s14 :: s15 :: s16 :: s17 :: s18 :: s19 :: s20 :: s21 :: s22 :: s23 :: .val (.int n) :: ε) fun y => op2 o (.int n) y fun z => E.nx (s0 :: s1 :: s2 :: s3 :: s4 :: s5 :: s6 :: s7 :: s8 :: s9 :: s10 :: s11 :: s12 :: s13 :: s14 :: s15 :: s16 :: s17 :: s18 :: s19 :: s20 :: s21 :: s22 :: s23 :: .val z :: ε) := rfl
theorem ypo24 (Φ : Sm) (E : DEnds) (ε : List Slot) (s0 s1 s2 s3 s4 s5 s6 s7 s8 s9 s10 s11 s12 s13 s14 s15 s16 s17 s18 s19 s20 s21 s22 s23 : Slot) (ds : List D) : semS Φ (.pop 24) E (s0 :: s1 :: s2 :: s3 :: s4 :: s5 :: s6 :: s7 :: s8 :: s9 :: s10 :: s11 :: s12 :: s13 :: s14 :: s15 :: s16 :: s17 :: s18 :: s19 :: s20 :: s21 :: s22 :: s23 :: .own ds :: ε) = (0 < ds.length ∧ E.nx (s0 :: s1 :: s2 :: s3 :: s4 :: s5 :: s6 :: s7 :: s8 :: s9 :: s10 :: s11 :: s12 :: s13 :: s14 :: s15 :: s16 :: s17 :: s18 :: s19 :: s20 :: s21 :: s22 :: s23 :: .own ds.dropLast :: ε)) := rfl
theorem yro24 (Φ : Sm) (E : DEnds) (ε : List Slot) (s0 s1 s2 s3 s4 s5 s6 s7 s8 s9 s10 s11 s12 s13 s14 s15 s16 s17 s18 s19 s20 s21 s22 s23 : Slot) (ds : List D) : semS Φ (.retO 24) E (s0 :: s1 :: s2 :: s3 :: s4 :: s5 :: s6 :: s7 :: s8 :: s9 :: s10 :: s11 :: s12 :: s13 :: s14 :: s15 :: s16 :: s17 :: s18 :: s19 :: s20 :: s21 :: s22 :: s23 :: .own ds :: ε) = E.rt (.own ds) := rfl
theorem yfo24 (Φ : Sm) (E : DEnds) (ε : List Slot) (s0 s1 s2 s3 s4 s5 s6 s7 s8 s9 s10 s11 s12 s13 s14 s15 s16 s17 s18 s19 s20 s21 s22 s23 : Slot) (ds : List D) (r : CSs) : semSs Φ (.frz 24 r) E (s0 :: s1 :: s2 :: s3 :: s4 :: s5 :: s6 :: s7 :: s8 :: s9 :: s10 :: s11 :: s12 :: s13 :: s14 :: s15 :: s16 :: s17 :: s18 :: s19 :: s20 :: s21 :: s22 :: s23 :: .own ds :: ε) = semSs Φ r E (s0 :: s1 :: s2 :: s3 :: s4 :: s5 :: s6 :: s7 :: s8 :: s9 :: s10 :: s11 :: s12 :: s13 :: s14 :: s15 :: s16 :: s17 :: s18 :: s19 :: s20 :: s21 :: s22 :: s23 :: .val (.lst ds) :: ε) := rfl
theorem yfv24 (Φ : Sm) (E : DEnds) (ε : List Slot) (s0 s1 s2 s3 s4 s5 s6 s7 s8 s9 s10 s11 s12 s13 s14 s15 s16 s17 s18 s19 s20 s21 s22 s23 : Slot) (d : D) (r : CSs) : semSs Φ (.frz 24 r) E (s0 :: s1 :: s2 :: s3 :: s4 :: s5 :: s6 :: s7 :: s8 :: s9 :: s10 :: s11 :: s12 :: s13 :: s14 :: s15 :: s16 :: s17 :: s18 :: s19 :: s20 :: s21 :: s22 :: s23 :: .val d :: ε) = semSs Φ r E (s0 :: s1 :: s2 :: s3 :: s4 :: s5 :: s6 :: s7 :: s8 :: s9 :: s10 :: s11 :: s12 :: s13 :: s14 :: s15 :: s16 :: s17 :: s18 :: s19 :: s20 :: s21 :: s22 :: s23 :: .val d :: ε) := rfl
theorem yop24 (Φ : Sm) (E : DEnds) (ε : List Slot) (s0 s1 s2 s3 s4 s5 s6 s7 s8 s9 s10 s11 s12 s13 s14 s15 s16 s17 s18 s19 s20 s21 s22 s23 : Slot) (ds : List D) (r : CSs) : semSs Φ (.opn 24 r) E (s0 :: s1 :: s2 :: s3 :: s4 :: s5 :: s6 :: s7 :: s8 :: s9 :: s10 :: s11 :: s12 :: s13 :: s14 :: s15 :: s16 :: s17 :: s18 :: s19 :: s20 :: s21 :: s22 :: s23 :: .own ds :: ε) = ((∃ ns : List Int, ds = ns.map D.int ∧ ∀ n ∈ ns, 0 ≤ n) ∧ semSs Φ r E (s0 :: s1 :: s2 :: s3 :: s4 :: s5 :: s6 :: s7 :: s8 :: s9 :: s10 :: s11 :: s12 :: s13 :: s14 :: s15 :: s16 :: s17 :: s18 :: s19 :: s20 :: s21 :: s22 :: s23 :: .val (.opq 0) :: ε)) := rfl
theorem yv25 (Φ : Sm) (ε : List Slot) (Q : D → Prop) (s0 s1 s2 s3 s4 s5 s6 s7 s8 s9 s10 s11 s12 s13 s14 s15 s16 s17 s18 s19 s20 s21 s22 s23 s24 : Slot) (d : D) : semE Φ (.var 25) (s0 :: s1 :: s2 :: s3 :: s4 :: s5 :: s6 :: s7 :: s8 :: s9 :: s10 :: s11 :: s12 :: s13 :: s14 :: s15 :: s16 :: s17 :: s18 :: s19 :: s20 :: s21 :: s22 :: s23 :: s24 :: .val d :: ε) Q = Q d := rfl
theorem ylo25 (Φ : Sm) (ε : List Slot) (Q : D → Prop) (s0 s1 s2 s3 s4 s5 s6 s7 s8 s9 s10 s11 s12 s13 s14 s15 s16 s17 s18 s19 s20 s21 s22 s23 s24 : Slot) (ds : List D) : semE Φ (.lenO 25) (s0 :: s1 :: s2 :: s3 :: s4 :: s5 :: s6 :: s7 :: s8 :: s9 :: s10 :: s11 :: s12 :: s13 :: s14 :: s15 :: s16 :: s17 :: s18 :: s19 :: s20 :: s21 :: s22 :: s23 :: s24 :: .own ds :: ε) Q = Q (.int ds.length) := rfl
theorem ylv25 (Φ : Sm) (ε : List Slot) (Q : D → Prop) (s0 s1 s2 s3 s4 s5 s6 s7 s8 s9 s10 s11 s12 s13 s14 s15 s16 s17 s18 s19 s20 s21 s22 s23 s24 : Slot) (ds : List D) : semE Φ (.lenO 25) (s0 :: s1 :: s2 :: s3 :: s4 :: s5 :: s6 :: s7 :: s8 :: s9 :: s10 :: s11 :: s12 :: s13 :: s14 :: s15 :: s16 :: s17 :: s18 :: s19 :: s20 :: s21 :: s22 :: s23 :: s24 :: .val (.lst ds) :: ε) Q = Q (.int ds.length) := rfl
theorem yxo25 (Φ : Sm) (ε : List Slot) (Q : D → Prop) (s0 s1 s2 s3 s4 s5 s6 s7 s8 s9 s10 s11 s12 s13 s14 s15 s16 s17 s18 s19 s20 s21 s22 s23 s24 : Slot) (ds : List D) (k : CE) : semE Φ (.idxO 25 k) (s0 :: s1 :: s2 :: s3 :: s4 :: s5 :: s6 :: s7 :: s8 :: s9 :: s10 :: s11 :: s12 :: s13 :: s14 :: s15 :: s16 :: s17 :: s18 :: s19 :: s20 :: s21 :: s22 :: s23 :: s24 :: .own ds :: ε) Q = semE Φ k (s0 :: s1 :: s2 :: s3 :: s4 :: s5 :: s6 :: s7 :: s8 :: s9 :: s10 :: s11 :: s12 :: s13 :: s14 :: s15 :: s16 :: s17 :: s18 :: s19 :: s20 :: s21 :: s22 :: s23 :: s24 :: .own ds :: ε) fun y => opIx (.lst ds) y Q := rfl
theorem yxv25 (Φ : Sm) (ε : List Slot) (Q : D → Prop) (s0 s1 s2 s3 s4 s5 s6 s7 s8 s9 s10 s11 s12 s13 s14 s15 s16 s17 s18 s19 s20 s21 s22 s23 s24 : Slot) (ds : List D) (k : CE) : semE Φ (.idxO 25 k) (s0 :: s1 :: s2 :: s3 :: s4 :: s5 :: s6 :: s7 :: s8 :: s9 :: s10 :: s11 :: s12 :: s13 :: s14 :: s15 :: s16 :: s17 :: s18 :: s19 :: s20 :: s21 :: s22 :: s23 :: s24 :: .val (.lst ds) :: ε) Q = semE Φ k (s0 :: s1 :: s2 :: s3 :: s4 :: s5 :: s6 :: s7 :: s8 :: s9 :: s10 :: s11 :: s12 :: s13 :: s14 :: s15 :: s16 :: s17 :: s18 :: s19 :: s20 :: s21 :: s22 :: s23 :: s24 :: .val (.lst ds) :: ε) fun y => opIx (.lst ds) y Q := rfl
theorem yldo25 (Φ : Sm) (ε : List Slot) (Q : D → Prop) (s0 s1 s2 s3 s4 s5 s6 s7 s8 s9 s10 s11 s12 s13 s14 s15 s16 s17 s18 s19 s20 s21 s22 s23 s24 : Slot) (ds : List D) (e : CE) : semE Φ (.lend 25 e) (s0 :: s1 :: s2 :: s3 :: s4 :: s5 :: s6 :: s7 :: s8 :: s9 :: s10 :: s11 :: s12 :: s13 :: s14 :: s15 :: s16 :: s17 :: s18 :: s19 :: s20 :: s21 :: s22 :: s23 :: s24 :: .own ds :: ε) Q = semE Φ e (s0 :: s1 :: s2 :: s3 :: s4 :: s5 :: s6 :: s7 :: s8 :: s9 :: s10 :: s11 :: s12 :: s13 :: s14 :: s15 :: s16 :: s17 :: s18 :: s19 :: s20 :: s21 :: s22 :: s23 :: s24 :: .val (.lst ds) :: ε) fun d => d.noL = true ∧ Q d := rfl
theorem yldv25 (Φ : Sm) (ε : List Slot) (Q : D → Prop) (s0 s1 s2 s3 s4 s5 s6 s7 s8 s9 s10 s11 s12 s13 s14 s15 s16 s17 s18 s19 s20 s21 s22 s23 s24 : Slot) (d : D) (e : CE) : semE Φ (.lend 25 e) (s0 :: s1 :: s2 :: s3 :: s4 :: s5 :: s6 :: s7 :: s8 :: s9 :: s10 :: s11 :: s12 :: s13 :: s14 :: s15 :: s16 :: s17 :: s18 :: s19 :: s20 :: s21 :: s22 :: s23 :: s24 :: .val d :: ε) Q = semE Φ e (s0 :: s1 :: s2 :: s3 :: s4 :: s5 :: s6 :: s7 :: s8 :: s9 :: s10 :: s11 :: s12 :: s13 :: s14 :: s15 :: s16 :: s17 :: s18 :: s19 :: s20 :: s21 :: s22 :: s23 :: s24 :: .val d :: ε) Q := rfl
theorem ynm25 (ε : List Slot) (K : List Slot → Prop) (s0 s1 s2 s3 s4 s5 s6 s7 s8 s9 s10 s11 s12 s13 s14 s15 s16 s17 s18 s19 s20 s21 s22 s23 s24 : Slot) (x : Slot) (d : D) : bindT (.nm 25) d (s0 :: s1 :: s2 :: s3 :: s4 :: s5 :: s6 :: s7 :: s8 :: s9 :: s10 :: s11 :: s12 :: s13 :: s14 :: s15 :: s16 :: s17 :: s18 :: s19 :: s20 :: s21 :: s22 :: s23 :: s24 :: x :: ε) K = K (s0 :: s1 :: s2 :: s3 :: s4 :: s5 :: s6 :: s7 :: s8 :: s9 :: s10 :: s11 :: s12 :: s13 :: s14 :: s15 :: s16 :: s17 :: s18 :: s19 :: s20 :: s21 :: s22 :: s23 :: s24 :: .val d :: ε) := rfl
theorem ywp25 (ε : List Slot) (s0 s1 s2 s3 s4 s5 s6 s7 s8 s9 s10 s11 s12 s13 s14 s15 s16 s17 s18 s19 s20 s21 s22 s23 s24 : Slot) (x : Slot) : wipeE (s0 :: s1 :: s2 :: s3 :: s4 :: s5 :: s6 :: s7 :: s8 :: s9 :: s10 :: s11 :: s12 :: s13 :: s14 :: s15 :: s16 :: s17 :: s18 :: s19 :: s20 :: s21 :: s22 :: s23 :: s24 :: x :: ε) [25] = s0 :: s1 :: s2 :: s3 :: s4 :: s5 :: s6 :: s7 :: s8 :: s9 :: s10 :: s11 :: s12 :: s13 :: s14 :: s15 :: s16 :: s17 :: s18 :: s19 :: s20 :: s21 :: s22 :: s23 :: s24 :: .non :: ε := rfl
theorem yow25 (Φ : Sm) (E : DEnds) (ε : List Slot) (s0 s1 s2 s3 s4 s5 s6 s7 s8 s9 s10 s11 s12 s13 s14 s15 s16 s17 s18 s19 s20 s21 s22 s23 s24 : Slot) (x : Slot) (e : CE) : semS Φ (.own 25 e) E (s0 :: s1 :: s2 :: s3 :: s4 :: s5 :: s6 :: s7 :: s8 :: s9 :: s10 :: s11 :: s12 :: s13 :: s14 :: s15 :: s16 :: s17 :: s18 :: s19 :: s20 :: s21 :: s22 :: s23 :: s24 :: x :: ε) = semE Φ e (s0 :: s1 :: s2 :: s3 :: s4 :: s5 :: s6 :: s7 :: s8 :: s9 :: s10 :: s11 :: s12 :: s13 :: s14 :: s15 :: s16 :: s17 :: s18 :: s19 :: s20 :: s21 :: s22 :: s23 :: s24 :: x :: ε) fun d => ownQ d fun ds => E.nx (s0 :: s1 :: s2 :: s3 :: s4 :: s5 :: s6 :: s7 :: s8 :: s9 :: s10 :: s11 :: s12 :: s13 :: s14 :: s15 :: s16 :: s17 :: s18 :: s19 :: s20 :: s21 :: s22 :: s23 :: s24 :: .own ds :: ε) := rfl
theorem yap25 (Φ : Sm) (E : DEnds) (ε : List Slot) (s0 s1 s2 s3 s4 s5 s6 s7 s8 s9 s10 s11 s12 s13 s14 s15 s16 s17 s18 s19 s20 s21 s22 s23 s24 : Slot) (ds : List D) (e : CE) : semS Φ (.app 25 e) E (s0 :: s1 :: s2 :: s3 :: s4 :: s5 :: s6 :: s7 :: s8 :: s9 :: s10 :: s11 :: s12 :: s13 :: s14 :: s15 :: s16 :: s17 :: s18 :: s19 :: s20 :: s21 :: s22 :: s23 :: s24 :: .own ds :: ε) = semE Φ e (s0 :: s1 :: s2 :: s3 :: s4 :: s5 :: s6 :: s7 :: s8 :: s9 :: s10 :: s11 :: s12 :: s13 :: s14 :: s15 :: s16 :: s17 :: s18 :: s19 :: s20 :: s21 :: s22 :: s23 :: s24 :: .own ds :: ε) fun v => ds.length < sizeLine ∧ E.nx (s0 :: s1 :: s2 :: s3 :: s4 :: s5 :: s6 :: s7 :: s8 :: s9 :: s10 :: s11 :: s12 :: s13 :: s14 :: s15 :: s16 :: s17 :: s18 :: s19 :: s20 :: s21 :: s22 :: s23 :: s24 :: .own (ds ++ [v]) :: ε) := rfl
theorem yrv25 (Φ : Sm) (E : DEnds) (ε : List Slot) (s0 s1 s2 s3 s4 s5 s6 s7 s8 s9 s10 s11 s12 s13 s14 s15 s16 s17 s18 s19 s20 s21 s22 s23 s24 : Slot) (ds : List D) : semS Φ (.rev 25) E (s0 :: s1 :: s2 :: s3 :: s4 :: s5 :: s6 :: s7 :: s8 :: s9 :: s10 :: s11 :: s12 :: s13 :: s14 :: s15 :: s16 :: s17 :: s18 :: s19 :: s20 :: s21 :: s22 :: s23 :: s24 :: .own ds :: ε) = E.nx (s0 :: s1 :: s2 :: s3 :: s4 :: s5 :: s6 :: s7 :: s8 :: s9 :: s10 :: s11 :: s12 :: s13 :: s14 :: s15 :: s16 :: s17 :: s18 :: s19 :: s20 :: s21 :: s22 :: s23 :: s24 :: .own ds.reverse :: ε) := rfl
theorem ysi25 (Φ : Sm) (E : DEnds) (ε : List Slot) (s0 s1 s2 s3 s4 s5 s6 s7 s8 s9 s10 s11 s12 s13 s14 s15 s16 s17 s18 s19 s20 s21 s22 s23 s24 : Slot) (ds : List D) (k e : CE) : semS Φ (.setIx 25 k e) E (s0 :: s1 :: s2 :: s3 :: s4 :: s5 :: s6 :: s7 :: s8 :: s9 :: s10 :: s11 :: s12 :: s13 :: s14 :: s15 :: s16 :: s17 :: s18 :: s19 :: s20 :: s21 :: s22 :: s23 :: s24 :: .own ds :: ε) = semE Φ e (s0 :: s1 :: s2 :: s3 :: s4 :: s5 :: s6 :: s7 :: s8 :: s9 :: s10 :: s11 :: s12 :: s13 :: s14 :: s15 :: s16 :: s17 :: s18 :: s19 :: s20 :: s21 :: s22 :: s23 :: s24 :: .own ds :: ε) fun v => semE Φ k (s0 :: s1 :: s2 :: s3 :: s4 :: s5 :: s6 :: s7 :: s8 :: s9 :: s10 :: s11 :: s12 :: s13 :: s14 :: s15 :: s16 :: s17 :: s18 :: s19 :: s20 :: s21 :: s22 :: s23 :: s24 :: .own ds :: ε) fun y => setQ ds v y fun ds' => E.nx (s0 :: s1 :: s2 :: s3 :: s4 :: s5 :: s6 :: s7 :: s8 :: s9 :: s10 :: s11 :: s12 :: s13 :: s14 :: s15 :: s16 :: s17 :: s18 :: s19 :: s20 :: s21 :: s22 :: s23 :: s24 :: .own ds' :: ε) := rfl
theorem yau25 (Φ : Sm) (E : DEnds) (ε : List Slot) (s0 s1 s2 s3 s4 s5 s6 s7 s8 s9 s10 s11 s12 s13 s14 s15 s16 s17 s18 s19 s20 s21 s22 s23 s24 : Slot) (n : Int) (o : O2) (e : CE) : semS Φ (.aug 25 o e) E (s0 :: s1 :: s2 :: s3 :: s4 :: s5 :: s6 :: s7 :: s8 :: s9 :: s10 :: s11 :: s12 :: s13 :: s14 :: s15 :: s16 :: s17 :: s18 :: s19 :: s20 :: s21 :: s22 :: s23 :: s24 :: .val (.int n) :: ε) = semE Φ e (s0 :: s1 :: s2 :: s3 :: s4 :: s5 :: s6 :: s7 :: s8 :: s9 :: s10 :: s11 :: s12 :: s13 :: s14 :: s15 :: s16 :: s17 :: s18 :: s19 :: s20 :: s21 :: s22 :: s23 :: s24 :: .val (.int n) :: ε) fun y => op2 o (.int n) y fun z => E.nx (s0 :: s1 :: s2 :: s3 :: s4 :: s5 :: s6 :: s7 :: s8 :: s9 :: s10 :: s11 :: s12 :: s13 :: s14 :: s15 :: s16 :: s17 :: s18 :: s19 :: s20 :: s21 :: s22 :: s23 :: s24 :: .val z :: ε) := rfl
theorem ypo25 (Φ : Sm) (E : DEnds) (ε : List Slot) (s0 s1 s2 s3 s4 s5 s6 s7 s8 s9 s10 s11 s12 s13 s14 s15 s16 s17 s18 s19 s20 s21 s22 s23 s24 : Slot) (ds : List D) : semS Φ (.pop 25) E (s0 :: s1 :: s2 :: s3 :: s4 :: s5 :: s6 :: s7 :: s8 :: s9 :: s10 :: s11 :: s12 :: s13 :: s14 :: s15 :: s16 :: s17 :: s18 :: s19 :: s20 :: s21 :: s22 :: s23 :: s24 :: .own ds :: ε) = (0 < ds.length ∧ E.nx (s0 :: s1 :: s2 :: s3 :: s4 :: s5 :: s6 :: s7 :: s8 :: s9 :: s10 :: s11 :: s12 :: s13 :: s14 :: s15 :: s16 :: s17 :: s18 :: s19 :: s20 :: s21 :: s22 :: s23 :: s24 :: .own ds.dropLast :: ε)) := rfl
theorem yro25 (Φ : Sm) (E : DEnds) (ε : List Slot) (s0 s1 s2 s3 s4 s5 s6 s7 s8 s9 s10 s11 s12 s13 s14 s15 s16 s17 s18 s19 s20 s21 s22 s23 s24 : Slot) (ds : List D) : semS Φ (.retO 25) E (s0 :: s1 :: s2 :: s3 :: s4 :: s5 :: s6 :: s7 :: s8 :: s9 :: s10 :: s11 :: s12 :: s13 :: s14 :: s15 :: s16 :: s17 :: s18 :: s19 :: s20 :: s21 :: s22 :: s23 :: s24 :: .own ds :: ε) = E.rt (.own ds) := rfl
theorem yfo25 (Φ : Sm) (E : DEnds) (ε : List Slot) (s0 s1 s2 s3 s4 s5 s6 s7 s8 s9 s10 s11 s12 s13 s14 s15 s16 s17 s18 s19 s20 s21 s22 s23 s24 : Slot) (ds : List D) (r : CSs) : semSs Φ (.frz 25 r) E (s0 :: s1 :: s2 :: s3 :: s4 :: s5 :: s6 :: s7 :: s8 :: s9 :: s10 :: s11 :: s12 :: s13 :: s14 :: s15 :: s16 :: s17 :: s18 :: s19 :: s20 :: s21 :: s22 :: s23 :: s24 :: .own ds :: ε) = semSs Φ r E (s0 :: s1 :: s2 :: s3 :: s4 :: s5 :: s6 :: s7 :: s8 :: s9 :: s10 :: s11 :: s12 :: s13 :: s14 :: s15 :: s16 :: s17 :: s18 :: s19 :: s20 :: s21 :: s22 :: s23 :: s24 :: .val (.lst ds) :: ε) := rfl
theorem yfv25 (Φ : Sm) (E : DEnds) (ε : List Slot) (s0 s1 s2 s3 s4 s5 s6 s7 s8 s9 s10 s11 s12 s13 s14 s15 s16 s17 s18 s19 s20 s21 s22 s23 s24 : Slot) (d : D) (r : CSs) : semSs Φ (.frz 25 r) E (s0 :: s1 :: s2 :: s3 :: s4 :: s5 :: s6 :: s7 :: s8 :: s9 :: s10 :: s11 :: s12 :: s13 :: s14 :: s15 :: s16 :: s17 :: s18 :: s19 :: s20 :: s21 :: s22 :: s23 :: s24 :: .val d :: ε) = semSs Φ r E (s0 :: s1 :: s2 :: s3 :: s4 :: s5 :: s6 :: s7 :: s8 :: s9 :: s10 :: s11 :: s12 :: s13 :: s14 :: s15 :: s16 :: s17 :: s18 :: s19 :: s20 :: s21 :: s22 :: s23 :: s24 :: .val d :: ε) := rfl
theorem yop25 (Φ : Sm) (E : DEnds) (ε : List Slot) (s0 s1 s2 s3 s4 s5 s6 s7 s8 s9 s10 s11 s12 s13 s14 s15 s16 s17 s18 s19 s20 s21 s22 s23 s24 : Slot) (ds : List D) (r : CSs) : semSs Φ (.opn 25 r) E (s0 :: s1 :: s2 :: s3 :: s4 :: s5 :: s6 :: s7 :: s8 :: s9 :: s10 :: s11 :: s12 :: s13 :: s14 :: s15 :: s16 :: s17 :: s18 :: s19 :: s20 :: s21 :: s22 :: s23 :: s24 :: .own ds :: ε) = ((∃ ns : List Int, ds = ns.map D.int ∧ ∀ n ∈ ns, 0 ≤ n) ∧ semSs Φ r E (s0 :: s1 :: s2 :: s3 :: s4 :: s5 :: s6 :: s7 :: s8 :: s9 :: s10 :: s11 :: s12 :: s13 :: s14 :: s15 :: s16 :: s17 :: s18 :: s19 :: s20 :: s21 :: s22 :: s23 :: s24 :: .val (.opq 0) :: ε)) := rfl
theorem yv26 (Φ : Sm) (ε : List Slot) (Q : D → Prop) (s0 s1 s2 s3 s4 s5 s6 s7 s8 s9 s10 s11 s12 s13 s14 s15 s16 s17 s18 s19 s20 s21 s22 s23 s24 s25 : Slot) (d : D) : semE Φ (.var 26) (s0 :: s1 :: s2 :: s3 :: s4 :: s5 :: s6 :: s7 :: s8 :: s9 :: s10 :: s11 :: s12 :: s13 :: s14 :: s15 :: s16 :: s17 :: s18 :: s19 :: s20 :: s21 :: s22 :: s23 :: s24 :: s25 :: .val d :: ε) Q = Q d := rfl
theorem ylo26 (Φ : Sm) (ε : List Slot) (Q : D → Prop) (s0 s1 s2 s3 s4 s5 s6 s7 s8 s9 s10 s11 s12 s13 s14 s15 s16 s17 s18 s19 s20 s21 s22 s23 s24 s25 : Slot) (ds : List D) : semE Φ (.lenO 26) (s0 :: s1 :: s2 :: s3 :: s4 :: s5 :: s6 :: s7 :: s8 :: s9 :: s10 :: s11 :: s12 :: s13 :: s14 :: s15 :: s16 :: s17 :: s18 :: s19 :: s20 :: s21 :: s22 :: s23 :: s24 :: s25 :: .own ds :: ε) Q = Q (.int ds.length) := rfl
theorem ylv26 (Φ : Sm) (ε : List Slot) (Q : D → Prop) (s0 s1 s2 s3 s4 s5 s6 s7 s8 s9 s10 s11 s12 s13 s14 s15 s16 s17 s18 s19 s20 s21 s22 s23 s24 s25 : Slot) (ds : List D) : semE Φ (.lenO 26) (s0 :: s1 :: s2 :: s3 :: s4 :: s5 :: s6 :: s7 :: s8 :: s9 :: s10 :: s11 :: s12 :: s13 :: s14 :: s15 :: s16 :: s17 :: s18 :: s19 :: s20 :: s21 :: s22 :: s23 :: s24 :: s25 :: .val (.lst ds) :: ε) Q = Q (.int ds.length) := rfl
theorem yxo26 (Φ : Sm) (ε : List Slot) (Q : D → Prop) (s0 s1 s2 s3 s4 s5 s6 s7 s8 s9 s10 s11 s12 s13 s14 s15 s16 s17 s18 s19 s20 s21 s22 s23 s24 s25 : Slot) (ds : List D) (k : CE) : semE Φ (.idxO 26 k) (s0 :: s1 :: s2 :: s3 :: s4 :: s5 :: s6 :: s7 :: s8 :: s9 :: s10 :: s11 :: s12 :: s13 :: s14 :: s15 :: s16 :: s17 :: s18 :: s19 :: s20 :: s21 :: s22 :: s23 :: s24 :: s25 :: .own ds :: ε) Q = semE Φ k (s0 :: s1 :: s2 :: s3 :: s4 :: s5 :: s6 :: s7 :: s8 :: s9 :: s10 :: s11 :: s12 :: s13 :: s14 :: s15 :: s16 :: s17 :: s18 :: s19 :: s20 :: s21 :: s22 :: s23 :: s24 :: s25 :: .own ds :: ε) fun y => opIx (.lst ds) y Q := rfl
theorem yxv26 (Φ : Sm) (ε : List Slot) (Q : D → Prop) (s0 s1 s2 s3 s4 s5 s6 s7 s8 s9 s10 s11 s12 s13 s14 s15 s16 s17 s18 s19 s20 s21 s22 s23 s24 s25 : Slot) (ds : List D) (k : CE) : semE Φ (.idxO 26 k) (s0 :: s1 :: s2 :: s3 :: s4 :: s5 :: s6 :: s7 :: s8 :: s9 :: s10 :: s11 :: s12 :: s13 :: s14 :: s15 :: s16 :: s17 :: s18 :: s19 :: s20 :: s21 :: s22 :: s23 :: s24 :: s25 :: .val (.lst ds) :: ε) Q = semE Φ k (s0 :: s1 :: s2 :: s3 :: s4 :: s5 :: s6 :: s7 :: s8 :: s9 :: s10 :: s11 :: s12 :: s13 :: s14 :: s15 :: s16 :: s17 :: s18 :: s19 :: s20 :: s21 :: s22 :: s23 :: s24 :: s25 :: .val (.lst ds) :: ε) fun y => opIx (.lst ds) y Q := rfl
theorem yldo26 (Φ : Sm) (ε : List Slot) (Q : D → Prop) (s0 s1 s2 s3 s4 s5 s6 s7 s8 s9 s10 s11 s12 s13 s14 s15 s16 s17 s18 s19 s20 s21 s22 s23 s24 s25 : Slot) (ds : List D) (e : CE) : semE Φ (.lend 26 e) (s0 :: s1 :: s2 :: s3 :: s4 :: s5 :: s6 :: s7 :: s8 :: s9 :: s10 :: s11 :: s12 :: s13 :: s14 :: s15 :: s16 :: s17 :: s18 :: s19 :: s20 :: s21 :: s22 :: s23 :: s24 :: s25 :: .own ds :: ε) Q = semE Φ e (s0 :: s1 :: s2 :: s3 :: s4 :: s5 :: s6 :: s7 :: s8 :: s9 :: s10 :: s11 :: s12 :: s13 :: s14 :: s15 :: s16 :: s17 :: s18 :: s19 :: s20 :: s21 :: s22 :: s23 :: s24 :: s25 :: .val (.lst ds) :: ε) fun d => d.noL = true ∧ Q d := rfl
theorem yldv26 (Φ : Sm) (ε : List Slot) (Q : D → Prop) (s0 s1 s2 s3 s4 s5 s6 s7 s8 s9 s10 s11 s12 s13 s14 s15 s16 s17 s18 s19 s20 s21 s22 s23 s24 s25 : Slot) (d : D) (e : CE) : semE Φ (.lend 26 e) (s0 :: s1 :: s2 :: s3 :: s4 :: s5 :: s6 :: s7 :: s8 :: s9 :: s10 :: s11 :: s12 :: s13 :: s14 :: s15 :: s16 :: s17 :: s18 :: s19 :: s20 :: s21 :: s22 :: s23 :: s24 :: s25 :: .val d :: ε) Q = semE Φ e (s0 :: s1 :: s2 :: s3 :: s4 :: s5 :: s6 :: s7 :: s8 :: s9 :: s10 :: s11 :: s12 :: s13 :: s14 :: s15 :: s16 :: s17 :: s18 :: s19 :: s20 :: s21 :: s22 :: s23 :: s24 :: s25 :: .val d :: ε) Q := rfl
theorem ynm26 (ε : List Slot) (K : List Slot → Prop) (s0 s1 s2 s3 s4 s5 s6 s7 s8 s9 s10 s11 s12 s13 s14 s15 s16 s17 s18 s19 s20 s21 s22 s23 s24 s25 : Slot) (x : Slot) (d : D) : bindT (.nm 26) d (s0 :: s1 :: s2 :: s3 :: s4 :: s5 :: s6 :: s7 :: s8 :: s9 :: s10 :: s11 :: s12 :: s13 :: s14 :: s15 :: s16 :: s17 :: s18 :: s19 :: s20 :: s21 :: s22 :: s23 :: s24 :: s25 :: x :: ε) K = K (s0 :: s1 :: s2 :: s3 :: s4 :: s5 :: s6 :: s7 :: s8 :: s9 :: s10 :: s11 :: s12 :: s13 :: s14 :: s15 :: s16 :: s17 :: s18 :: s19 :: s20 :: s21 :: s22 :: s23 :: s24 :: s25 :: .val d :: ε) := rfl
theorem ywp26 (ε : List Slot) (s0 s1 s2 s3 s4 s5 s6 s7 s8 s9 s10 s11 s12 s13 s14 s15 s16 s17 s18 s19 s20 s21 s22 s23 s24 s25 : Slot) (x : Slot) : wipeE (s0 :: s1 :: s2 :: s3 :: s4 :: s5 :: s6 :: s7 :: s8 :: s9 :: s10 :: s11 :: s12 :: s13 :: s14 :: s15 :: s16 :: s17 :: s18 :: s19 :: s20 :: s21 :: s22 :: s23 :: s24 :: s25 :: x :: ε) [26] = s0 :: s1 :: s2 :: s3 :: s4 :: s5 :: s6 :: s7 :: s8 :: s9 :: s10 :: s11 :: s12 :: s13 :: s14 :: s15 :: s16 :: s17 :: s18 :: s19 :: s20 :: s21 :: s22 :: s23 :: s24 :: s25 :: .non :: ε := rfl
theorem yow26 (Φ : Sm) (E : DEnds) (ε : List Slot) (s0 s1 s2 s3 s4 s5 s6 s7 s8 s9 s10 s11 s12 s13 s14 s15 s16 s17 s18 s19 s20 s21 s22 s23 s24 s25 : Slot) (x : Slot) (e : CE) : semS Φ (.own 26 e) E (s0 :: s1 :: s2 :: s3 :: s4 :: s5 :: s6 :: s7 :: s8 :: s9 :: s10 :: s11 :: s12 :: s13 :: s14 :: s15 :: s16 :: s17 :: s18 :: s19 :: s20 :: s21 :: s22 :: s23 :: s24 :: s25 :: x :: ε) = semE Φ e (s0 :: s1 :: s2 :: s3 :: s4 :: s5 :: s6 :: s7 :: s8 :: s9 :: s10 :: s11 :: s12 :: s13 :: s14 :: s15 :: s16 :: s17 :: s18 :: s19 :: s20 :: s21 :: s22 :: s23 :: s24 :: s25 :: x :: ε) fun d => ownQ d fun ds => E.nx (s0 :: s1 :: s2 :: s3 :: s4 :: s5 :: s6 :: s7 :: s8 :: s9 :: s10 :: s11 :: s12 :: s13 :: s14 :: s15 :: s16 :: s17 :: s18 :: s19 :: s20 :: s21 :: s22 :: s23 :: s24 :: s25 :: .own ds :: ε) := rfl
theorem yap26 (Φ : Sm) (E : DEnds) (ε : List Slot) (s0 s1 s2 s3 s4 s5 s6 s7 s8 s9 s10 s11 s12 s13 s14 s15 s16 s17 s18 s19 s20 s21 s22 s23 s24 s25 : Slot) (ds : List D) (e : CE) : semS Φ (.app 26 e) E (s0 :: s1 :: s2 :: s3 :: s4 :: s5 :: s6 :: s7 :: s8 :: s9 :: s10 :: s11 :: s12 :: s13 :: s14 :: s15 :: s16 :: s17 :: s18 :: s19 :: s20 :: s21 :: s22 :: s23 :: s24 :: s25 :: .own ds :: ε) = semE Φ e (s0 :: s1 :: s2 :: s3 :: s4 :: s5 :: s6 :: s7 :: s8 :: s9 :: s10 :: s11 :: s12 :: s13 :: s14 :: s15 :: s16 :: s17 :: s18 :: s19 :: s20 :: s21 :: s22 :: s23 :: s24 :: s25 :: .own ds :: ε) fun v => ds.length < sizeLine ∧ E.nx (s0 :: s1 :: s2 :: s3 :: s4 :: s5 :: s6 :: s7 :: s8 :: s9 :: s10 :: s11 :: s12 :: s13 :: s14 :: s15 :: s16 :: s17 :: s18 :: s19 :: s20 :: s21 :: s22 :: s23 :: s24 :: s25 :: .own (ds ++ [v]) :: ε) := rfl
theorem yrv26 (Φ : Sm) (E : DEnds) (ε : List Slot) (s0 s1 s2 s3 s4 s5 s6 s7 s8 s9 s10 s11 s12 s13 s14 s15 s16 s17 s18 s19 s20 s21 s22 s23 s24 s25 : Slot) (ds : List D) : semS Φ (.rev 26) E (s0 :: s1 :: s2 :: s3 :: s4 :: s5 :: s6 :: s7 :: s8 :: s9 :: s10 :: s11 :: s12 :: s13 :: s14 :: s15 :: s16 :: s17 :: s18 :: s19 :: s20 :: s21 :: s22 :: s23 :: s24 :: s25 :: .own ds :: ε) = E.nx (s0 :: s1 :: s2 :: s3 :: s4 :: s5 :: s6 :: s7 :: s8 :: s9 :: s10 :: s11 :: s12 :: s13 :: s14 :: s15 :: s16 :: s17 :: s18 :: s19 :: s20 :: s21 :: s22 :: s23 :: s24 :: s25 :: .own ds.reverse :: ε) := rfl
theorem ysi26 (Φ : Sm) (E : DEnds) (ε : List Slot) (s0 s1 s2 s3 s4 s5 s6 s7 s8 s9 s10 s11 s12 s13 s14 s15 s16 s17 s18 s19 s20 s21 s22 s23 s24 s25 : Slot) (ds : List D) (k e : CE) : semS Φ (.setIx 26 k e) E (s0 :: s1 :: s2 :: s3 :: s4 :: s5 :: s6 :: s7 :: s8 :: s9 :: s10 :: s11 :: s12 :: s13 :: s14 :: s15 :: s16 :: s17 :: s18 :: s19 :: s20 :: s21 :: s22 :: s23 :: s24 :: s25 :: .own ds :: ε) = semE Φ e (s0 :: s1 :: s2 :: s3 :: s4 :: s5 :: s6 :: s7 :: s8 :: s9 :: s10 :: s11 :: s12 :: s13 :: s14 :: s15 :: s16 :: s17 :: s18 :: s19 :: s20 :: s21 :: s22 :: s23 :: s24 :: s25 :: .own ds :: ε) fun v => semE Φ k (s0 :: s1 :: s2 :: s3 :: s4 :: s5 :: s6 :: s7 :: s8 :: s9 :: s10 :: s11 :: s12 :: s13 :: s14 :: s15 :: s16 :: s17 :: s18 :: s19 :: s20 :: s21 :: s22 :: s23 :: s24 :: s25 :: .own ds :: ε) fun y => setQ ds v y fun ds' => E.nx (s0 :: s1 :: s2 :: s3 :: s4 :: s5 :: s6 :: s7 :: s8 :: s9 :: s10 :: s11 :: s12 :: s13 :: s14 :: s15 :: s16 :: s17 :: s18 :: s19 :: s20 :: s21 :: s22 :: s23 :: s24 :: s25 :: .own ds' :: ε) := rfl
theorem yau26 (Φ : Sm) (E : DEnds) (ε : List Slot) (s0 s1 s2 s3 s4 s5 s6 s7 s8 s9 s10 s11 s12 s13 s14 s15 s16 s17 s18 s19 s20 s21 s22 s23 s24 s25 : Slot) (n : Int) (o : O2) (e : CE) : semS Φ (.aug 26 o e) E (s0 :: s1 :: s2 :: s3 :: s4 :: s5 :: s6 :: s7 :: s8 :: s9 :: s10 :: s11 :: s12 :: s13 :: s14 :: s15 :: s16 :: s17 :: s18 :: s19 :: s20 :: s21 :: s22 :: s23 :: s24 :: s25 :: .val (.int n) :: ε) = semE Φ e (s0 :: s1 :: s2 :: s3 :: s4 :: s5 :: s6 :: s7 :: s8 :: s9 :: s10 :: s11 :: s12 :: s13 :: s14 :: s15 :: s16 :: s17 :: s18 :: s19 :: s20 :: s21 :: s22 :: s23 :: s24 :: s25 :: .val (.int n) :: ε) fun y => op2 o (.int n) y fun z => E.nx (s0 :: s1 :: s2 :: s3 :: s4 :: s5 :: s6 :: s7 :: s8 :: s9 :: s10 :: s11 :: s12 :: s13 :: s14 :: s15 :: s16 :: s17 :: s18 :: s19 :: s20 :: s21 :: s22 :: s23 :: s24 :: s25 :: .val z :: ε) := rfl
theorem ypo26 (Φ : Sm) (E : DEnds) (ε : List Slot) (s0 s1 s2 s3 s4 s5 s6 s7 s8 s9 s10 s11 s12 s13 s14 s15 s16 s17 s18 s19 s20 s21 s22 s23 s24 s25 : Slot) (ds : List D) : semS Φ (.pop 26) E (s0 :: s1 :: s2 :: s3 :: s4 :: s5 :: s6 :: s7 :: s8 :: s9 :: s10 :: s11 :: s12 :: s13 :: s14 :: s15 :: s16 :: s17 :: s18 :: s19 :: s20 :: s21 :: s22 :: s23 :: s24 :: s25 :: .own ds :: ε) = (0 < ds.length ∧ E.nx (s0 :: s1 :: s2 :: s3 :: s4 :: s5 :: s6 :: s7 :: s8 :: s9 :: s10 :: s11 :: s12 :: s13 :: s14 :: s15 :: s16 :: s17 :: s18 :: s19 :: s20 :: s21 :: s22 :: s23 :: s24 :: s25 :: .own ds.dropLast :: ε)) := rfl
theorem yro26 (Φ : Sm) (E : DEnds) (ε : List Slot) (s0 s1 s2 s3 s4 s5 s6 s7 s8 s9 s10 s11 s12 s13 s14 s15 s16 s17 s18 s19 s20 s21 s22 s23 s24 s25 : Slot) (ds : List D) : semS Φ (.retO 26) E (s0 :: s1 :: s2 :: s3 :: s4 :: s5 :: s6 :: s7 :: s8 :: s9 :: s10 :: s11 :: s12 :: s13 :: s14 :: s15 :: s16 :: s17 :: s18 :: s19 :: s20 :: s21 :: s22 :: s23 :: s24 :: s25 :: .own ds :: ε) = E.rt (.own ds) := rfl
theorem yfo26 (Φ : Sm) (E : DEnds) (ε : List Slot) (s0 s1 s2 s3 s4 s5 s6 s7 s8 s9 s10 s11 s12 s13 s14 s15 s16 s17 s18 s19 s20 s21 s22 s23 s24 s25 : Slot) (ds : List D) (r : CSs) : semSs Φ (.frz 26 r) E (s0 :: s1 :: s2 :: s3 :: s4 :: s5 :: s6 :: s7 :: s8 :: s9 :: s10 :: s11 :: s12 :: s13 :: s14 :: s15 :: s16 :: s17 :: s18 :: s19 :: s20 :: s21 :: s22 :: s23 :: s24 :: s25 :: .own ds :: ε) = semSs Φ r E (s0 :: s1 :: s2 :: s3 :: s4 :: s5 :: s6 :: s7 :: s8 :: s9 :: s10 :: s11 :: s12 :: s13 :: s14 :: s15 :: s16 :: s17 :: s18 :: s19 :: s20 :: s21 :: s22 :: s23 :: s24 :: s25 :: .val (.lst ds) :: ε) := rfl
theorem yfv26 (Φ : Sm) (E : DEnds) (ε : List Slot) (s0 s1 s2 s3 s4 s5 s6 s7 s8 s9 s10 s11 s12 s13 s14 s15 s16 s17 s18 s19 s20 s21 s22 s23 s24 s25 : Slot) (d : D) (r : CSs) : semSs Φ (.frz 26 r) E (s0 :: s1 :: s2 :: s3 :: s4 :: s5 :: s6 :: s7 :: s8 :: s9 :: s10 :: s11 :: s12 :: s13 :: s14 :: s15 :: s16 :: s17 :: s18 :: s19 :: s20 :: s21 :: s22 :: s23 :: s24 :: s25 :: .val d :: ε) = semSs Φ r E (s0 :: s1 :: s2 :: s3 :: s4 :: s5 :: s6 :: s7 :: s8 :: s9 :: s10 :: s11 :: s12 :: s13 :: s14 :: s15 :: s16 :: s17 :: s18 :: s19 :: s20 :: s21 :: s22 :: s23 :: s24 :: s25 :: .val d :: ε) := rfl
theorem yop26 (Φ : Sm) (E : DEnds) (ε : List Slot) (s0 s1 s2 s3 s4 s5 s6 s7 s8 s9 s10 s11 s12 s13 s14 s15 s16 s17 s18 s19 s20 s21 s22 s23 s24 s25 : Slot) (ds : List D) (r : CSs) : semSs Φ (.opn 26 r) E (s0 :: s1 :: s2 :: s3 :: s4 :: s5 :: s6 :: s7 :: s8 :: s9 :: s10 :: s11 :: s12 :: s13 :: s14 :: s15 :: s16 :: s17 :: s18 :: s19 :: s20 :: s21 :: s22 :: s23 :: s24 :: s25 :: .own ds :: ε) = ((∃ ns : List Int, ds = ns.map D.int ∧ ∀ n ∈ ns, 0 ≤ n) ∧ semSs Φ r E (s0 :: s1 :: s2 :: s3 :: s4 :: s5 :: s6 :: s7 :: s8 :: s9 :: s10 :: s11 :: s12 :: s13 :: s14 :: s15 :: s16 :: s17 :: s18 :: s19 :: s20 :: s21 :: s22 :: s23 :: s24 :: s25 :: .val (.opq 0) :: ε)) := rfl
theorem yv27 (Φ : Sm) (ε : List Slot) (Q : D → Prop) (s0 s1 s2 s3 s4 s5 s6 s7 s8 s9 s10 s11 s12 s13 s14 s15 s16 s17 s18 s19 s20 s21 s22 s23 s24 s25 s26 : Slot) (d : D) : semE Φ (.var 27) (s0 :: s1 :: s2 :: s3 :: s4 :: s5 :: s6 :: s7 :: s8 :: s9 :: s10 :: s11 :: s12 :: s13 :: s14 :: s15 :: s16 :: s17 :: s18 :: s19 :: s20 :: s21 :: s22 :: s23 :: s24 :: s25 :: s26 :: .val d :: ε) Q = Q d := rfl
theorem ylo27 (Φ : Sm) (ε : List Slot) (Q : D → Prop) (s0 s1 s2 s3 s4 s5 s6 s7 s8 s9 s10 s11 s12 s13 s14 s15 s16 s17 s18 s19 s20 s21 s22 s23 s24 s25 s26 : Slot) (ds : List D) : semE Φ (.lenO 27) (s0 :: s1 :: s2 :: s3 :: s4 :: s5 :: s6 :: s7 :: s8 :: s9 :: s10 :: s11 :: s12 :: s13 :: s14 :: s15 :: s16 :: s17 :: s18 :: s19 :: s20 :: s21 :: s22 :: s23 :: s24 :: s25 :: s26 :: .own ds :: ε) Q = Q (.int ds.length) := rfl
theorem ylv27 (Φ : Sm) (ε : List Slot) (Q : D → Prop) (s0 s1 s2 s3 s4 s5 s6 s7 s8 s9 s10 s11 s12 s13 s14 s15 s16 s17 s18 s19 s20 s21 s22 s23 s24 s25 s26 : Slot) (ds : List D) : semE Φ (.lenO 27) (s0 :: s1 :: s2 :: s3 :: s4 :: s5 :: s6 :: s7 :: s8 :: s9 :: s10 :: s11 :: s12 :: s13 :: s14 :: s15 :: s16 :: s17 :: s18 :: s19 :: s20 :: s21 :: s22 :: s23 :: s24 :: s25 :: s26 :: .val (.lst ds) :: ε) Q = Q (.int ds.length) := rfl
theorem yxo27 (Φ : Sm) (ε : List Slot) (Q : D → Prop) (s0 s1 s2 s3 s4 s5 s6 s7 s8 s9 s10 s11 s12 s13 s14 s15 s16 s17 s18 s19 s20 s21 s22 s23 s24 s25 s26 : Slot) (ds : List D) (k : CE) : semE Φ (.idxO 27 k) (s0 :: s1 :: s2 :: s3 :: s4 :: s5 :: s6 :: s7 :: s8 :: s9 :: s10 :: s11 :: s12 :: s13 :: s14 :: s15 :: s16 :: s17 :: s18 :: s19 :: s20 :: s21 :: s22 :: s23 :: s24 :: s25 :: s26 :: .own ds :: ε) Q = semE Φ k (s0 :: s1 :: s2 :: s3 :: s4 :: s5 :: s6 :: s7 :: s8 :: s9 :: s10 :: s11 :: s12 :: s13 :: s14 :: s15 :: s16 :: s17 :: s18 :: s19 :: s20 :: s21 :: s22 :: s23 :: s24 :: s25 :: s26 :: .own ds :: ε) fun y => opIx (.lst ds) y Q := rfl
theorem yxv27 (Φ : Sm) (ε : List Slot) (Q : D → Prop) (s0 s1 s2 s3 s4 s5 s6 s7 s8 s9 s10 s11 s12 s13 s14 s15 s16 s17 s18 s19 s20 s21 s22 s23 s24 s25 s26 : Slot) (ds : List D) (k : CE) : semE Φ (.idxO 27 k) (s0 :: s1 :: s2 :: s3 :: s4 :: s5 :: s6 :: s7 :: s8 :: s9 :: s10 :: s11 :: s12 :: s13 :: s14 :: s15 :: s16 :: s17 :: s18 :: s19 :: s20 :: s21 :: s22 :: s23 :: s24 :: s25 :: s26 :: .val (.lst ds) :: ε) Q = semE Φ k (s0 :: s1 :: s2 :: s3 :: s4 :: s5 :: s6 :: s7 :: s8 :: s9 :: s10 :: s11 :: s12 :: s13 :: s14 :: s15 :: s16 :: s17 :: s18 :: s19 :: s20 :: s21 :: s22 :: s23 :: s24 :: s25 :: s26 :: .val (.lst ds) :: ε) fun y => opIx (.lst ds) y Q := rfl
theorem yldo27 (Φ : Sm) (ε : List Slot) (Q : D → Prop) (s0 s1 s2 s3 s4 s5 s6 s7 s8 s9 s10 s11 s12 s13 s14 s15 s16 s17 s18 s19 s20 s21 s22 s23 s24 s25 s26 : Slot) (ds : List D) (e : CE) : semE Φ (.lend 27 e) (s0 :: s1 :: s2 :: s3 :: s4 :: s5 :: s6 :: s7 :: s8 :: s9 :: s10 :: s11 :: s12 :: s13 :: s14 :: s15 :: s16 :: s17 :: s18 :: s19 :: s20 :: s21 :: s22 :: s23 :: s24 :: s25 :: s26 :: .own ds :: ε) Q = semE Φ e (s0 :: s1 :: s2 :: s3 :: s4 :: s5 :: s6 :: s7 :: s8 :: s9 :: s10 :: s11 :: s12 :: s13 :: s14 :: s15 :: s16 :: s17 :: s18 :: s19 :: s20 :: s21 :: s22 :: s23 :: s24 :: s25 :: s26 :: .val (.lst ds) :: ε) fun d => d.noL = true ∧ Q d := rfl
theorem yldv27 (Φ : Sm) (ε : List Slot) (Q : D → Prop) (s0 s1 s2 s3 s4 s5 s6 s7 s8 s9 s10 s11 s12 s13 s14 s15 s16 s17 s18 s19 s20 s21 s22 s23 s24 s25 s26 : Slot) (d : D) (e : CE) : semE Φ (.lend 27 e) (s0 :: s1 :: s2 :: s3 :: s4 :: s5 :: s6 :: s7 :: s8 :: s9 :: s10 :: s11 :: s12 :: s13 :: s14 :: s15 :: s16 :: s17 :: s18 :: s19 :: s20 :: s21 :: s22 :: s23 :: s24 :: s25 :: s26 :: .val d :: ε) Q = semE Φ e (s0 :: s1 :: s2 :: s3 :: s4 :: s5 :: s6 :: s7 :: s8 :: s9 :: s10 :: s11 :: s12 :: s13 :: s14 :: s15 :: s16 :: s17 :: s18 :: s19 :: s20 :: s21 :: s22 :: s23 :: s24 :: s25 :: s26 :: .val d :: ε) Q := rfl
theorem ynm27 (ε : List Slot) (K : List Slot → Prop) (s0 s1 s2 s3 s4 s5 s6 s7 s8 s9 s10 s11 s12 s13 s14 s15 s16 s17 s18 s19 s20 s21 s22 s23 s24 s25 s26 : Slot) (x : Slot) (d : D) : bindT (.nm 27) d (s0 :: s1 :: s2 :: s3 :: s4 :: s5 :: s6 :: s7 :: s8 :: s9 :: s10 :: s11 :: s12 :: s13 :: s14 :: s15 :: s16 :: s17 :: s18 :: s19 :: s20 :: s21 :: s22 :: s23 :: s24 :: s25 :: s26 :: x :: ε) K = K (s0 :: s1 :: s2 :: s3 :: s4 :: s5 :: s6 :: s7 :: s8 :: s9 :: s10 :: s11 :: s12 :: s13 :: s14 :: s15 :: s16 :: s17 :: s18 :: s19 :: s20 :: s21 :: s22 :: s23 :: s24 :: s25 :: s26 :: .val d :: ε) := rfl
theorem ywp27 (ε : List Slot) (s0 s1 s2 s3 s4 s5 s6 s7 s8 s9 s10 s11 s12 s13 s14 s15 s16 s17 s18 s19 s20 s21 s22 s23 s24 s25 s26 : Slot) (x : Slot) : wipeE (s0 :: s1 :: s2 :: s3 :: s4 :: s5 :: s6 :: s7 :: s8 :: s9 :: s10 :: s11 :: s12 :: s13 :: s14 :: s15 :: s16 :: s17 :: s18 :: s19 :: s20 :: s21 :: s22 :: s23 :: s24 :: s25 :: s26 :: x :: ε) [27] = s0 :: s1 :: s2 :: s3 :: s4 :: s5 :: s6 :: s7 :: s8 :: s9 :: s10 :: s11 :: s12 :: s13 :: s14 :: s15 :: s16 :: s17 :: s18 :: s19 :: s20 :: s21 :: s22 :: s23 :: s24 :: s25 :: s26 :: .non :: ε := rfl
theorem yow27 (Φ : Sm) (E : DEnds) (ε : List Slot) (s0 s1 s2 s3 s4 s5 s6 s7 s8 s9 s10 s11 s12 s13 s14 s15 s16 s17 s18 s19 s20 s21 s22 s23 s24 s25 s26 : Slot) (x : Slot) (e : CE) : semS Φ (.own 27 e) E (s0 :: s1 :: s2 :: s3 :: s4 :: s5 :: s6 :: s7 :: s8 :: s9 :: s10 :: s11 :: s12 :: s13 :: s14 :: s15 :: s16 :: s17 :: s18 :: s19 :: s20 :: s21 :: s22 :: s23 :: s24 :: s25 :: s26 :: x :: ε) = semE Φ e (s0 :: s1 :: s2 :: s3 :: s4 :: s5 :: s6 :: s7 :: s8 :: s9 :: s10 :: s11 :: s12 :: s13 :: s14 :: s15 :: s16 :: s17 :: s18 :: s19 :: s20 :: s21 :: s22 :: s23 :: s24 :: s25 :: s26 :: x :: ε) fun d => ownQ d fun ds => E.nx (s0 :: s1 :: s2 :: s3 :: s4 :: s5 :: s6 :: s7 :: s8 :: s9 :: s10 :: s11 :: s12 :: s13 :: s14 :: s15 :: s16 :: s17 :: s18 :: s19 :: s20 :: s21 :: s22 :: s23 :: s24 :: s25 :: s26 :: .own ds :: ε) := rfl
theorem yap27 (Φ : Sm) (E : DEnds) (ε : List Slot) (s0 s1 s2 s3 s4 s5 s6 s7 s8 s9 s10 s11 s12 s13 s14 s15 s16 s17 s18 s19 s20 s21 s22 s23 s24 s25 s26 : Slot) (ds : List D) (e : CE) : semS Φ (.app 27 e) E (s0 :: s1 :: s2 :: s3 :: s4 :: s5 :: s6 :: s7 :: s8 :: s9 :: s10 :: s11 :: s12 :: s13 :: s14 :: s15 :: s16 :: s17 :: s18 :: s19 :: s20 :: s21 :: s22 :: s23 :: s24 :: s25 :: s26 :: .own ds :: ε) = semE Φ e (s0 :: s1 :: s2 :: s3 :: s4 :: s5 :: s6 :: s7 :: s8 :: s9 :: s10 :: s11 :: s12 :: s13 :: s14 :: s15 :: s16 :: s17 :: s18 :: s19 :: s20 :: s21 :: s22 :: s23 :: s24 :: s25 :: s26 :: .own ds :: ε) fun v => ds.length < sizeLine ∧ E.nx (s0 :: s1 :: s2 :: s3 :: s4 :: s5 :: s6 :: s7 :: s8 :: s9 :: s10 :: s11 :: s12 :: s13 :: s14 :: s15 :: s16 :: s17 :: s18 :: s19 :: s20 :: s21 :: s22 :: s23 :: s24 :: s25 :: s26 :: .own (ds ++ [v]) :: ε) := rfl
theorem yrv27 (Φ : Sm) (E : DEnds) (ε : List Slot) (s0 s1 s2 s3 s4 s5 s6 s7 s8 s9 s10 s11 s12 s13 s14 s15 s16 s17 s18 s19 s20 s21 s22 s23 s24 s25 s26 : Slot) (ds : List D) : semS Φ (.rev 27) E (s0 :: s1 :: s2 :: s3 :: s4 :: s5 :: s6 :: s7 :: s8 :: s9 :: s10 :: s11 :: s12 :: s13 :: s14 :: s15 :: s16 :: s17 :: s18 :: s19 :: s20 :: s21 :: s22 :: s23 :: s24 :: s25 :: s26 :: .own ds :: ε) = E.nx (s0 :: s1 :: s2 :: s3 :: s4 :: s5 :: s6 :: s7 :: s8 :: s9 :: s10 :: s11 :: s12 :: s13 :: s14 :: s15 :: s16 :: s17 :: s18 :: s19 :: s20 :: s21 :: s22 :: s23 :: s24 :: s25 :: s26 :: .own ds.reverse :: ε) := rfl
theorem ysi27 (Φ : Sm) (E : DEnds) (ε : List Slot) (s0 s1 s2 s3 s4 s5 s6 s7 s8 s9 s10 s11 s12 s13 s14 s15 s16 s17 s18 s19 s20 s21 s22 s23 s24 s25 s26 : Slot) (ds : List D) (k e : CE) : semS Φ (.setIx 27 k e) E (s0 :: s1 :: s2 :: s3 :: s4 :: s5 :: s6 :: s7 :: s8 :: s9 :: s10 :: s11 :: s12 :: s13 :: s14 :: s15 :: s16 :: s17 :: s18 :: s19 :: s20 :: s21 :: s22 :: s23 :: s24 :: s25 :: s26 :: .own ds :: ε) = semE Φ e (s0 :: s1 :: s2 :: s3 :: s4 :: s5 :: s6 :: s7 :: s8 :: s9 :: s10 :: s11 :: s12 :: s13 :: s14 :: s15 :: s16 :: s17 :: s18 :: s19 :: s20 :: s21 :: s22 :: s23 :: s24 :: s25 :: s26 :: .own ds :: ε) fun v => semE Φ k (s0 :: s1 :: s2 :: s3 :: s4 :: s5 :: s6 :: s7 :: s8 :: s9 :: s10 :: s11 :: s12 :: s13 :: s14 :: s15 :: s16 :: s17 :: s18 :: s19 :: s20 :: s21 :: s22 :: s23 :: s24 :: s25 :: s26 :: .own ds :: ε) fun y => setQ ds v y fun ds' => E.nx (s0 :: s1 :: s2 :: s3 :: s4 :: s5 :: s6 :: s7 :: s8 :: s9 :: s10 :: s11 :: s12 :: s13 :: s14 :: s15 :: s16 :: s17 :: s18 :: s19 :: s20 :: s21 :: s22 :: s23 :: s24 :: s25 :: s26 :: .own ds' :: ε) := rfl
theorem yau27 (Φ : Sm) (E : DEnds) (ε : List Slot) (s0 s1 s2 s3 s4 s5 s6 s7 s8 s9 s10 s11 s12 s13 s14 s15 s16 s17 s18 s19 s20 s21 s22 s23 s24 s25 s26 : Slot) (n : Int) (o : O2) (e : CE) : semS Φ (.aug 27 o e) E (s0 :: s1 :: s2 :: s3 :: s4 :: s5 :: s6 :: s7 :: s8 :: s9 :: s10 :: s11 :: s12 :: s13 :: s14 :: s15 :: s16 :: s17 :: s18 :: s19 :: s20 :: s21 :: s22 :: s23 :: s24 :: s25 :: s26 :: .val (.int n) :: ε) = semE Φ e (s0 :: s1 :: s2 :: s3 :: s4 :: s5 :: s6 :: s7 :: s8 :: s9 :: s10 :: s11 :: s12 :: s13 :: s14 :: s15 :: s16 :: s17 :: s18 :: s19 :: s20 :: s21 :: s22 :: s23 :: s24 :: s25 :: s26 :: .val (.int n) :: ε) fun y => op2 o (.int n) y fun z => E.nx (s0 :: s1 :: s2 :: s3 :: s4 :: s5 :: s6 :: s7 :: s8 :: s9 :: s10 :: s11 :: s12 :: s13 :: s14 :: s15 :: s16 :: s17 :: s18 :: s19 :: s20 :: s21 :: s22 :: s23 :: s24 :: s25 :: s26 :: .val z :: ε) := rfl
theorem ypo27 (Φ : Sm) (E : DEnds) (ε : List Slot) (s0 s1 s2 s3 s4 s5 s6 s7 s8 s9 s10 s11 s12 s13 s14 s15 s16 s17 s18 s19 s20 s21 s22 s23 s24 s25 s26 : Slot) (ds : List D) : semS Φ (.pop 27) E (s0 :: s1 :: s2 :: s3 :: s4 :: s5 :: s6 :: s7 :: s8 :: s9 :: s10 :: s11 :: s12 :: s13 :: s14 :: s15 :: s16 :: s17 :: s18 :: s19 :: s20 :: s21 :: s22 :: s23 :: s24 :: s25 :: s26 :: .own ds :: ε) = (0 < ds.length ∧ E.nx (s0 :: s1 :: s2 :: s3 :: s4 :: s5 :: s6 :: s7 :: s8 :: s9 :: s10 :: s11 :: s12 :: s13 :: s14 :: s15 :: s16 :: s17 :: s18 :: s19 :: s20 :: s21 :: s22 :: s23 :: s24 :: s25 :: s26 :: .own ds.dropLast :: ε)) := rfl
theorem yro27 (Φ : Sm) (E : DEnds) (ε : List Slot) (s0 s1 s2 s3 s4 s5 s6 s7 s8 s9 s10 s11 s12 s13 s14 s15 s16 s17 s18 s19 s20 s21 s22 s23 s24 s25 s26 : Slot) (ds : List D) : semS Φ (.retO 27) E (s0 :: s1 :: s2 :: s3 :: s4 :: s5 :: s6 :: s7 :: s8 :: s9 :: s10 :: s11 :: s12 :: s13 :: s14 :: s15 :: s16 :: s17 :: s18 :: s19 :: s20 :: s21 :: s22 :: s23 :: s24 :: s25 :: s26 :: .own ds :: ε) = E.rt (.own ds) := rfl
theorem yfo27 (Φ : Sm) (E : DEnds) (ε : List Slot) (s0 s1 s2 s3 s4 s5 s6 s7 s8 s9 s10 s11 s12 s13 s14 s15 s16 s17 s18 s19 s20 s21 s22 s23 s24 s25 s26 : Slot) (ds : List D) (r : CSs) : semSs Φ (.frz 27 r) E (s0 :: s1 :: s2 :: s3 :: s4 :: s5 :: s6 :: s7 :: s8 :: s9 :: s10 :: s11 :: s12 :: s13 :: s14 :: s15 :: s16 :: s17 :: s18 :: s19 :: s20 :: s21 :: s22 :: s23 :: s24 :: s25 :: s26 :: .own ds :: ε) = semSs Φ r E (s0 :: s1 :: s2 :: s3 :: s4 :: s5 :: s6 :: s7 :: s8 :: s9 :: s10 :: s11 :: s12 :: s13 :: s14 :: s15 :: s16 :: s17 :: s18 :: s19 :: s20 :: s21 :: s22 :: s23 :: s24 :: s25 :: s26 :: .val (.lst ds) :: ε) := rfl
theorem yfv27 (Φ : Sm) (E : DEnds) (ε : List Slot) (s0 s1 s2 s3 s4 s5 s6 s7 s8 s9 s10 s11 s12 s13 s14 s15 s16 s17 s18 s19 s20 s21 s22 s23 s24 s25 s26 : Slot) (d : D) (r : CSs) : semSs Φ (.frz 27 r) E (s0 :: s1 :: s2 :: s3 :: s4 :: s5 :: s6 :: s7 :: s8 :: s9 :: s10 :: s11 :: s12 :: s13 :: s14 :: s15 :: s16 :: s17 :: s18 :: s19 :: s20 :: s21 :: s22 :: s23 :: s24 :: s25 :: s26 :: .val d :: ε) = semSs Φ r E (s0 :: s1 :: s2 :: s3 :: s4 :: s5 :: s6 :: s7 :: s8 :: s9 :: s10 :: s11 :: s12 :: s13 :: s14 :: s15 :: s16 :: s17 :: s18 :: s19 :: s20 :: s21 :: s22 :: s23 :: s24 :: s25 :: s26 :: .val d :: ε) := rfl
theorem yop27 (Φ : Sm) (E : DEnds) (ε : List Slot) (s0 s1 s2 s3 s4 s5 s6 s7 s8 s9 s10 s11 s12 s13 s14 s15 s16 s17 s18 s19 s20 s21 s22 s23 s24 s25 s26 : Slot) (ds : List D) (r : CSs) : semSs Φ (.opn 27 r) E (s0 :: s1 :: s2 :: s3 :: s4 :: s5 :: s6 :: s7 :: s8 :: s9 :: s10 :: s11 :: s12 :: s13 :: s14 :: s15 :: s16 :: s17 :: s18 :: s19 :: s20 :: s21 :: s22 :: s23 :: s24 :: s25 :: s26 :: .own ds :: ε) = ((∃ ns : List Int, ds = ns.map D.int ∧ ∀ n ∈ ns, 0 ≤ n) ∧ semSs Φ r E (s0 :: s1 :: s2 :: s3 :: s4 :: s5 :: s6 :: s7 :: s8 :: s9 :: s10 :: s11 :: s12 :: s13 :: s14 :: s15 :: s16 :: s17 :: s18 :: s19 :: s20 :: s21 :: s22 :: s23 :: s24 :: s25 :: s26 :: .val (.opq 0) :: ε)) := rfl
theorem yv28 (Φ : Sm) (ε : List Slot) (Q : D → Prop) (s0 s1 s2 s3 s4 s5 s6 s7 s8 s9 s10 s11 s12 s13 s14 s15 s16 s17 s18 s19 s20 s21 s22 s23 s24 s25 s26 s27 : Slot) (d : D) : semE Φ (.var 28) (s0 :: s1 :: s2 :: s3 :: s4 :: s5 :: s6 :: s7 :: s8 :: s9 :: s10 :: s11 :: s12 :: s13 :: s14 :: s15 :: s16 :: s17 :: s18 :: s19 :: s20 :: s21 :: s22 :: s23 :: s24 :: s25 :: s26 :: s27 :: .val d :: ε) Q = Q d := rfl
theorem ylo28 (Φ : Sm) (ε : List Slot) (Q : D → Prop) (s0 s1 s2 s3 s4 s5 s6 s7 s8 s9 s10 s11 s12 s13 s14 s15 s16 s17 s18 s19 s20 s21 s22 s23 s24 s25 s26 s27 : Slot) (ds : List D) : semE Φ (.lenO 28) (s0 :: s1 :: s2 :: s3 :: s4 :: s5 :: s6 :: s7 :: s8 :: s9 :: s10 :: s11 :: s12 :: s13 :: s14 :: s15 :: s16 :: s17 :: s18 :: s19 :: s20 :: s21 :: s22 :: s23 :: s24 :: s25 :: s26 :: s27 :: .own ds :: ε) Q = Q (.int ds.length) := rfl
theorem ylv28 (Φ : Sm) (ε : List Slot) (Q : D → Prop) (s0 s1 s2 s3 s4 s5 s6 s7 s8 s9 s10 s11 s12 s13 s14 s15 s16 s17 s18 s19 s20 s21 s22 s23 s24 s25 s26 s27 : Slot) (ds : List D) : semE Φ (.lenO 28) (s0 :: s1 :: s2 :: s3 :: s4 :: s5 :: s6 :: s7 :: s8 :: s9 :: s10 :: s11 :: s12 :: s13 :: s14 :: s15 :: s16 :: s17 :: s18 :: s19 :: s20 :: s21 :: s22 :: s23 :: s24 :: s25 :: s26 :: s27 :: .val (.lst ds) :: ε) Q = Q (.int ds.length) := rfl
theorem yxo28 (Φ : Sm) (ε : List Slot) (Q : D → Prop) (s0 s1 s2 s3 s4 s5 s6 s7 s8 s9 s10 s11 s12 s13 s14 s15 s16 s17 s18 s19 s20 s21 s22 s23 s24 s25 s26 s27 : Slot) (ds : List D) (k : CE) : semE Φ (.idxO 28 k) (s0 :: s1 :: s2 :: s3 :: s4 :: s5 :: s6 :: s7 :: s8 :: s9 :: s10 :: s11 :: s12 :: s13 :: s14 :: s15 :: s16 :: s17 :: s18 :: s19 :: s20 :: s21 :: s22 :: s23 :: s24 :: s25 :: s26 :: s27 :: .own ds :: ε) Q = semE Φ k (s0 :: s1 :: s2 :: s3 :: s4 :: s5 :: s6 :: s7 :: s8 :: s9 :: s10 :: s11 :: s12 :: s13 :: s14 :: s15 :: s16 :: s17 :: s18 :: s19 :: s20 :: s21 :: s22 :: s23 :: s24 :: s25 :: s26 :: s27 :: .own ds :: ε) fun y => opIx (.lst ds) y Q := rfl
theorem yxv28 (Φ : Sm) (ε : List Slot) (Q : D → Prop) (s0 s1 s2 s3 s4 s5 s6 s7 s8 s9 s10 s11 s12 s13 s14 s15 s16 s17 s18 s19 s20 s21 s22 s23 s24 s25 s26 s27 : Slot) (ds : List D) (k : CE) : semE Φ (.idxO 28 k) (s0 :: s1 :: s2 :: s3 :: s4 :: s5 :: s6 :: s7 :: s8 :: s9 :: s10 :: s11 :: s12 :: s13 :: s14 :: s15 :: s16 :: s17 :: s18 :: s19 :: s20 :: s21 :: s22 :: s23 :: s24 :: s25 :: s26 :: s27 :: .val (.lst ds) :: ε) Q = semE Φ k (s0 :: s1 :: s2 :: s3 :: s4 :: s5 :: s6 :: s7 :: s8 :: s9 :: s10 :: s11 :: s12 :: s13 :: s14 :: s15 :: s16 :: s17 :: s18 :: s19 :: s20 :: s21 :: s22 :: s23 :: s24 :: s25 :: s26 :: s27 :: .val (.lst ds) :: ε) fun y => opIx (.lst ds) y Q := rfl
theorem yldo28 (Φ : Sm) (ε : List Slot) (Q : D → Prop) (s0 s1 s2 s3 s4 s5 s6 s7 s8 s9 s10 s11 s12 s13 s14 s15 s16 s17 s18 s19 s20 s21 s22 s23 s24 s25 s26 s27 : Slot) (ds : List D) (e : CE) : semE Φ (.lend 28 e) (s0 :: s1 :: s2 :: s3 :: s4 :: s5 :: s6 :: s7 :: s8 :: s9 :: s10 :: s11 :: s12 :: s13 :: s14 :: s15 :: s16 :: s17 :: s18 :: s19 :: s20 :: s21 :: s22 :: s23 :: s24 :: s25 :: s26 :: s27 :: .own ds :: ε) Q = semE Φ e (s0 :: s1 :: s2 :: s3 :: s4 :: s5 :: s6 :: s7 :: s8 :: s9 :: s10 :: s11 :: s12 :: s13 :: s14 :: s15 :: s16 :: s17 :: s18 :: s19 :: s20 :: s21 :: s22 :: s23 :: s24 :: s25 :: s26 :: s27 :: .val (.lst ds) :: ε) fun d => d.noL = true ∧ Q d := rfl
theorem yldv28 (Φ : Sm) (ε : List Slot) (Q : D → Prop) (s0 s1 s2 s3 s4 s5 s6 s7 s8 s9 s10 s11 s12 s13 s14 s15 s16 s17 s18 s19 s20 s21 s22 s23 s24 s25 s26 s27 : Slot) (d : D) (e : CE) : semE Φ (.lend 28 e) (s0 :: s1 :: s2 :: s3 :: s4 :: s5 :: s6 :: s7 :: s8 :: s9 :: s10 :: s11 :: s12 :: s13 :: s14 :: s15 :: s16 :: s17 :: s18 :: s19 :: s20 :: s21 :: s22 :: s23 :: s24 :: s25 :: s26 :: s27 :: .val d :: ε) Q = semE Φ e (s0 :: s1 :: s2 :: s3 :: s4 :: s5 :: s6 :: s7 :: s8 :: s9 :: s10 :: s11 :: s12 :: s13 :: s14 :: s15 :: s16 :: s17 :: s18 :: s19 :: s20 :: s21 :: s22 :: s23 :: s24 :: s25 :: s26 :: s27 :: .val d :: ε) Q := rfl
theorem ynm28 (ε : List Slot) (K : List Slot → Prop) (s0 s1 s2 s3 s4 s5 s6 s7 s8 s9 s10 s11 s12 s13 s14 s15 s16 s17 s18 s19 s20 s21 s22 s23 s24 s25 s26 s27 : Slot) (x : Slot) (d : D) : bindT (.nm 28) d (s0 :: s1 :: s2 :: s3 :: s4 :: s5 :: s6 :: s7 :: s8 :: s9 :: s10 :: s11 :: s12 :: s13 :: s14 :: s15 :: s16 :: s17 :: s18 :: s19 :: s20 :: s21 :: s22 :: s23 :: s24 :: s25 :: s26 :: s27 :: x :: ε) K = K (s0 :: s1 :: s2 :: s3 :: s4 :: s5 :: s6 :: s7 :: s8 :: s9 :: s10 :: s11 :: s12 :: s13 :: s14 :: s15 :: s16 :: s17 :: s18 :: s19 :: s20 :: s21 :: s22 :: s23 :: s24 :: s25 :: s26 :: s27 :: .val d :: ε) := rfl
theorem ywp28 (ε : List Slot) (s0 s1 s2 s3 s4 s5 s6 s7 s8 s9 s10 s11 s12 s13 s14 s15 s16 s17 s18 s19 s20 s21 s22 s23 s24 s25 s26 s27 : Slot) (x : Slot) : wipeE (s0 :: s1 :: s2 :: s3 :: s4 :: s5 :: s6 :: s7 :: s8 :: s9 :: s10 :: s11 :: s12 :: s13 :: s14 :: s15 :: s16 :: s17 :: s18 :: s19 :: s20 :: s21 :: s22 :: s23 :: s24 :: s25 :: s26 :: s27 :: x :: ε) [28] = s0 :: s1 :: s2 :: s3 :: s4 :: s5 :: s6 :: s7 :: s8 :: s9 :: s10 :: s11 :: s12 :: s13 :: s14 :: s15 :: s16 :: s17 :: s18 :: s19 :: s20 :: s21 :: s22 :: s23 :: s24 :: s25 :: s26 :: s27 :: .non :: ε := rfl
theorem yow28 (Φ : Sm) (E : DEnds) (ε : List Slot) (s0 s1 s2 s3 s4 s5 s6 s7 s8 s9 s10 s11 s12 s13 s14 s15 s16 s17 s18 s19 s20 s21 s22 s23 s24 s25 s26 s27 : Slot) (x : Slot) (e : CE) : semS Φ (.own 28 e) E (s0 :: s1 :: s2 :: s3 :: s4 :: s5 :: s6 :: s7 :: s8 :: s9 :: s10 :: s11 :: s12 :: s13 :: s14 :: s15 :: s16 :: s17 :: s18 :: s19 :: s20 :: s21 :: s22 :: s23 :: s24 :: s25 :: s26 :: s27 :: x :: ε) = semE Φ e (s0 :: s1 :: s2 :: s3 :: s4 :: s5 :: s6 :: s7 :: s8 :: s9 :: s10 :: s11 :: s12 :: s13 :: s14 :: s15 :: s16 :: s17 :: s18 :: s19 :: s20 :: s21 :: s22 :: s23 :: s24 :: s25 :: s26 :: s27 :: x :: ε) fun d => ownQ d fun ds => E.nx (s0 :: s1 :: s2 :: s3 :: s4 :: s5 :: s6 :: s7 :: s8 :: s9 :: s10 :: s11 :: s12 :: s13 :: s14 :: s15 :: s16 :: s17 :: s18 :: s19 :: s20 :: s21 :: s22 :: s23 :: s24 :: s25 :: s26 :: s27 :: .own ds :: ε) := rfl
theorem yap28 (Φ : Sm) (E : DEnds) (ε : List Slot) (s0 s1 s2 s3 s4 s5 s6 s7 s8 s9 s10 s11 s12 s13 s14 s15 s16 s17 s18 s19 s20 s21 s22 s23 s24 s25 s26 s27 : Slot) (ds : List D) (e : CE) : semS Φ (.app 28 e) E (s0 :: s1 :: s2 :: s3 :: s4 :: s5 :: s6 :: s7 :: s8 :: s9 :: s10 :: s11 :: s12 :: s13 :: s14 :: s15 :: s16 :: s17 :: s18 :: s19 :: s20 :: s21 :: s22 :: s23 :: s24 :: s25 :: s26 :: s27 :: .own ds :: ε) = semE Φ e (s0 :: s1 :: s2 :: s3 :: s4 :: s5 :: s6 :: s7 :: s8 :: s9 :: s10 :: s11 :: s12 :: s13 :: s14 :: s15 :: s16 :: s17 :: s18 :: s19 :: s20 :: s21 :: s22 :: s23 :: s24 :: s25 :: s26 :: s27 :: .own ds :: ε) fun v => ds.length < sizeLine ∧ E.nx (s0 :: s1 :: s2 :: s3 :: s4 :: s5 :: s6 :: s7 :: s8 :: s9 :: s10 :: s11 :: s12 :: s13 :: s14 :: s15 :: s16 :: s17 :: s18 :: s19 :: s20 :: s21 :: s22 :: s23 :: s24 :: s25 :: s26 :: s27 :: .own (ds ++ [v]) :: ε) := rfl
theorem yrv28 (Φ : Sm) (E : DEnds) (ε : List Slot) (s0 s1 s2 s3 s4 s5 s6 s7 s8 s9 s10 s11 s12 s13 s14 s15 s16 s17 s18 s19 s20 s21 s22 s23 s24 s25 s26 s27 : Slot) (ds : List D) : semS Φ (.rev 28) E (s0 :: s1 :: s2 :: s3 :: s4 :: s5 :: s6 :: s7 :: s8 :: s9 :: s10 :: s11 :: s12 :: s13 :: s14 :: s15 :: s16 :: s17 :: s18 :: s19 :: s20 :: s21 :: s22 :: s23 :: s24 :: s25 :: s26 :: s27 :: .own ds :: ε) = E.nx (s0 :: s1 :: s2 :: s3 :: s4 :: s5 :: s6 :: s7 :: s8 :: s9 :: s10 :: s11 :: s12 :: s13 :: s14 :: s15 :: s16 :: s17 :: s18 :: s19 :: s20 :: s21 :: s22 :: s23 :: s24 :: s25 :: s26 :: s27 :: .own ds.reverse :: ε) := rfl
theorem ysi28 (Φ : Sm) (E : DEnds) (ε : List Slot) (s0 s1 s2 s3 s4 s5 s6 s7 s8 s9 s10 s11 s12 s13 s14 s15 s16 s17 s18 s19 s20 s21 s22 s23 s24 s25 s26 s27 : Slot) (ds : List D) (k e : CE) : semS Φ (.setIx 28 k e) E (s0 :: s1 :: s2 :: s3 :: s4 :: s5 :: s6 :: s7 :: s8 :: s9 :: s10 :: s11 :: s12 :: s13 :: s14 :: s15 :: s16 :: s17 :: s18 :: s19 :: s20 :: s21 :: s22 :: s23 :: s24 :: s25 :: s26 :: s27 :: .own ds :: ε) = semE Φ e (s0 :: s1 :: s2 :: s3 :: s4 :: s5 :: s6 :: s7 :: s8 :: s9 :: s10 :: s11 :: s12 :: s13 :: s14 :: s15 :: s16 :: s17 :: s18 :: s19 :: s20 :: s21 :: s22 :: s23 :: s24 :: s25 :: s26 :: s27 :: .own ds :: ε) fun v => semE Φ k (s0 :: s1 :: s2 :: s3 :: s4 :: s5 :: s6 :: s7 :: s8 :: s9 :: s10 :: s11 :: s12 :: s13 :: s14 :: s15 :: s16 :: s17 :: s18 :: s19 :: s20 :: s21 :: s22 :: s23 :: s24 :: s25 :: s26 :: s27 :: .own ds :: ε) fun y => setQ ds v y fun ds' => E.nx (s0 :: s1 :: s2 :: s3 :: s4 :: s5 :: s6 :: s7 :: s8 :: s9 :: s10 :: s11 :: s12 :: s13 :: s14 :: s15 :: s16 :: s17 :: s18 :: s19 :: s20 :: s21 :: s22 :: s23 :: s24 :: s25 :: s26 :: s27 :: .own ds' :: ε) := rfl
theorem yau28 (Φ : Sm) (E : DEnds) (ε : List Slot) (s0 s1 s2 s3 s4 s5 s6 s7 s8 s9 s10 s11 s12 s13 s14 s15 s16 s17 s18 s19 s20 s21 s22 s23 s24 s25 s26 s27 : Slot) (n : Int) (o : O2) (e : CE) : semS Φ (.aug 28 o e) E (s0 :: s1 :: s2 :: s3 :: s4 :: s5 :: s6 :: s7 :: s8 :: s9 :: s10 :: s11 :: s12 :: s13 :: s14 :: s15 :: s16 :: s17 :: s18 :: s19 :: s20 :: s21 :: s22 :: s23 :: s24 :: s25 :: s26 :: s27 :: .val (.int n) :: ε) = semE Φ e (s0 :: s1 :: s2 :: s3 :: s4 :: s5 :: s6 :: s7 :: s8 :: s9 :: s10 :: s11 :: s12 :: s13 :: s14 :: s15 :: s16 :: s17 :: s18 :: s19 :: s20 :: s21 :: s22 :: s23 :: s24 :: s25 :: s26 :: s27 :: .val (.int n) :: ε) fun y => op2 o (.int n) y fun z => E.nx (s0 :: s1 :: s2 :: s3 :: s4 :: s5 :: s6 :: s7 :: s8 :: s9 :: s10 :: s11 :: s12 :: s13 :: s14 :: s15 :: s16 :: s17 :: s18 :: s19 :: s20 :: s21 :: s22 :: s23 :: s24 :: s25 :: s26 :: s27 :: .val z :: ε) := rfl
theorem ypo28 (Φ : Sm) (E : DEnds) (ε : List Slot) (s0 s1 s2 s3 s4 s5 s6 s7 s8 s9 s10 s11 s12 s13 s14 s15 s16 s17 s18 s19 s20 s21 s22 s23 s24 s25 s26 s27 : Slot) (ds : List D) : semS Φ (.pop 28) E (s0 :: s1 :: s2 :: s3 :: s4 :: s5 :: s6 :: s7 :: s8 :: s9 :: s10 :: s11 :: s12 :: s13 :: s14 :: s15 :: s16 :: s17 :: s18 :: s19 :: s20 :: s21 :: s22 :: s23 :: s24 :: s25 :: s26 :: s27 :: .own ds :: ε) = (0 < ds.length ∧ E.nx (s0 :: s1 :: s2 :: s3 :: s4 :: s5 :: s6 :: s7 :: s8 :: s9 :: s10 :: s11 :: s12 :: s13 :: s14 :: s15 :: s16 :: s17 :: s18 :: s19 :: s20 :: s21 :: s22 :: s23 :: s24 :: s25 :: s26 :: s27 :: .own ds.dropLast :: ε)) := rfl
theorem yro28 (Φ : Sm) (E : DEnds) (ε : List Slot) (s0 s1 s2 s3 s4 s5 s6 s7 s8 s9 s10 s11 s12 s13 s14 s15 s16 s17 s18 s19 s20 s21 s22 s23 s24 s25 s26 s27 : Slot) (ds : List D) : semS Φ (.retO 28) E (s0 :: s1 :: s2 :: s3 :: s4 :: s5 :: s6 :: s7 :: s8 :: s9 :: s10 :: s11 :: s12 :: s13 :: s14 :: s15 :: s16 :: s17 :: s18 :: s19 :: s20 :: s21 :: s22 :: s23 :: s24 :: s25 :: s26 :: s27 :: .own ds :: ε) = E.rt (.own ds) := rfl
theorem yfo28 (Φ : Sm) (E : DEnds) (ε : List Slot) (s0 s1 s2 s3 s4 s5 s6 s7 s8 s9 s10 s11 s12 s13 s14 s15 s16 s17 s18 s19 s20 s21 s22 s23 s24 s25 s26 s27 : Slot) (ds : List D) (r : CSs) : semSs Φ (.frz 28 r) E (s0 :: s1 :: s2 :: s3 :: s4 :: s5 :: s6 :: s7 :: s8 :: s9 :: s10 :: s11 :: s12 :: s13 :: s14 :: s15 :: s16 :: s17 :: s18 :: s19 :: s20 :: s21 :: s22 :: s23 :: s24 :: s25 :: s26 :: s27 :: .own ds :: ε) = semSs Φ r E (s0 :: s1 :: s2 :: s3 :: s4 :: s5 :: s6 :: s7 :: s8 :: s9 :: s10 :: s11 :: s12 :: s13 :: s14 :: s15 :: s16 :: s17 :: s18 :: s19 :: s20 :: s21 :: s22 :: s23 :: s24 :: s25 :: s26 :: s27 :: .val (.lst ds) :: ε) := rfl
theorem yfv28 (Φ : Sm) (E : DEnds) (ε : List Slot) (s0 s1 s2 s3 s4 s5 s6 s7 s8 s9 s10 s11 s12 s13 s14 s15 s16 s17 s18 s19 s20 s21 s22 s23 s24 s25 s26 s27 : Slot) (d : D) (r : CSs) : semSs Φ (.frz 28 r) E (s0 :: s1 :: s2 :: s3 :: s4 :: s5 :: s6 :: s7 :: s8 :: s9 :: s10 :: s11 :: s12 :: s13 :: s14 :: s15 :: s16 :: s17 :: s18 :: s19 :: s20 :: s21 :: s22 :: s23 :: s24 :: s25 :: s26 :: s27 :: .val d :: ε) = semSs Φ r E (s0 :: s1 :: s2 :: s3 :: s4 :: s5 :: s6 :: s7 :: s8 :: s9 :: s10 :: s11 :: s12 :: s13 :: s14 :: s15 :: s16 :: s17 :: s18 :: s19 :: s20 :: s21 :: s22 :: s23 :: s24 :: s25 :: s26 :: s27 :: .val d :: ε) := rfl
theorem yop28 (Φ : Sm) (E : DEnds) (ε : List Slot) (s0 s1 s2 s3 s4 s5 s6 s7 s8 s9 s10 s11 s12 s13 s14 s15 s16 s17 s18 s19 s20 s21 s22 s23 s24 s25 s26 s27 : Slot) (ds : List D) (r : CSs) : semSs Φ (.opn 28 r) E (s0 :: s1 :: s2 :: s3 :: s4 :: s5 :: s6 :: s7 :: s8 :: s9 :: s10 :: s11 :: s12 :: s13 :: s14 :: s15 :: s16 :: s17 :: s18 :: s19 :: s20 :: s21 :: s22 :: s23 :: s24 :: s25 :: s26 :: s27 :: .own ds :: ε) = ((∃ ns : List Int, ds = ns.map D.int ∧ ∀ n ∈ ns, 0 ≤ n) ∧ semSs Φ r E (s0 :: s1 :: s2 :: s3 :: s4 :: s5 :: s6 :: s7 :: s8 :: s9 :: s10 :: s11 :: s12 :: s13 :: s14 :: s15 :: s16 :: s17 :: s18 :: s19 :: s20 :: s21 :: s22 :: s23 :: s24 :: s25 :: s26 :: s27 :: .val (.opq 0) :: ε)) := rfl
theorem yv29 (Φ : Sm) (ε : List Slot) (Q : D → Prop) (s0 s1 s2 s3 s4 s5 s6 s7 s8 s9 s10 s11 s12 s13 s14 s15 s16 s17 s18 s19 s20 s21 s22 s23 s24 s25 s26 s27 s28 : Slot) (d : D) : semE Φ (.var 29) (s0 :: s1 :: s2 :: s3 :: s4 :: s5 :: s6 :: s7 :: s8 :: s9 :: s10 :: s11 :: s12 :: s13 :: s14 :: s15 :: s16 :: s17 :: s18 :: s19 :: s20 :: s21 :: s22 :: s23 :: s24 :: s25 :: s26 :: s27 :: s28 :: .val d :: ε) Q = Q d := rfl
theorem ylo29 (Φ : Sm) (ε : List Slot) (Q : D → Prop) (s0 s1 s2 s3 s4 s5 s6 s7 s8 s9 s10 s11 s12 s13 s14 s15 s16 s17 s18 s19 s20 s21 s22 s23 s24 s25 s26 s27 s28 : Slot) (ds : List D) : semE Φ (.lenO 29) (s0 :: s1 :: s2 :: s3 :: s4 :: s5 :: s6 :: s7 :: s8 :: s9 :: s10 :: s11 :: s12 :: s13 :: s14 :: s15 :: s16 :: s17 :: s18 :: s19 :: s20 :: s21 :: s22 :: s23 :: s24 :: s25 :: s26 :: s27 :: s28 :: .own ds :: ε) Q = Q (.int ds.length) := rfl
theorem ylv29 (Φ : Sm) (ε : List Slot) (Q : D → Prop) (s0 s1 s2 s3 s4 s5 s6 s7 s8 s9 s10 s11 s12 s13 s14 s15 s16 s17 s18 s19 s20 s21 s22 s23 s24 s25 s26 s27 s28 : Slot) (ds : List D) : semE Φ (.lenO 29) (s0 :: s1 :: s2 :: s3 :: s4 :: s5 :: s6 :: s7 :: s8 :: s9 :: s10 :: s11 :: s12 :: s13 :: s14 :: s15 :: s16 :: s17 :: s18 :: s19 :: s20 :: s21 :: s22 :: s23 :: s24 :: s25 :: s26 :: s27 :: s28 :: .val (.lst ds) :: ε) Q = Q (.int ds.length) := rfl
theorem yxo29 (Φ : Sm) (ε : List Slot) (Q : D → Prop) (s0 s1 s2 s3 s4 s5 s6 s7 s8 s9 s10 s11 s12 s13 s14 s15 s16 s17 s18 s19 s20 s21 s22 s23 s24 s25 s26 s27 s28 : Slot) (ds : List D) (k : CE) : semE Φ (.idxO 29 k) (s0 :: s1 :: s2 :: s3 :: s4 :: s5 :: s6 :: s7 :: s8 :: s9 :: s10 :: s11 :: s12 :: s13 :: s14 :: s15 :: s16 :: s17 :: s18 :: s19 :: s20 :: s21 :: s22 :: s23 :: s24 :: s25 :: s26 :: s27 :: s28 :: .own ds :: ε) Q = semE Φ k (s0 :: s1 :: s2 :: s3 :: s4 :: s5 :: s6 :: s7 :: s8 :: s9 :: s10 :: s11 :: s12 :: s13 :: s14 :: s15 :: s16 :: s17 :: s18 :: s19 :: s20 :: s21 :: s22 :: s23 :: s24 :: s25 :: s26 :: s27 :: s28 :: .own ds :: ε) fun y => opIx (.lst ds) y Q := rfl
theorem yxv29 (Φ : Sm) (ε : List Slot) (Q : D → Prop) (s0 s1 s2 s3 s4 s5 s6 s7 s8 s9 s10 s11 s12 s13 s14 s15 s16 s17 s18 s19 s20 s21 s22 s23 s24 s25 s26 s27 s28 : Slot) (ds : List D) (k : CE) : semE Φ (.idxO 29 k) (s0 :: s1 :: s2 :: s3 :: s4 :: s5 :: s6 :: s7 :: s8 :: s9 :: s10 :: s11 :: s12 :: s13 :: s14 :: s15 :: s16 :: s17 :: s18 :: s19 :: s20 :: s21 :: s22 :: s23 :: s24 :: s25 :: s26 :: s27 :: s28 :: .val (.lst ds) :: ε) Q = semE Φ k (s0 :: s1 :: s2 :: s3 :: s4 :: s5 :: s6 :: s7 :: s8 :: s9 :: s10 :: s11 :: s12 :: s13 :: s14 :: s15 :: s16 :: s17 :: s18 :: s19 :: s20 :: s21 :: s22 :: s23 :: s24 :: s25 :: s26 :: s27 :: s28 :: .val (.lst ds) :: ε) fun y => opIx (.lst ds) y Q := rfl
theorem yldo29 (Φ : Sm) (ε : List Slot) (Q : D → Prop) (s0 s1 s2 s3 s4 s5 s6 s7 s8 s9 s10 s11 s12 s13 s14 s15 s16 s17 s18 s19 s20 s21 s22 s23 s24 s25 s26 s27 s28 : Slot) (ds : List D) (e : CE) : semE Φ (.lend 29 e) (s0 :: s1 :: s2 :: s3 :: s4 :: s5 :: s6 :: s7 :: s8 :: s9 :: s10 :: s11 :: s12 :: s13 :: s14 :: s15 :: s16 :: s17 :: s18 :: s19 :: s20 :: s21 :: s22 :: s23 :: s24 :: s25 :: s26 :: s27 :: s28 :: .own ds :: ε) Q = semE Φ e (s0 :: s1 :: s2 :: s3 :: s4 :: s5 :: s6 :: s7 :: s8 :: s9 :: s10 :: s11 :: s12 :: s13 :: s14 :: s15 :: s16 :: s17 :: s18 :: s19 :: s20 :: s21 :: s22 :: s23 :: s24 :: s25 :: s26 :: s27 :: s28 :: .val (.lst ds) :: ε) fun d => d.noL = true ∧ Q d := rfl
theorem yldv29 (Φ : Sm) (ε : List Slot) (Q : D → Prop) (s0 s1 s2 s3 s4 s5 s6 s7 s8 s9 s10 s11 s12 s13 s14 s15 s16 s17 s18 s19 s20 s21 s22 s23 s24 s25 s26 s27 s28 : Slot) (d : D) (e : CE) : semE Φ (.lend 29 e) (s0 :: s1 :: s2 :: s3 :: s4 :: s5 :: s6 :: s7 :: s8 :: s9 :: s10 :: s11 :: s12 :: s13 :: s14 :: s15 :: s16 :: s17 :: s18 :: s19 :: s20 :: s21 :: s22 :: s23 :: s24 :: s25 :: s26 :: s27 :: s28 :: .val d :: ε) Q = semE Φ e (s0 :: s1 :: s2 :: s3 :: s4 :: s5 :: s6 :: s7 :: s8 :: s9 :: s10 :: s11 :: s12 :: s13 :: s14 :: s15 :: s16 :: s17 :: s18 :: s19 :: s20 :: s21 :: s22 :: s23 :: s24 :: s25 :: s26 :: s27 :: s28 :: .val d :: ε) Q := rfl
theorem ynm29 (ε : List Slot) (K : List Slot → Prop) (s0 s1 s2 s3 s4 s5 s6 s7 s8 s9 s10 s11 s12 s13 s14 s15 s16 s17 s18 s19 s20 s21 s22 s23 s24 s25 s26 s27 s28 : Slot) (x : Slot) (d : D) : bindT (.nm 29) d (s0 :: s1 :: s2 :: s3 :: s4 :: s5 :: s6 :: s7 :: s8 :: s9 :: s10 :: s11 :: s12 :: s13 :: s14 :: s15 :: s16 :: s17 :: s18 :: s19 :: s20 :: s21 :: s22 :: s23 :: s24 :: s25 :: s26 :: s27 :: s28 :: x :: ε) K = K (s0 :: s1 :: s2 :: s3 :: s4 :: s5 :: s6 :: s7 :: s8 :: s9 :: s10 :: s11 :: s12 :: s13 :: s14 :: s15 :: s16 :: s17 :: s18 :: s19 :: s20 :: s21 :: s22 :: s23 :: s24 :: s25 :: s26 :: s27 :: s28 :: .val d :: ε) := rfl
theorem ywp29 (ε : List Slot) (s0 s1 s2 s3 s4 s5 s6 s7 s8 s9 s10 s11 s12 s13 s14 s15 s16 s17 s18 s19 s20 s21 s22 s23 s24 s25 s26 s27 s28 : Slot) (x : Slot) : wipeE (s0 :: s1 :: s2 :: s3 :: s4 :: s5 :: s6 :: s7 :: s8 :: s9 :: s10 :: s11 :: s12 :: s13 :: s14 :: s15 :: s16 :: s17 :: s18 :: s19 :: s20 :: s21 :: s22 :: s23 :: s24 :: s25 :: s26 :: s27 :: s28 :: x :: ε) [29] = s0 :: s1 :: s2 :: s3 :: s4 :: s5 :: s6 :: s7 :: s8 :: s9 :: s10 :: s11 :: s12 :: s13 :: s14 :: s15 :: s16 :: s17 :: s18 :: s19 :: s20 :: s21 :: s22 :: s23 :: s24 :: s25 :: s26 :: s27 :: s28 :: .non :: ε := rfl
theorem yow29 (Φ : Sm) (E : DEnds) (ε : List Slot) (s0 s1 s2 s3 s4 s5 s6 s7 s8 s9 s10 s11 s12 s13 s14 s15 s16 s17 s18 s19 s20 s21 s22 s23 s24 s25 s26 s27 s28 : Slot) (x : Slot) (e : CE) : semS Φ (.own 29 e) E (s0 :: s1 :: s2 :: s3 :: s4 :: s5 :: s6 :: s7 :: s8 :: s9 :: s10 :: s11 :: s12 :: s13 :: s14 :: s15 :: s16 :: s17 :: s18 :: s19 :: s20 :: s21 :: s22 :: s23 :: s24 :: s25 :: s26 :: s27 :: s28 :: x :: ε) = semE Φ e (s0 :: s1 :: s2 :: s3 :: s4 :: s5 :: s6 :: s7 :: s8 :: s9 :: s10 :: s11 :: s12 :: s13 :: s14 :: s15 :: s16 :: s17 :: s18 :: s19 :: s20 :: s21 :: s22 :: s23 :: s24 :: s25 :: s26 :: s27 :: s28 :: x :: ε) fun d => ownQ d fun ds => E.nx (s0 :: s1 :: s2 :: s3 :: s4 :: s5 :: s6 :: s7 :: s8 :: s9 :: s10 :: s11 :: s12 :: s13 :: s14 :: s15 :: s16 :: s17 :: s18 :: s19 :: s20 :: s21 :: s22 :: s23 :: s24 :: s25 :: s26 :: s27 :: s28 :: .own ds :: ε) := rfl
theorem yap29 (Φ : Sm) (E : DEnds) (ε : List Slot) (s0 s1 s2 s3 s4 s5 s6 s7 s8 s9 s10 s11 s12 s13 s14 s15 s16 s17 s18 s19 s20 s21 s22 s23 s24 s25 s26 s27 s28 : Slot) (ds : List D) (e : CE) : semS Φ (.app 29 e) E (s0 :: s1 :: s2 :: s3 :: s4 :: s5 :: s6 :: s7 :: s8 :: s9 :: s10 :: s11 :: s12 :: s13 :: s14 :: s15 :: s16 :: s17 :: s18 :: s19 :: s20 :: s21 :: s22 :: s23 :: s24 :: s25 :: s26 :: s27 :: s28 :: .own ds :: ε) = semE Φ e (s0 :: s1 :: s2 :: s3 :: s4 :: s5 :: s6 :: s7 :: s8 :: s9 :: s10 :: s11 :: s12 :: s13 :: s14 :: s15 :: s16 :: s17 :: s18 :: s19 :: s20 :: s21 :: s22 :: s23 :: s24 :: s25 :: s26 :: s27 :: s28 :: .own ds :: ε) fun v => ds.length < sizeLine ∧ E.nx (s0 :: s1 :: s2 :: s3 :: s4 :: s5 :: s6 :: s7 :: s8 :: s9 :: s10 :: s11 :: s12 :: s13 :: s14 :: s15 :: s16 :: s17 :: s18 :: s19 :: s20 :: s21 :: s22 :: s23 :: s24 :: s25 :: s26 :: s27 :: s28 :: .own (ds ++ [v]) :: ε) := rfl
theorem yrv29 (Φ : Sm) (E : DEnds) (ε : List Slot) (s0 s1 s2 s3 s4 s5 s6 s7 s8 s9 s10 s11 s12 s13 s14 s15 s16 s17 s18 s19 s20 s21 s22 s23 s24 s25 s26 s27 s28 : Slot) (ds : List D) : semS Φ (.rev 29) E (s0 :: s1 :: s2 :: s3 :: s4 :: s5 :: s6 :: s7 :: s8 :: s9 :: s10 :: s11 :: s12 :: s13 :: s14 :: s15 :: s16 :: s17 :: s18 :: s19 :: s20 :: s21 :: s22 :: s23 :: s24 :: s25 :: s26 :: s27 :: s28 :: .own ds :: ε) = E.nx (s0 :: s1 :: s2 :: s3 :: s4 :: s5 :: s6 :: s7 :: s8 :: s9 :: s10 :: s11 :: s12 :: s13 :: s14 :: s15 :: s16 :: s17 :: s18 :: s19 :: s20 :: s21 :: s22 :: s23 :: s24 :: s25 :: s26 :: s27 :: s28 :: .own ds.reverse :: ε) := rfl
theorem ysi29 (Φ : Sm) (E : DEnds) (ε : List Slot) (s0 s1 s2 s3 s4 s5 s6 s7 s8 s9 s10 s11 s12 s13 s14 s15 s16 s17 s18 s19 s20 s21 s22 s23 s24 s25 s26 s27 s28 : Slot) (ds : List D) (k e : CE) : semS Φ (.setIx 29 k e) E (s0 :: s1 :: s2 :: s3 :: s4 :: s5 :: s6 :: s7 :: s8 :: s9 :: s10 :: s11 :: s12 :: s13 :: s14 :: s15 :: s16 :: s17 :: s18 :: s19 :: s20 :: s21 :: s22 :: s23 :: s24 :: s25 :: s26 :: s27 :: s28 :: .own ds :: ε) = semE Φ e (s0 :: s1 :: s2 :: s3 :: s4 :: s5 :: s6 :: s7 :: s8 :: s9 :: s10 :: s11 :: s12 :: s13 :: s14 :: s15 :: s16 :: s17 :: s18 :: s19 :: s20 :: s21 :: s22 :: s23 :: s24 :: s25 :: s26 :: s27 :: s28 :: .own ds :: ε) fun v => semE Φ k (s0 :: s1 :: s2 :: s3 :: s4 :: s5 :: s6 :: s7 :: s8 :: s9 :: s10 :: s11 :: s12 :: s13 :: s14 :: s15 :: s16 :: s17 :: s18 :: s19 :: s20 :: s21 :: s22 :: s23 :: s24 :: s25 :: s26 :: s27 :: s28 :: .own ds :: ε) fun y => setQ ds v y fun ds' => E.nx (s0 :: s1 :: s2 :: s3 :: s4 :: s5 :: s6 :: s7 :: s8 :: s9 :: s10 :: s11 :: s12 :: s13 :: s14 :: s15 :: s16 :: s17 :: s18 :: s19 :: s20 :: s21 :: s22 :: s23 :: s24 :: s25 :: s26 :: s27 :: s28 :: .own ds' :: ε) := rfl
theorem yau29 (Φ : Sm) (E : DEnds) (ε : List Slot) (s0 s1 s2 s3 s4 s5 s6 s7 s8 s9 s10 s11 s12 s13 s14 s15 s16 s17 s18 s19 s20 s21 s22 s23 s24 s25 s26 s27 s28 : Slot) (n : Int) (o : O2) (e : CE) : semS Φ (.aug 29 o e) E (s0 :: s1 :: s2 :: s3 :: s4 :: s5 :: s6 :: s7 :: s8 :: s9 :: s10 :: s11 :: s12 :: s13 :: s14 :: s15 :: s16 :: s17 :: s18 :: s19 :: s20 :: s21 :: s22 :: s23 :: s24 :: s25 :: s26 :: s27 :: s28 :: .val (.int n) :: ε) = semE Φ e (s0 :: s1 :: s2 :: s3 :: s4 :: s5 :: s6 :: s7 :: s8 :: s9 :: s10 :: s11 :: s12 :: s13 :: s14 :: s15 :: s16 :: s17 :: s18 :: s19 :: s20 :: s21 :: s22 :: s23 :: s24 :: s25 :: s26 :: s27 :: s28 :: .val (.int n) :: ε) fun y => op2 o (.int n) y fun z => E.nx (s0 :: s1 :: s2 :: s3 :: s4 :: s5 :: s6 :: s7 :: s8 :: s9 :: s10 :: s11 :: s12 :: s13 :: s14 :: s15 :: s16 :: s17 :: s18 :: s19 :: s20 :: s21 :: s22 :: s23 :: s24 :: s25 :: s26 :: s27 :: s28 :: .val z :: ε) := rfl
theorem ypo29 (Φ : Sm) (E : DEnds) (ε : List Slot) (s0 s1 s2 s3 s4 s5 s6 s7 s8 s9 s10 s11 s12 s13 s14 s15 s16 s17 s18 s19 s20 s21 s22 s23 s24 s25 s26 s27 s28 : Slot) (ds : List D) : semS Φ (.pop 29) E (s0 :: s1 :: s2 :: s3 :: s4 :: s5 :: s6 :: s7 :: s8 :: s9 :: s10 :: s11 :: s12 :: s13 :: s14 :: s15 :: s16 :: s17 :: s18 :: s19 :: s20 :: s21 :: s22 :: s23 :: s24 :: s25 :: s26 :: s27 :: s28 :: .own ds :: ε) = (0 < ds.length ∧ E.nx (s0 :: s1 :: s2 :: s3 :: s4 :: s5 :: s6 :: s7 :: s8 :: s9 :: s10 :: s11 :: s12 :: s13 :: s14 :: s15 :: s16 :: s17 :: s18 :: s19 :: s20 :: s21 :: s22 :: s23 :: s24 :: s25 :: s26 :: s27 :: s28 :: .own ds.dropLast :: ε)) := rfl
theorem yro29 (Φ : Sm) (E : DEnds) (ε : List Slot) (s0 s1 s2 s3 s4 s5 s6 s7 s8 s9 s10 s11 s12 s13 s14 s15 s16 s17 s18 s19 s20 s21 s22 s23 s24 s25 s26 s27 s28 : Slot) (ds : List D) : semS Φ (.retO 29) E (s0 :: s1 :: s2 :: s3 :: s4 :: s5 :: s6 :: s7 :: s8 :: s9 :: s10 :: s11 :: s12 :: s13 :: s14 :: s15 :: s16 :: s17 :: s18 :: s19 :: s20 :: s21 :: s22 :: s23 :: s24 :: s25 :: s26 :: s27 :: s28 :: .own ds :: ε) = E.rt (.own ds) := rfl
theorem yfo29 (Φ : Sm) (E : DEnds) (ε : List Slot) (s0 s1 s2 s3 s4 s5 s6 s7 s8 s9 s10 s11 s12 s13 s14 s15 s16 s17 s18 s19 s20 s21 s22 s23 s24 s25 s26 s27 s28 : Slot) (ds : List D) (r : CSs) : semSs Φ (.frz 29 r) E (s0 :: s1 :: s2 :: s3 :: s4 :: s5 :: s6 :: s7 :: s8 :: s9 :: s10 :: s11 :: s12 :: s13 :: s14 :: s15 :: s16 :: s17 :: s18 :: s19 :: s20 :: s21 :: s22 :: s23 :: s24 :: s25 :: s26 :: s27 :: s28 :: .own ds :: ε) = semSs Φ r E (s0 :: s1 :: s2 :: s3 :: s4 :: s5 :: s6 :: s7 :: s8 :: s9 :: s10 :: s11 :: s12 :: s13 :: s14 :: s15 :: s16 :: s17 :: s18 :: s19 :: s20 :: s21 :: s22 :: s23 :: s24 :: s25 :: s26 :: s27 :: s28 :: .val (.lst ds) :: ε) := rfl
theorem yfv29 (Φ : Sm) (E : DEnds) (ε : List Slot) (s0 s1 s2 s3 s4 s5 s6 s7 s8 s9 s10 s11 s12 s13 s14 s15 s16 s17 s18 s19 s20 s21 s22 s23 s24 s25 s26 s27 s28 : Slot) (d : D) (r : CSs) : semSs Φ (.frz 29 r) E (s0 :: s1 :: s2 :: s3 :: s4 :: s5 :: s6 :: s7 :: s8 :: s9 :: s10 :: s11 :: s12 :: s13 :: s14 :: s15 :: s16 :: s17 :: s18 :: s19 :: s20 :: s21 :: s22 :: s23 :: s24 :: s25 :: s26 :: s27 :: s28 :: .val d :: ε) = semSs Φ r E (s0 :: s1 :: s2 :: s3 :: s4 :: s5 :: s6 :: s7 :: s8 :: s9 :: s10 :: s11 :: s12 :: s13 :: s14 :: s15 :: s16 :: s17 :: s18 :: s19 :: s20 :: s21 :: s22 :: s23 :: s24 :: s25 :: s26 :: s27 :: s28 :: .val d :: ε) := rfl
theorem yop29 (Φ : Sm) (E : DEnds) (ε : List Slot) (s0 s1 s2 s3 s4 s5 s6 s7 s8 s9 s10 s11 s12 s13 s14 s15 s16 s17 s18 s19 s20 s21 s22 s23 s24 s25 s26 s27 s28 : Slot) (ds : List D) (r : CSs) : semSs Φ (.opn 29 r) E (s0 :: s1 :: s2 :: s3 :: s4 :: s5 :: s6 :: s7 :: s8 :: s9 :: s10 :: s11 :: s12 :: s13 :: s14 :: s15 :: s16 :: s17 :: s18 :: s19 :: s20 :: s21 :: s22 :: s23 :: s24 :: s25 :: s26 :: s27 :: s28 :: .own ds :: ε) = ((∃ ns : List Int, ds = ns.map D.int ∧ ∀ n ∈ ns, 0 ≤ n) ∧ semSs Φ r E (s0 :: s1 :: s2 :: s3 :: s4 :: s5 :: s6 :: s7 :: s8 :: s9 :: s10 :: s11 :: s12 :: s13 :: s14 :: s15 :: s16 :: s17 :: s18 :: s19 :: s20 :: s21 :: s22 :: s23 :: s24 :: s25 :: s26 :: s27 :: s28 :: .val (.opq 0) :: ε)) := rfl
theorem yv30 (Φ : Sm) (ε : List Slot) (Q : D → Prop) (s0 s1 s2 s3 s4 s5 s6 s7 s8 s9 s10 s11 s12 s13 s14 s15 s16 s17 s18 s19 s20 s21 s22 s23 s24 s25 s26 s27 s28 s29 : Slot) (d : D) : semE Φ (.var 30) (s0 :: s1 :: s2 :: s3 :: s4 :: s5 :: s6 :: s7 :: s8 :: s9 :: s10 :: s11 :: s12 :: s13 :: s14 :: s15 :: s16 :: s17 :: s18 :: s19 :: s20 :: s21 :: s22 :: s23 :: s24 :: s25 :: s26 :: s27 :: s28 :: s29 :: .val d :: ε) Q = Q d := rfl
theorem ylo30 (Φ : Sm) (ε : List Slot) (Q : D → Prop) (s0 s1 s2 s3 s4 s5 s6 s7 s8 s9 s10 s11 s12 s13 s14 s15 s16 s17 s18 s19 s20 s21 s22 s23 s24 s25 s26 s27 s28 s29 : Slot) (ds : List D) : semE Φ (.lenO 30) (s0 :: s1 :: s2 :: s3 :: s4 :: s5 :: s6 :: s7 :: s8 :: s9 :: s10 :: s11 :: s12 :: s13 :: s14 :: s15 :: s16 :: s17 :: s18 :: s19 :: s20 :: s21 :: s22 :: s23 :: s24 :: s25 :: s26 :: s27 :: s28 :: s29 :: .own ds :: ε) Q = Q (.int ds.length) := rfl
theorem ylv30 (Φ : Sm) (ε : List Slot) (Q : D → Prop) (s0 s1 s2 s3 s4 s5 s6 s7 s8 s9 s10 s11 s12 s13 s14 s15 s16 s17 s18 s19 s20 s21 s22 s23 s24 s25 s26 s27 s28 s29 : Slot) (ds : List D) : semE Φ (.lenO 30) (s0 :: s1 :: s2 :: s3 :: s4 :: s5 :: s6 :: s7 :: s8 :: s9 :: s10 :: s11 :: s12 :: s13 :: s14 :: s15 :: s16 :: s17 :: s18 :: s19 :: s20 :: s21 :: s22 :: s23 :: s24 :: s25 :: s26 :: s27 :: s28 :: s29 :: .val (.lst ds) :: ε) Q = Q (.int ds.length) := rfl
theorem yxo30 (Φ : Sm) (ε : List Slot) (Q : D → Prop) (s0 s1 s2 s3 s4 s5 s6 s7 s8 s9 s10 s11 s12 s13 s14 s15 s16 s17 s18 s19 s20 s21 s22 s23 s24 s25 s26 s27 s28 s29 : Slot) (ds : List D) (k : CE) : semE Φ (.idxO 30 k) (s0 :: s1 :: s2 :: s3 :: s4 :: s5 :: s6 :: s7 :: s8 :: s9 :: s10 :: s11 :: s12 :: s13 :: s14 :: s15 :: s16 :: s17 :: s18 :: s19 :: s20 :: s21 :: s22 :: s23 :: s24 :: s25 :: s26 :: s27 :: s28 :: s29 :: .own ds :: ε) Q = semE Φ k (s0 :: s1 :: s2 :: s3 :: s4 :: s5 :: s6 :: s7 :: s8 :: s9 :: s10 :: s11 :: s12 :: s13 :: s14 :: s15 :: s16 :: s17 :: s18 :: s19 :: s20 :: s21 :: s22 :: s23 :: s24 :: s25 :: s26 :: s27 :: s28 :: s29 :: .own ds :: ε) fun y => opIx (.lst ds) y Q := rfl
theorem yxv30 (Φ : Sm) (ε : List Slot) (Q : D → Prop) (s0 s1 s2 s3 s4 s5 s6 s7 s8 s9 s10 s11 s12 s13 s14 s15 s16 s17 s18 s19 s20 s21 s22 s23 s24 s25 s26 s27 s28 s29 : Slot) (ds : List D) (k : CE) : semE Φ (.idxO 30 k) (s0 :: s1 :: s2 :: s3 :: s4 :: s5 :: s6 :: s7 :: s8 :: s9 :: s10 :: s11 :: s12 :: s13 :: s14 :: s15 :: s16 :: s17 :: s18 :: s19 :: s20 :: s21 :: s22 :: s23 :: s24 :: s25 :: s26 :: s27 :: s28 :: s29 :: .val (.lst ds) :: ε) Q = semE Φ k (s0 :: s1 :: s2 :: s3 :: s4 :: s5 :: s6 :: s7 :: s8 :: s9 :: s10 :: s11 :: s12 :: s13 :: s14 :: s15 :: s16 :: s17 :: s18 :: s19 :: s20 :: s21 :: s22 :: s23 :: s24 :: s25 :: s26 :: s27 :: s28 :: s29 :: .val (.lst ds) :: ε) fun y => opIx (.lst ds) y Q := rfl
theorem yldo30 (Φ : Sm) (ε : List Slot) (Q : D → Prop) (s0 s1 s2 s3 s4 s5 s6 s7 s8 s9 s10 s11 s12 s13 s14 s15 s16 s17 s18 s19 s20 s21 s22 s23 s24 s25 s26 s27 s28 s29 : Slot) (ds : List D) (e : CE) : semE Φ (.lend 30 e) (s0 :: s1 :: s2 :: s3 :: s4 :: s5 :: s6 :: s7 :: s8 :: s9 :: s10 :: s11 :: s12 :: s13 :: s14 :: s15 :: s16 :: s17 :: s18 :: s19 :: s20 :: s21 :: s22 :: s23 :: s24 :: s25 :: s26 :: s27 :: s28 :: s29 :: .own ds :: ε) Q = semE Φ e (s0 :: s1 :: s2 :: s3 :: s4 :: s5 :: s6 :: s7 :: s8 :: s9 :: s10 :: s11 :: s12 :: s13 :: s14 :: s15 :: s16 :: s17 :: s18 :: s19 :: s20 :: s21 :: s22 :: s23 :: s24 :: s25 :: s26 :: s27 :: s28 :: s29 :: .val (.lst ds) :: ε) fun d => d.noL = true ∧ Q d := rfl
theorem yldv30 (Φ : Sm) (ε : List Slot) (Q : D → Prop) (s0 s1 s2 s3 s4 s5 s6 s7 s8 s9 s10 s11 s12 s13 s14 s15 s16 s17 s18 s19 s20 s21 s22 s23 s24 s25 s26 s27 s28 s29 : Slot) (d : D) (e : CE) : semE Φ (.lend 30 e) (s0 :: s1 :: s2 :: s3 :: s4 :: s5 :: s6 :: s7 :: s8 :: s9 :: s10 :: s11 :: s12 :: s13 :: s14 :: s15 :: s16 :: s17 :: s18 :: s19 :: s20 :: s21 :: s22 :: s23 :: s24 :: s25 :: s26 :: s27 :: s28 :: s29 :: .val d :: ε) Q = semE Φ e (s0 :: s1 :: s2 :: s3 :: s4 :: s5 :: s6 :: s7 :: s8 :: s9 :: s10 :: s11 :: s12 :: s13 :: s14 :: s15 :: s16 :: s17 :: s18 :: s19 :: s20 :: s21 :: s22 :: s23 :: s24 :: s25 :: s26 :: s27 :: s28 :: s29 :: .val d :: ε) Q := rfl
theorem ynm30 (ε : List Slot) (K : List Slot → Prop) (s0 s1 s2 s3 s4 s5 s6 s7 s8 s9 s10 s11 s12 s13 s14 s15 s16 s17 s18 s19 s20 s21 s22 s23 s24 s25 s26 s27 s28 s29 : Slot) (x : Slot) (d : D) : bindT (.nm 30) d (s0 :: s1 :: s2 :: s3 :: s4 :: s5 :: s6 :: s7 :: s8 :: s9 :: s10 :: s11 :: s12 :: s13 :: s14 :: s15 :: s16 :: s17 :: s18 :: s19 :: s20 :: s21 :: s22 :: s23 :: s24 :: s25 :: s26 :: s27 :: s28 :: s29 :: x :: ε) K = K (s0 :: s1 :: s2 :: s3 :: s4 :: s5 :: s6 :: s7 :: s8 :: s9 :: s10 :: s11 :: s12 :: s13 :: s14 :: s15 :: s16 :: s17 :: s18 :: s19 :: s20 :: s21 :: s22 :: s23 :: s24 :: s25 :: s26 :: s27 :: s28 :: s29 :: .val d :: ε) := rfl
theorem ywp30 (ε : List Slot) (s0 s1 s2 s3 s4 s5 s6 s7 s8 s9 s10 s11 s12 s13 s14 s15 s16 s17 s18 s19 s20 s21 s22 s23 s24 s25 s26 s27 s28 s29 : Slot) (x : Slot) : wipeE (s0 :: s1 :: s2 :: s3 :: s4 :: s5 :: s6 :: s7 :: s8 :: s9 :: s10 :: s11 :: s12 :: s13 :: s14 :: s15 :: s16 :: s17 :: s18 :: s19 :: s20 :: s21 :: s22 :: s23 :: s24 :: s25 :: s26 :: s27 :: s28 :: s29 :: x :: ε) [30] = s0 :: s1 :: s2 :: s3 :: s4 :: s5 :: s6 :: s7 :: s8 :: s9 :: s10 :: s11 :: s12 :: s13 :: s14 :: s15 :: s16 :: s17 :: s18 :: s19 :: s20 :: s21 :: s22 :: s23 :: s24 :: s25 :: s26 :: s27 :: s28 :: s29 :: .non :: ε := rfl
theorem yow30 (Φ : Sm) (E : DEnds) (ε : List Slot) (s0 s1 s2 s3 s4 s5 s6 s7 s8 s9 s10 s11 s12 s13 s14 s15 s16 s17 s18 s19 s20 s21 s22 s23 s24 s25 s26 s27 s28 s29 : Slot) (x : Slot) (e : CE) : semS Φ (.own 30 e) E (s0 :: s1 :: s2 :: s3 :: s4 :: s5 :: s6 :: s7 :: s8 :: s9 :: s10 :: s11 :: s12 :: s13 :: s14 :: s15 :: s16 :: s17 :: s18 :: s19 :: s20 :: s21 :: s22 :: s23 :: s24 :: s25 :: s26 :: s27 :: s28 :: s29 :: x :: ε) = semE Φ e (s0 :: s1 :: s2 :: s3 :: s4 :: s5 :: s6 :: s7 :: s8 :: s9 :: s10 :: s11 :: s12 :: s13 :: s14 :: s15 :: s16 :: s17 :: s18 :: s19 :: s20 :: s21 :: s22 :: s23 :: s24 :: s25 :: s26 :: s27 :: s28 :: s29 :: x :: ε) fun d => ownQ d fun ds => E.nx (s0 :: s1 :: s2 :: s3 :: s4 :: s5 :: s6 :: s7 :: s8 :: s9 :: s10 :: s11 :: s12 :: s13 :: s14 :: s15 :: s16 :: s17 :: s18 :: s19 :: s20 :: s21 :: s22 :: s23 :: s24 :: s25 :: s26 :: s27 :: s28 :: s29 :: .own ds :: ε) := rfl
theorem yap30 (Φ : Sm) (E : DEnds) (ε : List Slot) (s0 s1 s2 s3 s4 s5 s6 s7 s8 s9 s10 s11 s12 s13 s14 s15 s16 s17 s18 s19 s20 s21 s22 s23 s24 s25 s26 s27 s28 s29 : Slot) (ds : List D) (e : CE) : semS Φ (.app 30 e) E (s0 :: s1 :: s2 :: s3 :: s4 :: s5 :: s6 :: s7 :: s8 :: s9 :: s10 :: s11 :: s12 :: s13 :: s14 :: s15 :: s16 :: s17 :: s18 :: s19 :: s20 :: s21 :: s22 :: s23 :: s24 :: s25 :: s26 :: s27 :: s28 :: s29 :: .own ds :: ε) = semE Φ e (s0 :: s1 :: s2 :: s3 :: s4 :: s5 :: s6 :: s7 :: s8 :: s9 :: s10 :: s11 :: s12 :: s13 :: s14 :: s15 :: s16 :: s17 :: s18 :: s19 :: s20 :: s21 :: s22 :: s23 :: s24 :: s25 :: s26 :: s27 :: s28 :: s29 :: .own ds :: ε) fun v => ds.length < sizeLine ∧ E.nx (s0 :: s1 :: s2 :: s3 :: s4 :: s5 :: s6 :: s7 :: s8 :: s9 :: s10 :: s11 :: s12 :: s13 :: s14 :: s15 :: s16 :: s17 :: s18 :: s19 :: s20 :: s21 :: s22 :: s23 :: s24 :: s25 :: s26 :: s27 :: s28 :: s29 :: .own (ds ++ [v]) :: ε) := rfl
theorem yrv30 (Φ : Sm) (E : DEnds) (ε : List Slot) (s0 s1 s2 s3 s4 s5 s6 s7 s8 s9 s10 s11 s12 s13 s14 s15 s16 s17 s18 s19 s20 s21 s22 s23 s24 s25 s26 s27 s28 s29 : Slot) (ds : List D) : semS Φ (.rev 30) E (s0 :: s1 :: s2 :: s3 :: s4 :: s5 :: s6 :: s7 :: s8 :: s9 :: s10 :: s11 :: s12 :: s13 :: s14 :: s15 :: s16 :: s17 :: s18 :: s19 :: s20 :: s21 :: s22 :: s23 :: s24 :: s25 :: s26 :: s27 :: s28 :: s29 :: .own ds :: ε) = E.nx (s0 :: s1 :: s2 :: s3 :: s4 :: s5 :: s6 :: s7 :: s8 :: s9 :: s10 :: s11 :: s12 :: s13 :: s14 :: s15 :: s16 :: s17 :: s18 :: s19 :: s20 :: s21 :: s22 :: s23 :: s24 :: s25 :: s26 :: s27 :: s28 :: s29 :: .own ds.reverse :: ε) := rfl
theorem ysi30 (Φ : Sm) (E : DEnds) (ε : List Slot) (s0 s1 s2 s3 s4 s5 s6 s7 s8 s9 s10 s11 s12 s13 s14 s15 s16 s17 s18 s19 s20 s21 s22 s23 s24 s25 s26 s27 s28 s29 : Slot) (ds : List D) (k e : CE) : semS Φ (.setIx 30 k e) E (s0 :: s1 :: s2 :: s3 :: s4 :: s5 :: s6 :: s7 :: s8 :: s9 :: s10 :: s11 :: s12 :: s13 :: s14 :: s15 :: s16 :: s17 :: s18 :: s19 :: s20 :: s21 :: s22 :: s23 :: s24 :: s25 :: s26 :: s27 :: s28 :: s29 :: .own ds :: ε) = semE Φ e (s0 :: s1 :: s2 :: s3 :: s4 :: s5 :: s6 :: s7 :: s8 :: s9 :: s10 :: s11 :: s12 :: s13 :: s14 :: s15 :: s16 :: s17 :: s18 :: s19 :: s20 :: s21 :: s22 :: s23 :: s24 :: s25 :: s26 :: s27 :: s28 :: s29 :: .own ds :: ε) fun v => semE Φ k (s0 :: s1 :: s2 :: s3 :: s4 :: s5 :: s6 :: s7 :: s8 :: s9 :: s10 :: s11 :: s12 :: s13 :: s14 :: s15 :: s16 :: s17 :: s18 :: s19 :: s20 :: s21 :: s22 :: s23 :: s24 :: s25 :: s26 :: s27 :: s28 :: s29 :: .own ds :: ε) fun y => setQ ds v y fun ds' => E.nx (s0 :: s1 :: s2 :: s3 :: s4 :: s5 :: s6 :: s7 :: s8 :: s9 :: s10 :: s11 :: s12 :: s13 :: s14 :: s15 :: s16 :: s17 :: s18 :: s19 :: s20 :: s21 :: s22 :: s23 :: s24 :: s25 :: s26 :: s27 :: s28 :: s29 :: .own ds' :: ε) := rfl
theorem yau30 (Φ : Sm) (E : DEnds) (ε : List Slot) (s0 s1 s2 s3 s4 s5 s6 s7 s8 s9 s10 s11 s12 s13 s14 s15 s16 s17 s18 s19 s20 s21 s22 s23 s24 s25 s26 s27 s28 s29 : Slot) (n : Int) (o : O2) (e : CE) : semS Φ (.aug 30 o e) E (s0 :: s1 :: s2 :: s3 :: s4 :: s5 :: s6 :: s7 :: s8 :: s9 :: s10 :: s11 :: s12 :: s13 :: s14 :: s15 :: s16 :: s17 :: s18 :: s19 :: s20 :: s21 :: s22 :: s23 :: s24 :: s25 :: s26 :: s27 :: s28 :: s29 :: .val (.int n) :: ε) = semE Φ e (s0 :: s1 :: s2 :: s3 :: s4 :: s5 :: s6 :: s7 :: s8 :: s9 :: s10 :: s11 :: s12 :: s13 :: s14 :: s15 :: s16 :: s17 :: s18 :: s19 :: s20 :: s21 :: s22 :: s23 :: s24 :: s25 :: s26 :: s27 :: s28 :: s29 :: .val (.int n) :: ε) fun y => op2 o (.int n) y fun z => E.nx (s0 :: s1 :: s2 :: s3 :: s4 :: s5 :: s6 :: s7 :: s8 :: s9 :: s10 :: s11 :: s12 :: s13 :: s14 :: s15 :: s16 :: s17 :: s18 :: s19 :: s20 :: s21 :: s22 :: s23 :: s24 :: s25 :: s26 :: s27 :: s28 :: s29 :: .val z :: ε) := rfl
theorem ypo30 (Φ : Sm) (E : DEnds) (ε : List Slot) (s0 s1 s2 s3 s4 s5 s6 s7 s8 s9 s10 s11 s12 s13 s14 s15 s16 s17 s18 s19 s20 s21 s22 s23 s24 s25 s26 s27 s28 s29 : Slot) (ds : List D) : semS Φ (.pop 30) E (s0 :: s1 :: s2 :: s3 :: s4 :: s5 :: s6 :: s7 :: s8 :: s9 :: s10 :: s11 :: s12 :: s13 :: s14 :: s15 :: s16 :: s17 :: s18 :: s19 :: s20 :: s21 :: s22 :: s23 :: s24 :: s25 :: s26 :: s27 :: s28 :: s29 :: .own ds :: ε) = (0 < ds.length ∧ E.nx (s0 :: s1 :: s2 :: s3 :: s4 :: s5 :: s6 :: s7 :: s8 :: s9 :: s10 :: s11 :: s12 :: s13 :: s14 :: s15 :: s16 :: s17 :: s18 :: s19 :: s20 :: s21 :: s22 :: s23 :: s24 :: s25 :: s26 :: s27 :: s28 :: s29 :: .own ds.dropLast :: ε)) := rfl
theorem yro30 (Φ : Sm) (E : DEnds) (ε : List Slot) (s0 s1 s2 s3 s4 s5 s6 s7 s8 s9 s10 s11 s12 s13 s14 s15 s16 s17 s18 s19 s20 s21 s22 s23 s24 s25 s26 s27 s28 s29 : Slot) (ds : List D) : semS Φ (.retO 30) E (s0 :: s1 :: s2 :: s3 :: s4 :: s5 :: s6 :: s7 :: s8 :: s9 :: s10 :: s11 :: s12 :: s13 :: s14 :: s15 :: s16 :: s17 :: s18 :: s19 :: s20 :: s21 :: s22 :: s23 :: s24 :: s25 :: s26 :: s27 :: s28 :: s29 :: .own ds :: ε) = E.rt (.own ds) := rfl
theorem yfo30 (Φ : Sm) (E : DEnds) (ε : List Slot) (s0 s1 s2 s3 s4 s5 s6 s7 s8 s9 s10 s11 s12 s13 s14 s15 s16 s17 s18 s19 s20 s21 s22 s23 s24 s25 s26 s27 s28 s29 : Slot) (ds : List D) (r : CSs) : semSs Φ (.frz 30 r) E (s0 :: s1 :: s2 :: s3 :: s4 :: s5 :: s6 :: s7 :: s8 :: s9 :: s10 :: s11 :: s12 :: s13 :: s14 :: s15 :: s16 :: s17 :: s18 :: s19 :: s20 :: s21 :: s22 :: s23 :: s24 :: s25 :: s26 :: s27 :: s28 :: s29 :: .own ds :: ε) = semSs Φ r E (s0 :: s1 :: s2 :: s3 :: s4 :: s5 :: s6 :: s7 :: s8 :: s9 :: s10 :: s11 :: s12 :: s13 :: s14 :: s15 :: s16 :: s17 :: s18 :: s19 :: s20 :: s21 :: s22 :: s23 :: s24 :: s25 :: s26 :: s27 :: s28 :: s29 :: .val (.lst ds) :: ε) := rfl
theorem yfv30 (Φ : Sm) (E : DEnds) (ε : List Slot) (s0 s1 s2 s3 s4 s5 s6 s7 s8 s9 s10 s11 s12 s13 s14 s15 s16 s17 s18 s19 s20 s21 s22 s23 s24 s25 s26 s27 s28 s29 : Slot) (d : D) (r : CSs) : semSs Φ (.frz 30 r) E (s0 :: s1 :: s2 :: s3 :: s4 :: s5 :: s6 :: s7 :: s8 :: s9 :: s10 :: s11 :: s12 :: s13 :: s14 :: s15 :: s16 :: s17 :: s18 :: s19 :: s20 :: s21 :: s22 :: s23 :: s24 :: s25 :: s26 :: s27 :: s28 :: s29 :: .val d :: ε) = semSs Φ r E (s0 :: s1 :: s2 :: s3 :: s4 :: s5 :: s6 :: s7 :: s8 :: s9 :: s10 :: s11 :: s12 :: s13 :: s14 :: s15 :: s16 :: s17 :: s18 :: s19 :: s20 :: s21 :: s22 :: s23 :: s24 :: s25 :: s26 :: s27 :: s28 :: s29 :: .val d :: ε) := rfl
theorem yop30 (Φ : Sm) (E : DEnds) (ε : List Slot) (s0 s1 s2 s3 s4 s5 s6 s7 s8 s9 s10 s11 s12 s13 s14 s15 s16 s17 s18 s19 s20 s21 s22 s23 s24 s25 s26 s27 s28 s29 : Slot) (ds : List D) (r : CSs) : semSs Φ (.opn 30 r) E (s0 :: s1 :: s2 :: s3 :: s4 :: s5 :: s6 :: s7 :: s8 :: s9 :: s10 :: s11 :: s12 :: s13 :: s14 :: s15 :: s16 :: s17 :: s18 :: s19 :: s20 :: s21 :: s22 :: s23 :: s24 :: s25 :: s26 :: s27 :: s28 :: s29 :: .own ds :: ε) = ((∃ ns : List Int, ds = ns.map D.int ∧ ∀ n ∈ ns, 0 ≤ n) ∧ semSs Φ r E (s0 :: s1 :: s2 :: s3 :: s4 :: s5 :: s6 :: s7 :: s8 :: s9 :: s10 :: s11 :: s12 :: s13 :: s14 :: s15 :: s16 :: s17 :: s18 :: s19 :: s20 :: s21 :: s22 :: s23 :: s24 :: s25 :: s26 :: s27 :: s28 :: s29 :: .val (.opq 0) :: ε)) := rfl
theorem yv31 (Φ : Sm) (ε : List Slot) (Q : D → Prop) (s0 s1 s2 s3 s4 s5 s6 s7 s8 s9 s10 s11 s12 s13 s14 s15 s16 s17 s18 s19 s20 s21 s22 s23 s24 s25 s26 s27 s28 s29 s30 : Slot) (d : D) : semE Φ (.var 31) (s0 :: s1 :: s2 :: s3 :: s4 :: s5 :: s6 :: s7 :: s8 :: s9 :: s10 :: s11 :: s12 :: s13 :: s14 :: s15 :: s16 :: s17 :: s18 :: s19 :: s20 :: s21 :: s22 :: s23 :: s24 :: s25 :: s26 :: s27 :: s28 :: s29 :: s30 :: .val d :: ε) Q = Q d := rfl
theorem ylo31 (Φ : Sm) (ε : List Slot) (Q : D → Prop) (s0 s1 s2 s3 s4 s5 s6 s7 s8 s9 s10 s11 s12 s13 s14 s15 s16 s17 s18 s19 s20 s21 s22 s23 s24 s25 s26 s27 s28 s29 s30 : Slot) (ds : List D) : semE Φ (.lenO 31) (s0 :: s1 :: s2 :: s3 :: s4 :: s5 :: s6 :: s7 :: s8 :: s9 :: s10 :: s11 :: s12 :: s13 :: s14 :: s15 :: s16 :: s17 :: s18 :: s19 :: s20 :: s21 :: s22 :: s23 :: s24 :: s25 :: s26 :: s27 :: s28 :: s29 :: s30 :: .own ds :: ε) Q = Q (.int ds.length) := rfl
theorem ylv31 (Φ : Sm) (ε : List Slot) (Q : D → Prop) (s0 s1 s2 s3 s4 s5 s6 s7 s8 s9 s10 s11 s12 s13 s14 s15 s16 s17 s18 s19 s20 s21 s22 s23 s24 s25 s26 s27 s28 s29 s30 : Slot) (ds : List D) : semE Φ (.lenO 31) (s0 :: s1 :: s2 :: s3 :: s4 :: s5 :: s6 :: s7 :: s8 :: s9 :: s10 :: s11 :: s12 :: s13 :: s14 :: s15 :: s16 :: s17 :: s18 :: s19 :: s20 :: s21 :: s22 :: s23 :: s24 :: s25 :: s26 :: s27 :: s28 :: s29 :: s30 :: .val (.lst ds) :: ε) Q = Q (.int ds.length) := rfl
theorem yxo31 (Φ : Sm) (ε : List Slot) (Q : D → Prop) (s0 s1 s2 s3 s4 s5 s6 s7 s8 s9 s10 s11 s12 s13 s14 s15 s16 s17 s18 s19 s20 s21 s22 s23 s24 s25 s26 s27 s28 s29 s30 : Slot) (ds : List D) (k : CE) : semE Φ (.idxO 31 k) (s0 :: s1 :: s2 :: s3 :: s4 :: s5 :: s6 :: s7 :: s8 :: s9 :: s10 :: s11 :: s12 :: s13 :: s14 :: s15 :: s16 :: s17 :: s18 :: s19 :: s20 :: s21 :: s22 :: s23 :: s24 :: s25 :: s26 :: s27 :: s28 :: s29 :: s30 :: .own ds :: ε) Q = semE Φ k (s0 :: s1 :: s2 :: s3 :: s4 :: s5 :: s6 :: s7 :: s8 :: s9 :: s10 :: s11 :: s12 :: s13 :: s14 :: s15 :: s16 :: s17 :: s18 :: s19 :: s20 :: s21 :: s22 :: s23 :: s24 :: s25 :: s26 :: s27 :: s28 :: s29 :: s30 :: .own ds :: ε) fun y => opIx (.lst ds) y Q := rfl
theorem yxv31 (Φ : Sm) (ε : List Slot) (Q : D → Prop) (s0 s1 s2 s3 s4 s5 s6 s7 s8 s9 s10 s11 s12 s13 s14 s15 s16 s17 s18 s19 s20 s21 s22 s23 s24 s25 s26 s27 s28 s29 s30 : Slot) (ds : List D) (k : CE) : semE Φ (.idxO 31 k) (s0 :: s1 :: s2 :: s3 :: s4 :: s5 :: s6 :: s7 :: s8 :: s9 :: s10 :: s11 :: s12 :: s13 :: s14 :: s15 :: s16 :: s17 :: s18 :: s19 :: s20 :: s21 :: s22 :: s23 :: s24 :: s25 :: s26 :: s27 :: s28 :: s29 :: s30 :: .val (.lst ds) :: ε) Q = semE Φ k (s0 :: s1 :: s2 :: s3 :: s4 :: s5 :: s6 :: s7 :: s8 :: s9 :: s10 :: s11 :: s12 :: s13 :: s14 :: s15 :: s16 :: s17 :: s18 :: s19 :: s20 :: s21 :: s22 :: s23 :: s24 :: s25 :: s26 :: s27 :: s28 :: s29 :: s30 :: .val (.lst ds) :: ε) fun y => opIx (.lst ds) y Q := rfl
theorem yldo31 (Φ : Sm) (ε : List Slot) (Q : D → Prop) (s0 s1 s2 s3 s4 s5 s6 s7 s8 s9 s10 s11 s12 s13 s14 s15 s16 s17 s18 s19 s20 s21 s22 s23 s24 s25 s26 s27 s28 s29 s30 : Slot) (ds : List D) (e : CE) : semE Φ (.lend 31 e) (s0 :: s1 :: s2 :: s3 :: s4 :: s5 :: s6 :: s7 :: s8 :: s9 :: s10 :: s11 :: s12 :: s13 :: s14 :: s15 :: s16 :: s17 :: s18 :: s19 :: s20 :: s21 :: s22 :: s23 :: s24 :: s25 :: s26 :: s27 :: s28 :: s29 :: s30 :: .own ds :: ε) Q = semE Φ e (s0 :: s1 :: s2 :: s3 :: s4 :: s5 :: s6 :: s7 :: s8 :: s9 :: s10 :: s11 :: s12 :: s13 :: s14 :: s15 :: s16 :: s17 :: s18 :: s19 :: s20 :: s21 :: s22 :: s23 :: s24 :: s25 :: s26 :: s27 :: s28 :: s29 :: s30 :: .val (.lst ds) :: ε) fun d => d.noL = true ∧ Q d := rfl
theorem yldv31 (Φ : Sm) (ε : List Slot) (Q : D → Prop) (s0 s1 s2 s3 s4 s5 s6 s7 s8 s9 s10 s11 s12 s13 s14 s15 s16 s17 s18 s19 s20 s21 s22 s23 s24 s25 s26 s27 s28 s29 s30 : Slot) (d : D) (e : CE) : semE Φ (.lend 31 e) (s0 :: s1 :: s2 :: s3 :: s4 :: s5 :: s6 :: s7 :: s8 :: s9 :: s10 :: s11 :: s12 :: s13 :: s14 :: s15 :: s16 :: s17 :: s18 :: s19 :: s20 :: s21 :: s22 :: s23 :: s24 :: s25 :: s26 :: s27 :: s28 :: s29 :: s30 :: .val d :: ε) Q = semE Φ e (s0 :: s1 :: s2 :: s3 :: s4 :: s5 :: s6 :: s7 :: s8 :: s9 :: s10 :: s11 :: s12 :: s13 :: s14 :: s15 :: s16 :: s17 :: s18 :: s19 :: s20 :: s21 :: s22 :: s23 :: s24 :: s25 :: s26 :: s27 :: s28 :: s29 :: s30 :: .val d :: ε) Q := rfl
theorem ynm31 (ε : List Slot) (K : List Slot → Prop) (s0 s1 s2 s3 s4 s5 s6 s7 s8 s9 s10 s11 s12 s13 s14 s15 s16 s17 s18 s19 s20 s21 s22 s23 s24 s25 s26 s27 s28 s29 s30 : Slot) (x : Slot) (d : D) : bindT (.nm 31) d (s0 :: s1 :: s2 :: s3 :: s4 :: s5 :: s6 :: s7 :: s8 :: s9 :: s10 :: s11 :: s12 :: s13 :: s14 :: s15 :: s16 :: s17 :: s18 :: s19 :: s20 :: s21 :: s22 :: s23 :: s24 :: s25 :: s26 :: s27 :: s28 :: s29 :: s30 :: x :: ε) K = K (s0 :: s1 :: s2 :: s3 :: s4 :: s5 :: s6 :: s7 :: s8 :: s9 :: s10 :: s11 :: s12 :: s13 :: s14 :: s15 :: s16 :: s17 :: s18 :: s19 :: s20 :: s21 :: s22 :: s23 :: s24 :: s25 :: s26 :: s27 :: s28 :: s29 :: s30 :: .val d :: ε) := rfl
theorem ywp31 (ε : List Slot) (s0 s1 s2 s3 s4 s5 s6 s7 s8 s9 s10 s11 s12 s13 s14 s15 s16 s17 s18 s19 s20 s21 s22 s23 s24 s25 s26 s27 s28 s29 s30 : Slot) (x : Slot) : wipeE (s0 :: s1 :: s2 :: s3 :: s4 :: s5 :: s6 :: s7 :: s8 :: s9 :: s10 :: s11 :: s12 :: s13 :: s14 :: s15 :: s16 :: s17 :: s18 :: s19 :: s20 :: s21 :: s22 :: s23 :: s24 :: s25 :: s26 :: s27 :: s28 :: s29 :: s30 :: x :: ε) [31] = s0 :: s1 :: s2 :: s3 :: s4 :: s5 :: s6 :: s7 :: s8 :: s9 :: s10 :: s11 :: s12 :: s13 :: s14 :: s15 :: s16 :: s17 :: s18 :: s19 :: s20 :: s21 :: s22 :: s23 :: s24 :: s25 :: s26 :: s27 :: s28 :: s29 :: s30 :: .non :: ε := rfl
theorem yow31 (Φ : Sm) (E : DEnds) (ε : List Slot) (s0 s1 s2 s3 s4 s5 s6 s7 s8 s9 s10 s11 s12 s13 s14 s15 s16 s17 s18 s19 s20 s21 s22 s23 s24 s25 s26 s27 s28 s29 s30 : Slot) (x : Slot) (e : CE) : semS Φ (.own 31 e) E (s0 :: s1 :: s2 :: s3 :: s4 :: s5 :: s6 :: s7 :: s8 :: s9 :: s10 :: s11 :: s12 :: s13 :: s14 :: s15 :: s16 :: s17 :: s18 :: s19 :: s20 :: s21 :: s22 :: s23 :: s24 :: s25 :: s26 :: s27 :: s28 :: s29 :: s30 :: x :: ε) = semE Φ e (s0 :: s1 :: s2 :: s3 :: s4 :: s5 :: s6 :: s7 :: s8 :: s9 :: s10 :: s11 :: s12 :: s13 :: s14 :: s15 :: s16 :: s17 :: s18 :: s19 :: s20 :: s21 :: s22 :: s23 :: s24 :: s25 :: s26 :: s27 :: s28 :: s29 :: s30 :: x :: ε) fun d => ownQ d fun ds => E.nx (s0 :: s1 :: s2 :: s3 :: s4 :: s5 :: s6 :: s7 :: s8 :: s9 :: s10 :: s11 :: s12 :: s13 :: s14 :: s15 :: s16 :: s17 :: s18 :: s19 :: s20 :: s21 :: s22 :: s23 :: s24 :: s25 :: s26 :: s27 :: s28 :: s29 :: s30 :: .own ds :: ε) := rfl
theorem yap31 (Φ : Sm) (E : DEnds) (ε : List Slot) (s0 s1 s2 s3 s4 s5 s6 s7 s8 s9 s10 s11 s12 s13 s14 s15 s16 s17 s18 s19 s20 s21 s22 s23 s24 s25 s26 s27 s28 s29 s30 : Slot) (ds : List D) (e : CE) : semS Φ (.app 31 e) E (s0 :: s1 :: s2 :: s3 :: s4 :: s5 :: s6 :: s7 :: s8 :: s9 :: s10 :: s11 :: s12 :: s13 :: s14 :: s15 :: s16 :: s17 :: s18 :: s19 :: s20 :: s21 :: s22 :: s23 :: s24 :: s25 :: s26 :: s27 :: s28 :: s29 :: s30 :: .own ds :: ε) = semE Φ e (s0 :: s1 :: s2 :: s3 :: s4 :: s5 :: s6 :: s7 :: s8 :: s9 :: s10 :: s11 :: s12 :: s13 :: s14 :: s15 :: s16 :: s17 :: s18 :: s19 :: s20 :: s21 :: s22 :: s23 :: s24 :: s25 :: s26 :: s27 :: s28 :: s29 :: s30 :: .own ds :: ε) fun v => ds.length < sizeLine ∧ E.nx (s0 :: s1 :: s2 :: s3 :: s4 :: s5 :: s6 :: s7 :: s8 :: s9 :: s10 :: s11 :: s12 :: s13 :: s14 :: s15 :: s16 :: s17 :: s18 :: s19 :: s20 :: s21 :: s22 :: s23 :: s24 :: s25 :: s26 :: s27 :: s28 :: s29 :: s30 :: .own (ds ++ [v]) :: ε) := rfl
theorem yrv31 (Φ : Sm) (E : DEnds) (ε : List Slot) (s0 s1 s2 s3 s4 s5 s6 s7 s8 s9 s10 s11 s12 s13 s14 s15 s16 s17 s18 s19 s20 s21 s22 s23 s24 s25 s26 s27 s28 s29 s30 : Slot) (ds : List D) : semS Φ (.rev 31) E (s0 :: s1 :: s2 :: s3 :: s4 :: s5 :: s6 :: s7 :: s8 :: s9 :: s10 :: s11 :: s12 :: s13 :: s14 :: s15 :: s16 :: s17 :: s18 :: s19 :: s20 :: s21 :: s22 :: s23 :: s24 :: s25 :: s26 :: s27 :: s28 :: s29 :: s30 :: .own ds :: ε) = E.nx (s0 :: s1 :: s2 :: s3 :: s4 :: s5 :: s6 :: s7 :: s8 :: s9 :: s10 :: s11 :: s12 :: s13 :: s14 :: s15 :: s16 :: s17 :: s18 :: s19 :: s20 :: s21 :: s22 :: s23 :: s24 :: s25 :: s26 :: s27 :: s28 :: s29 :: s30 :: .own ds.reverse :: ε) := rfl
theorem ysi31 (Φ : Sm) (E : DEnds) (ε : List Slot) (s0 s1 s2 s3 s4 s5 s6 s7 s8 s9 s10 s11 s12 s13 s14 s15 s16 s17 s18 s19 s20 s21 s22 s23 s24 s25 s26 s27 s28 s29 s30 : Slot) (ds : List D) (k e : CE) : semS Φ (.setIx 31 k e) E (s0 :: s1 :: s2 :: s3 :: s4 :: s5 :: s6 :: s7 :: s8 :: s9 :: s10 :: s11 :: s12 :: s13 :: s14 :: s15 :: s16 :: s17 :: s18 :: s19 :: s20 :: s21 :: s22 :: s23 :: s24 :: s25 :: s26 :: s27 :: s28 :: s29 :: s30 :: .own ds :: ε) = semE Φ e (s0 :: s1 :: s2 :: s3 :: s4 :: s5 :: s6 :: s7 :: s8 :: s9 :: s10 :: s11 :: s12 :: s13 :: s14 :: s15 :: s16 :: s17 :: s18 :: s19 :: s20 :: s21 :: s22 :: s23 :: s24 :: s25 :: s26 :: s27 :: s28 :: s29 :: s30 :: .own ds :: ε) fun v => semE Φ k (s0 :: s1 :: s2 :: s3 :: s4 :: s5 :: s6 :: s7 :: s8 :: s9 :: s10 :: s11 :: s12 :: s13 :: s14 :: s15 :: s16 :: s17 :: s18 :: s19 :: s20 :: s21 :: s22 :: s23 :: s24 :: s25 :: s26 :: s27 :: s28 :: s29 :: s30 :: .own ds :: ε) fun y => setQ ds v y fun ds' => E.nx (s0 :: s1 :: s2 :: s3 :: s4 :: s5 :: s6 :: s7 :: s8 :: s9 :: s10 :: s11 :: s12 :: s13 :: s14 :: s15 :: s16 :: s17 :: s18 :: s19 :: s20 :: s21 :: s22 :: s23 :: s24 :: s25 :: s26 :: s27 :: s28 :: s29 :: s30 :: .own ds' :: ε) := rfl
theorem yau31 (Φ : Sm) (E : DEnds) (ε : List Slot) (s0 s1 s2 s3 s4 s5 s6 s7 s8 s9 s10 s11 s12 s13 s14 s15 s16 s17 s18 s19 s20 s21 s22 s23 s24 s25 s26 s27 s28 s29 s30 : Slot) (n : Int) (o : O2) (e : CE) : semS Φ (.aug 31 o e) E (s0 :: s1 :: s2 :: s3 :: s4 :: s5 :: s6 :: s7 :: s8 :: s9 :: s10 :: s11 :: s12 :: s13 :: s14 :: s15 :: s16 :: s17 :: s18 :: s19 :: s20 :: s21 :: s22 :: s23 :: s24 :: s25 :: s26 :: s27 :: s28 :: s29 :: s30 :: .val (.int n) :: ε) = semE Φ e (s0 :: s1 :: s2 :: s3 :: s4 :: s5 :: s6 :: s7 :: s8 :: s9 :: s10 :: s11 :: s12 :: s13 :: s14 :: s15 :: s16 :: s17 :: s18 :: s19 :: s20 :: s21 :: s22 :: s23 :: s24 :: s25 :: s26 :: s27 :: s28 :: s29 :: s30 :: .val (.int n) :: ε) fun y => op2 o (.int n) y fun z => E.nx (s0 :: s1 :: s2 :: s3 :: s4 :: s5 :: s6 :: s7 :: s8 :: s9 :: s10 :: s11 :: s12 :: s13 :: s14 :: s15 :: s16 :: s17 :: s18 :: s19 :: s20 :: s21 :: s22 :: s23 :: s24 :: s25 :: s26 :: s27 :: s28 :: s29 :: s30 :: .val z :: ε) := rfl
theorem ypo31 (Φ : Sm) (E : DEnds) (ε : List Slot) (s0 s1 s2 s3 s4 s5 s6 s7 s8 s9 s10 s11 s12 s13 s14 s15 s16 s17 s18 s19 s20 s21 s22 s23 s24 s25 s26 s27 s28 s29 s30 : Slot) (ds : List D) : semS Φ (.pop 31) E (s0 :: s1 :: s2 :: s3 :: s4 :: s5 :: s6 :: s7 :: s8 :: s9 :: s10 :: s11 :: s12 :: s13 :: s14 :: s15 :: s16 :: s17 :: s18 :: s19 :: s20 :: s21 :: s22 :: s23 :: s24 :: s25 :: s26 :: s27 :: s28 :: s29 :: s30 :: .own ds :: ε) = (0 < ds.length ∧ E.nx (s0 :: s1 :: s2 :: s3 :: s4 :: s5 :: s6 :: s7 :: s8 :: s9 :: s10 :: s11 :: s12 :: s13 :: s14 :: s15 :: s16 :: s17 :: s18 :: s19 :: s20 :: s21 :: s22 :: s23 :: s24 :: s25 :: s26 :: s27 :: s28 :: s29 :: s30 :: .own ds.dropLast :: ε)) := rfl
theorem yro31 (Φ : Sm) (E : DEnds) (ε : List Slot) (s0 s1 s2 s3 s4 s5 s6 s7 s8 s9 s10 s11 s12 s13 s14 s15 s16 s17 s18 s19 s20 s21 s22 s23 s24 s25 s26 s27 s28 s29 s30 : Slot) (ds : List D) : semS Φ (.retO 31) E (s0 :: s1 :: s2 :: s3 :: s4 :: s5 :: s6 :: s7 :: s8 :: s9 :: s10 :: s11 :: s12 :: s13 :: s14 :: s15 :: s16 :: s17 :: s18 :: s19 :: s20 :: s21 :: s22 :: s23 :: s24 :: s25 :: s26 :: s27 :: s28 :: s29 :: s30 :: .own ds :: ε) = E.rt (.own ds) := rfl
theorem yfo31 (Φ : Sm) (E : DEnds) (ε : List Slot) (s0 s1 s2 s3 s4 s5 s6 s7 s8 s9 s10 s11 s12 s13 s14 s15 s16 s17 s18 s19 s20 s21 s22 s23 s24 s25 s26 s27 s28 s29 s30 : Slot) (ds : List D) (r : CSs) : semSs Φ (.frz 31 r) E (s0 :: s1 :: s2 :: s3 :: s4 :: s5 :: s6 :: s7 :: s8 :: s9 :: s10 :: s11 :: s12 :: s13 :: s14 :: s15 :: s16 :: s17 :: s18 :: s19 :: s20 :: s21 :: s22 :: s23 :: s24 :: s25 :: s26 :: s27 :: s28 :: s29 :: s30 :: .own ds :: ε) = semSs Φ r E (s0 :: s1 :: s2 :: s3 :: s4 :: s5 :: s6 :: s7 :: s8 :: s9 :: s10 :: s11 :: s12 :: s13 :: s14 :: s15 :: s16 :: s17 :: s18 :: s19 :: s20 :: s21 :: s22 :: s23 :: s24 :: s25 :: s26 :: s27 :: s28 :: s29 :: s30 :: .val (.lst ds) :: ε) := rfl
theorem yfv31 (Φ : Sm) (E : DEnds) (ε : List Slot) (s0 s1 s2 s3 s4 s5 s6 s7 s8 s9 s10 s11 s12 s13 s14 s15 s16 s17 s18 s19 s20 s21 s22 s23 s24 s25 s26 s27 s28 s29 s30 : Slot) (d : D) (r : CSs) : semSs Φ (.frz 31 r) E (s0 :: s1 :: s2 :: s3 :: s4 :: s5 :: s6 :: s7 :: s8 :: s9 :: s10 :: s11 :: s12 :: s13 :: s14 :: s15 :: s16 :: s17 :: s18 :: s19 :: s20 :: s21 :: s22 :: s23 :: s24 :: s25 :: s26 :: s27 :: s28 :: s29 :: s30 :: .val d :: ε) = semSs Φ r E (s0 :: s1 :: s2 :: s3 :: s4 :: s5 :: s6 :: s7 :: s8 :: s9 :: s10 :: s11 :: s12 :: s13 :: s14 :: s15 :: s16 :: s17 :: s18 :: s19 :: s20 :: s21 :: s22 :: s23 :: s24 :: s25 :: s26 :: s27 :: s28 :: s29 :: s30 :: .val d :: ε) := rfl
theorem yop31 (Φ : Sm) (E : DEnds) (ε : List Slot) (s0 s1 s2 s3 s4 s5 s6 s7 s8 s9 s10 s11 s12 s13 s14 s15 s16 s17 s18 s19 s20 s21 s22 s23 s24 s25 s26 s27 s28 s29 s30 : Slot) (ds : List D) (r : CSs) : semSs Φ (.opn 31 r) E (s0 :: s1 :: s2 :: s3 :: s4 :: s5 :: s6 :: s7 :: s8 :: s9 :: s10 :: s11 :: s12 :: s13 :: s14 :: s15 :: s16 :: s17 :: s18 :: s19 :: s20 :: s21 :: s22 :: s23 :: s24 :: s25 :: s26 :: s27 :: s28 :: s29 :: s30 :: .own ds :: ε) = ((∃ ns : List Int, ds = ns.map D.int ∧ ∀ n ∈ ns, 0 ≤ n) ∧ semSs Φ r E (s0 :: s1 :: s2 :: s3 :: s4 :: s5 :: s6 :: s7 :: s8 :: s9 :: s10 :: s11 :: s12 :: s13 :: s14 :: s15 :: s16 :: s17 :: s18 :: s19 :: s20 :: s21 :: s22 :: s23 :: s24 :: s25 :: s26 :: s27 :: s28 :: s29 :: s30 :: .val (.opq 0) :: ε)) := rfl
theorem yst_1_0  : startE 1 [] = [.non] := rfl
theorem yst_1_1 (d0 : D) : startE 1 [d0] = [.val d0] := rfl
theorem yst_2_0  : startE 2 [] = [.non, .non] := rfl
theorem yst_2_1 (d0 : D) : startE 2 [d0] = [.val d0, .non] := rfl
theorem yst_2_2 (d0 d1 : D) : startE 2 [d0, d1] = [.val d0, .val d1] := rfl
theorem yst_3_0  : startE 3 [] = [.non, .non, .non] := rfl
theorem yst_3_1 (d0 : D) : startE 3 [d0] = [.val d0, .non, .non] := rfl
theorem yst_3_2 (d0 d1 : D) : startE 3 [d0, d1] = [.val d0, .val d1, .non] := rfl
theorem yst_3_3 (d0 d1 d2 : D) : startE 3 [d0, d1, d2] = [.val d0, .val d1, .val d2] := rfl
theorem yst_4_0  : startE 4 [] = [.non, .non, .non, .non] := rfl
theorem yst_4_1 (d0 : D) : startE 4 [d0] = [.val d0, .non, .non, .non] := rfl
theorem yst_4_2 (d0 d1 : D) : startE 4 [d0, d1] = [.val d0, .val d1, .non, .non] := rfl
theorem yst_4_3 (d0 d1 d2 : D) : startE 4 [d0, d1, d2] = [.val d0, .val d1, .val d2, .non] := rfl
theorem yst_4_4 (d0 d1 d2 d3 : D) : startE 4 [d0, d1, d2, d3] = [.val d0, .val d1, .val d2, .val d3] := rfl
theorem yst_5_0  : startE 5 [] = [.non, .non, .non, .non, .non] := rfl
theorem yst_5_1 (d0 : D) : startE 5 [d0] = [.val d0, .non, .non, .non, .non] := rfl
theorem yst_5_2 (d0 d1 : D) : startE 5 [d0, d1] = [.val d0, .val d1, .non, .non, .non] := rfl
theorem yst_5_3 (d0 d1 d2 : D) : startE 5 [d0, d1, d2] = [.val d0, .val d1, .val d2, .non, .non] := rfl
theorem yst_5_4 (d0 d1 d2 d3 : D) : startE 5 [d0, d1, d2, d3] = [.val d0, .val d1, .val d2, .val d3, .non] := rfl
theorem yst_5_5 (d0 d1 d2 d3 d4 : D) : startE 5 [d0, d1, d2, d3, d4] = [.val d0, .val d1, .val d2, .val d3, .val d4] := rfl
theorem yst_6_0  : startE 6 [] = [.non, .non, .non, .non, .non, .non] := rfl
theorem yst_6_1 (d0 : D) : startE 6 [d0] = [.val d0, .non, .non, .non, .non, .non] := rfl
theorem yst_6_2 (d0 d1 : D) : startE 6 [d0, d1] = [.val d0, .val d1, .non, .non, .non, .non] := rfl
theorem yst_6_3 (d0 d1 d2 : D) : startE 6 [d0, d1, d2] = [.val d0, .val d1, .val d2, .non, .non, .non] := rfl
theorem yst_6_4 (d0 d1 d2 d3 : D) : startE 6 [d0, d1, d2, d3] = [.val d0, .val d1, .val d2, .val d3, .non, .non] := rfl
theorem yst_6_5 (d0 d1 d2 d3 d4 : D) : startE 6 [d0, d1, d2, d3, d4] = [.val d0, .val d1, .val d2, .val d3, .val d4, .non] := rfl
theorem yst_6_6 (d0 d1 d2 d3 d4 d5 : D) : startE 6 [d0, d1, d2, d3, d4, d5] = [.val d0, .val d1, .val d2, .val d3, .val d4, .val d5] := rfl
theorem yst_7_0  : startE 7 [] = [.non, .non, .non, .non, .non, .non, .non] := rfl
theorem yst_7_1 (d0 : D) : startE 7 [d0] = [.val d0, .non, .non, .non, .non, .non, .non] := rfl
theorem yst_7_2 (d0 d1 : D) : startE 7 [d0, d1] = [.val d0, .val d1, .non, .non, .non, .non, .non] := rfl
theorem yst_7_3 (d0 d1 d2 : D) : startE 7 [d0, d1, d2] = [.val d0, .val d1, .val d2, .non, .non, .non, .non] := rfl
theorem yst_7_4 (d0 d1 d2 d3 : D) : startE 7 [d0, d1, d2, d3] = [.val d0, .val d1, .val d2, .val d3, .non, .non, .non] := rfl
theorem yst_7_5 (d0 d1 d2 d3 d4 : D) : startE 7 [d0, d1, d2, d3, d4] = [.val d0, .val d1, .val d2, .val d3, .val d4, .non, .non] := rfl
theorem yst_7_6 (d0 d1 d2 d3 d4 d5 : D) : startE 7 [d0, d1, d2, d3, d4, d5] = [.val d0, .val d1, .val d2, .val d3, .val d4, .val d5, .non] := rfl
theorem yst_7_7 (d0 d1 d2 d3 d4 d5 d6 : D) : startE 7 [d0, d1, d2, d3, d4, d5, d6] = [.val d0, .val d1, .val d2, .val d3, .val d4, .val d5, .val d6] := rfl
theorem yst_8_0  : startE 8 [] = [.non, .non, .non, .non, .non, .non, .non, .non] := rfl
theorem yst_8_1 (d0 : D) : startE 8 [d0] = [.val d0, .non, .non, .non, .non, .non, .non, .non] := rfl
theorem yst_8_2 (d0 d1 : D) : startE 8 [d0, d1] = [.val d0, .val d1, .non, .non, .non, .non, .non, .non] := rfl
theorem yst_8_3 (d0 d1 d2 : D) : startE 8 [d0, d1, d2] = [.val d0, .val d1, .val d2, .non, .non, .non, .non, .non] := rfl
theorem yst_8_4 (d0 d1 d2 d3 : D) : startE 8 [d0, d1, d2, d3] = [.val d0, .val d1, .val d2, .val d3, .non, .non, .non, .non] := rfl
theorem yst_8_5 (d0 d1 d2 d3 d4 : D) : startE 8 [d0, d1, d2, d3, d4] = [.val d0, .val d1, .val d2, .val d3, .val d4, .non, .non, .non] := rfl
theorem yst_8_6 (d0 d1 d2 d3 d4 d5 : D) : startE 8 [d0, d1, d2, d3, d4, d5] = [.val d0, .val d1, .val d2, .val d3, .val d4, .val d5, .non, .non] := rfl
theorem yst_8_7 (d0 d1 d2 d3 d4 d5 d6 : D) : startE 8 [d0, d1, d2, d3, d4, d5, d6] = [.val d0, .val d1, .val d2, .val d3, .val d4, .val d5, .val d6, .non] := rfl
theorem yst_8_8 (d0 d1 d2 d3 d4 d5 d6 d7 : D) : startE 8 [d0, d1, d2, d3, d4, d5, d6, d7] = [.val d0, .val d1, .val d2, .val d3, .val d4, .val d5, .val d6, .val d7] := rfl
theorem yst_9_0  : startE 9 [] = [.non, .non, .non, .non, .non, .non, .non, .non, .non] := rfl
theorem yst_9_1 (d0 : D) : startE 9 [d0] = [.val d0, .non, .non, .non, .non, .non, .non, .non, .non] := rfl
theorem yst_9_2 (d0 d1 : D) : startE 9 [d0, d1] = [.val d0, .val d1, .non, .non, .non, .non, .non, .non, .non] := rfl
theorem yst_9_3 (d0 d1 d2 : D) : startE 9 [d0, d1, d2] = [.val d0, .val d1, .val d2, .non, .non, .non, .non, .non, .non] := rfl
theorem yst_9_4 (d0 d1 d2 d3 : D) : startE 9 [d0, d1, d2, d3] = [.val d0, .val d1, .val d2, .val d3, .non, .non, .non, .non, .non] := rfl
theorem yst_9_5 (d0 d1 d2 d3 d4 : D) : startE 9 [d0, d1, d2, d3, d4] = [.val d0, .val d1, .val d2, .val d3, .val d4, .non, .non, .non, .non] := rfl
theorem yst_9_6 (d0 d1 d2 d3 d4 d5 : D) : startE 9 [d0, d1, d2, d3, d4, d5] = [.val d0, .val d1, .val d2, .val d3, .val d4, .val d5, .non, .non, .non] := rfl
theorem yst_9_7 (d0 d1 d2 d3 d4 d5 d6 : D) : startE 9 [d0, d1, d2, d3, d4, d5, d6] = [.val d0, .val d1, .val d2, .val d3, .val d4, .val d5, .val d6, .non, .non] := rfl
theorem yst_9_8 (d0 d1 d2 d3 d4 d5 d6 d7 : D) : startE 9 [d0, d1, d2, d3, d4, d5, d6, d7] = [.val d0, .val d1, .val d2, .val d3, .val d4, .val d5, .val d6, .val d7, .non] := rfl
theorem yst_9_9 (d0 d1 d2 d3 d4 d5 d6 d7 d8 : D) : startE 9 [d0, d1, d2, d3, d4, d5, d6, d7, d8] = [.val d0, .val d1, .val d2, .val d3, .val d4, .val d5, .val d6, .val d7, .val d8] := rfl
theorem yst_10_0  : startE 10 [] = [.non, .non, .non, .non, .non, .non, .non, .non, .non, .non] := rfl
theorem yst_10_1 (d0 : D) : startE 10 [d0] = [.val d0, .non, .non, .non, .non, .non, .non, .non, .non, .non] := rfl
theorem yst_10_2 (d0 d1 : D) : startE 10 [d0, d1] = [.val d0, .val d1, .non, .non, .non, .non, .non, .non, .non, .non] := rfl
theorem yst_10_3 (d0 d1 d2 : D) : startE 10 [d0, d1, d2] = [.val d0, .val d1, .val d2, .non, .non, .non, .non, .non, .non, .non] := rfl
theorem yst_10_4 (d0 d1 d2 d3 : D) : startE 10 [d0, d1, d2, d3] = [.val d0, .val d1, .val d2, .val d3, .non, .non, .non, .non, .non, .non] := rfl
theorem yst_10_5 (d0 d1 d2 d3 d4 : D) : startE 10 [d0, d1, d2, d3, d4] = [.val d0, .val d1, .val d2, .val d3, .val d4, .non, .non, .non, .non, .non] := rfl
theorem yst_10_6 (d0 d1 d2 d3 d4 d5 : D) : startE 10 [d0, d1, d2, d3, d4, d5] = [.val d0, .val d1, .val d2, .val d3, .val d4, .val d5, .non, .non, .non, .non] := rfl
theorem yst_10_7 (d0 d1 d2 d3 d4 d5 d6 : D) : startE 10 [d0, d1, d2, d3, d4, d5, d6] = [.val d0, .val d1, .val d2, .val d3, .val d4, .val d5, .val d6, .non, .non, .non] := rfl
theorem yst_10_8 (d0 d1 d2 d3 d4 d5 d6 d7 : D) : startE 10 [d0, d1, d2, d3, d4, d5, d6, d7] = [.val d0, .val d1, .val d2, .val d3, .val d4, .val d5, .val d6, .val d7, .non, .non] := rfl
theorem yst_10_9 (d0 d1 d2 d3 d4 d5 d6 d7 d8 : D) : startE 10 [d0, d1, d2, d3, d4, d5, d6, d7, d8] = [.val d0, .val d1, .val d2, .val d3, .val d4, .val d5, .val d6, .val d7, .val d8, .non] := rfl
theorem yst_11_0  : startE 11 [] = [.non, .non, .non, .non, .non, .non, .non, .non, .non, .non, .non] := rfl
theorem yst_11_1 (d0 : D) : startE 11 [d0] = [.val d0, .non, .non, .non, .non, .non, .non, .non, .non, .non, .non] := rfl
theorem yst_11_2 (d0 d1 : D) : startE 11 [d0, d1] = [.val d0, .val d1, .non, .non, .non, .non, .non, .non, .non, .non, .non] := rfl
theorem yst_11_3 (d0 d1 d2 : D) : startE 11 [d0, d1, d2] = [.val d0, .val d1, .val d2, .non, .non, .non, .non, .non, .non, .non, .non] := rfl
theorem yst_11_4 (d0 d1 d2 d3 : D) : startE 11 [d0, d1, d2, d3] = [.val d0, .val d1, .val d2, .val d3, .non, .non, .non, .non, .non, .non, .non] := rfl
theorem yst_11_5 (d0 d1 d2 d3 d4 : D) : startE 11 [d0, d1, d2, d3, d4] = [.val d0, .val d1, .val d2, .val d3, .val d4, .non, .non, .non, .non, .non, .non] := rfl
theorem yst_11_6 (d0 d1 d2 d3 d4 d5 : D) : startE 11 [d0, d1, d2, d3, d4, d5] = [.val d0, .val d1, .val d2, .val d3, .val d4, .val d5, .non, .non, .non, .non, .non] := rfl
theorem yst_11_7 (d0 d1 d2 d3 d4 d5 d6 : D) : startE 11 [d0, d1, d2, d3, d4, d5, d6] = [.val d0, .val d1, .val d2, .val d3, .val d4, .val d5, .val d6, .non, .non, .non, .non] := rfl
theorem yst_11_8 (d0 d1 d2 d3 d4 d5 d6 d7 : D) : startE 11 [d0, d1, d2, d3, d4, d5, d6, d7] = [.val d0, .val d1, .val d2, .val d3, .val d4, .val d5, .val d6, .val d7, .non, .non, .non] := rfl
theorem yst_11_9 (d0 d1 d2 d3 d4 d5 d6 d7 d8 : D) : startE 11 [d0, d1, d2, d3, d4, d5, d6, d7, d8] = [.val d0, .val d1, .val d2, .val d3, .val d4, .val d5, .val d6, .val d7, .val d8, .non, .non] := rfl
theorem yst_12_0  : startE 12 [] = [.non, .non, .non, .non, .non, .non, .non, .non, .non, .non, .non, .non] := rfl
theorem yst_12_1 (d0 : D) : startE 12 [d0] = [.val d0, .non, .non, .non, .non, .non, .non, .non, .non, .non, .non, .non] := rfl
theorem yst_12_2 (d0 d1 : D) : startE 12 [d0, d1] = [.val d0, .val d1, .non, .non, .non, .non, .non, .non, .non, .non, .non, .non] := rfl
theorem yst_12_3 (d0 d1 d2 : D) : startE 12 [d0, d1, d2] = [.val d0, .val d1, .val d2, .non, .non, .non, .non, .non, .non, .non, .non, .non] := rfl
theorem yst_12_4 (d0 d1 d2 d3 : D) : startE 12 [d0, d1, d2, d3] = [.val d0, .val d1, .val d2, .val d3, .non, .non, .non, .non, .non, .non, .non, .non] := rfl
theorem yst_12_5 (d0 d1 d2 d3 d4 : D) : startE 12 [d0, d1, d2, d3, d4] = [.val d0, .val d1, .val d2, .val d3, .val d4, .non, .non, .non, .non, .non, .non, .non] := rfl
theorem yst_12_6 (d0 d1 d2 d3 d4 d5 : D) : startE 12 [d0, d1, d2, d3, d4, d5] = [.val d0, .val d1, .val d2, .val d3, .val d4, .val d5, .non, .non, .non, .non, .non, .non] := rfl
theorem yst_12_7 (d0 d1 d2 d3 d4 d5 d6 : D) : startE 12 [d0, d1, d2, d3, d4, d5, d6] = [.val d0, .val d1, .val d2, .val d3, .val d4, .val d5, .val d6, .non, .non, .non, .non, .non] := rfl
theorem yst_12_8 (d0 d1 d2 d3 d4 d5 d6 d7 : D) : startE 12 [d0, d1, d2, d3, d4, d5, d6, d7] = [.val d0, .val d1, .val d2, .val d3, .val d4, .val d5, .val d6, .val d7, .non, .non, .non, .non] := rfl
theorem yst_12_9 (d0 d1 d2 d3 d4 d5 d6 d7 d8 : D) : startE 12 [d0, d1, d2, d3, d4, d5, d6, d7, d8] = [.val d0, .val d1, .val d2, .val d3, .val d4, .val d5, .val d6, .val d7, .val d8, .non, .non, .non] := rfl
theorem yst_13_0  : startE 13 [] = [.non, .non, .non, .non, .non, .non, .non, .non, .non, .non, .non, .non, .non] := rfl
theorem yst_13_1 (d0 : D) : startE 13 [d0] = [.val d0, .non, .non, .non, .non, .non, .non, .non, .non, .non, .non, .non, .non] := rfl
theorem yst_13_2 (d0 d1 : D) : startE 13 [d0, d1] = [.val d0, .val d1, .non, .non, .non, .non, .non, .non, .non, .non, .non, .non, .non] := rfl
theorem yst_13_3 (d0 d1 d2 : D) : startE 13 [d0, d1, d2] = [.val d0, .val d1, .val d2, .non, .non, .non, .non, .non, .non, .non, .non, .non, .non] := rfl
theorem yst_13_4 (d0 d1 d2 d3 : D) : startE 13 [d0, d1, d2, d3] = [.val d0, .val d1, .val d2, .val d3, .non, .non, .non, .non, .non, .non, .non, .non, .non] := rfl
theorem yst_13_5 (d0 d1 d2 d3 d4 : D) : startE 13 [d0, d1, d2, d3, d4] = [.val d0, .val d1, .val d2, .val d3, .val d4, .non, .non, .non, .non, .non, .non, .non, .non] := rfl
theorem yst_13_6 (d0 d1 d2 d3 d4 d5 : D) : startE 13 [d0, d1, d2, d3, d4, d5] = [.val d0, .val d1, .val d2, .val d3, .val d4, .val d5, .non, .non, .non, .non, .non, .non, .non] := rfl
theorem yst_13_7 (d0 d1 d2 d3 d4 d5 d6 : D) : startE 13 [d0, d1, d2, d3, d4, d5, d6] = [.val d0, .val d1, .val d2, .val d3, .val d4, .val d5, .val d6, .non, .non, .non, .non, .non, .non] := rfl
theorem yst_13_8 (d0 d1 d2 d3 d4 d5 d6 d7 : D) : startE 13 [d0, d1, d2, d3, d4, d5, d6, d7] = [.val d0, .val d1, .val d2, .val d3, .val d4, .val d5, .val d6, .val d7, .non, .non, .non, .non, .non] := rfl
theorem yst_13_9 (d0 d1 d2 d3 d4 d5 d6 d7 d8 : D) : startE 13 [d0, d1, d2, d3, d4, d5, d6, d7, d8] = [.val d0, .val d1, .val d2, .val d3, .val d4, .val d5, .val d6, .val d7, .val d8, .non, .non, .non, .non] := rfl
theorem yst_14_0  : startE 14 [] = [.non, .non, .non, .non, .non, .non, .non, .non, .non, .non, .non, .non, .non, .non] := rfl
theorem yst_14_1 (d0 : D) : startE 14 [d0] = [.val d0, .non, .non, .non, .non, .non, .non, .non, .non, .non, .non, .non, .non, .non] := rfl
theorem yst_14_2 (d0 d1 : D) : startE 14 [d0, d1] = [.val d0, .val d1, .non, .non, .non, .non, .non, .non, .non, .non, .non, .non, .non, .non] := rfl
theorem yst_14_3 (d0 d1 d2 : D) : startE 14 [d0, d1, d2] = [.val d0, .val d1, .val d2, .non, .non, .non, .non, .non, .non, .non, .non, .non, .non, .non] := rfl
theorem yst_14_4 (d0 d1 d2 d3 : D) : startE 14 [d0, d1, d2, d3] = [.val d0, .val d1, .val d2, .val d3, .non, .non, .non, .non, .non, .non, .non, .non, .non, .non] := rfl
theorem yst_14_5 (d0 d1 d2 d3 d4 : D) : startE 14 [d0, d1, d2, d3, d4] = [.val d0, .val d1, .val d2, .val d3, .val d4, .non, .non, .non, .non, .non, .non, .non, .non, .non] := rfl
theorem yst_14_6 (d0 d1 d2 d3 d4 d5 : D) : startE 14 [d0, d1, d2, d3, d4, d5] = [.val d0, .val d1, .val d2, .val d3, .val d4, .val d5, .non, .non, .non, .non, .non, .non, .non, .non] := rfl
theorem yst_14_7 (d0 d1 d2 d3 d4 d5 d6 : D) : startE 14 [d0, d1, d2, d3, d4, d5, d6] = [.val d0, .val d1, .val d2, .val d3, .val d4, .val d5, .val d6, .non, .non, .non, .non, .non, .non, .non] := rfl
theorem yst_14_8 (d0 d1 d2 d3 d4 d5 d6 d7 : D) : startE 14 [d0, d1, d2, d3, d4, d5, d6, d7] = [.val d0, .val d1, .val d2, .val d3, .val d4, .val d5, .val d6, .val d7, .non, .non, .non, .non, .non, .non] := rfl
theorem yst_14_9 (d0 d1 d2 d3 d4 d5 d6 d7 d8 : D) : startE 14 [d0, d1, d2, d3, d4, d5, d6, d7, d8] = [.val d0, .val d1, .val d2, .val d3, .val d4, .val d5, .val d6, .val d7, .val d8, .non, .non, .non, .non, .non] := rfl
theorem yst_15_0  : startE 15 [] = [.non, .non, .non, .non, .non, .non, .non, .non, .non, .non, .non, .non, .non, .non, .non] := rfl
theorem yst_15_1 (d0 : D) : startE 15 [d0] = [.val d0, .non, .non, .non, .non, .non, .non, .non, .non, .non, .non, .non, .non, .non, .non] := rfl
theorem yst_15_2 (d0 d1 : D) : startE 15 [d0, d1] = [.val d0, .val d1, .non, .non, .non, .non, .non, .non, .non, .non, .non, .non, .non, .non, .non] := rfl
theorem yst_15_3 (d0 d1 d2 : D) : startE 15 [d0, d1, d2] = [.val d0, .val d1, .val d2, .non, .non, .non, .non, .non, .non, .non, .non, .non, .non, .non, .non] := rfl
theorem yst_15_4 (d0 d1 d2 d3 : D) : startE 15 [d0, d1, d2, d3] = [.val d0, .val d1, .val d2, .val d3, .non, .non, .non, .non, .non, .non, .non, .non, .non, .non, .non] := rfl
theorem yst_15_5 (d0 d1 d2 d3 d4 : D) : startE 15 [d0, d1, d2, d3, d4] = [.val d0, .val d1, .val d2, .val d3, .val d4, .non, .non, .non, .non, .non, .non, .non, .non, .non, .non] := rfl
theorem yst_15_6 (d0 d1 d2 d3 d4 d5 : D) : startE 15 [d0, d1, d2, d3, d4, d5] = [.val d0, .val d1, .val d2, .val d3, .val d4, .val d5, .non, .non, .non, .non, .non, .non, .non, .non, .non] := rfl
theorem yst_15_7 (d0 d1 d2 d3 d4 d5 d6 : D) : startE 15 [d0, d1, d2, d3, d4, d5, d6] = [.val d0, .val d1, .val d2, .val d3, .val d4, .val d5, .val d6, .non, .non, .non, .non, .non, .non, .non, .non] := rfl
theorem yst_15_8 (d0 d1 d2 d3 d4 d5 d6 d7 : D) : startE 15 [d0, d1, d2, d3, d4, d5, d6, d7] = [.val d0, .val d1, .val d2, .val d3, .val d4, .val d5, .val d6, .val d7, .non, .non, .non, .non, .non, .non, .non] := rfl
theorem yst_15_9 (d0 d1 d2 d3 d4 d5 d6 d7 d8 : D) : startE 15 [d0, d1, d2, d3, d4, d5, d6, d7, d8] = [.val d0, .val d1, .val d2, .val d3, .val d4, .val d5, .val d6, .val d7, .val d8, .non, .non, .non, .non, .non, .non] := rfl
theorem yst_16_0  : startE 16 [] = [.non, .non, .non, .non, .non, .non, .non, .non, .non, .non, .non, .non, .non, .non, .non, .non] := rfl
theorem yst_16_1 (d0 : D) : startE 16 [d0] = [.val d0, .non, .non, .non, .non, .non, .non, .non, .non, .non, .non, .non, .non, .non, .non, .non] := rfl
theorem yst_16_2 (d0 d1 : D) : startE 16 [d0, d1] = [.val d0, .val d1, .non, .non, .non, .non, .non, .non, .non, .non, .non, .non, .non, .non, .non, .non] := rfl
theorem yst_16_3 (d0 d1 d2 : D) : startE 16 [d0, d1, d2] = [.val d0, .val d1, .val d2, .non, .non, .non, .non, .non, .non, .non, .non, .non, .non, .non, .non, .non] := rfl
theorem yst_16_4 (d0 d1 d2 d3 : D) : startE 16 [d0, d1, d2, d3] = [.val d0, .val d1, .val d2, .val d3, .non, .non, .non, .non, .non, .non, .non, .non, .non, .non, .non, .non] := rfl
theorem yst_16_5 (d0 d1 d2 d3 d4 : D) : startE 16 [d0, d1, d2, d3, d4] = [.val d0, .val d1, .val d2, .val d3, .val d4, .non, .non, .non, .non, .non, .non, .non, .non, .non, .non, .non] := rfl
theorem yst_16_6 (d0 d1 d2 d3 d4 d5 : D) : startE 16 [d0, d1, d2, d3, d4, d5] = [.val d0, .val d1, .val d2, .val d3, .val d4, .val d5, .non, .non, .non, .non, .non, .non, .non, .non, .non, .non] := rfl
theorem yst_16_7 (d0 d1 d2 d3 d4 d5 d6 : D) : startE 16 [d0, d1, d2, d3, d4, d5, d6] = [.val d0, .val d1, .val d2, .val d3, .val d4, .val d5, .val d6, .non, .non, .non, .non, .non, .non, .non, .non, .non] := rfl
theorem yst_16_8 (d0 d1 d2 d3 d4 d5 d6 d7 : D) : startE 16 [d0, d1, d2, d3, d4, d5, d6, d7] = [.val d0, .val d1, .val d2, .val d3, .val d4, .val d5, .val d6, .val d7, .non, .non, .non, .non, .non, .non, .non, .non] := rfl
theorem yst_16_9 (d0 d1 d2 d3 d4 d5 d6 d7 d8 : D) : startE 16 [d0, d1, d2, d3, d4, d5, d6, d7, d8] = [.val d0, .val d1, .val d2, .val d3, .val d4, .val d5, .val d6, .val d7, .val d8, .non, .non, .non, .non, .non, .non, .non] := rfl
theorem yst_17_0  : startE 17 [] = [.non, .non, .non, .non, .non, .non, .non, .non, .non, .non, .non, .non, .non, .non, .non, .non, .non] := rfl
theorem yst_17_1 (d0 : D) : startE 17 [d0] = [.val d0, .non, .non, .non, .non, .non, .non, .non, .non, .non, .non, .non, .non, .non, .non, .non, .non] := rfl
theorem yst_17_2 (d0 d1 : D) : startE 17 [d0, d1] = [.val d0, .val d1, .non, .non, .non, .non, .non, .non, .non, .non, .non, .non, .non, .non, .non, .non, .non] := rfl
theorem yst_17_3 (d0 d1 d2 : D) : startE 17 [d0, d1, d2] = [.val d0, .val d1, .val d2, .non, .non, .non, .non, .non, .non, .non, .non, .non, .non, .non, .non, .non, .non] := rfl
theorem yst_17_4 (d0 d1 d2 d3 : D) : startE 17 [d0, d1, d2, d3] = [.val d0, .val d1, .val d2, .val d3, .non, .non, .non, .non, .non, .non, .non, .non, .non, .non, .non, .non, .non] := rfl
theorem yst_17_5 (d0 d1 d2 d3 d4 : D) : startE 17 [d0, d1, d2, d3, d4] = [.val d0, .val d1, .val d2, .val d3, .val d4, .non, .non, .non, .non, .non, .non, .non, .non, .non, .non, .non, .non] := rfl
theorem yst_17_6 (d0 d1 d2 d3 d4 d5 : D) : startE 17 [d0, d1, d2, d3, d4, d5] = [.val d0, .val d1, .val d2, .val d3, .val d4, .val d5, .non, .non, .non, .non, .non, .non, .non, .non, .non, .non, .non] := rfl
theorem yst_17_7 (d0 d1 d2 d3 d4 d5 d6 : D) : startE 17 [d0, d1, d2, d3, d4, d5, d6] = [.val d0, .val d1, .val d2, .val d3, .val d4, .val d5, .val d6, .non, .non, .non, .non, .non, .non, .non, .non, .non, .non] := rfl
theorem yst_17_8 (d0 d1 d2 d3 d4 d5 d6 d7 : D) : startE 17 [d0, d1, d2, d3, d4, d5, d6, d7] = [.val d0, .val d1, .val d2, .val d3, .val d4, .val d5, .val d6, .val d7, .non, .non, .non, .non, .non, .non, .non, .non, .non] := rfl
theorem yst_17_9 (d0 d1 d2 d3 d4 d5 d6 d7 d8 : D) : startE 17 [d0, d1, d2, d3, d4, d5, d6, d7, d8] = [.val d0, .val d1, .val d2, .val d3, .val d4, .val d5, .val d6, .val d7, .val d8, .non, .non, .non, .non, .non, .non, .non, .non] := rfl
theorem yst_18_0  : startE 18 [] = [.non, .non, .non, .non, .non, .non, .non, .non, .non, .non, .non, .non, .non, .non, .non, .non, .non, .non] := rfl
theorem yst_18_1 (d0 : D) : startE 18 [d0] = [.val d0, .non, .non, .non, .non, .non, .non, .non, .non, .non, .non, .non, .non, .non, .non, .non, .non, .non] := rfl
theorem yst_18_2 (d0 d1 : D) : startE 18 [d0, d1] = [.val d0, .val d1, .non, .non, .non, .non, .non, .non, .non, .non, .non, .non, .non, .non, .non, .non, .non, .non] := rfl
theorem yst_18_3 (d0 d1 d2 : D) : startE 18 [d0, d1, d2] = [.val d0, .val d1, .val d2, .non, .non, .non, .non, .non, .non, .non, .non, .non, .non, .non, .non, .non, .non, .non] := rfl
theorem yst_18_4 (d0 d1 d2 d3 : D) : startE 18 [d0, d1, d2, d3] = [.val d0, .val d1, .val d2, .val d3, .non, .non, .non, .non, .non, .non, .non, .non, .non, .non, .non, .non, .non, .non] := rfl
theorem yst_18_5 (d0 d1 d2 d3 d4 : D) : startE 18 [d0, d1, d2, d3, d4] = [.val d0, .val d1, .val d2, .val d3, .val d4, .non, .non, .non, .non, .non, .non, .non, .non, .non, .non, .non, .non, .non] := rfl
theorem yst_18_6 (d0 d1 d2 d3 d4 d5 : D) : startE 18 [d0, d1, d2, d3, d4, d5] = [.val d0, .val d1, .val d2, .val d3, .val d4, .val d5, .non, .non, .non, .non, .non, .non, .non, .non, .non, .non, .non, .non] := rfl
theorem yst_18_7 (d0 d1 d2 d3 d4 d5 d6 : D) : startE 18 [d0, d1, d2, d3, d4, d5, d6] = [.val d0, .val d1, .val d2, .val d3, .val d4, .val d5, .val d6, .non, .non, .non, .non, .non, .non, .non, .non, .non, .non, .non] := rfl
theorem yst_18_8 (d0 d1 d2 d3 d4 d5 d6 d7 : D) : startE 18 [d0, d1, d2, d3, d4, d5, d6, d7] = [.val d0, .val d1, .val d2, .val d3, .val d4, .val d5, .val d6, .val d7, .non, .non, .non, .non, .non, .non, .non, .non, .non, .non] := rfl
theorem yst_18_9 (d0 d1 d2 d3 d4 d5 d6 d7 d8 : D) : startE 18 [d0, d1, d2, d3, d4, d5, d6, d7, d8] = [.val d0, .val d1, .val d2, .val d3, .val d4, .val d5, .val d6, .val d7, .val d8, .non, .non, .non, .non, .non, .non, .non, .non, .non] := rfl
theorem yst_19_0  : startE 19 [] = [.non, .non, .non, .non, .non, .non, .non, .non, .non, .non, .non, .non, .non, .non, .non, .non, .non, .non, .non] := rfl
theorem yst_19_1 (d0 : D) : startE 19 [d0] = [.val d0, .non, .non, .non, .non, .non, .non, .non, .non, .non, .non, .non, .non, .non, .non, .non, .non, .non, .non] := rfl
theorem yst_19_2 (d0 d1 : D) : startE 19 [d0, d1] = [.val d0, .val d1, .non, .non, .non, .non, .non, .non, .non, .non, .non, .non, .non, .non, .non, .non, .non, .non, .non] := rfl
theorem yst_19_3 (d0 d1 d2 : D) : startE 19 [d0, d1, d2] = [.val d0, .val d1, .val d2, .non, .non, .non, .non, .non, .non, .non, .non, .non, .non, .non, .non, .non, .non, .non, .non] := rfl
theorem yst_19_4 (d0 d1 d2 d3 : D) : startE 19 [d0, d1, d2, d3] = [.val d0, .val d1, .val d2, .val d3, .non, .non, .non, .non, .non, .non, .non, .non, .non, .non, .non, .non, .non, .non, .non] := rfl
theorem yst_19_5 (d0 d1 d2 d3 d4 : D) : startE 19 [d0, d1, d2, d3, d4] = [.val d0, .val d1, .val d2, .val d3, .val d4, .non, .non, .non, .non, .non, .non, .non, .non, .non, .non, .non, .non, .non, .non] := rfl
theorem yst_19_6 (d0 d1 d2 d3 d4 d5 : D) : startE 19 [d0, d1, d2, d3, d4, d5] = [.val d0, .val d1, .val d2, .val d3, .val d4, .val d5, .non, .non, .non, .non, .non, .non, .non, .non, .non, .non, .non, .non, .non] := rfl
theorem yst_19_7 (d0 d1 d2 d3 d4 d5 d6 : D) : startE 19 [d0, d1, d2, d3, d4, d5, d6] = [.val d0, .val d1, .val d2, .val d3, .val d4, .val d5, .val d6, .non, .non, .non, .non, .non, .non, .non, .non, .non, .non, .non, .non] := rfl
theorem yst_19_8 (d0 d1 d2 d3 d4 d5 d6 d7 : D) : startE 19 [d0, d1, d2, d3, d4, d5, d6, d7] = [.val d0, .val d1, .val d2, .val d3, .val d4, .val d5, .val d6, .val d7, .non, .non, .non, .non, .non, .non, .non, .non, .non, .non, .non] := rfl
theorem yst_19_9 (d0 d1 d2 d3 d4 d5 d6 d7 d8 : D) : startE 19 [d0, d1, d2, d3, d4, d5, d6, d7, d8] = [.val d0, .val d1, .val d2, .val d3, .val d4, .val d5, .val d6, .val d7, .val d8, .non, .non, .non, .non, .non, .non, .non, .non, .non, .non] := rfl
theorem yst_20_0  : startE 20 [] = [.non, .non, .non, .non, .non, .non, .non, .non, .non, .non, .non, .non, .non, .non, .non, .non, .non, .non, .non, .non] := rfl
theorem yst_20_1 (d0 : D) : startE 20 [d0] = [.val d0, .non, .non, .non, .non, .non, .non, .non, .non, .non, .non, .non, .non, .non, .non, .non, .non, .non, .non, .non] := rfl
theorem yst_20_2 (d0 d1 : D) : startE 20 [d0, d1] = [.val d0, .val d1, .non, .non, .non, .non, .non, .non, .non, .non, .non, .non, .non, .non, .non, .non, .non, .non, .non, .non] := rfl
theorem yst_20_3 (d0 d1 d2 : D) : startE 20 [d0, d1, d2] = [.val d0, .val d1, .val d2, .non, .non, .non, .non, .non, .non, .non, .non, .non, .non, .non, .non, .non, .non, .non, .non, .non] := rfl
theorem yst_20_4 (d0 d1 d2 d3 : D) : startE 20 [d0, d1, d2, d3] = [.val d0, .val d1, .val d2, .val d3, .non, .non, .non, .non, .non, .non, .non, .non, .non, .non, .non, .non, .non, .non, .non, .non] := rfl
theorem yst_20_5 (d0 d1 d2 d3 d4 : D) : startE 20 [d0, d1, d2, d3, d4] = [.val d0, .val d1, .val d2, .val d3, .val d4, .non, .non, .non, .non, .non, .non, .non, .non, .non, .non, .non, .non, .non, .non, .non] := rfl
theorem yst_20_6 (d0 d1 d2 d3 d4 d5 : D) : startE 20 [d0, d1, d2, d3, d4, d5] = [.val d0, .val d1, .val d2, .val d3, .val d4, .val d5, .non, .non, .non, .non, .non, .non, .non, .non, .non, .non, .non, .non, .non, .non] := rfl
theorem yst_20_7 (d0 d1 d2 d3 d4 d5 d6 : D) : startE 20 [d0, d1, d2, d3, d4, d5, d6] = [.val d0, .val d1, .val d2, .val d3, .val d4, .val d5, .val d6, .non, .non, .non, .non, .non, .non, .non, .non, .non, .non, .non, .non, .non] := rfl
theorem yst_20_8 (d0 d1 d2 d3 d4 d5 d6 d7 : D) : startE 20 [d0, d1, d2, d3, d4, d5, d6, d7] = [.val d0, .val d1, .val d2, .val d3, .val d4, .val d5, .val d6, .val d7, .non, .non, .non, .non, .non, .non, .non, .non, .non, .non, .non, .non] := rfl
theorem yst_20_9 (d0 d1 d2 d3 d4 d5 d6 d7 d8 : D) : startE 20 [d0, d1, d2, d3, d4, d5, d6, d7, d8] = [.val d0, .val d1, .val d2, .val d3, .val d4, .val d5, .val d6, .val d7, .val d8, .non, .non, .non, .non, .non, .non, .non, .non, .non, .non, .non] := rfl
theorem yst_21_0  : startE 21 [] = [.non, .non, .non, .non, .non, .non, .non, .non, .non, .non, .non, .non, .non, .non, .non, .non, .non, .non, .non, .non, .non] := rfl
theorem yst_21_1 (d0 : D) : startE 21 [d0] = [.val d0, .non, .non, .non, .non, .non, .non, .non, .non, .non, .non, .non, .non, .non, .non, .non, .non, .non, .non, .non, .non] := rfl
theorem yst_21_2 (d0 d1 : D) : startE 21 [d0, d1] = [.val d0, .val d1, .non, .non, .non, .non, .non, .non, .non, .non, .non, .non, .non, .non, .non, .non, .non, .non, .non, .non, .non] := rfl
theorem yst_21_3 (d0 d1 d2 : D) : startE 21 [d0, d1, d2] = [.val d0, .val d1, .val d2, .non, .non, .non, .non, .non, .non, .non, .non, .non, .non, .non, .non, .non, .non, .non, .non, .non, .non] := rfl
theorem yst_21_4 (d0 d1 d2 d3 : D) : startE 21 [d0, d1, d2, d3] = [.val d0, .val d1, .val d2, .val d3, .non, .non, .non, .non, .non, .non, .non, .non, .non, .non, .non, .non, .non, .non, .non, .non, .non] := rfl
theorem yst_21_5 (d0 d1 d2 d3 d4 : D) : startE 21 [d0, d1, d2, d3, d4] = [.val d0, .val d1, .val d2, .val d3, .val d4, .non, .non, .non, .non, .non, .non, .non, .non, .non, .non, .non, .non, .non, .non, .non, .non] := rfl
theorem yst_21_6 (d0 d1 d2 d3 d4 d5 : D) : startE 21 [d0, d1, d2, d3, d4, d5] = [.val d0, .val d1, .val d2, .val d3, .val d4, .val d5, .non, .non, .non, .non, .non, .non, .non, .non, .non, .non, .non, .non, .non, .non, .non] := rfl
theorem yst_21_7 (d0 d1 d2 d3 d4 d5 d6 : D) : startE 21 [d0, d1, d2, d3, d4, d5, d6] = [.val d0, .val d1, .val d2, .val d3, .val d4, .val d5, .val d6, .non, .non, .non, .non, .non, .non, .non, .non, .non, .non, .non, .non, .non, .non] := rfl
theorem yst_21_8 (d0 d1 d2 d3 d4 d5 d6 d7 : D) : startE 21 [d0, d1, d2, d3, d4, d5, d6, d7] = [.val d0, .val d1, .val d2, .val d3, .val d4, .val d5, .val d6, .val d7, .non, .non, .non, .non, .non, .non, .non, .non, .non, .non, .non, .non, .non] := rfl
theorem yst_21_9 (d0 d1 d2 d3 d4 d5 d6 d7 d8 : D) : startE 21 [d0, d1, d2, d3, d4, d5, d6, d7, d8] = [.val d0, .val d1, .val d2, .val d3, .val d4, .val d5, .val d6, .val d7, .val d8, .non, .non, .non, .non, .non, .non, .non, .non, .non, .non, .non, .non] := rfl
theorem yst_22_0  : startE 22 [] = [.non, .non, .non, .non, .non, .non, .non, .non, .non, .non, .non, .non, .non, .non, .non, .non, .non, .non, .non, .non, .non, .non] := rfl
theorem yst_22_1 (d0 : D) : startE 22 [d0] = [.val d0, .non, .non, .non, .non, .non, .non, .non, .non, .non, .non, .non, .non, .non, .non, .non, .non, .non, .non, .non, .non, .non] := rfl
theorem yst_22_2 (d0 d1 : D) : startE 22 [d0, d1] = [.val d0, .val d1, .non, .non, .non, .non, .non, .non, .non, .non, .non, .non, .non, .non, .non, .non, .non, .non, .non, .non, .non, .non] := rfl
theorem yst_22_3 (d0 d1 d2 : D) : startE 22 [d0, d1, d2] = [.val d0, .val d1, .val d2, .non, .non, .non, .non, .non, .non, .non, .non, .non, .non, .non, .non, .non, .non, .non, .non, .non, .non, .non] := rfl
theorem yst_22_4 (d0 d1 d2 d3 : D) : startE 22 [d0, d1, d2, d3] = [.val d0, .val d1, .val d2, .val d3, .non, .non, .non, .non, .non, .non, .non, .non, .non, .non, .non, .non, .non, .non, .non, .non, .non, .non] := rfl
theorem yst_22_5 (d0 d1 d2 d3 d4 : D) : startE 22 [d0, d1, d2, d3, d4] = [.val d0, .val d1, .val d2, .val d3, .val d4, .non, .non, .non, .non, .non, .non, .non, .non, .non, .non, .non, .non, .non, .non, .non, .non, .non] := rfl
theorem yst_22_6 (d0 d1 d2 d3 d4 d5 : D) : startE 22 [d0, d1, d2, d3, d4, d5] = [.val d0, .val d1, .val d2, .val d3, .val d4, .val d5, .non, .non, .non, .non, .non, .non, .non, .non, .non, .non, .non, .non, .non, .non, .non, .non] := rfl
theorem yst_22_7 (d0 d1 d2 d3 d4 d5 d6 : D) : startE 22 [d0, d1, d2, d3, d4, d5, d6] = [.val d0, .val d1, .val d2, .val d3, .val d4, .val d5, .val d6, .non, .non, .non, .non, .non, .non, .non, .non, .non, .non, .non, .non, .non, .non, .non] := rfl
theorem yst_22_8 (d0 d1 d2 d3 d4 d5 d6 d7 : D) : startE 22 [d0, d1, d2, d3, d4, d5, d6, d7] = [.val d0, .val d1, .val d2, .val d3, .val d4, .val d5, .val d6, .val d7, .non, .non, .non, .non, .non, .non, .non, .non, .non, .non, .non, .non, .non, .non] := rfl
theorem yst_22_9 (d0 d1 d2 d3 d4 d5 d6 d7 d8 : D) : startE 22 [d0, d1, d2, d3, d4, d5, d6, d7, d8] = [.val d0, .val d1, .val d2, .val d3, .val d4, .val d5, .val d6, .val d7, .val d8, .non, .non, .non, .non, .non, .non, .non, .non, .non, .non, .non, .non, .non] := rfl
theorem yst_23_0  : startE 23 [] = [.non, .non, .non, .non, .non, .non, .non, .non, .non, .non, .non, .non, .non, .non, .non, .non, .non, .non, .non, .non, .non, .non, .non] := rfl
theorem yst_23_1 (d0 : D) : startE 23 [d0] = [.val d0, .non, .non, .non, .non, .non, .non, .non, .non, .non, .non, .non, .non, .non, .non, .non, .non, .non, .non, .non, .non, .non, .non] := rfl
theorem yst_23_2 (d0 d1 : D) : startE 23 [d0, d1] = [.val d0, .val d1, .non, .non, .non, .non, .non, .non, .non, .non, .non, .non, .non, .non, .non, .non, .non, .non, .non, .non, .non, .non, .non] := rfl
theorem yst_23_3 (d0 d1 d2 : D) : startE 23 [d0, d1, d2] = [.val d0, .val d1, .val d2, .non, .non, .non, .non, .non, .non, .non, .non, .non, .non, .non, .non, .non, .non, .non, .non, .non, .non, .non, .non] := rfl
theorem yst_23_4 (d0 d1 d2 d3 : D) : startE 23 [d0, d1, d2, d3] = [.val d0, .val d1, .val d2, .val d3, .non, .non, .non, .non, .non, .non, .non, .non, .non, .non, .non, .non, .non, .non, .non, .non, .non, .non, .non] := rfl
theorem yst_23_5 (d0 d1 d2 d3 d4 : D) : startE 23 [d0, d1, d2, d3, d4] = [.val d0, .val d1, .val d2, .val d3, .val d4, .non, .non, .non, .non, .non, .non, .non, .non, .non, .non, .non, .non, .non, .non, .non, .non, .non, .non] := rfl
theorem yst_23_6 (d0 d1 d2 d3 d4 d5 : D) : startE 23 [d0, d1, d2, d3, d4, d5] = [.val d0, .val d1, .val d2, .val d3, .val d4, .val d5, .non, .non, .non, .non, .non, .non, .non, .non, .non, .non, .non, .non, .non, .non, .non, .non, .non] := rfl
theorem yst_23_7 (d0 d1 d2 d3 d4 d5 d6 : D) : startE 23 [d0, d1, d2, d3, d4, d5, d6] = [.val d0, .val d1, .val d2, .val d3, .val d4, .val d5, .val d6, .non, .non, .non, .non, .non, .non, .non, .non, .non, .non, .non, .non, .non, .non, .non, .non] := rfl
theorem yst_23_8 (d0 d1 d2 d3 d4 d5 d6 d7 : D) : startE 23 [d0, d1, d2, d3, d4, d5, d6, d7] = [.val d0, .val d1, .val d2, .val d3, .val d4, .val d5, .val d6, .val d7, .non, .non, .non, .non, .non, .non, .non, .non, .non, .non, .non, .non, .non, .non, .non] := rfl
theorem yst_23_9 (d0 d1 d2 d3 d4 d5 d6 d7 d8 : D) : startE 23 [d0, d1, d2, d3, d4, d5, d6, d7, d8] = [.val d0, .val d1, .val d2, .val d3, .val d4, .val d5, .val d6, .val d7, .val d8, .non, .non, .non, .non, .non, .non, .non, .non, .non, .non, .non, .non, .non, .non] := rfl
theorem yst_24_0  : startE 24 [] = [.non, .non, .non, .non, .non, .non, .non, .non, .non, .non, .non, .non, .non, .non, .non, .non, .non, .non, .non, .non, .non, .non, .non, .non] := rfl
theorem yst_24_1 (d0 : D) : startE 24 [d0] = [.val d0, .non, .non, .non, .non, .non, .non, .non, .non, .non, .non, .non, .non, .non, .non, .non, .non, .non, .non, .non, .non, .non, .non, .non] := rfl
theorem yst_24_2 (d0 d1 : D) : startE 24 [d0, d1] = [.val d0, .val d1, .non, .non, .non, .non, .non, .non, .non, .non, .non, .non, .non, .non, .non, .non, .non, .non, .non, .non, .non, .non, .non, .non] := rfl
theorem yst_24_3 (d0 d1 d2 : D) : startE 24 [d0, d1, d2] = [.val d0, .val d1, .val d2, .non, .non, .non, .non, .non, .non, .non, .non, .non, .non, .non, .non, .non, .non, .non, .non, .non, .non, .non, .non, .non] := rfl
theorem yst_24_4 (d0 d1 d2 d3 : D) : startE 24 [d0, d1, d2, d3] = [.val d0, .val d1, .val d2, .val d3, .non, .non, .non, .non, .non, .non, .non, .non, .non, .non, .non, .non, .non, .non, .non, .non, .non, .non, .non, .non] := rfl
theorem yst_24_5 (d0 d1 d2 d3 d4 : D) : startE 24 [d0, d1, d2, d3, d4] = [.val d0, .val d1, .val d2, .val d3, .val d4, .non, .non, .non, .non, .non, .non, .non, .non, .non, .non, .non, .non, .non, .non, .non, .non, .non, .non, .non] := rfl
theorem yst_24_6 (d0 d1 d2 d3 d4 d5 : D) : startE 24 [d0, d1, d2, d3, d4, d5] = [.val d0, .val d1, .val d2, .val d3, .val d4, .val d5, .non, .non, .non, .non, .non, .non, .non, .non, .non, .non, .non, .non, .non, .non, .non, .non, .non, .non] := rfl
theorem yst_24_7 (d0 d1 d2 d3 d4 d5 d6 : D) : startE 24 [d0, d1, d2, d3, d4, d5, d6] = [.val d0, .val d1, .val d2, .val d3, .val d4, .val d5, .val d6, .non, .non, .non, .non, .non, .non, .non, .non, .non, .non, .non, .non, .non, .non, .non, .non, .non] := rfl
theorem yst_24_8 (d0 d1 d2 d3 d4 d5 d6 d7 : D) : startE 24 [d0, d1, d2, d3, d4, d5, d6, d7] = [.val d0, .val d1, .val d2, .val d3, .val d4, .val d5, .val d6, .val d7, .non, .non, .non, .non, .non, .non, .non, .non, .non, .non, .non, .non, .non, .non, .non, .non] := rfl
theorem yst_24_9 (d0 d1 d2 d3 d4 d5 d6 d7 d8 : D) : startE 24 [d0, d1, d2, d3, d4, d5, d6, d7, d8] = [.val d0, .val d1, .val d2, .val d3, .val d4, .val d5, .val d6, .val d7, .val d8, .non, .non, .non, .non, .non, .non, .non, .non, .non, .non, .non, .non, .non, .non, .non] := rfl
theorem yst_25_0  : startE 25 [] = [.non, .non, .non, .non, .non, .non, .non, .non, .non, .non, .non, .non, .non, .non, .non, .non, .non, .non, .non, .non, .non, .non, .non, .non, .non] := rfl
theorem yst_25_1 (d0 : D) : startE 25 [d0] = [.val d0, .non, .non, .non, .non, .non, .non, .non, .non, .non, .non, .non, .non, .non, .non, .non, .non, .non, .non, .non, .non, .non, .non, .non, .non] := rfl
theorem yst_25_2 (d0 d1 : D) : startE 25 [d0, d1] = [.val d0, .val d1, .non, .non, .non, .non, .non, .non, .non, .non, .non, .non, .non, .non, .non, .non, .non, .non, .non, .non, .non, .non, .non, .non, .non] := rfl
theorem yst_25_3 (d0 d1 d2 : D) : startE 25 [d0, d1, d2] = [.val d0, .val d1, .val d2, .non, .non, .non, .non, .non, .non, .non, .non, .non, .non, .non, .non, .non, .non, .non, .non, .non, .non, .non, .non, .non, .non] := rfl
theorem yst_25_4 (d0 d1 d2 d3 : D) : startE 25 [d0, d1, d2, d3] = [.val d0, .val d1, .val d2, .val d3, .non, .non, .non, .non, .non, .non, .non, .non, .non, .non, .non, .non, .non, .non, .non, .non, .non, .non, .non, .non, .non] := rfl
theorem yst_25_5 (d0 d1 d2 d3 d4 : D) : startE 25 [d0, d1, d2, d3, d4] = [.val d0, .val d1, .val d2, .val d3, .val d4, .non, .non, .non, .non, .non, .non, .non, .non, .non, .non, .non, .non, .non, .non, .non, .non, .non, .non, .non, .non] := rfl
theorem yst_25_6 (d0 d1 d2 d3 d4 d5 : D) : startE 25 [d0, d1, d2, d3, d4, d5] = [.val d0, .val d1, .val d2, .val d3, .val d4, .val d5, .non, .non, .non, .non, .non, .non, .non, .non, .non, .non, .non, .non, .non, .non, .non, .non, .non, .non, .non] := rfl
theorem yst_25_7 (d0 d1 d2 d3 d4 d5 d6 : D) : startE 25 [d0, d1, d2, d3, d4, d5, d6] = [.val d0, .val d1, .val d2, .val d3, .val d4, .val d5, .val d6, .non, .non, .non, .non, .non, .non, .non, .non, .non, .non, .non, .non, .non, .non, .non, .non, .non, .non] := rfl
theorem yst_25_8 (d0 d1 d2 d3 d4 d5 d6 d7 : D) : startE 25 [d0, d1, d2, d3, d4, d5, d6, d7] = [.val d0, .val d1, .val d2, .val d3, .val d4, .val d5, .val d6, .val d7, .non, .non, .non, .non, .non, .non, .non, .non, .non, .non, .non, .non, .non, .non, .non, .non, .non] := rfl
theorem yst_25_9 (d0 d1 d2 d3 d4 d5 d6 d7 d8 : D) : startE 25 [d0, d1, d2, d3, d4, d5, d6, d7, d8] = [.val d0, .val d1, .val d2, .val d3, .val d4, .val d5, .val d6, .val d7, .val d8, .non, .non, .non, .non, .non, .non, .non, .non, .non, .non, .non, .non, .non, .non, .non, .non] := rfl
theorem yst_26_0  : startE 26 [] = [.non, .non, .non, .non, .non, .non, .non, .non, .non, .non, .non, .non, .non, .non, .non, .non, .non, .non, .non, .non, .non, .non, .non, .non, .non, .non] := rfl
theorem yst_26_1 (d0 : D) : startE 26 [d0] = [.val d0, .non, .non, .non, .non, .non, .non, .non, .non, .non, .non, .non, .non, .non, .non, .non, .non, .non, .non, .non, .non, .non, .non, .non, .non, .non] := rfl
theorem yst_26_2 (d0 d1 : D) : startE 26 [d0, d1] = [.val d0, .val d1, .non, .non, .non, .non, .non, .non, .non, .non, .non, .non, .non, .non, .non, .non, .non, .non, .non, .non, .non, .non, .non, .non, .non, .non] := rfl
theorem yst_26_3 (d0 d1 d2 : D) : startE 26 [d0, d1, d2] = [.val d0, .val d1, .val d2, .non, .non, .non, .non, .non, .non, .non, .non, .non, .non, .non, .non, .non, .non, .non, .non, .non, .non, .non, .non, .non, .non, .non] := rfl
theorem yst_26_4 (d0 d1 d2 d3 : D) : startE 26 [d0, d1, d2, d3] = [.val d0, .val d1, .val d2, .val d3, .non, .non, .non, .non, .non, .non, .non, .non, .non, .non, .non, .non, .non, .non, .non, .non, .non, .non, .non, .non, .non, .non] := rfl
theorem yst_26_5 (d0 d1 d2 d3 d4 : D) : startE 26 [d0, d1, d2, d3, d4] = [.val d0, .val d1, .val d2, .val d3, .val d4, .non, .non, .non, .non, .non, .non, .non, .non, .non, .non, .non, .non, .non, .non, .non, .non, .non, .non, .non, .non, .non] := rfl
theorem yst_26_6 (d0 d1 d2 d3 d4 d5 : D) : startE 26 [d0, d1, d2, d3, d4, d5] = [.val d0, .val d1, .val d2, .val d3, .val d4, .val d5, .non, .non, .non, .non, .non, .non, .non, .non, .non, .non, .non, .non, .non, .non, .non, .non, .non, .non, .non, .non] := rfl
theorem yst_26_7 (d0 d1 d2 d3 d4 d5 d6 : D) : startE 26 [d0, d1, d2, d3, d4, d5, d6] = [.val d0, .val d1, .val d2, .val d3, .val d4, .val d5, .val d6, .non, .non, .non, .non, .non, .non, .non, .non, .non, .non, .non, .non, .non, .non, .non, .non, .non, .non, .non] := rfl
theorem yst_26_8 (d0 d1 d2 d3 d4 d5 d6 d7 : D) : startE 26 [d0, d1, d2, d3, d4, d5, d6, d7] = [.val d0, .val d1, .val d2, .val d3, .val d4, .val d5, .val d6, .val d7, .non, .non, .non, .non, .non, .non, .non, .non, .non, .non, .non, .non, .non, .non, .non, .non, .non, .non] := rfl
theorem yst_26_9 (d0 d1 d2 d3 d4 d5 d6 d7 d8 : D) : startE 26 [d0, d1, d2, d3, d4, d5, d6, d7, d8] = [.val d0, .val d1, .val d2, .val d3, .val d4, .val d5, .val d6, .val d7, .val d8, .non, .non, .non, .non, .non, .non, .non, .non, .non, .non, .non, .non, .non, .non, .non, .non, .non] := rfl
theorem yst_27_0  : startE 27 [] = [.non, .non, .non, .non, .non, .non, .non, .non, .non, .non, .non, .non, .non, .non, .non, .non, .non, .non, .non, .non, .non, .non, .non, .non, .non, .non, .non] := rfl
theorem yst_27_1 (d0 : D) : startE 27 [d0] = [.val d0, .non, .non, .non, .non, .non, .non, .non, .non, .non, .non, .non, .non, .non, .non, .non, .non, .non, .non, .non, .non, .non, .non, .non, .non, .non, .non] := rfl
theorem yst_27_2 (d0 d1 : D) : startE 27 [d0, d1] = [.val d0, .val d1, .non, .non, .non, .non, .non, .non, .non, .non, .non, .non, .non, .non, .non, .non, .non, .non, .non, .non, .non, .non, .non, .non, .non, .non, .non] := rfl
theorem yst_27_3 (d0 d1 d2 : D) : startE 27 [d0, d1, d2] = [.val d0, .val d1, .val d2, .non, .non, .non, .non, .non, .non, .non, .non, .non, .non, .non, .non, .non, .non, .non, .non, .non, .non, .non, .non, .non, .non, .non, .non] := rfl
theorem yst_27_4 (d0 d1 d2 d3 : D) : startE 27 [d0, d1, d2, d3] = [.val d0, .val d1, .val d2, .val d3, .non, .non, .non, .non, .non, .non, .non, .non, .non, .non, .non, .non, .non, .non, .non, .non, .non, .non, .non, .non, .non, .non, .non] := rfl
theorem yst_27_5 (d0 d1 d2 d3 d4 : D) : startE 27 [d0, d1, d2, d3, d4] = [.val d0, .val d1, .val d2, .val d3, .val d4, .non, .non, .non, .non, .non, .non, .non, .non, .non, .non, .non, .non, .non, .non, .non, .non, .non, .non, .non, .non, .non, .non] := rfl
theorem yst_27_6 (d0 d1 d2 d3 d4 d5 : D) : startE 27 [d0, d1, d2, d3, d4, d5] = [.val d0, .val d1, .val d2, .val d3, .val d4, .val d5, .non, .non, .non, .non, .non, .non, .non, .non, .non, .non, .non, .non, .non, .non, .non, .non, .non, .non, .non, .non, .non] := rfl
theorem yst_27_7 (d0 d1 d2 d3 d4 d5 d6 : D) : startE 27 [d0, d1, d2, d3, d4, d5, d6] = [.val d0, .val d1, .val d2, .val d3, .val d4, .val d5, .val d6, .non, .non, .non, .non, .non, .non, .non, .non, .non, .non, .non, .non, .non, .non, .non, .non, .non, .non, .non, .non] := rfl
theorem yst_27_8 (d0 d1 d2 d3 d4 d5 d6 d7 : D) : startE 27 [d0, d1, d2, d3, d4, d5, d6, d7] = [.val d0, .val d1, .val d2, .val d3, .val d4, .val d5, .val d6, .val d7, .non, .non, .non, .non, .non, .non, .non, .non, .non, .non, .non, .non, .non, .non, .non, .non, .non, .non, .non] := rfl
theorem yst_27_9 (d0 d1 d2 d3 d4 d5 d6 d7 d8 : D) : startE 27 [d0, d1, d2, d3, d4, d5, d6, d7, d8] = [.val d0, .val d1, .val d2, .val d3, .val d4, .val d5, .val d6, .val d7, .val d8, .non, .non, .non, .non, .non, .non, .non, .non, .non, .non, .non, .non, .non, .non, .non, .non, .non, .non] := rfl
theorem yst_28_0  : startE 28 [] = [.non, .non, .non, .non, .non, .non, .non, .non, .non, .non, .non, .non, .non, .non, .non, .non, .non, .non, .non, .non, .non, .non, .non, .non, .non, .non, .non, .non] := rfl
theorem yst_28_1 (d0 : D) : startE 28 [d0] = [.val d0, .non, .non, .non, .non, .non, .non, .non, .non, .non, .non, .non, .non, .non, .non, .non, .non, .non, .non, .non, .non, .non, .non, .non, .non, .non, .non, .non] := rfl
theorem yst_28_2 (d0 d1 : D) : startE 28 [d0, d1] = [.val d0, .val d1, .non, .non, .non, .non, .non, .non, .non, .non, .non, .non, .non, .non, .non, .non, .non, .non, .non, .non, .non, .non, .non, .non, .non, .non, .non, .non] := rfl
theorem yst_28_3 (d0 d1 d2 : D) : startE 28 [d0, d1, d2] = [.val d0, .val d1, .val d2, .non, .non, .non, .non, .non, .non, .non, .non, .non, .non, .non, .non, .non, .non, .non, .non, .non, .non, .non, .non, .non, .non, .non, .non, .non] := rfl
theorem yst_28_4 (d0 d1 d2 d3 : D) : startE 28 [d0, d1, d2, d3] = [.val d0, .val d1, .val d2, .val d3, .non, .non, .non, .non, .non, .non, .non, .non, .non, .non, .non, .non, .non, .non, .non, .non, .non, .non, .non, .non, .non, .non, .non, .non] := rfl
theorem yst_28_5 (d0 d1 d2 d3 d4 : D) : startE 28 [d0, d1, d2, d3, d4] = [.val d0, .val d1, .val d2, .val d3, .val d4, .non, .non, .non, .non, .non, .non, .non, .non, .non, .non, .non, .non, .non, .non, .non, .non, .non, .non, .non, .non, .non, .non, .non] := rfl
theorem yst_28_6 (d0 d1 d2 d3 d4 d5 : D) : startE 28 [d0, d1, d2, d3, d4, d5] = [.val d0, .val d1, .val d2, .val d3, .val d4, .val d5, .non, .non, .non, .non, .non, .non, .non, .non, .non, .non, .non, .non, .non, .non, .non, .non, .non, .non, .non, .non, .non, .non] := rfl
theorem yst_28_7 (d0 d1 d2 d3 d4 d5 d6 : D) : startE 28 [d0, d1, d2, d3, d4, d5, d6] = [.val d0, .val d1, .val d2, .val d3, .val d4, .val d5, .val d6, .non, .non, .non, .non, .non, .non, .non, .non, .non, .non, .non, .non, .non, .non, .non, .non, .non, .non, .non, .non, .non] := rfl
theorem yst_28_8 (d0 d1 d2 d3 d4 d5 d6 d7 : D) : startE 28 [d0, d1, d2, d3, d4, d5, d6, d7] = [.val d0, .val d1, .val d2, .val d3, .val d4, .val d5, .val d6, .val d7, .non, .non, .non, .non, .non, .non, .non, .non, .non, .non, .non, .non, .non, .non, .non, .non, .non, .non, .non, .non] := rfl
theorem yst_28_9 (d0 d1 d2 d3 d4 d5 d6 d7 d8 : D) : startE 28 [d0, d1, d2, d3, d4, d5, d6, d7, d8] = [.val d0, .val d1, .val d2, .val d3, .val d4, .val d5, .val d6, .val d7, .val d8, .non, .non, .non, .non, .non, .non, .non, .non, .non, .non, .non, .non, .non, .non, .non, .non, .non, .non, .non] := rfl
theorem yst_29_0  : startE 29 [] = [.non, .non, .non, .non, .non, .non, .non, .non, .non, .non, .non, .non, .non, .non, .non, .non, .non, .non, .non, .non, .non, .non, .non, .non, .non, .non, .non, .non, .non] := rfl
theorem yst_29_1 (d0 : D) : startE 29 [d0] = [.val d0, .non, .non, .non, .non, .non, .non, .non, .non, .non, .non, .non, .non, .non, .non, .non, .non, .non, .non, .non, .non, .non, .non, .non, .non, .non, .non, .non, .non] := rfl
theorem yst_29_2 (d0 d1 : D) : startE 29 [d0, d1] = [.val d0, .val d1, .non, .non, .non, .non, .non, .non, .non, .non, .non, .non, .non, .non, .non, .non, .non, .non, .non, .non, .non, .non, .non, .non, .non, .non, .non, .non, .non] := rfl
theorem yst_29_3 (d0 d1 d2 : D) : startE 29 [d0, d1, d2] = [.val d0, .val d1, .val d2, .non, .non, .non, .non, .non, .non, .non, .non, .non, .non, .non, .non, .non, .non, .non, .non, .non, .non, .non, .non, .non, .non, .non, .non, .non, .non] := rfl
theorem yst_29_4 (d0 d1 d2 d3 : D) : startE 29 [d0, d1, d2, d3] = [.val d0, .val d1, .val d2, .val d3, .non, .non, .non, .non, .non, .non, .non, .non, .non, .non, .non, .non, .non, .non, .non, .non, .non, .non, .non, .non, .non, .non, .non, .non, .non] := rfl
theorem yst_29_5 (d0 d1 d2 d3 d4 : D) : startE 29 [d0, d1, d2, d3, d4] = [.val d0, .val d1, .val d2, .val d3, .val d4, .non, .non, .non, .non, .non, .non, .non, .non, .non, .non, .non, .non, .non, .non, .non, .non, .non, .non, .non, .non, .non, .non, .non, .non] := rfl
theorem yst_29_6 (d0 d1 d2 d3 d4 d5 : D) : startE 29 [d0, d1, d2, d3, d4, d5] = [.val d0, .val d1, .val d2, .val d3, .val d4, .val d5, .non, .non, .non, .non, .non, .non, .non, .non, .non, .non, .non, .non, .non, .non, .non, .non, .non, .non, .non, .non, .non, .non, .non] := rfl
theorem yst_29_7 (d0 d1 d2 d3 d4 d5 d6 : D) : startE 29 [d0, d1, d2, d3, d4, d5, d6] = [.val d0, .val d1, .val d2, .val d3, .val d4, .val d5, .val d6, .non, .non, .non, .non, .non, .non, .non, .non, .non, .non, .non, .non, .non, .non, .non, .non, .non, .non, .non, .non, .non, .non] := rfl
theorem yst_29_8 (d0 d1 d2 d3 d4 d5 d6 d7 : D) : startE 29 [d0, d1, d2, d3, d4, d5, d6, d7] = [.val d0, .val d1, .val d2, .val d3, .val d4, .val d5, .val d6, .val d7, .non, .non, .non, .non, .non, .non, .non, .non, .non, .non, .non, .non, .non, .non, .non, .non, .non, .non, .non, .non, .non] := rfl
theorem yst_29_9 (d0 d1 d2 d3 d4 d5 d6 d7 d8 : D) : startE 29 [d0, d1, d2, d3, d4, d5, d6, d7, d8] = [.val d0, .val d1, .val d2, .val d3, .val d4, .val d5, .val d6, .val d7, .val d8, .non, .non, .non, .non, .non, .non, .non, .non, .non, .non, .non, .non, .non, .non, .non, .non, .non, .non, .non, .non] := rfl
theorem yst_30_0  : startE 30 [] = [.non, .non, .non, .non, .non, .non, .non, .non, .non, .non, .non, .non, .non, .non, .non, .non, .non, .non, .non, .non, .non, .non, .non, .non, .non, .non, .non, .non, .non, .non] := rfl
theorem yst_30_1 (d0 : D) : startE 30 [d0] = [.val d0, .non, .non, .non, .non, .non, .non, .non, .non, .non, .non, .non, .non, .non, .non, .non, .non, .non, .non, .non, .non, .non, .non, .non, .non, .non, .non, .non, .non, .non] := rfl
theorem yst_30_2 (d0 d1 : D) : startE 30 [d0, d1] = [.val d0, .val d1, .non, .non, .non, .non, .non, .non, .non, .non, .non, .non, .non, .non, .non, .non, .non, .non, .non, .non, .non, .non, .non, .non, .non, .non, .non, .non, .non, .non] := rfl
theorem yst_30_3 (d0 d1 d2 : D) : startE 30 [d0, d1, d2] = [.val d0, .val d1, .val d2, .non, .non, .non, .non, .non, .non, .non, .non, .non, .non, .non, .non, .non, .non, .non, .non, .non, .non, .non, .non, .non, .non, .non, .non, .non, .non, .non] := rfl
theorem yst_30_4 (d0 d1 d2 d3 : D) : startE 30 [d0, d1, d2, d3] = [.val d0, .val d1, .val d2, .val d3, .non, .non, .non, .non, .non, .non, .non, .non, .non, .non, .non, .non, .non, .non, .non, .non, .non, .non, .non, .non, .non, .non, .non, .non, .non, .non] := rfl
theorem yst_30_5 (d0 d1 d2 d3 d4 : D) : startE 30 [d0, d1, d2, d3, d4] = [.val d0, .val d1, .val d2, .val d3, .val d4, .non, .non, .non, .non, .non, .non, .non, .non, .non, .non, .non, .non, .non, .non, .non, .non, .non, .non, .non, .non, .non, .non, .non, .non, .non] := rfl
theorem yst_30_6 (d0 d1 d2 d3 d4 d5 : D) : startE 30 [d0, d1, d2, d3, d4, d5] = [.val d0, .val d1, .val d2, .val d3, .val d4, .val d5, .non, .non, .non, .non, .non, .non, .non, .non, .non, .non, .non, .non, .non, .non, .non, .non, .non, .non, .non, .non, .non, .non, .non, .non] := rfl
theorem yst_30_7 (d0 d1 d2 d3 d4 d5 d6 : D) : startE 30 [d0, d1, d2, d3, d4, d5, d6] = [.val d0, .val d1, .val d2, .val d3, .val d4, .val d5, .val d6, .non, .non, .non, .non, .non, .non, .non, .non, .non, .non, .non, .non, .non, .non, .non, .non, .non, .non, .non, .non, .non, .non, .non] := rfl
theorem yst_30_8 (d0 d1 d2 d3 d4 d5 d6 d7 : D) : startE 30 [d0, d1, d2, d3, d4, d5, d6, d7] = [.val d0, .val d1, .val d2, .val d3, .val d4, .val d5, .val d6, .val d7, .non, .non, .non, .non, .non, .non, .non, .non, .non, .non, .non, .non, .non, .non, .non, .non, .non, .non, .non, .non, .non, .non] := rfl
theorem yst_30_9 (d0 d1 d2 d3 d4 d5 d6 d7 d8 : D) : startE 30 [d0, d1, d2, d3, d4, d5, d6, d7, d8] = [.val d0, .val d1, .val d2, .val d3, .val d4, .val d5, .val d6, .val d7, .val d8, .non, .non, .non, .non, .non, .non, .non, .non, .non, .non, .non, .non, .non, .non, .non, .non, .non, .non, .non, .non, .non] := rfl
theorem yst_31_0  : startE 31 [] = [.non, .non, .non, .non, .non, .non, .non, .non, .non, .non, .non, .non, .non, .non, .non, .non, .non, .non, .non, .non, .non, .non, .non, .non, .non, .non, .non, .non, .non, .non, .non] := rfl
theorem yst_31_1 (d0 : D) : startE 31 [d0] = [.val d0, .non, .non, .non, .non, .non, .non, .non, .non, .non, .non, .non, .non, .non, .non, .non, .non, .non, .non, .non, .non, .non, .non, .non, .non, .non, .non, .non, .non, .non, .non] := rfl
theorem yst_31_2 (d0 d1 : D) : startE 31 [d0, d1] = [.val d0, .val d1, .non, .non, .non, .non, .non, .non, .non, .non, .non, .non, .non, .non, .non, .non, .non, .non, .non, .non, .non, .non, .non, .non, .non, .non, .non, .non, .non, .non, .non] := rfl
theorem yst_31_3 (d0 d1 d2 : D) : startE 31 [d0, d1, d2] = [.val d0, .val d1, .val d2, .non, .non, .non, .non, .non, .non, .non, .non, .non, .non, .non, .non, .non, .non, .non, .non, .non, .non, .non, .non, .non, .non, .non, .non, .non, .non, .non, .non] := rfl
theorem yst_31_4 (d0 d1 d2 d3 : D) : startE 31 [d0, d1, d2, d3] = [.val d0, .val d1, .val d2, .val d3, .non, .non, .non, .non, .non, .non, .non, .non, .non, .non, .non, .non, .non, .non, .non, .non, .non, .non, .non, .non, .non, .non, .non, .non, .non, .non, .non] := rfl
theorem yst_31_5 (d0 d1 d2 d3 d4 : D) : startE 31 [d0, d1, d2, d3, d4] = [.val d0, .val d1, .val d2, .val d3, .val d4, .non, .non, .non, .non, .non, .non, .non, .non, .non, .non, .non, .non, .non, .non, .non, .non, .non, .non, .non, .non, .non, .non, .non, .non, .non, .non] := rfl
theorem yst_31_6 (d0 d1 d2 d3 d4 d5 : D) : startE 31 [d0, d1, d2, d3, d4, d5] = [.val d0, .val d1, .val d2, .val d3, .val d4, .val d5, .non, .non, .non, .non, .non, .non, .non, .non, .non, .non, .non, .non, .non, .non, .non, .non, .non, .non, .non, .non, .non, .non, .non, .non, .non] := rfl
theorem yst_31_7 (d0 d1 d2 d3 d4 d5 d6 : D) : startE 31 [d0, d1, d2, d3, d4, d5, d6] = [.val d0, .val d1, .val d2, .val d3, .val d4, .val d5, .val d6, .non, .non, .non, .non, .non, .non, .non, .non, .non, .non, .non, .non, .non, .non, .non, .non, .non, .non, .non, .non, .non, .non, .non, .non] := rfl
theorem yst_31_8 (d0 d1 d2 d3 d4 d5 d6 d7 : D) : startE 31 [d0, d1, d2, d3, d4, d5, d6, d7] = [.val d0, .val d1, .val d2, .val d3, .val d4, .val d5, .val d6, .val d7, .non, .non, .non, .non, .non, .non, .non, .non, .non, .non, .non, .non, .non, .non, .non, .non, .non, .non, .non, .non, .non, .non, .non] := rfl
theorem yst_31_9 (d0 d1 d2 d3 d4 d5 d6 d7 d8 : D) : startE 31 [d0, d1, d2, d3, d4, d5, d6, d7, d8] = [.val d0, .val d1, .val d2, .val d3, .val d4, .val d5, .val d6, .val d7, .val d8, .non, .non, .non, .non, .non, .non, .non, .non, .non, .non, .non, .non, .non, .non, .non, .non, .non, .non, .non, .non, .non, .non] := rfl
theorem yst_32_0  : startE 32 [] = [.non, .non, .non, .non, .non, .non, .non, .non, .non, .non, .non, .non, .non, .non, .non, .non, .non, .non, .non, .non, .non, .non, .non, .non, .non, .non, .non, .non, .non, .non, .non, .non] := rfl
theorem yst_32_1 (d0 : D) : startE 32 [d0] = [.val d0, .non, .non, .non, .non, .non, .non, .non, .non, .non, .non, .non, .non, .non, .non, .non, .non, .non, .non, .non, .non, .non, .non, .non, .non, .non, .non, .non, .non, .non, .non, .non] := rfl
theorem yst_32_2 (d0 d1 : D) : startE 32 [d0, d1] = [.val d0, .val d1, .non, .non, .non, .non, .non, .non, .non, .non, .non, .non, .non, .non, .non, .non, .non, .non, .non, .non, .non, .non, .non, .non, .non, .non, .non, .non, .non, .non, .non, .non] := rfl
theorem yst_32_3 (d0 d1 d2 : D) : startE 32 [d0, d1, d2] = [.val d0, .val d1, .val d2, .non, .non, .non, .non, .non, .non, .non, .non, .non, .non, .non, .non, .non, .non, .non, .non, .non, .non, .non, .non, .non, .non, .non, .non, .non, .non, .non, .non, .non] := rfl
theorem yst_32_4 (d0 d1 d2 d3 : D) : startE 32 [d0, d1, d2, d3] = [.val d0, .val d1, .val d2, .val d3, .non, .non, .non, .non, .non, .non, .non, .non, .non, .non, .non, .non, .non, .non, .non, .non, .non, .non, .non, .non, .non, .non, .non, .non, .non, .non, .non, .non] := rfl
theorem yst_32_5 (d0 d1 d2 d3 d4 : D) : startE 32 [d0, d1, d2, d3, d4] = [.val d0, .val d1, .val d2, .val d3, .val d4, .non, .non, .non, .non, .non, .non, .non, .non, .non, .non, .non, .non, .non, .non, .non, .non, .non, .non, .non, .non, .non, .non, .non, .non, .non, .non, .non] := rfl
theorem yst_32_6 (d0 d1 d2 d3 d4 d5 : D) : startE 32 [d0, d1, d2, d3, d4, d5] = [.val d0, .val d1, .val d2, .val d3, .val d4, .val d5, .non, .non, .non, .non, .non, .non, .non, .non, .non, .non, .non, .non, .non, .non, .non, .non, .non, .non, .non, .non, .non, .non, .non, .non, .non, .non] := rfl
theorem yst_32_7 (d0 d1 d2 d3 d4 d5 d6 : D) : startE 32 [d0, d1, d2, d3, d4, d5, d6] = [.val d0, .val d1, .val d2, .val d3, .val d4, .val d5, .val d6, .non, .non, .non, .non, .non, .non, .non, .non, .non, .non, .non, .non, .non, .non, .non, .non, .non, .non, .non, .non, .non, .non, .non, .non, .non] := rfl
theorem yst_32_8 (d0 d1 d2 d3 d4 d5 d6 d7 : D) : startE 32 [d0, d1, d2, d3, d4, d5, d6, d7] = [.val d0, .val d1, .val d2, .val d3, .val d4, .val d5, .val d6, .val d7, .non, .non, .non, .non, .non, .non, .non, .non, .non, .non, .non, .non, .non, .non, .non, .non, .non, .non, .non, .non, .non, .non, .non, .non] := rfl
theorem yst_32_9 (d0 d1 d2 d3 d4 d5 d6 d7 d8 : D) : startE 32 [d0, d1, d2, d3, d4, d5, d6, d7, d8] = [.val d0, .val d1, .val d2, .val d3, .val d4, .val d5, .val d6, .val d7, .val d8, .non, .non, .non, .non, .non, .non, .non, .non, .non, .non, .non, .non, .non, .non, .non, .non, .non, .non, .non, .non, .non, .non, .non] := rfl
end DL

/-! DLb: more loops. -/
namespace DL
open PySem L2
abbrev BindM (bind : D → List Slot → (List Slot → Prop) → Prop) : Prop := ∀ d ε P P', (∀ s, P s → P' s) → bind d ε P → bind d ε P'
/-- a comprehension that keeps some of the items as they are -/
theorem loopE_some {α : Type} {bind : D → List Slot → (List Slot → Prop) → Prop} {c e : DE} {ε : List Slot} {en : α → D} (hb : BindM bind) (hc : MonoE c) :
    ∀ (xs : List α) (acc : List D) (Q : D → Prop), acc.length + xs.length ≤ sizeLine →
    (∀ a ∈ xs, bind (en a) ε fun ε' => c ε' fun k => tst k (∀ R : D → Prop, R (en a) → e ε' R) True) → (∀ ys : List α, ys.Sublist xs → Q (.lst (acc ++ ys.map en))) → loopE bind c e ε (xs.map en) acc Q
  | [], acc, Q, hl, h, q => by simpa [loopE] using q [] (List.Sublist.slnil)
  | a :: xs, acc, Q, hl, h, q => by
    unfold loopE
    rw [List.map_cons]
    refine hb _ _ _ _ (fun ε' z => hc _ _ _ (fun k z => ?_) z) (h a List.mem_cons_self)
    rw [List.length_cons] at hl
    have h' := fun b hb => h b (List.mem_cons_of_mem _ hb)
    match k, z with
    | .bl true, z =>
      have z : ∀ R : D → Prop, R (en a) → e ε' R := z
      refine z _ ⟨by omega, loopE_some hb hc xs (acc ++ [en a]) Q (by rw [List.length_append, List.length_singleton]; omega) h' fun ys hy => ?_⟩
      have := q (a :: ys) (hy.cons_cons a)
      simpa using this
    | .bl false, z =>
      exact loopE_some hb hc xs acc Q (by omega) h' fun ys hy => q ys (hy.cons a)
/-- a comprehension without a test over coded items, each result known -/
theorem loopE_map {α : Type} {bind : D → List Slot → (List Slot → Prop) → Prop} {e : DE} {ε : List Slot} {en : α → D} (g : α → D) (hb : BindM bind) (Φ : Sm) :
    ∀ (xs : List α) (acc : List D) (Q : D → Prop), acc.length + xs.length ≤ sizeLine →
    (∀ a ∈ xs, ∀ R : D → Prop, R (g a) → bind (en a) ε fun ε' => e ε' R) → Q (.lst (acc ++ xs.map g)) → loopE bind (semC Φ .no) e ε (xs.map en) acc Q
  | [], acc, Q, hl, h, q => by simpa [loopE] using q
  | a :: xs, acc, Q, hl, h, q => by
    unfold loopE
    rw [List.map_cons]
    rw [List.length_cons] at hl
    refine hb _ _ _ _ (fun ε' z => ?_) (h a List.mem_cons_self (fun y => acc.length < sizeLine ∧ loopE bind (semC Φ .no) e ε (xs.map en) (acc ++ [y]) Q) ⟨by omega, ?_⟩)
    · show e ε' _
      exact z
    · refine loopE_map g hb Φ xs (acc ++ [g a]) Q (by rw [List.length_append, List.length_singleton]; omega) (fun x hx => h x (List.mem_cons_of_mem _ hx)) ?_
      simpa using q
/-- the same over a range of numbers -/
theorem loopE_rng {bind : D → List Slot → (List Slot → Prop) → Prop} {e : DE} {ε : List Slot} (g : Int → D) (hb : BindM bind) (Φ : Sm) (lo hi : Int) (Q : D → Prop) (hl : (hi - lo).toNat ≤ sizeLine)
    (h : ∀ i, lo ≤ i → i < hi → ∀ R : D → Prop, R (g i) → bind (.int i) ε fun ε' => e ε' R) (q : Q (.lst ((List.range (hi - lo).toNat).map fun i : Nat => g (lo + (i : Nat))))) : loopE bind (semC Φ .no) e ε (rangeD lo hi) [] Q := by
  rw [rangeD_map]
  refine loopE_map (en := fun i : Nat => D.int (lo + (i : Nat))) (fun i : Nat => g (lo + (i : Nat))) hb Φ _ [] Q (by simpa using hl) (fun a ha R hR => ?_) (by simpa using q)
  rw [List.mem_range] at ha
  exact h _ (by omega) (by omega) R hR
/-- a for loop that keeps a property -/
theorem loopS_keep {bind : D → List Slot → (List Slot → Prop) → Prop} {b : DS} {E : DEnds} {ε : List Slot} {ds : List D} (I : List Slot → Prop) (hs : MonoS b) (hb : BindM bind)
    (hi : I ε) (h : ∀ d ∈ ds, ∀ ε, I ε → bind d ε fun ε' => b ⟨I, E.rt, E.nx, I⟩ ε') (q : ∀ ε, I ε → E.nx ε) : loopS bind b ds E ε :=
  loopS_raw (I := fun _ ε => I ε) hs hb hi (fun ps d ss ε hI hx => h d (by rw [hx]; simp) ε hI) q
theorem rangeD_nil {lo hi : Int} (h : hi ≤ lo) : rangeD lo hi = [] := by
  unfold rangeD
  rw [show (hi - lo).toNat = 0 by omega]
  rfl
theorem rangeD_cons {lo hi : Int} (h : lo < hi) : rangeD lo hi = .int lo :: rangeD (lo + 1) hi := by
  unfold rangeD
  rw [show (hi - lo).toNat = (hi - (lo + 1)).toNat + 1 by omega, List.range_succ_eq_map, List.map_cons, List.map_map]
  congr 1
  · simp
  · refine List.map_congr_left fun a _ => ?_
    simp only [Function.comp]
    congr 1
    push_cast
    omega
/-- a for loop over a range of numbers -/
theorem loopS_rng {bind : D → List Slot → (List Slot → Prop) → Prop} {b : DS} {E : DEnds} (hi : Int) (I : Int → List Slot → Prop) (hs : MonoS b) (hb : BindM bind)
    : ∀ (lo : Int) (ε : List Slot), (hi0 : I lo ε) → (h : ∀ i, lo ≤ i → i < hi → ∀ ε, I i ε → bind (.int i) ε fun ε' => b ⟨I (i + 1), E.rt, E.nx, I (i + 1)⟩ ε') → (q : ∀ ε, I (if lo ≤ hi then hi else lo) ε → E.nx ε) → loopS bind b (rangeD lo hi) E ε := by
  intro lo ε hi0 h q
  obtain ⟨n, hn⟩ : ∃ n : Nat, (hi - lo).toNat = n := ⟨_, rfl⟩
  induction n generalizing lo ε with
  | zero =>
    rw [rangeD_nil (by omega)]
    unfold loopS
    refine q _ ?_
    split
    · rw [show hi = lo by omega]; exact hi0
    · exact hi0
  | succ n ih =>
    have hlt : lo < hi := by omega
    rw [rangeD_cons hlt]
    unfold loopS
    rw [if_pos (by omega)] at q
    have hn' : ∀ ε', I (lo + 1) ε' → loopS bind b (rangeD (lo + 1) hi) E ε' := fun ε' hi' =>
      ih (lo + 1) ε' hi' (fun i h1 h2 => h i (by omega) h2) (by rw [if_pos (by omega)]; exact q) (by omega)
    exact hb _ _ _ _ (fun ε' z => hs ⟨I (lo + 1), E.rt, E.nx, I (lo + 1)⟩ ⟨loopS bind b (rangeD (lo + 1) hi) E, E.rt, E.nx, loopS bind b (rangeD (lo + 1) hi) E⟩ ε' ⟨hn', fun _ z => z, fun _ z => z, hn'⟩ z) (h lo (by omega) hlt ε hi0)
theorem rangeD_snoc {lo hi : Int} (h : lo < hi) : rangeD lo hi = rangeD lo (hi - 1) ++ [.int (hi - 1)] := by
  unfold rangeD
  rw [show (hi - lo).toNat = (hi - 1 - lo).toNat + 1 by omega, List.range_succ, List.map_append, List.map_singleton]
  congr 2
  congr 1
  omega
/-- a for loop over a range turned about: I i holds when i … have been walked -/
theorem loopS_rrng {bind : D → List Slot → (List Slot → Prop) → Prop} {b : DS} {E : DEnds} (lo : Int) (I : Int → List Slot → Prop) (hs : MonoS b) (hb : BindM bind)
    : ∀ (hi : Int) (ε : List Slot), (hi0 : I hi ε) → (h : ∀ i, lo ≤ i → i < hi → ∀ ε, I (i + 1) ε → bind (.int i) ε fun ε' => b ⟨I i, E.rt, E.nx, I i⟩ ε') → (q : ∀ ε, I (if lo ≤ hi then lo else hi) ε → E.nx ε) → loopS bind b (rangeD lo hi).reverse E ε := by
  intro hi ε hi0 h q
  obtain ⟨n, hn⟩ : ∃ n : Nat, (hi - lo).toNat = n := ⟨_, rfl⟩
  induction n generalizing hi ε with
  | zero =>
    rw [rangeD_nil (by omega)]
    unfold loopS
    refine q _ ?_
    split
    · rw [show lo = hi by omega]; exact hi0
    · exact hi0
  | succ n ih =>
    have hlt : lo < hi := by omega
    rw [rangeD_snoc hlt, List.reverse_append, List.reverse_singleton, List.singleton_append]
    unfold loopS
    rw [if_pos (by omega)] at q
    have hn' : ∀ ε', I (hi - 1) ε' → loopS bind b (rangeD lo (hi - 1)).reverse E ε' := fun ε' hi' =>
      ih (hi - 1) ε' hi' (fun i h1 h2 => h i (by omega) (by omega)) (by rw [if_pos (by omega)]; exact q) (by omega)
    exact hb _ _ _ _ (fun ε' z => hs ⟨I (hi - 1), E.rt, E.nx, I (hi - 1)⟩ ⟨loopS bind b (rangeD lo (hi - 1)).reverse E, E.rt, E.nx, loopS bind b (rangeD lo (hi - 1)).reverse E⟩ ε' ⟨hn', fun _ z => z, fun _ z => z, hn'⟩ z) (h (hi - 1) (by omega) (by omega) ε (by rw [show hi - 1 + 1 = hi by omega]; exact hi0))
theorem enumD_map {α : Type} (en : α → D) : ∀ (k : Nat) (xs : List α), enumD k (xs.map en) = (xs.zipIdx k).map fun p => .tup [.int (p.2 : Nat), en p.1]
  | k, [] => rfl
  | k, x :: xs => by
    rw [List.map_cons, List.zipIdx_cons, List.map_cons]
    unfold enumD
    rw [enumD_map en (k + 1) xs]
/-- the greatest of numbers that are not below 0, and 0 if there are none -/
def mxL (ns : List Int) : Int := ns.foldr (fun a b => if a > b then a else b) 0
theorem mxL_nil : mxL [] = 0 := rfl
theorem mxL_ge : ∀ (ns : List Int) (y : Int), y ∈ ns → y ≤ mxL ns
  | n :: ns, y, h => by
    have : mxL (n :: ns) = if n > mxL ns then n else mxL ns := rfl
    rw [this]
    rcases List.mem_cons.mp h with rfl | h
    · split <;> omega
    · have := mxL_ge ns y h
      split <;> omega
theorem mxL_0 : ∀ (ns : List Int), 0 ≤ mxL ns
  | [] => by decide
  | n :: ns => by
    have : mxL (n :: ns) = if n > mxL ns then n else mxL ns := rfl
    rw [this]
    have := mxL_0 ns
    split <;> omega
theorem mxL_mem : ∀ (ns : List Int), mxL ns = 0 ∨ mxL ns ∈ ns
  | [] => .inl rfl
  | n :: ns => by
    have : mxL (n :: ns) = if n > mxL ns then n else mxL ns := rfl
    rw [this]
    split
    · exact .inr List.mem_cons_self
    · exact (mxL_mem ns).imp id (List.mem_cons_of_mem _)
theorem mxL_eq {ns : List Int} {m : Int} (h0 : 0 ≤ m) (h : m ∈ ns) (hm : ∀ y ∈ ns, y ≤ m) : m = mxL ns := by
  have h1 := mxL_ge ns m h
  rcases mxL_mem ns with h2 | h2
  · omega
  · have := hm _ h2
    omega
end DL

namespace K70
open PySem L2 DL
def c_parts_of : CSs :=
  .cons (.iff (.cmp .eq (.idx (.var 0) (.lit (.int 0))) (.lit (.str "fact"))) (.cons (.ret (.tup (.nil))) .nil) (.nil)) <|
  .cons (.iff (.cmp .inn (.idx (.var 0) (.lit (.int 0))) (.glob 0)) (.cons (.ret (.slT (.var 0) (.yes (.lit (.int 1))) .no)) .nil) (.nil)) <|
  .cons (.ret (.slT (.var 0) (.yes (.neg (.lit (.int 1)))) .no)) .nil
def c_when_bound : CSs :=
  .cons (.set (.nm 1) (.idx (.var 0) (.lit (.int 0)))) <|
  .cons (.iff (.cmp .inn (.var 1) (.tup (.cons (.lit (.str "also")) (.cons (.lit (.str "but")) (.nil))))) (.cons (.ret (.bi .max2 (.cons (.call 1 (.cons (.idx (.var 0) (.lit (.int 1))) (.nil))) (.cons (.call 1 (.cons (.idx (.var 0) (.lit (.int 2))) (.nil))) (.nil))))) .nil) (.nil)) <|
  .cons (.iff (.cmp .eq (.var 1) (.lit (.str "span"))) (.cons (.ret (.idx (.var 0) (.lit (.int 2)))) .nil) (.nil)) <|
  .cons (.iff (.or (.cmp .eq (.var 1) (.lit (.str "from"))) (.cmp .is (.idx (.var 0) (.lit (.int 4))) (.lit .non))) (.cons (.ret (.idx (.var 0) (.lit (.int 1)))) .nil) (.nil)) <|
  .cons (.ret (.bin .add (.bin .add (.idx (.var 0) (.lit (.int 1))) (.bin .mul (.bin .sub (.idx (.var 0) (.lit (.int 4))) (.lit (.int 1))) (.idx (.var 0) (.lit (.int 3))))) (.idx (.var 0) (.lit (.int 2))))) .nil
def c_horizon : CSs :=
  .cons (.set (.nm 3) (.idx (.var 2) (.lit (.int 0)))) <|
  .cons (.iff (.cmp .eq (.var 3) (.lit (.str "fact"))) (.cons (.ret (.maxD (.lc (.call 1 (.cons (.var 6) (.nil))) (.cons (.nm 4) (.cons (.nm 5) (.cons (.nm 6) (.nil)))) (.seq (.var 1)) (.yes (.cmp .eq (.var 4) (.idx (.var 2) (.lit (.int 1))))) [4, 5, 6]) 0)) .nil) (.nil)) <|
  .cons (.set (.nm 7) (.bi .maxL (.cons (.lc (.call 2 (.cons (.var 0) (.cons (.var 1) (.cons (.var 8) (.nil))))) (.nm 8) (.seq (.call 0 (.cons (.var 2) (.nil)))) .no [8]) (.nil)))) <|
  .cons (.iff (.cmp .eq (.var 3) (.lit (.str "shift"))) (.cons (.ret (.bi .max2 (.cons (.lit (.int 0)) (.cons (.bin .sub (.var 7) (.idx (.var 2) (.lit (.int 1)))) (.nil))))) .nil) (.nil)) <|
  .cons (.iff (.cmp .inn (.var 3) (.tup (.cons (.lit (.str "once")) (.cons (.lit (.str "lately")) (.nil))))) (.cons (.ret (.bin .add (.var 7) (.ite (.cmp .is (.idx (.var 2) (.lit (.int 1))) (.lit .non)) (.var 0) (.idx (.var 2) (.lit (.int 1)))))) .nil) (.nil)) <|
  .cons (.iff (.cmp .inn (.var 3) (.tup (.cons (.lit (.str "since")) (.cons (.lit (.str "sincenot")) (.nil))))) (.cons (.ret (.bin .add (.var 7) (.var 0))) .nil) (.nil)) <|
  .cons (.ret (.var 7)) .nil
def c_law_draws : CSs :=
  .cons (.own 2 (.lc (.bi .int (.cons (.var 3) (.nil))) (.nm 3) (.seq (.var 0)) .no [3])) <|
  .cons (.iff (.cmp .eq (.lenO 2) (.lit (.int 0))) (.cons (.app 2 (.lit (.int 0))) .nil) (.nil)) <|
  .frz 2 <| .cons (.own 4 (.bi .list (.cons (.var 2) (.nil)))) <|
  .cons (.own 5 (.lst (.nil))) <|
  .cons (.forr (.nm 6) (.rng1 (.var 1)) (.cons (.set (.nm 7) (.bin .mod (.var 6) (.lenO 2))) <|
  .cons (.iff (.cmp .ge (.idxO 2 (.var 7)) (.bin .pow (.lit (.int 10)) (.lit (.int 18)))) (.cons (.app 5 (.bin .mod (.bi .int (.cons (.idxO 4 (.var 7)) (.nil))) (.lit (.int 1000)))) <|
  .cons (.setIx 4 (.var 7) (.bin .fdiv (.idxO 4 (.var 7)) (.lit (.int 1000)))) .nil) (.cons (.set (.nm 8) (.bin .mod (.bi .int (.cons (.bin .add (.bin .add (.bin .mul (.idxO 2 (.var 7)) (.lit (.int 48271))) (.bin .mul (.var 6) (.lit (.int 69621)))) (.lit (.int 11))) (.nil))) (.lit (.int 2147483647)))) <|
  .cons (.app 5 (.bin .mod (.bi .int (.cons (.bin .add (.bin .add (.bin .mul (.var 8) (.var 8)) (.bin .mul (.lit (.int 3)) (.var 8))) (.var 6)) (.nil))) (.lit (.int 1000003)))) .nil)) .nil)) <|
  .cons (.rev 5) <|
  .cons (.retO 5) .nil
def c_law_pick : CSs :=
  .cons (.ret (.idx (.var 1) (.call 4 (.cons (.var 0) (.cons (.bi .len (.cons (.var 1) (.nil))) (.nil)))))) .nil
def c_law_size : CSs :=
  .cons (.set (.nm 2) (.call 4 (.cons (.var 0) (.cons (.lit (.int 8)) (.nil))))) <|
  .cons (.iff (.cmp .lt (.var 2) (.lit (.int 5))) (.cons (.ret (.call 4 (.cons (.var 0) (.cons (.lit (.int 12)) (.nil))))) .nil) (.nil)) <|
  .cons (.iff (.cmp .eq (.var 2) (.lit (.int 5))) (.cons (.ret (.call 4 (.cons (.var 0) (.cons (.lit (.int 100)) (.nil))))) .nil) (.nil)) <|
  .cons (.iff (.or (.cmp .eq (.var 2) (.lit (.int 6))) (.cmp .eq (.bi .len (.cons (.var 1) (.nil))) (.lit (.int 0)))) (.cons (.set (.nm 3) (.lit (.int 0))) <|
  .cons (.forr (.nm 4) (.rng1 (.lit (.int 5))) (.cons (.set (.nm 3) (.bin .add (.bin .mul (.var 3) (.lit (.int 1000))) (.call 4 (.cons (.var 0) (.cons (.lit (.int 1000)) (.nil)))))) .nil)) <|
  .cons (.ret (.var 3)) .nil) (.nil)) <|
  .cons (.ret (.bi .abs (.cons (.bi .int (.cons (.idx (.var 1) (.call 4 (.cons (.var 0) (.cons (.bi .len (.cons (.var 1) (.nil))) (.nil))))) (.nil))) (.nil)))) .nil
def c_law_same : CSs :=
  .cons (.iff (.isi (.var 1) [.tuple, .list]) (.cons (.iff (.or (.cmp .ne (.isi (.var 0) [.tuple]) (.isi (.var 1) [.tuple])) (.cmp .ne (.isi (.var 0) [.list]) (.isi (.var 1) [.list]))) (.cons (.ret (.lit (.bl false))) .nil) (.nil)) <|
  .cons (.iff (.cmp .ne (.bi .len (.cons (.var 0) (.nil))) (.bi .len (.cons (.var 1) (.nil)))) (.cons (.ret (.lit (.bl false))) .nil) (.nil)) <|
  .cons (.ret (.cmp .nin (.lit (.bl false)) (.lc (.call 7 (.cons (.idx (.var 0) (.var 2)) (.cons (.idx (.var 1) (.var 2)) (.nil)))) (.nm 2) (.rng1 (.bi .len (.cons (.var 1) (.nil)))) .no [2]))) .nil) (.nil)) <|
  .cons (.iff (.or (.cmp .ne (.isi (.var 0) [.bool]) (.isi (.var 1) [.bool])) (.cmp .ne (.isi (.var 0) [.int]) (.isi (.var 1) [.int]))) (.cons (.ret (.lit (.bl false))) .nil) (.nil)) <|
  .cons (.iff (.or (.cmp .ne (.isi (.var 0) [.str]) (.isi (.var 1) [.str])) (.cmp .ne (.cmp .is (.var 0) (.lit .non)) (.cmp .is (.var 1) (.lit .non)))) (.cons (.ret (.lit (.bl false))) .nil) (.nil)) <|
  .cons (.ret (.cmp .eq (.var 0) (.var 1))) .nil
def c_law_cycle : CSs :=
  .cons (.iff (.cmp .eq (.call 4 (.cons (.var 0) (.cons (.lit (.int 8)) (.nil)))) (.lit (.int 0))) (.cons (.ret (.bin .add (.lit (.int 1)) (.call 4 (.cons (.var 0) (.cons (.lit (.int 60)) (.nil)))))) .nil) (.nil)) <|
  .cons (.ret (.bin .add (.lit (.int 1)) (.call 4 (.cons (.var 0) (.cons (.lit (.int 6)) (.nil)))))) .nil
def c_law_when_bound : CSs :=
  .cons (.iff (.or (.cmp .eq (.idx (.var 0) (.lit (.int 0))) (.lit (.str "also"))) (.cmp .eq (.idx (.var 0) (.lit (.int 0))) (.lit (.str "but")))) (.cons (.ret (.bi .max2 (.cons (.call 9 (.cons (.idx (.var 0) (.lit (.int 1))) (.nil))) (.cons (.call 9 (.cons (.idx (.var 0) (.lit (.int 2))) (.nil))) (.nil))))) .nil) (.nil)) <|
  .cons (.iff (.cmp .eq (.idx (.var 0) (.lit (.int 0))) (.lit (.str "span"))) (.cons (.ret (.idx (.var 0) (.lit (.int 2)))) .nil) (.nil)) <|
  .cons (.iff (.or (.cmp .eq (.idx (.var 0) (.lit (.int 0))) (.lit (.str "from"))) (.cmp .is (.idx (.var 0) (.lit (.int 4))) (.lit .non))) (.cons (.ret (.idx (.var 0) (.lit (.int 1)))) .nil) (.nil)) <|
  .cons (.ret (.bin .add (.bin .add (.idx (.var 0) (.lit (.int 1))) (.bin .mul (.bin .sub (.idx (.var 0) (.lit (.int 4))) (.lit (.int 1))) (.idx (.var 0) (.lit (.int 3))))) (.idx (.var 0) (.lit (.int 2))))) .nil
def c_law_some_columns : CSs :=
  .cons (.ret (.bi .tuple (.cons (.lc (.var 2) (.nm 2) (.seq (.var 1)) (.yes (.cmp .gt (.call 4 (.cons (.var 0) (.cons (.lit (.int 3)) (.nil)))) (.lit (.int 0)))) [2]) (.nil)))) .nil
def c_law_is_pair : CSs :=
  .cons (.ret (.cmp .inn (.var 0) (.lst (.cons (.lit (.str "both")) (.cons (.lit (.str "either")) (.cons (.lit (.str "unless")) (.cons (.lit (.str "since")) (.cons (.lit (.str "sincenot")) (.cons (.lit (.str "until")) (.cons (.lit (.str "untilnot")) (.nil))))))))))) .nil
def c_law_sized_leaf : CSs :=
  .cons (.set (.nm 3) (.call 6 (.cons (.var 0) (.cons (.var 1) (.nil))))) <|
  .cons (.set (.nm 4) (.call 4 (.cons (.var 0) (.cons (.lit (.int 4)) (.nil))))) <|
  .cons (.iff (.cmp .eq (.var 4) (.lit (.int 0))) (.cons (.ret (.tup (.cons (.lit (.str "from")) (.cons (.var 3) (.nil))))) .nil) (.nil)) <|
  .cons (.iff (.cmp .eq (.var 4) (.lit (.int 1))) (.cons (.ret (.tup (.cons (.lit (.str "span")) (.cons (.var 3) (.cons (.bin .add (.bin .add (.var 3) (.lit (.int 1))) (.call 6 (.cons (.var 0) (.cons (.var 1) (.nil))))) (.nil)))))) .nil) (.nil)) <|
  .cons (.set (.nm 5) (.call 5 (.cons (.var 0) (.cons (.lc (.var 6) (.nm 6) (.rng2 (.lit (.int 1)) (.bin .add (.var 2) (.lit (.int 1)))) (.yes (.cmp .eq (.bin .mod (.bi .int (.cons (.var 2) (.nil))) (.var 6)) (.lit (.int 0)))) [6]) (.nil))))) <|
  .cons (.set (.nm 7) (.bin .add (.lit (.int 1)) (.call 4 (.cons (.var 0) (.cons (.var 5) (.nil)))))) <|
  .cons (.iff (.cmp .eq (.call 4 (.cons (.var 0) (.cons (.lit (.int 2)) (.nil)))) (.lit (.int 0))) (.cons (.ret (.tup (.cons (.lit (.str "round")) (.cons (.var 3) (.cons (.var 7) (.cons (.var 5) (.cons (.lit .non) (.nil)))))))) .nil) (.nil)) <|
  .cons (.ret (.tup (.cons (.lit (.str "round")) (.cons (.var 3) (.cons (.var 7) (.cons (.var 5) (.cons (.bin .add (.lit (.int 1)) (.call 6 (.cons (.var 0) (.cons (.var 1) (.nil))))) (.nil)))))))) .nil
def c_law_chained : CSs :=
  .cons (.set (.nm 2) (.idx (.var 0) (.lit (.int 0)))) <|
  .cons (.forr (.nm 3) (.rng2 (.lit (.int 1)) (.bi .len (.cons (.var 0) (.nil)))) (.cons (.set (.nm 4) (.idx (.lst (.cons (.lit (.str "also")) (.cons (.lit (.str "but")) (.nil)))) (.bin .mod (.bi .int (.cons (.idx (.var 1) (.var 3)) (.nil))) (.lit (.int 2))))) <|
  .cons (.iff (.cmp .eq (.bin .mod (.bin .fdiv (.bi .int (.cons (.idx (.var 1) (.var 3)) (.nil))) (.lit (.int 2))) (.lit (.int 2))) (.lit (.int 0))) (.cons (.set (.nm 2) (.tup (.cons (.var 4) (.cons (.var 2) (.cons (.idx (.var 0) (.var 3)) (.nil)))))) .nil) (.cons (.set (.nm 2) (.tup (.cons (.var 4) (.cons (.idx (.var 0) (.var 3)) (.cons (.var 2) (.nil)))))) .nil)) .nil)) <|
  .cons (.ret (.var 2)) .nil
def c_law_tree : CSs :=
  .cons (.set (.nm 3) (.call 13 (.cons (.slL (.var 0) .no (.yes (.bin .add (.var 2) (.lit (.int 1))))) (.cons (.var 1) (.nil))))) <|
  .cons (.iff (.cmp .ge (.bin .add (.var 2) (.lit (.int 1))) (.bi .len (.cons (.var 0) (.nil)))) (.cons (.ret (.var 3)) .nil) (.nil)) <|
  .cons (.set (.nm 4) (.call 13 (.cons (.slL (.var 0) (.yes (.bin .add (.var 2) (.lit (.int 1)))) .no) (.cons (.slL (.var 1) (.yes (.bin .add (.var 2) (.lit (.int 1)))) .no) (.nil))))) <|
  .cons (.ret (.tup (.cons (.idx (.lst (.cons (.lit (.str "also")) (.cons (.lit (.str "but")) (.nil)))) (.bin .mod (.bi .int (.cons (.idx (.var 1) (.lit (.int 0))) (.nil))) (.lit (.int 2)))) (.cons (.var 3) (.cons (.var 4) (.nil)))))) .nil
def c_law_sized_leaves : CSs :=
  .cons (.own 4 (.lc (.call 12 (.cons (.var 0) (.cons (.var 1) (.cons (.var 2) (.nil))))) (.nm 5) (.rng1 (.var 3)) .no [5])) <|
  .cons (.iff (.cmp .eq (.call 4 (.cons (.var 0) (.cons (.lit (.int 4)) (.nil)))) (.lit (.int 0))) (.cons (.setIx 4 (.bin .sub (.var 3) (.lit (.int 1))) (.idxO 4 (.lit (.int 0)))) .nil) (.nil)) <|
  .cons (.retO 4) .nil
def c_law_words : CSs :=
  .cons (.own 2 (.lst (.nil))) <|
  .cons (.forr (.nm 3) (.rng1 (.var 1)) (.cons (.set (.nm 4) (.bin .add (.lit (.int 1)) (.call 4 (.cons (.var 0) (.cons (.lit (.int 3)) (.nil)))))) <|
  .cons (.iff (.cmp .eq (.call 4 (.cons (.var 0) (.cons (.lit (.int 12)) (.nil)))) (.lit (.int 0))) (.cons (.set (.nm 4) (.bin .add (.bin .add (.var 4) (.lit (.int 9))) (.call 4 (.cons (.var 0) (.cons (.lit (.int 12)) (.nil)))))) .nil) (.nil)) <|
  .cons (.set (.nm 5) (.joinS (.lit (.str "")) (.lc (.idx (.lit (.str "abcdefghijklmnopqrstuvwxyz")) (.call 4 (.cons (.var 0) (.cons (.lit (.int 26)) (.nil))))) (.nm 6) (.rng1 (.var 4)) .no [6]))) <|
  .cons (.iff (.lend 2 (.cmp .inn (.var 5) (.var 2))) (.cons (.set (.nm 5) (.bin .add (.lit (.str "zzzz")) (.idx (.lit (.str "abcdefghijklmnopqrstuvwxyz")) (.var 3)))) .nil) (.nil)) <|
  .cons (.app 2 (.var 5)) .nil)) <|
  .cons (.retO 2) .nil
def c_law_number : CSs :=
  .cons (.ret (.bin .mul (.call 6 (.cons (.var 0) (.cons (.var 1) (.nil)))) (.bin .sub (.lit (.int 1)) (.bin .mul (.lit (.int 2)) (.call 4 (.cons (.var 0) (.cons (.lit (.int 2)) (.nil)))))))) .nil
def c_law_worth : CSs :=
  .cons (.iff (.cmp .eq (.call 4 (.cons (.var 0) (.cons (.lit (.int 2)) (.nil)))) (.lit (.int 0))) (.cons (.ret (.call 5 (.cons (.var 0) (.cons (.var 2) (.nil))))) .nil) (.nil)) <|
  .cons (.ret (.call 17 (.cons (.var 0) (.cons (.var 1) (.nil))))) .nil
def c_law_wide_term : CSs :=
  .cons (.iff (.and (.cmp .gt (.bi .len (.cons (.var 3) (.nil))) (.lit (.int 0))) (.cmp .eq (.call 4 (.cons (.var 0) (.cons (.lit (.int 2)) (.nil)))) (.lit (.int 0)))) (.cons (.ret (.tup (.cons (.lit (.str "col")) (.cons (.call 5 (.cons (.var 0) (.cons (.var 3) (.nil)))) (.nil))))) .nil) (.nil)) <|
  .cons (.ret (.tup (.cons (.lit (.str "value")) (.cons (.call 18 (.cons (.var 0) (.cons (.var 1) (.cons (.var 2) (.nil))))) (.nil))))) .nil
def c_law_wide_fact : CSs :=
  .cons (.own 4 (.lc (.tup (.cons (.lit (.str "col")) (.cons (.var 5) (.nil)))) (.nm 5) (.seq (.var 3)) .no [5])) <|
  .cons (.forr (.nm 6) (.rng1 (.call 4 (.cons (.var 0) (.cons (.bin .sub (.lit (.int 9)) (.bi .len (.cons (.var 3) (.nil)))) (.nil))))) (.cons (.iff (.cmp .eq (.call 4 (.cons (.var 0) (.cons (.lit (.int 2)) (.nil)))) (.lit (.int 0))) (.cons (.app 4 (.call 19 (.cons (.var 0) (.cons (.var 1) (.cons (.var 2) (.cons (.var 3) (.nil))))))) .nil) (.nil)) .nil)) <|
  .cons (.set (.nm 7) (.call 4 (.cons (.var 0) (.cons (.bin .add (.lenO 4) (.lit (.int 1))) (.nil))))) <|
  .frz 4 <| .cons (.own 4 (.cat (.slL (.var 4) (.yes (.var 7)) .no) (.slL (.var 4) .no (.yes (.var 7))))) <|
  .cons (.iff (.cmp .eq (.call 4 (.cons (.var 0) (.cons (.lit (.int 2)) (.nil)))) (.lit (.int 0))) (.cons (.rev 4) .nil) (.nil)) <|
  .frz 4 <| .cons (.ret (.tup (.cons (.lit (.str "fact")) (.cons (.call 5 (.cons (.var 0) (.cons (.var 2) (.nil)))) (.cons (.bi .tuple (.cons (.var 4) (.nil))) (.nil)))))) .nil
def c_law_more : CSs :=
  .cons (.own 3 (.bi .list (.cons (.var 2) (.nil)))) <|
  .cons (.forr (.nm 4) (.seq (.var 1)) (.cons (.iff (.lend 3 (.and (.cmp .lt (.lenO 3) (.lit (.int 8))) (.and (.cmp .nin (.var 4) (.var 3)) (.cmp .eq (.call 4 (.cons (.var 0) (.cons (.lit (.int 4)) (.nil)))) (.lit (.int 0)))))) (.cons (.app 3 (.var 4)) .nil) (.nil)) .nil)) <|
  .frz 3 <| .cons (.ret (.bi .tuple (.cons (.bi .sorted (.cons (.var 3) (.nil))) (.nil)))) .nil
def c_law_wide_total : CSs :=
  .cons (.set (.nm 5) (.call 5 (.cons (.var 0) (.cons (.var 3) (.nil))))) <|
  .cons (.set (.nm 6) (.bi .tuple (.cons (.lc (.var 7) (.nm 7) (.seq (.var 3)) (.yes (.cmp .ne (.var 7) (.var 5))) [7]) (.nil)))) <|
  .cons (.set (.nm 8) (.call 21 (.cons (.var 0) (.cons (.var 2) (.cons (.var 6) (.nil)))))) <|
  .cons (.iff (.cmp .eq (.bi .len (.cons (.var 8) (.nil))) (.lit (.int 0))) (.cons (.set (.nm 8) (.tup (.cons (.idx (.var 2) (.lit (.int 0))) (.nil)))) .nil) (.nil)) <|
  .cons (.set (.nm 9) (.call 24 (.cons (.var 0) (.cons (.var 1) (.cons (.var 2) (.cons (.var 8) (.cons (.bin .sub (.var 4) (.lit (.int 1))) (.nil)))))))) <|
  .cons (.set (.nm 10) (.call 5 (.cons (.var 0) (.cons (.lst (.cons (.lit (.str "count")) (.cons (.lit (.str "sum")) (.cons (.lit (.str "least")) (.cons (.lit (.str "most")) (.nil)))))) (.nil))))) <|
  .cons (.iff (.cmp .eq (.var 10) (.lit (.str "count"))) (.cons (.ret (.tup (.cons (.var 10) (.cons (.var 5) (.cons (.var 6) (.cons (.var 9) (.nil))))))) .nil) (.nil)) <|
  .cons (.ret (.tup (.cons (.var 10) (.cons (.var 5) (.cons (.call 5 (.cons (.var 0) (.cons (.var 8) (.nil)))) (.cons (.var 6) (.cons (.var 9) (.nil)))))))) .nil
def c_law_wide_pair : CSs :=
  .cons (.set (.nm 5) (.call 5 (.cons (.var 0) (.cons (.lst (.cons (.lit (.str "both")) (.cons (.lit (.str "either")) (.cons (.lit (.str "unless")) (.cons (.lit (.str "since")) (.cons (.lit (.str "until")) (.cons (.lit (.str "sincenot")) (.cons (.lit (.str "untilnot")) (.nil))))))))) (.nil))))) <|
  .cons (.own 6 (.lst (.cons (.bin .sub (.var 4) (.lit (.int 1))) (.cons (.bi .min2 (.cons (.bin .sub (.var 4) (.lit (.int 1))) (.cons (.bin .add (.lit (.int 1)) (.call 4 (.cons (.var 0) (.cons (.lit (.int 2)) (.nil))))) (.nil)))) (.nil))))) <|
  .cons (.iff (.cmp .eq (.call 4 (.cons (.var 0) (.cons (.lit (.int 2)) (.nil)))) (.lit (.int 0))) (.cons (.rev 6) .nil) (.nil)) <|
  .cons (.set (.nm 7) (.var 3)) <|
  .cons (.set (.nm 8) (.var 3)) <|
  .cons (.iff (.cmp .eq (.var 5) (.lit (.str "unless"))) (.cons (.set (.nm 8) (.call 10 (.cons (.var 0) (.cons (.var 3) (.nil))))) .nil) (.cons (.iff (.cmp .eq (.var 5) (.lit (.str "both"))) (.cons (.set (.nm 7) (.call 10 (.cons (.var 0) (.cons (.var 3) (.nil))))) <|
  .cons (.set (.nm 8) (.bi .tuple (.cons (.lc (.var 9) (.nm 9) (.seq (.var 3)) (.yes (.or (.cmp .nin (.var 9) (.var 7)) (.cmp .eq (.call 4 (.cons (.var 0) (.cons (.lit (.int 2)) (.nil)))) (.lit (.int 0))))) [9]) (.nil)))) .nil) (.cons (.iff (.cmp .ne (.var 5) (.lit (.str "either"))) (.cons (.set (.nm 7) (.call 10 (.cons (.var 0) (.cons (.var 3) (.nil))))) .nil) (.nil)) .nil)) .nil)) <|
  .cons (.set (.nm 10) (.call 24 (.cons (.var 0) (.cons (.var 1) (.cons (.var 2) (.cons (.var 7) (.cons (.idxO 6 (.lit (.int 0))) (.nil)))))))) <|
  .cons (.ret (.tup (.cons (.var 5) (.cons (.var 10) (.cons (.call 24 (.cons (.var 0) (.cons (.var 1) (.cons (.var 2) (.cons (.var 8) (.cons (.idxO 6 (.lit (.int 1))) (.nil))))))) (.nil)))))) .nil
def c_law_wide : CSs :=
  .cons (.iff (.or (.cmp .lt (.var 4) (.lit (.int 2))) (.cmp .eq (.call 4 (.cons (.var 0) (.cons (.lit (.int 9)) (.nil)))) (.lit (.int 0)))) (.cons (.ret (.call 20 (.cons (.var 0) (.cons (.var 1) (.cons (.var 2) (.cons (.var 3) (.nil))))))) .nil) (.nil)) <|
  .cons (.set (.nm 5) (.call 4 (.cons (.var 0) (.cons (.lit (.int 10)) (.nil))))) <|
  .cons (.iff (.cmp .lt (.var 5) (.lit (.int 3))) (.cons (.ret (.call 23 (.cons (.var 0) (.cons (.var 1) (.cons (.var 2) (.cons (.var 3) (.cons (.var 4) (.nil)))))))) .nil) (.nil)) <|
  .cons (.iff (.and (.cmp .lt (.var 5) (.lit (.int 5))) (.cmp .gt (.bi .len (.cons (.var 3) (.nil))) (.lit (.int 0)))) (.cons (.ret (.call 22 (.cons (.var 0) (.cons (.var 1) (.cons (.var 2) (.cons (.var 3) (.cons (.var 4) (.nil)))))))) .nil) (.nil)) <|
  .cons (.iff (.cmp .eq (.var 5) (.lit (.int 5))) (.cons (.set (.nm 6) (.call 21 (.cons (.var 0) (.cons (.var 2) (.cons (.var 3) (.nil)))))) <|
  .cons (.ret (.tup (.cons (.lit (.str "only")) (.cons (.var 3) (.cons (.call 24 (.cons (.var 0) (.cons (.var 1) (.cons (.var 2) (.cons (.var 6) (.cons (.bin .sub (.var 4) (.lit (.int 1))) (.nil))))))) (.nil)))))) .nil) (.nil)) <|
  .cons (.set (.nm 7) (.call 24 (.cons (.var 0) (.cons (.var 1) (.cons (.var 2) (.cons (.var 3) (.cons (.bin .sub (.var 4) (.lit (.int 1))) (.nil)))))))) <|
  .cons (.iff (.and (.cmp .eq (.var 5) (.lit (.int 6))) (.cmp .eq (.bi .len (.cons (.var 3) (.nil))) (.lit (.int 2)))) (.cons (.set (.nm 8) (.idx (.lst (.cons (.var 3) (.cons (.tup (.cons (.idx (.var 3) (.lit (.int 1))) (.cons (.idx (.var 3) (.lit (.int 0))) (.nil)))) (.nil)))) (.call 4 (.cons (.var 0) (.cons (.lit (.int 2)) (.nil)))))) <|
  .cons (.ret (.tup (.cons (.call 5 (.cons (.var 0) (.cons (.lst (.cons (.lit (.str "linked")) (.cons (.lit (.str "way")) (.nil)))) (.nil)))) (.cons (.idx (.var 8) (.lit (.int 0))) (.cons (.idx (.var 8) (.lit (.int 1))) (.cons (.var 7) (.nil))))))) .nil) (.nil)) <|
  .cons (.iff (.cmp .eq (.var 5) (.lit (.int 7))) (.cons (.set (.nm 9) (.call 5 (.cons (.var 0) (.cons (.lst (.cons (.lit (.str "same")) (.cons (.lit (.str "other")) (.cons (.lit (.str "less")) (.nil))))) (.nil))))) <|
  .cons (.set (.nm 10) (.call 19 (.cons (.var 0) (.cons (.var 1) (.cons (.var 2) (.cons (.var 3) (.nil))))))) <|
  .cons (.ret (.tup (.cons (.lit (.str "where")) (.cons (.var 9) (.cons (.var 10) (.cons (.call 19 (.cons (.var 0) (.cons (.var 1) (.cons (.var 2) (.cons (.var 3) (.nil)))))) (.cons (.var 7) (.nil)))))))) .nil) (.nil)) <|
  .cons (.iff (.cmp .eq (.var 5) (.lit (.int 8))) (.cons (.ret (.tup (.cons (.lit (.str "shift")) (.cons (.call 17 (.cons (.var 0) (.cons (.var 1) (.nil)))) (.cons (.var 7) (.nil)))))) .nil) (.nil)) <|
  .cons (.set (.nm 11) (.lit .non)) <|
  .cons (.iff (.cmp .gt (.call 4 (.cons (.var 0) (.cons (.lit (.int 3)) (.nil)))) (.lit (.int 0))) (.cons (.set (.nm 11) (.call 6 (.cons (.var 0) (.cons (.var 1) (.nil))))) .nil) (.nil)) <|
  .cons (.ret (.tup (.cons (.call 5 (.cons (.var 0) (.cons (.lst (.cons (.lit (.str "once")) (.cons (.lit (.str "lately")) (.cons (.lit (.str "soon")) (.cons (.lit (.str "henceforth")) (.nil)))))) (.nil)))) (.cons (.var 11) (.cons (.var 7) (.nil)))))) .nil
def c_law_wide_columns : CSs :=
  .cons (.set (.nm 2) (.call 4 (.cons (.var 0) (.cons (.lit (.int 4)) (.nil))))) <|
  .cons (.iff (.cmp .eq (.call 4 (.cons (.var 0) (.cons (.lit (.int 6)) (.nil)))) (.lit (.int 0))) (.cons (.set (.nm 2) (.lit (.int 8))) .nil) (.nil)) <|
  .cons (.ret (.bi .tuple (.cons (.bi .sorted (.cons (.slL (.var 1) .no (.yes (.var 2))) (.nil))) (.nil)))) .nil
def c_law_parts : CSs :=
  .cons (.iff (.cmp .eq (.idx (.var 0) (.lit (.int 0))) (.lit (.str "fact"))) (.cons (.ret (.lst (.nil))) .nil) (.nil)) <|
  .cons (.iff (.call 11 (.cons (.idx (.var 0) (.lit (.int 0))) (.nil))) (.cons (.ret (.lst (.cons (.idx (.var 0) (.lit (.int 1))) (.cons (.idx (.var 0) (.lit (.int 2))) (.nil))))) .nil) (.nil)) <|
  .cons (.ret (.lst (.cons (.idx (.var 0) (.bin .sub (.bi .len (.cons (.var 0) (.nil))) (.lit (.int 1)))) (.nil)))) .nil
def c_law_depth : CSs :=
  .cons (.ret (.bin .add (.lit (.int 1)) (.bi .maxL (.cons (.cat (.lst (.cons (.lit (.int 0)) (.nil))) (.lc (.call 27 (.cons (.var 1) (.nil))) (.nm 1) (.seq (.call 26 (.cons (.var 0) (.nil)))) .no [1])) (.nil))))) .nil
def c_law_wrapped : CSs :=
  .cons (.forr (.nm 4) (.rng1 (.lit (.int 14))) (.cons (.iff (.cmp .ge (.call 27 (.cons (.var 2) (.nil))) (.var 3)) (.cons (.brk) .nil) (.nil)) <|
  .cons (.set (.nm 5) (.call 4 (.cons (.var 0) (.cons (.lit (.int 3)) (.nil))))) <|
  .cons (.iff (.cmp .eq (.var 5) (.lit (.int 0))) (.cons (.set (.nm 2) (.tup (.cons (.lit (.str "shift")) (.cons (.call 17 (.cons (.var 0) (.cons (.var 1) (.nil)))) (.cons (.var 2) (.nil)))))) .nil) (.cons (.iff (.cmp .eq (.var 5) (.lit (.int 1))) (.cons (.set (.nm 2) (.tup (.cons (.lit (.str "soon")) (.cons (.lit .non) (.cons (.var 2) (.nil)))))) .nil) (.cons (.set (.nm 2) (.tup (.cons (.lit (.str "unless")) (.cons (.var 2) (.cons (.tup (.cons (.lit (.str "fact")) (.cons (.lit (.str "a")) (.cons (.tup (.nil)) (.nil))))) (.nil)))))) .nil)) .nil)) .nil)) <|
  .cons (.ret (.var 2)) .nil
def c_law_some_question : CSs :=
  .cons (.set (.nm 4) (.call 24 (.cons (.var 0) (.cons (.var 1) (.cons (.var 2) (.cons (.call 25 (.cons (.var 0) (.cons (.var 2) (.nil)))) (.cons (.bin .add (.lit (.int 1)) (.call 4 (.cons (.var 0) (.cons (.var 3) (.nil))))) (.nil)))))))) <|
  .cons (.iff (.cmp .eq (.call 4 (.cons (.var 0) (.cons (.lit (.int 3)) (.nil)))) (.lit (.int 0))) (.cons (.set (.nm 4) (.call 28 (.cons (.var 0) (.cons (.var 1) (.cons (.var 4) (.cons (.bin .sub (.var 3) (.call 4 (.cons (.var 0) (.cons (.lit (.int 2)) (.nil))))) (.nil))))))) .nil) (.nil)) <|
  .cons (.ret (.var 4)) .nil
def c_law_horizon : CSs :=
  .cons (.set (.nm 3) (.idx (.var 2) (.lit (.int 0)))) <|
  .cons (.iff (.cmp .eq (.var 3) (.lit (.str "fact"))) (.cons (.ret (.bi .maxL (.cons (.cat (.lst (.cons (.lit (.int 0)) (.nil))) (.lc (.call 9 (.cons (.idx (.var 4) (.lit (.int 2))) (.nil))) (.nm 4) (.seq (.var 1)) (.yes (.cmp .eq (.idx (.var 4) (.lit (.int 0))) (.idx (.var 2) (.lit (.int 1))))) [4])) (.nil)))) .nil) (.nil)) <|
  .cons (.set (.nm 5) (.bi .maxL (.cons (.lc (.call 30 (.cons (.var 0) (.cons (.var 1) (.cons (.var 6) (.nil))))) (.nm 6) (.seq (.call 26 (.cons (.var 2) (.nil)))) .no [6]) (.nil)))) <|
  .cons (.iff (.cmp .eq (.var 3) (.lit (.str "shift"))) (.cons (.ret (.bi .max2 (.cons (.lit (.int 0)) (.cons (.bin .sub (.var 5) (.idx (.var 2) (.lit (.int 1)))) (.nil))))) .nil) (.nil)) <|
  .cons (.iff (.or (.cmp .inn (.var 3) (.lst (.cons (.lit (.str "since")) (.cons (.lit (.str "sincenot")) (.nil))))) (.and (.cmp .inn (.var 3) (.lst (.cons (.lit (.str "once")) (.cons (.lit (.str "lately")) (.nil))))) (.cmp .is (.idx (.var 2) (.lit (.int 1))) (.lit .non)))) (.cons (.ret (.bin .add (.var 5) (.var 0))) .nil) (.nil)) <|
  .cons (.iff (.cmp .inn (.var 3) (.lst (.cons (.lit (.str "once")) (.cons (.lit (.str "lately")) (.nil))))) (.cons (.ret (.bin .add (.var 5) (.idx (.var 2) (.lit (.int 1))))) .nil) (.nil)) <|
  .cons (.ret (.var 5)) .nil
def c_law_facts_in : CSs :=
  .cons (.iff (.cmp .eq (.idx (.var 0) (.lit (.int 0))) (.lit (.str "fact"))) (.cons (.ret (.lst (.cons (.var 0) (.nil)))) .nil) (.nil)) <|
  .cons (.set (.nm 1) (.lst (.nil))) <|
  .cons (.forr (.nm 2) (.seq (.call 26 (.cons (.var 0) (.nil)))) (.cons (.set (.nm 1) (.cat (.var 1) (.call 31 (.cons (.var 2) (.nil))))) .nil)) <|
  .cons (.ret (.var 1)) .nil
def c_law : CSs :=
  .cons (.own 1 (.callO 3 (.cons (.var 0) (.cons (.lit (.int 1200)) (.nil))))) <|
  .opn 1 <| .cons (.set (.nm 2) (.call 8 (.cons (.var 1) (.nil)))) <|
  .cons (.set (.nm 3) (.call 16 (.cons (.var 1) (.cons (.lit (.int 10)) (.nil))))) <|
  .cons (.set (.nm 4) (.call 29 (.cons (.var 1) (.cons (.var 0) (.cons (.var 3) (.cons (.lit (.int 12)) (.nil))))))) <|
  .cons (.set (.nm 5) (.lc (.idx (.var 6) (.lit (.int 1))) (.nm 6) (.seq (.call 31 (.cons (.var 4) (.nil)))) .no [6])) <|
  .cons (.own 7 (.lst (.nil))) <|
  .cons (.forr (.nm 8) (.rng1 (.call 4 (.cons (.var 1) (.cons (.lit (.int 9)) (.nil))))) (.cons (.set (.nm 9) (.bin .add (.lit (.int 1)) (.call 4 (.cons (.var 1) (.cons (.lit (.int 3)) (.nil)))))) <|
  .cons (.set (.nm 10) (.lc (.call 4 (.cons (.var 1) (.cons (.lit (.int 4)) (.nil)))) (.nm 11) (.rng1 (.var 9)) .no [11])) <|
  .cons (.set (.nm 12) (.call 14 (.cons (.call 15 (.cons (.var 1) (.cons (.var 0) (.cons (.var 2) (.cons (.var 9) (.nil)))))) (.cons (.var 10) (.cons (.call 4 (.cons (.var 1) (.cons (.var 9) (.nil)))) (.nil)))))) <|
  .cons (.set (.nm 13) (.call 5 (.cons (.var 1) (.cons (.lst (.cons (.call 5 (.cons (.var 1) (.cons (.var 5) (.nil)))) (.cons (.call 5 (.cons (.var 1) (.cons (.var 5) (.nil)))) (.cons (.call 5 (.cons (.var 1) (.cons (.var 3) (.nil)))) (.nil))))) (.nil))))) <|
  .cons (.set (.nm 14) (.bi .tuple (.cons (.lc (.call 18 (.cons (.var 1) (.cons (.var 0) (.cons (.var 3) (.nil))))) (.nm 11) (.rng1 (.call 4 (.cons (.var 1) (.cons (.lit (.int 4)) (.nil))))) .no [11]) (.nil)))) <|
  .cons (.app 7 (.tup (.cons (.var 13) (.cons (.var 14) (.cons (.var 12) (.nil)))))) .nil)) <|
  .frz 7 <| .cons (.set (.nm 15) (.bi .list (.cons (.var 7) (.nil)))) <|
  .frz 7 <| .cons (.set (.nm 16) (.call 30 (.cons (.var 2) (.cons (.var 7) (.cons (.var 4) (.nil)))))) <|
  .cons (.ret (.lend 7 (.and (.call 7 (.cons (.call 2 (.cons (.var 2) (.cons (.var 15) (.cons (.var 4) (.nil))))) (.cons (.var 16) (.nil)))) (.call 7 (.cons (.var 15) (.cons (.var 7) (.nil))))))) .nil
def tab : Tab := ⟨("parts_of", ["question"], false) :: ("when_bound", ["when"], false) :: ("horizon", ["cycle", "facts", "question"], false) :: ("_law_draws", ["script", "many"], false) :: ("_law_take", ["draws", "many"], false) :: ("_law_pick", ["draws", "row"], false) :: ("_law_size", ["draws", "script"], false) :: ("_law_same", ["actual", "due"], false) :: ("_law_cycle", ["draws"], false) :: ("_law_when_bound", ["when"], false) :: ("_law_some_columns", ["draws", "columns"], false) :: ("_law_is_pair", ["kind"], false) :: ("_law_sized_leaf", ["draws", "script", "cycle"], false) :: ("_law_chained", ["leaves", "ways"], false) :: ("_law_tree", ["leaves", "ways", "split"], false) :: ("_law_sized_leaves", ["draws", "script", "cycle", "many"], false) :: ("_law_words", ["draws", "many"], false) :: ("_law_number", ["draws", "script"], false) :: ("_law_worth", ["draws", "script", "words"], false) :: ("_law_wide_term", ["draws", "script", "words", "columns"], false) :: ("_law_wide_fact", ["draws", "script", "words", "columns"], false) :: ("_law_more", ["draws", "words", "columns"], false) :: ("_law_wide_total", ["draws", "script", "words", "columns", "depth"], false) :: ("_law_wide_pair", ["draws", "script", "words", "columns", "depth"], false) :: ("_law_wide", ["draws", "script", "words", "columns", "depth"], false) :: ("_law_wide_columns", ["draws", "words"], false) :: ("_law_parts", ["question"], false) :: ("_law_depth", ["question"], false) :: ("_law_wrapped", ["draws", "script", "question", "depth"], false) :: ("_law_some_question", ["draws", "script", "words", "depth"], false) :: ("_law_horizon", ["cycle", "facts", "question"], false) :: ("_law_facts_in", ["question"], false) :: ("law", ["script"], false) :: [], ["abs", "bool", "int", "isinstance", "len", "list", "max", "min", "range", "sorted", "str", "tuple"], ["PAIRS"]⟩
def fns : List Dn := .code 1 c_parts_of :: .code 2 c_when_bound :: .code 9 c_horizon :: .code 9 c_law_draws :: .prim takeP :: .code 2 c_law_pick :: .code 5 c_law_size :: .code 3 c_law_same :: .code 1 c_law_cycle :: .code 1 c_law_when_bound :: .code 3 c_law_some_columns :: .code 1 c_law_is_pair :: .code 8 c_law_sized_leaf :: .code 5 c_law_chained :: .code 5 c_law_tree :: .code 6 c_law_sized_leaves :: .code 7 c_law_words :: .code 2 c_law_number :: .code 3 c_law_worth :: .code 4 c_law_wide_term :: .code 8 c_law_wide_fact :: .code 5 c_law_more :: .code 11 c_law_wide_total :: .code 11 c_law_wide_pair :: .code 12 c_law_wide :: .code 3 c_law_wide_columns :: .code 1 c_law_parts :: .code 2 c_law_depth :: .code 6 c_law_wrapped :: .code 5 c_law_some_question :: .code 7 c_law_horizon :: .code 3 c_law_facts_in :: .code 17 c_law :: []
def cst : Nat → D := fun k => ([.tup [.str "both", .str "either", .str "unless", .str "since", .str "until", .str "sincenot", .str "untilnot"]] : List D).getD k .non
abbrev PH (k : Nat) : Sm := phi fns cst k
theorem mono_p : ∀ (f : Nat) p, fns[f]? = some (Dn.prim p) → ∀ ds P P', (∀ s, P s → P' s) → p ds P → p ds P' := by
  intro f p h
  have hm := List.mem_of_getElem? h
  simp only [fns, List.mem_cons, List.not_mem_nil, or_false, reduceCtorEq, false_or, Dn.prim.injEq] at hm
  subst hm
  exact takeP_mono
theorem PHm (k : Nat) : MonoP (PH k) := phi_mono mono_p k
theorem ph_parts_of (k : Nat) (ds : List D) (Q : Slot → Prop) : (PH (k + 1)).f 0 ds Q = semF (PH k) 1 c_parts_of ds Q := rfl
theorem ph_when_bound (k : Nat) (ds : List D) (Q : Slot → Prop) : (PH (k + 1)).f 1 ds Q = semF (PH k) 2 c_when_bound ds Q := rfl
theorem ph_horizon (k : Nat) (ds : List D) (Q : Slot → Prop) : (PH (k + 1)).f 2 ds Q = semF (PH k) 9 c_horizon ds Q := rfl
theorem ph_law_draws (k : Nat) (ds : List D) (Q : Slot → Prop) : (PH (k + 1)).f 3 ds Q = semF (PH k) 9 c_law_draws ds Q := rfl
theorem ph_law_take (k : Nat) (ds : List D) (Q : Slot → Prop) : (PH (k + 1)).f 4 ds Q = takeP ds Q := rfl
theorem ph_law_pick (k : Nat) (ds : List D) (Q : Slot → Prop) : (PH (k + 1)).f 5 ds Q = semF (PH k) 2 c_law_pick ds Q := rfl
theorem ph_law_size (k : Nat) (ds : List D) (Q : Slot → Prop) : (PH (k + 1)).f 6 ds Q = semF (PH k) 5 c_law_size ds Q := rfl
theorem ph_law_same (k : Nat) (ds : List D) (Q : Slot → Prop) : (PH (k + 1)).f 7 ds Q = semF (PH k) 3 c_law_same ds Q := rfl
theorem ph_law_cycle (k : Nat) (ds : List D) (Q : Slot → Prop) : (PH (k + 1)).f 8 ds Q = semF (PH k) 1 c_law_cycle ds Q := rfl
theorem ph_law_when_bound (k : Nat) (ds : List D) (Q : Slot → Prop) : (PH (k + 1)).f 9 ds Q = semF (PH k) 1 c_law_when_bound ds Q := rfl
theorem ph_law_some_columns (k : Nat) (ds : List D) (Q : Slot → Prop) : (PH (k + 1)).f 10 ds Q = semF (PH k) 3 c_law_some_columns ds Q := rfl
theorem ph_law_is_pair (k : Nat) (ds : List D) (Q : Slot → Prop) : (PH (k + 1)).f 11 ds Q = semF (PH k) 1 c_law_is_pair ds Q := rfl
theorem ph_law_sized_leaf (k : Nat) (ds : List D) (Q : Slot → Prop) : (PH (k + 1)).f 12 ds Q = semF (PH k) 8 c_law_sized_leaf ds Q := rfl
theorem ph_law_chained (k : Nat) (ds : List D) (Q : Slot → Prop) : (PH (k + 1)).f 13 ds Q = semF (PH k) 5 c_law_chained ds Q := rfl
theorem ph_law_tree (k : Nat) (ds : List D) (Q : Slot → Prop) : (PH (k + 1)).f 14 ds Q = semF (PH k) 5 c_law_tree ds Q := rfl
theorem ph_law_sized_leaves (k : Nat) (ds : List D) (Q : Slot → Prop) : (PH (k + 1)).f 15 ds Q = semF (PH k) 6 c_law_sized_leaves ds Q := rfl
theorem ph_law_words (k : Nat) (ds : List D) (Q : Slot → Prop) : (PH (k + 1)).f 16 ds Q = semF (PH k) 7 c_law_words ds Q := rfl
theorem ph_law_number (k : Nat) (ds : List D) (Q : Slot → Prop) : (PH (k + 1)).f 17 ds Q = semF (PH k) 2 c_law_number ds Q := rfl
theorem ph_law_worth (k : Nat) (ds : List D) (Q : Slot → Prop) : (PH (k + 1)).f 18 ds Q = semF (PH k) 3 c_law_worth ds Q := rfl
theorem ph_law_wide_term (k : Nat) (ds : List D) (Q : Slot → Prop) : (PH (k + 1)).f 19 ds Q = semF (PH k) 4 c_law_wide_term ds Q := rfl
theorem ph_law_wide_fact (k : Nat) (ds : List D) (Q : Slot → Prop) : (PH (k + 1)).f 20 ds Q = semF (PH k) 8 c_law_wide_fact ds Q := rfl
theorem ph_law_more (k : Nat) (ds : List D) (Q : Slot → Prop) : (PH (k + 1)).f 21 ds Q = semF (PH k) 5 c_law_more ds Q := rfl
theorem ph_law_wide_total (k : Nat) (ds : List D) (Q : Slot → Prop) : (PH (k + 1)).f 22 ds Q = semF (PH k) 11 c_law_wide_total ds Q := rfl
theorem ph_law_wide_pair (k : Nat) (ds : List D) (Q : Slot → Prop) : (PH (k + 1)).f 23 ds Q = semF (PH k) 11 c_law_wide_pair ds Q := rfl
theorem ph_law_wide (k : Nat) (ds : List D) (Q : Slot → Prop) : (PH (k + 1)).f 24 ds Q = semF (PH k) 12 c_law_wide ds Q := rfl
theorem ph_law_wide_columns (k : Nat) (ds : List D) (Q : Slot → Prop) : (PH (k + 1)).f 25 ds Q = semF (PH k) 3 c_law_wide_columns ds Q := rfl
theorem ph_law_parts (k : Nat) (ds : List D) (Q : Slot → Prop) : (PH (k + 1)).f 26 ds Q = semF (PH k) 1 c_law_parts ds Q := rfl
theorem ph_law_depth (k : Nat) (ds : List D) (Q : Slot → Prop) : (PH (k + 1)).f 27 ds Q = semF (PH k) 2 c_law_depth ds Q := rfl
theorem ph_law_wrapped (k : Nat) (ds : List D) (Q : Slot → Prop) : (PH (k + 1)).f 28 ds Q = semF (PH k) 6 c_law_wrapped ds Q := rfl
theorem ph_law_some_question (k : Nat) (ds : List D) (Q : Slot → Prop) : (PH (k + 1)).f 29 ds Q = semF (PH k) 5 c_law_some_question ds Q := rfl
theorem ph_law_horizon (k : Nat) (ds : List D) (Q : Slot → Prop) : (PH (k + 1)).f 30 ds Q = semF (PH k) 7 c_law_horizon ds Q := rfl
theorem ph_law_facts_in (k : Nat) (ds : List D) (Q : Slot → Prop) : (PH (k + 1)).f 31 ds Q = semF (PH k) 3 c_law_facts_in ds Q := rfl
theorem ph_law (k : Nat) (ds : List D) (Q : Slot → Prop) : (PH (k + 1)).f 32 ds Q = semF (PH k) 17 c_law ds Q := rfl
end K70

namespace K70
open PySem L2 DL
local macro_rules | `(tactic| walk_at "dl") => `(tactic| simp -implicitDefEqProofs only [↓yv0, ↓ylo0, ↓ylv0, ↓yxo0, ↓yxv0, ↓yldo0, ↓yldv0, ↓ynm0, ↓ywp0, ↓yow0, ↓yap0, ↓yrv0, ↓ysi0, ↓yau0, ↓ypo0, ↓yro0, ↓yfo0, ↓yfv0, ↓yop0, ↓yv1, ↓ylo1, ↓ylv1, ↓yxo1, ↓yxv1, ↓yldo1, ↓yldv1, ↓ynm1, ↓ywp1, ↓yow1, ↓yap1, ↓yrv1, ↓ysi1, ↓yau1, ↓ypo1, ↓yro1, ↓yfo1, ↓yfv1, ↓yop1, ↓yv2, ↓ylo2, ↓ylv2, ↓yxo2, ↓yxv2, ↓yldo2, ↓yldv2, ↓ynm2, ↓ywp2, ↓yow2, ↓yap2, ↓yrv2, ↓ysi2, ↓yau2, ↓ypo2, ↓yro2, ↓yfo2, ↓yfv2, ↓yop2, ↓yv3, ↓ylo3, ↓ylv3, ↓yxo3, ↓yxv3, ↓yldo3, ↓yldv3, ↓ynm3, ↓ywp3, ↓yow3, ↓yap3, ↓yrv3, ↓ysi3, ↓yau3, ↓ypo3, ↓yro3, ↓yfo3, ↓yfv3, ↓yop3, ↓yv4, ↓ylo4, ↓ylv4, ↓yxo4, ↓yxv4, ↓yldo4, ↓yldv4, ↓ynm4, ↓ywp4, ↓yow4, ↓yap4, ↓yrv4, ↓ysi4, ↓yau4, ↓ypo4, ↓yro4, ↓yfo4, ↓yfv4, ↓yop4, ↓yv5, ↓ylo5, ↓ylv5, ↓yxo5, ↓yxv5, ↓yldo5, ↓yldv5, ↓ynm5, ↓ywp5, ↓yow5, ↓yap5, ↓yrv5, ↓ysi5, ↓yau5, ↓ypo5, ↓yro5, ↓yfo5, ↓yfv5, ↓yop5, ↓yv6, ↓ylo6, ↓ylv6, ↓yxo6, ↓yxv6, ↓yldo6, ↓yldv6, ↓ynm6, ↓ywp6, ↓yow6, ↓yap6, ↓yrv6, ↓ysi6, ↓yau6, ↓ypo6, ↓yro6, ↓yfo6, ↓yfv6, ↓yop6, ↓yv7, ↓ylo7, ↓ylv7, ↓yxo7, ↓yxv7, ↓yldo7, ↓yldv7, ↓ynm7, ↓ywp7, ↓yow7, ↓yap7, ↓yrv7, ↓ysi7, ↓yau7, ↓ypo7, ↓yro7, ↓yfo7, ↓yfv7, ↓yop7, ↓yv8, ↓ylo8, ↓ylv8, ↓yxo8, ↓yxv8, ↓yldo8, ↓yldv8, ↓ynm8, ↓ywp8, ↓yow8, ↓yap8, ↓yrv8, ↓ysi8, ↓yau8, ↓ypo8, ↓yro8, ↓yfo8, ↓yfv8, ↓yop8, ↓yv9, ↓ylo9, ↓ylv9, ↓yxo9, ↓yxv9, ↓yldo9, ↓yldv9, ↓ynm9, ↓ywp9, ↓yow9, ↓yap9, ↓yrv9, ↓ysi9, ↓yau9, ↓ypo9, ↓yro9, ↓yfo9, ↓yfv9, ↓yop9, ↓yv10, ↓ylo10, ↓ylv10, ↓yxo10, ↓yxv10, ↓yldo10, ↓yldv10, ↓ynm10, ↓ywp10, ↓yow10, ↓yap10, ↓yrv10, ↓ysi10, ↓yau10, ↓ypo10, ↓yro10, ↓yfo10, ↓yfv10, ↓yop10, ↓yv11, ↓ylo11, ↓ylv11, ↓yxo11, ↓yxv11, ↓yldo11, ↓yldv11, ↓ynm11, ↓ywp11, ↓yow11, ↓yap11, ↓yrv11, ↓ysi11, ↓yau11, ↓ypo11, ↓yro11, ↓yfo11, ↓yfv11, ↓yop11, ↓yv12, ↓ylo12, ↓ylv12, ↓yxo12, ↓yxv12, ↓yldo12, ↓yldv12, ↓ynm12, ↓ywp12, ↓yow12, ↓yap12, ↓yrv12, ↓ysi12, ↓yau12, ↓ypo12, ↓yro12, ↓yfo12, ↓yfv12, ↓yop12, ↓yv13, ↓ylo13, ↓ylv13, ↓yxo13, ↓yxv13, ↓yldo13, ↓yldv13, ↓ynm13, ↓ywp13, ↓yow13, ↓yap13, ↓yrv13, ↓ysi13, ↓yau13, ↓ypo13, ↓yro13, ↓yfo13, ↓yfv13, ↓yop13, ↓yv14, ↓ylo14, ↓ylv14, ↓yxo14, ↓yxv14, ↓yldo14, ↓yldv14, ↓ynm14, ↓ywp14, ↓yow14, ↓yap14, ↓yrv14, ↓ysi14, ↓yau14, ↓ypo14, ↓yro14, ↓yfo14, ↓yfv14, ↓yop14, ↓yv15, ↓ylo15, ↓ylv15, ↓yxo15, ↓yxv15, ↓yldo15, ↓yldv15, ↓ynm15, ↓ywp15, ↓yow15, ↓yap15, ↓yrv15, ↓ysi15, ↓yau15, ↓ypo15, ↓yro15, ↓yfo15, ↓yfv15, ↓yop15, ↓yv16, ↓ylo16, ↓ylv16, ↓yxo16, ↓yxv16, ↓yldo16, ↓yldv16, ↓ynm16, ↓ywp16, ↓yow16, ↓yap16, ↓yrv16, ↓ysi16, ↓yau16, ↓ypo16, ↓yro16, ↓yfo16, ↓yfv16, ↓yop16, ↓yv17, ↓ylo17, ↓ylv17, ↓yxo17, ↓yxv17, ↓yldo17, ↓yldv17, ↓ynm17, ↓ywp17, ↓yow17, ↓yap17, ↓yrv17, ↓ysi17, ↓yau17, ↓ypo17, ↓yro17, ↓yfo17, ↓yfv17, ↓yop17, ↓yv18, ↓ylo18, ↓ylv18, ↓yxo18, ↓yxv18, ↓yldo18, ↓yldv18, ↓ynm18, ↓ywp18, ↓yow18, ↓yap18, ↓yrv18, ↓ysi18, ↓yau18, ↓ypo18, ↓yro18, ↓yfo18, ↓yfv18, ↓yop18, ↓yv19, ↓ylo19, ↓ylv19, ↓yxo19, ↓yxv19, ↓yldo19, ↓yldv19, ↓ynm19, ↓ywp19, ↓yow19, ↓yap19, ↓yrv19, ↓ysi19, ↓yau19, ↓ypo19, ↓yro19, ↓yfo19, ↓yfv19, ↓yop19, ↓yv20, ↓ylo20, ↓ylv20, ↓yxo20, ↓yxv20, ↓yldo20, ↓yldv20, ↓ynm20, ↓ywp20, ↓yow20, ↓yap20, ↓yrv20, ↓ysi20, ↓yau20, ↓ypo20, ↓yro20, ↓yfo20, ↓yfv20, ↓yop20, ↓yv21, ↓ylo21, ↓ylv21, ↓yxo21, ↓yxv21, ↓yldo21, ↓yldv21, ↓ynm21, ↓ywp21, ↓yow21, ↓yap21, ↓yrv21, ↓ysi21, ↓yau21, ↓ypo21, ↓yro21, ↓yfo21, ↓yfv21, ↓yop21, ↓yv22, ↓ylo22, ↓ylv22, ↓yxo22, ↓yxv22, ↓yldo22, ↓yldv22, ↓ynm22, ↓ywp22, ↓yow22, ↓yap22, ↓yrv22, ↓ysi22, ↓yau22, ↓ypo22, ↓yro22, ↓yfo22, ↓yfv22, ↓yop22, ↓yv23, ↓ylo23, ↓ylv23, ↓yxo23, ↓yxv23, ↓yldo23, ↓yldv23, ↓ynm23, ↓ywp23, ↓yow23, ↓yap23, ↓yrv23, ↓ysi23, ↓yau23, ↓ypo23, ↓yro23, ↓yfo23, ↓yfv23, ↓yop23, ↓yv24, ↓ylo24, ↓ylv24, ↓yxo24, ↓yxv24, ↓yldo24, ↓yldv24, ↓ynm24, ↓ywp24, ↓yow24, ↓yap24, ↓yrv24, ↓ysi24, ↓yau24, ↓ypo24, ↓yro24, ↓yfo24, ↓yfv24, ↓yop24, ↓yv25, ↓ylo25, ↓ylv25, ↓yxo25, ↓yxv25, ↓yldo25, ↓yldv25, ↓ynm25, ↓ywp25, ↓yow25, ↓yap25, ↓yrv25, ↓ysi25, ↓yau25, ↓ypo25, ↓yro25, ↓yfo25, ↓yfv25, ↓yop25, ↓yv26, ↓ylo26, ↓ylv26, ↓yxo26, ↓yxv26, ↓yldo26, ↓yldv26, ↓ynm26, ↓ywp26, ↓yow26, ↓yap26, ↓yrv26, ↓ysi26, ↓yau26, ↓ypo26, ↓yro26, ↓yfo26, ↓yfv26, ↓yop26, ↓yv27, ↓ylo27, ↓ylv27, ↓yxo27, ↓yxv27, ↓yldo27, ↓yldv27, ↓ynm27, ↓ywp27, ↓yow27, ↓yap27, ↓yrv27, ↓ysi27, ↓yau27, ↓ypo27, ↓yro27, ↓yfo27, ↓yfv27, ↓yop27, ↓yv28, ↓ylo28, ↓ylv28, ↓yxo28, ↓yxv28, ↓yldo28, ↓yldv28, ↓ynm28, ↓ywp28, ↓yow28, ↓yap28, ↓yrv28, ↓ysi28, ↓yau28, ↓ypo28, ↓yro28, ↓yfo28, ↓yfv28, ↓yop28, ↓yv29, ↓ylo29, ↓ylv29, ↓yxo29, ↓yxv29, ↓yldo29, ↓yldv29, ↓ynm29, ↓ywp29, ↓yow29, ↓yap29, ↓yrv29, ↓ysi29, ↓yau29, ↓ypo29, ↓yro29, ↓yfo29, ↓yfv29, ↓yop29, ↓yv30, ↓ylo30, ↓ylv30, ↓yxo30, ↓yxv30, ↓yldo30, ↓yldv30, ↓ynm30, ↓ywp30, ↓yow30, ↓yap30, ↓yrv30, ↓ysi30, ↓yau30, ↓ypo30, ↓yro30, ↓yfo30, ↓yfv30, ↓yop30, ↓yv31, ↓ylo31, ↓ylv31, ↓yxo31, ↓yxv31, ↓yldo31, ↓yldv31, ↓ynm31, ↓ywp31, ↓yow31, ↓yap31, ↓yrv31, ↓ysi31, ↓yau31, ↓ypo31, ↓yro31, ↓yfo31, ↓yfv31, ↓yop31, ↓yst_1_0, ↓yst_1_1, ↓yst_2_0, ↓yst_2_1, ↓yst_2_2, ↓yst_3_0, ↓yst_3_1, ↓yst_3_2, ↓yst_3_3, ↓yst_4_0, ↓yst_4_1, ↓yst_4_2, ↓yst_4_3, ↓yst_4_4, ↓yst_5_0, ↓yst_5_1, ↓yst_5_2, ↓yst_5_3, ↓yst_5_4, ↓yst_5_5, ↓yst_6_0, ↓yst_6_1, ↓yst_6_2, ↓yst_6_3, ↓yst_6_4, ↓yst_6_5, ↓yst_6_6, ↓yst_7_0, ↓yst_7_1, ↓yst_7_2, ↓yst_7_3, ↓yst_7_4, ↓yst_7_5, ↓yst_7_6, ↓yst_7_7, ↓yst_8_0, ↓yst_8_1, ↓yst_8_2, ↓yst_8_3, ↓yst_8_4, ↓yst_8_5, ↓yst_8_6, ↓yst_8_7, ↓yst_8_8, ↓yst_9_0, ↓yst_9_1, ↓yst_9_2, ↓yst_9_3, ↓yst_9_4, ↓yst_9_5, ↓yst_9_6, ↓yst_9_7, ↓yst_9_8, ↓yst_9_9, ↓yst_10_0, ↓yst_10_1, ↓yst_10_2, ↓yst_10_3, ↓yst_10_4, ↓yst_10_5, ↓yst_10_6, ↓yst_10_7, ↓yst_10_8, ↓yst_10_9, ↓yst_11_0, ↓yst_11_1, ↓yst_11_2, ↓yst_11_3, ↓yst_11_4, ↓yst_11_5, ↓yst_11_6, ↓yst_11_7, ↓yst_11_8, ↓yst_11_9, ↓yst_12_0, ↓yst_12_1, ↓yst_12_2, ↓yst_12_3, ↓yst_12_4, ↓yst_12_5, ↓yst_12_6, ↓yst_12_7, ↓yst_12_8, ↓yst_12_9, ↓yst_13_0, ↓yst_13_1, ↓yst_13_2, ↓yst_13_3, ↓yst_13_4, ↓yst_13_5, ↓yst_13_6, ↓yst_13_7, ↓yst_13_8, ↓yst_13_9, ↓yst_14_0, ↓yst_14_1, ↓yst_14_2, ↓yst_14_3, ↓yst_14_4, ↓yst_14_5, ↓yst_14_6, ↓yst_14_7, ↓yst_14_8, ↓yst_14_9, ↓yst_15_0, ↓yst_15_1, ↓yst_15_2, ↓yst_15_3, ↓yst_15_4, ↓yst_15_5, ↓yst_15_6, ↓yst_15_7, ↓yst_15_8, ↓yst_15_9, ↓yst_16_0, ↓yst_16_1, ↓yst_16_2, ↓yst_16_3, ↓yst_16_4, ↓yst_16_5, ↓yst_16_6, ↓yst_16_7, ↓yst_16_8, ↓yst_16_9, ↓yst_17_0, ↓yst_17_1, ↓yst_17_2, ↓yst_17_3, ↓yst_17_4, ↓yst_17_5, ↓yst_17_6, ↓yst_17_7, ↓yst_17_8, ↓yst_17_9, ↓yst_18_0, ↓yst_18_1, ↓yst_18_2, ↓yst_18_3, ↓yst_18_4, ↓yst_18_5, ↓yst_18_6, ↓yst_18_7, ↓yst_18_8, ↓yst_18_9, ↓yst_19_0, ↓yst_19_1, ↓yst_19_2, ↓yst_19_3, ↓yst_19_4, ↓yst_19_5, ↓yst_19_6, ↓yst_19_7, ↓yst_19_8, ↓yst_19_9, ↓yst_20_0, ↓yst_20_1, ↓yst_20_2, ↓yst_20_3, ↓yst_20_4, ↓yst_20_5, ↓yst_20_6, ↓yst_20_7, ↓yst_20_8, ↓yst_20_9, ↓yst_21_0, ↓yst_21_1, ↓yst_21_2, ↓yst_21_3, ↓yst_21_4, ↓yst_21_5, ↓yst_21_6, ↓yst_21_7, ↓yst_21_8, ↓yst_21_9, ↓yst_22_0, ↓yst_22_1, ↓yst_22_2, ↓yst_22_3, ↓yst_22_4, ↓yst_22_5, ↓yst_22_6, ↓yst_22_7, ↓yst_22_8, ↓yst_22_9, ↓yst_23_0, ↓yst_23_1, ↓yst_23_2, ↓yst_23_3, ↓yst_23_4, ↓yst_23_5, ↓yst_23_6, ↓yst_23_7, ↓yst_23_8, ↓yst_23_9, ↓yst_24_0, ↓yst_24_1, ↓yst_24_2, ↓yst_24_3, ↓yst_24_4, ↓yst_24_5, ↓yst_24_6, ↓yst_24_7, ↓yst_24_8, ↓yst_24_9, ↓yst_25_0, ↓yst_25_1, ↓yst_25_2, ↓yst_25_3, ↓yst_25_4, ↓yst_25_5, ↓yst_25_6, ↓yst_25_7, ↓yst_25_8, ↓yst_25_9, ↓yst_26_0, ↓yst_26_1, ↓yst_26_2, ↓yst_26_3, ↓yst_26_4, ↓yst_26_5, ↓yst_26_6, ↓yst_26_7, ↓yst_26_8, ↓yst_26_9, ↓yst_27_0, ↓yst_27_1, ↓yst_27_2, ↓yst_27_3, ↓yst_27_4, ↓yst_27_5, ↓yst_27_6, ↓yst_27_7, ↓yst_27_8, ↓yst_27_9, ↓yst_28_0, ↓yst_28_1, ↓yst_28_2, ↓yst_28_3, ↓yst_28_4, ↓yst_28_5, ↓yst_28_6, ↓yst_28_7, ↓yst_28_8, ↓yst_28_9, ↓yst_29_0, ↓yst_29_1, ↓yst_29_2, ↓yst_29_3, ↓yst_29_4, ↓yst_29_5, ↓yst_29_6, ↓yst_29_7, ↓yst_29_8, ↓yst_29_9, ↓yst_30_0, ↓yst_30_1, ↓yst_30_2, ↓yst_30_3, ↓yst_30_4, ↓yst_30_5, ↓yst_30_6, ↓yst_30_7, ↓yst_30_8, ↓yst_30_9, ↓yst_31_0, ↓yst_31_1, ↓yst_31_2, ↓yst_31_3, ↓yst_31_4, ↓yst_31_5, ↓yst_31_6, ↓yst_31_7, ↓yst_31_8, ↓yst_31_9, ↓yst_32_0, ↓yst_32_1, ↓yst_32_2, ↓yst_32_3, ↓yst_32_4, ↓yst_32_5, ↓yst_32_6, ↓yst_32_7, ↓yst_32_8, ↓yst_32_9, ↓u_wp2, ↓u_sset, ↓u_maxD, ↓u_idxOf, ↓isSeq_t, ↓isSeq_l, ↓u_callK, ↓u_rrng1, ↓u_rrng2, ↓zipQ_l, ↓zipQ_t, ↓u_zip, ↓u_rai, ↓strQ_s, ↓u_joinS, ↓ownQ_l, ↓setQ_i, ↓callQ_v, ↓callQ_o, ↓callO_o, ↓intQ_i, ↓lstQ_l, ↓tupQ_l, ↓seqQ_l, ↓seqQ_t, ↓seqQ_s, ↓enmQ_l, ↓enmQ_t, ↓blQ_b, ↓u_tup, ↓u_lst, ↓u_neg, ↓u_not, ↓u_rep, ↓u_cat, ↓u_slL, ↓u_slT, ↓u_call, ↓u_callO, ↓u_lc, ↓u_es0, ↓u_es1, ↓u_o0, ↓u_o1, ↓u_c0, ↓u_c1, ↓u_seq, ↓u_rng1, ↓u_rng2, ↓u_enum, ↓u_set, ↓u_expr, ↓u_for, ↓u_while, ↓u_ret, ↓u_retN, ↓u_brk, ↓u_cont, ↓u_nil, ↓u_cons, ↓u_bt0, ↓u_bt1, ↓u_semF, ↓sE_lit, ↓sE_glob, ↓sE_bin, ↓sE_cmp, ↓sE_idx, ↓sE_isi, ↓sE_bi, ↓sE_and, ↓sE_or, ↓sE_ite, ↓sS_iff, tst_bl, ↓tst_t, ↓tst_f, ↓o2_add, ↓o2_sub, ↓o2_mul, ↓o2_fdiv, ↓o2_mod, ↓o2_pow, ↓o2_adds, ↓o2_addt, ↓oc_eqi, ↓oc_nei, ↓oc_eqs, ↓oc_eqb, ↓oc_neb, ↓oc_lt, ↓oc_le, ↓oc_gt, ↓oc_ge, ↓oc_is, ↓oc_isn, ↓isNon_non, ↓isNon_bl, ↓isNon_int, ↓isNon_str, ↓isNon_tup, ↓isNon_lst, ↓ix_t0, ↓ix_t1, ↓ix_t2, ↓ix_t3, ↓ix_t4, ↓b_lenl, ↓b_lent, ↓b_lens, ↓b_int, ↓b_intb, ↓b_abs, ↓b_max2, ↓b_min2, ↓b_tl, ↓b_tt, ↓b_ll, ↓b_lt, ↓b_ls, ↓take_eq, ix_l, ix_t, ix_s, List.length_cons, List.length_nil, List.cons_append, List.nil_append, Nat.reduceAdd, noL_bl, noL_int, noL_non, noL_str, reduceCtorEq, Bool.false_eq_true, Bool.true_eq_false, false_implies, true_implies, and_true, true_and, Bool.not_true, Bool.not_false, decide_true, decide_false])
theorem law_draws_ok (k : Nat) (ns : List Int) (m : Int) (Q : Slot → Prop) (hn : ns.length ≤ 63) (hm : m ≤ 100000) (q : ∀ ds : List Int, (∀ d ∈ ds, 0 ≤ d) → Q (.own (ds.map .int))) : semF (PH k) 9 c_law_draws [.scr ns, .int m] Q := by
  unfold c_law_draws
  walk_at "dl"
  refine loopE_all (en := D.int) (fun i => some (D.int i)) (bindT_mono _) (semC_mono (PHm k) _) ns [] _ (by simp [sizeLine]; omega) (fun a ha => ?_) ?_
  · walk_at "dl"
    exact fun R h => h _ rfl
  walk_at "dl"
  have e0 : ns.filterMap (fun i => some (D.int i)) = ns.map D.int := by simp
  rw [e0]
  refine ⟨fun h => ⟨by simp [sizeLine]; omega, by simp [sizeLine], ?a⟩, fun h => ⟨by simp [sizeLine], ?b⟩⟩
  case' a =>
    obtain ⟨cs, e, hc⟩ : ∃ cs : List Int, ns.map D.int ++ [.int 0] = cs.map D.int ∧ 0 < cs.length := ⟨ns ++ [0], by simp, by simp⟩
    rw [e]
  case' b =>
    have h := of_decide_eq_false h
    obtain ⟨cs, e, hc⟩ : ∃ cs : List Int, ns.map D.int = cs.map D.int ∧ 0 < cs.length := ⟨ns, rfl, by rw [List.length_map] at h; omega⟩
    rw [e]
  all_goals
    refine loopS_raw (I := fun ps ε => ∃ (rest ds : List Int) (x y z : Slot), ε = [.val (.scr ns), .val (.int m), .val (.lst (cs.map .int)), .non, .own (rest.map .int), .own (ds.map .int), x, y, z] ∧ rest.length = cs.length ∧ ds.length = ps.length ∧ ∀ d ∈ ds, 0 ≤ d) (semSs_mono (PHm k) _) (bindT_mono _) ⟨cs, [], _, _, _, rfl, rfl, rfl, by simp⟩ ?_ ?_
    · rintro ps d ss ε ⟨rest, ds, x, y, z, rfl, hr, hd, hp⟩ hx
      have hlen : (rangeD 0 m).length = m.toNat := by unfold rangeD; simp
      obtain ⟨i, i1, i2, rfl⟩ := mem_rangeD.mp (show d ∈ rangeD 0 m by rw [hx]; simp)
      have hps : ps.length < m.toNat := by rw [← hlen, hx]; simp; try omega
      walk_at "dl"
      have hcl : ((cs.map D.int).length : Int) = cs.length := by simp
      rw [hcl]
      have hi1 : 0 ≤ i % (cs.length : Int) := Int.emod_nonneg _ (by omega)
      have hi2 : i % (cs.length : Int) < cs.length := Int.emod_lt_of_pos _ (by omega)
      have hg : getI (cs.map D.int) (i % (cs.length : Int)) = some (.int (cs[(i % (cs.length : Int)).toNat]'(by omega))) := by
        unfold getI
        rw [if_pos hi1, List.getElem?_map, List.getElem?_eq_getElem (by omega)]
        rfl
      have hg2 : getI (rest.map D.int) (i % (cs.length : Int)) = some (.int (rest[(i % (cs.length : Int)).toNat]'(by omega))) := by
        unfold getI
        rw [if_pos hi1, List.getElem?_map, List.getElem?_eq_getElem (by omega)]
        rfl
      refine ⟨by omega, _, hg, ?_⟩
      walk_at "dl"
      refine ⟨⟨by decide, by decide, by decide⟩, fun _ => ⟨_, hg2, ?_⟩, fun _ => ⟨_, hg, ?_⟩⟩
      · walk_at "dl"
        refine ⟨by decide, by simp [sizeLine]; try omega, _, hg2, ?_⟩
        walk_at "dl"
        refine ⟨by decide, (i % (cs.length : Int)).toNat, ?_, rest.set (i % (cs.length : Int)).toNat ((rest[(i % (cs.length : Int)).toNat]'(by omega)) / 1000), ds ++ [(rest[(i % (cs.length : Int)).toNat]'(by omega)) % 1000], .val (.int i), .val (.int (i % (cs.length : Int))), z, ?_, by simpa using hr, by simpa using hd, ?_⟩
        · unfold ixN
          rw [if_pos hi1, if_pos (by simp; try omega)]
        · simp [List.map_set]
        · intro d hd
          rcases List.mem_append.mp hd with h | h
          · exact hp d h
          · rcases List.mem_singleton.mp h with rfl
            exact Int.emod_nonneg _ (by decide)
      · walk_at "dl"
        refine ⟨.inr (by decide), .inr (by decide), by decide, .inr ?_, .inl (by decide), by decide, by simp [sizeLine]; try omega, rest, ds ++ [_], _, _, _, by rw [List.map_append]; rfl, hr, by simpa using hd, ?_⟩
        · have h1 := Int.emod_nonneg (cs[(i % (cs.length : Int)).toNat]'(by omega) * 48271 + i * 69621 + 11) (show (2147483647 : Int) ≠ 0 by decide)
          have h2 := Int.emod_lt_of_pos (cs[(i % (cs.length : Int)).toNat]'(by omega) * 48271 + i * 69621 + 11) (show (0 : Int) < 2147483647 by decide)
          constructor
          · exact Int.lt_of_lt_of_le (by decide) h1
          · exact Int.lt_trans h2 (by decide)
        · intro d hd
          rcases List.mem_append.mp hd with h | h
          · exact hp d h
          · rcases List.mem_singleton.mp h with rfl
            exact Int.emod_nonneg _ (by decide)
    · rintro ε ⟨rest, ds, x, y, z, rfl, hr, hd, hp⟩
      walk_at "dl"
      have := q ds.reverse (by simpa using hp)
      simpa using this
theorem law_size_ok (k : Nat) (ns : List Int) (Q : Slot → Prop) (q : ∀ k : Int, 0 ≤ k → Q (.val (.int k))) : semF (PH (k + 1)) 5 c_law_size [.opq 0, .scr ns] Q := by
  unfold c_law_size
  walk_at "dl"
  simp only [ph_law_take]
  walk_at "dl"
  refine ⟨by decide, fun a a0 a1 => ⟨fun _ => ⟨by decide, fun b b0 b1 => q b b0⟩, fun _ => ⟨fun _ => ⟨by decide, fun b b0 b1 => q b b0⟩, fun _ => ⟨fun _ => ?_, fun _ => ⟨fun _ => ?_, fun h => ⟨?_, fun b b0 b1 => ?_⟩⟩⟩⟩⟩⟩
  any_goals
    refine loopS_raw (I := fun ps ε => ∃ (n : Int) (x : Slot), ε = [.val (.opq 0), .val (.scr ns), .val (.int a), .val (.int n), x] ∧ 0 ≤ n) (semSs_mono (PHm _) _) (bindT_mono _) ⟨0, _, rfl, by decide⟩ ?_ ?_
    · rintro ps d ss ε ⟨n, x, rfl, hn⟩ hx
      walk_at "dl"
      simp only [ph_law_take]
      walk_at "dl"
      exact ⟨.inr (by decide), by decide, fun b b0 b1 => ⟨n * 1000 + b, _, rfl, by omega⟩⟩
    · rintro ε ⟨n, x, rfl, hn⟩
      walk_at "dl"
      exact q n hn
  · have := of_decide_eq_false h
    omega
  · refine ⟨ns[b.toNat]'(by omega), ?_, ?_⟩
    · unfold getI
      rw [if_pos b0, List.getElem?_eq_getElem]
    · refine q _ ?_
      split <;> omega
theorem law_same_ok : ∀ (n k : Nat) (d : D) (Q : Slot → Prop), d.sm n = true → n ≤ 60 → Q (.val (.bl true)) → semF (PH (k + n)) 3 c_law_same [d, d] Q
  | n, k, d, Q, hd, hn, q => by
    unfold c_law_same
    walk_at "dl"
    have hc : ∀ (x : D) (ds : List D), (x = .tup ds ∨ x = .lst ds) → D.sm n x = true → loopE (bindT (CT.nm 2)) (semC (PH (k + n)) CO.no) (semE (PH (k + n)) (CE.call 7 (CEs.cons ((CE.var 0).idx (CE.var 2)) (CEs.cons ((CE.var 1).idx (CE.var 2)) CEs.nil)))) [Slot.val x, Slot.val x, Slot.non] (rangeD 0 ds.length) [] fun y => opc OC.nin (D.bl false) y fun d => Q (Slot.val d) := fun x ds e hx => by
      have hds : ∃ m, n = m + 1 ∧ ds.length ≤ sizeLine ∧ sms m ds = true := by
        rcases e with rfl | rfl
        · cases n with
          | zero => unfold D.sm at hx; cases hx
          | succ m => exact ⟨m, rfl, by rwa [sm_tup, Bool.and_eq_true, decide_eq_true_eq] at hx⟩
        · cases n with
          | zero => unfold D.sm at hx; cases hx
          | succ m => exact ⟨m, rfl, by rwa [sm_lst, Bool.and_eq_true, decide_eq_true_eq] at hx⟩
      obtain ⟨m, rfl, hln, hds⟩ := hds
      have hlen : (rangeD 0 ds.length).length = ds.length := by unfold rangeD; simp
      refine loopE_each (β := Unit) (eo := fun _ => .bl true) (P := fun _ => True) (bindT_mono _) _ _ _ _ ?_ (fun a ha R hR => ?_) (fun bs hl _ => ?_)
      · rw [hlen]; simpa using hln
      · obtain ⟨i, i0, i1, rfl⟩ := mem_rangeD.mp ha
        walk_at "dl"
        have hg := getI_nat ds i i0 i1
        have hix : ∀ P : D → Prop, P (ds[i.toNat]'(by omega)) → opIx x (.int i) P := fun P hP => by
          rcases e with rfl | rfl
          · exact ⟨_, hg, hP⟩
          · exact ⟨_, hg, hP⟩
        refine hix _ (hix _ ?_)
        rw [show k + (m + 1) = (k + m) + 1 from rfl, ph_law_same]
        refine law_same_ok m k _ _ (sms_mem hds _ (List.getElem_mem _)) (by omega) ?_
        walk_at "dl"
        exact hR () trivial
      · rw [oc_ninl]
        refine ⟨⟨rfl, by simp [D.flat]⟩, ?_⟩
        have : (!(([] ++ bs.map fun _ => D.bl true).any fun y => y.eqv (.bl false))) = true := by simp [D.eqv]
        rw [this]
        exact q
    cases d
    case tup ds =>
      simp only [List.any_cons, List.any_nil, D.isa]
      walk_at "dl"
      simp
      exact hc _ ds (.inl rfl) hd
    case lst ds =>
      simp only [List.any_cons, List.any_nil, D.isa]
      walk_at "dl"
      simp
      exact hc _ ds (.inr rfl) hd
    case scr ns => cases n <;> cases hd
    case opq ns => cases n <;> cases hd
    all_goals
      simp only [List.any_cons, List.any_nil, D.isa]
      walk_at "dl"
      simp
      first | exact q | (rw [oc_eq]; exact ⟨⟨rfl, rfl⟩, q⟩)
def isW (w : Str) : Prop := 0 < w.length ∧ ∀ c ∈ w.cps.toList, 97 ≤ c ∧ c ≤ 122
theorem abc_len : ("abcdefghijklmnopqrstuvwxyz" : Str).length ≤ sizeLine := by decide +kernel
theorem abc_list : ("abcdefghijklmnopqrstuvwxyz" : Str).cps.toList = (List.range 26).map (· + 97) := by decide +kernel
theorem abc_get (b : Int) (h0 : 0 ≤ b) (h1 : b < 26) : ∃ c, getI ("abcdefghijklmnopqrstuvwxyz" : Str).cps.toList b = some c ∧ 97 ≤ c ∧ c ≤ 122 := by
  refine ⟨b.toNat + 97, ?_, by omega, by omega⟩
  unfold getI
  rw [if_pos h0, abc_list, List.getElem?_map, List.getElem?_range (by omega)]
  rfl
theorem str0 : ("" : Str) = ⟨#[]⟩ := by decide +kernel
theorem app_len (a b : Str) : (a ++ b).length = a.length + b.length := Array.size_append
theorem join0 : ∀ ys : List Str, (Txt.join "" ys).cps.toList = (ys.map (·.cps.toList)).flatten
  | [] => by rw [TL.join_eq]; rfl
  | [y] => by rw [TL.join_eq]; simp [Str.join]
  | y :: z :: ys => by
    have ih := join0 (z :: ys)
    rw [TL.join_eq] at ih ⊢
    show (y ++ "" ++ Str.join "" (z :: ys)).cps.toList = _
    have : (y ++ "" ++ Str.join "" (z :: ys)).cps = y.cps ++ ("" : Str).cps ++ (Str.join "" (z :: ys)).cps := rfl
    rw [this, str0] at *
    rw [Array.toList_append, Array.toList_append, ih]
    simp
theorem join0_len (ys : List Str) : (Txt.join "" ys).length = (ys.map (·.length)).sum := by
  have h : (Txt.join "" ys).length = (Txt.join "" ys).cps.toList.length := Array.length_toList.symm
  rw [h, join0, List.length_flatten, List.map_map]
  congr 1
theorem chars_join (cs : List Nat) : Txt.join "" (cs.map fun c => (⟨#[c]⟩ : Str)) = ⟨cs.toArray⟩ ∧ ((cs.map fun c => (⟨#[c]⟩ : Str)).map (·.length)).sum = cs.length ∧ ((cs.map fun c => (⟨#[c]⟩ : Str)).map (·.length)).sum + (cs.map fun c => (⟨#[c]⟩ : Str)).length * ("" : Str).length = cs.length := by
  have h2 : ((cs.map fun c => (⟨#[c]⟩ : Str)).map (·.length)).sum = cs.length := by
    rw [List.map_map]
    induction cs with
    | nil => rfl
    | cons c cs ih => rw [List.map_cons, List.sum_cons, ih]; show 1 + _ = _; rw [List.length_cons]; omega
  refine ⟨?_, h2, by rw [h2, str0]; rfl⟩
  have h := join0 (cs.map fun c => (⟨#[c]⟩ : Str))
  have e : ((cs.map fun c => (⟨#[c]⟩ : Str)).map (·.cps.toList)).flatten = cs := by
    rw [List.map_map]
    clear h h2
    induction cs with
    | nil => rfl
    | cons c cs ih => simpa using ih
  rw [e] at h
  cases hj : Txt.join "" (cs.map fun c => (⟨#[c]⟩ : Str)) with
  | mk a =>
    rw [hj] at h
    rw [← h]
theorem law_pick_ok (k : Nat) (ds : List D) (Q : Slot → Prop) (h0 : 0 < ds.length) (q : ∀ d ∈ ds, Q (.val d)) : semF (PH (k + 1)) 2 c_law_pick [.opq 0, .lst ds] Q := by
  unfold c_law_pick
  walk_at "dl"
  simp only [ph_law_take]
  walk_at "dl"
  exact ⟨by omega, fun a a0 a1 => ⟨_, getI_nat ds a a0 a1, q _ (List.getElem_mem _)⟩⟩
theorem law_pick_t (k : Nat) (ds : List D) (Q : Slot → Prop) (h0 : 0 < ds.length) (q : ∀ d ∈ ds, Q (.val d)) : semF (PH (k + 1)) 2 c_law_pick [.opq 0, .tup ds] Q := by
  unfold c_law_pick
  walk_at "dl"
  simp only [ph_law_take]
  walk_at "dl"
  exact ⟨by omega, fun a a0 a1 => ⟨_, getI_nat ds a a0 a1, q _ (List.getElem_mem _)⟩⟩
theorem law_cycle_ok (k : Nat) (Q : Slot → Prop) (q : ∀ c : Int, 1 ≤ c → c ≤ 60 → Q (.val (.int c))) : semF (PH (k + 1)) 1 c_law_cycle [.opq 0] Q := by
  unfold c_law_cycle
  walk_at "dl"
  simp only [ph_law_take]
  walk_at "dl"
  exact ⟨by decide, fun a a0 a1 => ⟨fun _ => ⟨by decide, fun b b0 b1 => q _ (by omega) (by omega)⟩, fun _ => ⟨by decide, fun b b0 b1 => q _ (by omega) (by omega)⟩⟩⟩
theorem law_number_ok (k : Nat) (ns : List Int) (Q : Slot → Prop) (q : ∀ n : Int, Q (.val (.int n))) : semF (PH (k + 2)) 2 c_law_number [.opq 0, .scr ns] Q := by
  unfold c_law_number
  walk_at "dl"
  rw [ph_law_size]
  refine law_size_ok k ns _ fun n hn => ?_
  walk_at "dl"
  rw [ph_law_take]
  walk_at "dl"
  exact ⟨by decide, fun t t0 t1 => ⟨.inl (by decide), .inr (by omega), q _⟩⟩
def isWv : D → Bool
  | .int _ | .str _ => true
  | _ => false
theorem isWv_sm : ∀ {d : D}, isWv d = true → ∀ n, d.sm n = true
  | .int _, _, n => by cases n <;> (unfold D.sm; rfl)
  | .str _, _, n => by cases n <;> (unfold D.sm; rfl)
  | .non, h, _ => by cases h
  | .bl _, h, _ => by cases h
  | .tup _, h, _ => by cases h
  | .lst _, h, _ => by cases h
  | .scr _, h, _ => by cases h
  | .opq _, h, _ => by cases h
theorem law_worth_ok (k : Nat) (ns : List Int) (ws : List Str) (Q : Slot → Prop) (h0 : 0 < ws.length) (q : ∀ d, isWv d = true → Q (.val d)) : semF (PH (k + 3)) 3 c_law_worth [.opq 0, .scr ns, .lst (ws.map .str)] Q := by
  unfold c_law_worth
  walk_at "dl"
  rw [ph_law_take]
  walk_at "dl"
  refine ⟨by decide, fun t t0 t1 => ⟨fun _ => ?_, fun _ => ?_⟩⟩
  · rw [ph_law_pick]
    refine law_pick_ok _ _ _ (by simpa using h0) fun d hd => ?_
    obtain ⟨s, hs, rfl⟩ := List.mem_map.mp hd
    walk_at "dl"
    exact q _ rfl
  · rw [ph_law_number]
    refine law_number_ok k ns _ fun n => ?_
    walk_at "dl"
    exact q _ rfl
theorem law_words_ok (k : Nat) (m : Int) (Q : Slot → Prop) (hm : m ≤ 26) (q : ∀ ss : List Str, ss.length = m.toNat → Q (.own (ss.map .str))) : semF (PH (k + 1)) 7 c_law_words [.opq 0, .int m] Q := by
  unfold c_law_words
  walk_at "dl"
  refine ⟨by simp [sizeLine], ?_⟩
  have hr : (rangeD 0 m).length = m.toNat := by rw [rangeD_len]; simp
  refine loopS_raw (I := fun ps ε => ∃ (ss : List Str) (x y z u : Slot), ε = [.val (.opq 0), .val (.int m), .own (ss.map .str), x, y, z, u] ∧ ss.length = ps.length) (semSs_mono (PHm _) _) (bindT_mono _) ⟨[], _, _, _, _, rfl, rfl⟩ ?_ ?_
  · rintro ps d qs ε ⟨ss, x, y, z, u, rfl, h1⟩ hx
    have hps : ps.length < m.toNat := by rw [← hr, hx]; simp; try omega
    obtain ⟨i, i0, i1, rfl⟩ := mem_rangeD.mp (show d ∈ rangeD 0 m by rw [hx]; simp)
    walk_at "dl"
    simp only [ph_law_take]
    walk_at "dl"
    refine ⟨by decide, fun t t0 t1 => ⟨by decide, fun t' t'0 t'1 => ⟨fun _ => ⟨by decide, fun t2 t20 t21 => ?_⟩, fun _ => ?_⟩⟩⟩
    all_goals
      refine loopE_each (β := Nat) (eo := fun c => .str ⟨#[c]⟩) (P := fun c => 97 ≤ c ∧ c ≤ 122) (bindT_mono _) _ _ _ _ (by rw [rangeD_len]; simp [sizeLine]; try omega) (fun a ha R hR => ?_) (fun cs hl hcs => ?_)
      · obtain ⟨i, i0, i1, rfl⟩ := mem_rangeD.mp ha
        walk_at "dl"
        simp only [ph_law_take]
        walk_at "dl"
        refine ⟨by decide, fun b b0 b1 => ?_⟩
        obtain ⟨c, hc, hc1, hc2⟩ := abc_get b b0 b1
        exact ⟨c, ⟨abc_len, hc⟩, hR c ⟨hc1, hc2⟩⟩
      rw [rangeD_len] at hl
      have hw := chars_join cs
      refine ⟨cs.map fun c => ⟨#[c]⟩, by simp, by rw [hw.2.2, hl]; omega, ?_⟩
      rw [hw.1]
      show opc .inn (.str _) (.lst _) _
      rw [oc_innl]
      refine ⟨⟨rfl, by simp [D.flat]⟩, noL_bl _, ?_⟩
      rw [tst_bl]
      refine ⟨fun hin => ?_, fun hin => ?_⟩
      · obtain ⟨c, hc, hc1, hc2⟩ := abc_get i i0 (by omega)
        refine ⟨c, ⟨abc_len, hc⟩, ?_⟩
        walk_at "dl"
        refine ⟨?_, by rw [List.length_map]; simp [sizeLine]; omega, ss ++ [_], _, _, _, _, by rw [List.map_append]; rfl, by simp [h1]⟩
        have h4 : ("zzzz" : Str).length = 4 := by decide +kernel
        rw [h4]
        show 4 + 1 ≤ sizeLine
        decide
      · refine ⟨by rw [List.length_map]; simp [sizeLine]; omega, ss ++ [⟨cs.toArray⟩], _, _, _, _, by rw [List.map_append]; rfl, by simp [h1]⟩
  · rintro ε ⟨ss, x, y, z, u, rfl, h1⟩
    walk_at "dl"
    exact q ss (by rw [h1, hr])
/-! ### questions -/
inductive Qn where
  | fact (w : Str) (ts : List D)
  | two (k : Str) (a b : Qn)
  | shift (n : Int) (p : Qn)
  | tm (k : Str) (w : Option Int) (p : Qn)
  | oth (k : Str) (xs : List D) (p : Qn)
def dO : Option Int → D
  | none => .non
  | some i => .int i
theorem isNon_dO (x : Option Int) : (dO x).isNon = x.isNone := by cases x <;> rfl
def Qn.e : Qn → D
  | .fact w ts => .tup [.str "fact", .str w, .tup ts]
  | .two k a b => .tup [.str k, a.e, b.e]
  | .shift n p => .tup [.str "shift", .int n, p.e]
  | .tm k w p => .tup [.str k, dO w, p.e]
  | .oth k xs p => .tup (.str k :: (xs ++ [p.e]))
def pairsK : List Str := ["both", "either", "unless", "since", "until", "sincenot", "untilnot"]
def tmsK : List Str := ["once", "lately", "soon", "henceforth"]
def othK : List Str := ["count", "sum", "least", "most", "only", "linked", "way", "where"]
def Qn.ok : Qn → Prop
  | .fact _ _ => True
  | .two k a b => k ∈ pairsK ∧ a.ok ∧ b.ok
  | .shift _ p => p.ok
  | .tm k w p => k ∈ tmsK ∧ (∀ x, w = some x → 0 ≤ x) ∧ p.ok
  | .oth k xs p => k ∈ othK ∧ p.ok
def Qn.dep : Qn → Nat
  | .fact _ _ => 1
  | .two _ a b => 1 + (if a.dep < b.dep then b.dep else a.dep)
  | .shift _ p => 1 + p.dep
  | .tm _ _ p => 1 + p.dep
  | .oth _ _ p => 1 + p.dep
def Qn.parts : Qn → List Qn
  | .fact _ _ => []
  | .two _ a b => [a, b]
  | .shift _ p => [p]
  | .tm _ _ p => [p]
  | .oth _ _ p => [p]
def Qn.facts : Qn → List (Str × List D)
  | .fact w ts => [(w, ts)]
  | .two _ a b => a.facts ++ b.facts
  | .shift _ p => p.facts
  | .tm _ _ p => p.facts
  | .oth _ _ p => p.facts
def fE (f : Str × List D) : D := .tup [.str "fact", .str f.1, .tup f.2]
theorem Qn.dep_pos : ∀ q : Qn, 1 ≤ q.dep
  | .fact _ _ => by unfold Qn.dep; omega
  | .two _ a b => by unfold Qn.dep; omega
  | .shift _ p => by unfold Qn.dep; omega
  | .tm _ _ p => by unfold Qn.dep; omega
  | .oth _ _ p => by unfold Qn.dep; omega
theorem Qn.facts_ne : ∀ q : Qn, 0 < q.facts.length
  | .fact _ _ => by unfold Qn.facts; simp
  | .two _ a b => by
    have := a.facts_ne
    unfold Qn.facts
    rw [List.length_append]
    omega
  | .shift _ p => p.facts_ne
  | .tm _ _ p => p.facts_ne
  | .oth _ _ p => p.facts_ne
theorem Qn.facts_le : ∀ q : Qn, q.facts.length ≤ 2 ^ q.dep
  | .fact _ _ => by unfold Qn.facts Qn.dep; simp
  | .two _ a b => by
    have h1 := a.facts_le
    have h2 := b.facts_le
    unfold Qn.facts Qn.dep
    rw [List.length_append]
    have h3 : 2 ^ a.dep ≤ 2 ^ (if a.dep < b.dep then b.dep else a.dep) := Nat.pow_le_pow_right (by decide) (by split <;> omega)
    have h4 : 2 ^ b.dep ≤ 2 ^ (if a.dep < b.dep then b.dep else a.dep) := Nat.pow_le_pow_right (by decide) (by split <;> omega)
    rw [Nat.add_comm 1, Nat.pow_succ]
    omega
  | .shift _ p => by
    have h := p.facts_le
    show p.facts.length ≤ 2 ^ (1 + p.dep)
    rw [Nat.add_comm 1, Nat.pow_succ]
    omega
  | .tm _ _ p => by
    have h := p.facts_le
    show p.facts.length ≤ 2 ^ (1 + p.dep)
    rw [Nat.add_comm 1, Nat.pow_succ]
    omega
  | .oth _ _ p => by
    have h := p.facts_le
    show p.facts.length ≤ 2 ^ (1 + p.dep)
    rw [Nat.add_comm 1, Nat.pow_succ]
    omega
theorem cut_1 {α : Type} (a : α) (xs : List α) : cut (a :: xs) (some 1) none = xs := by
  rw [cut_hi _ _ (by decide) (by simp; omega)]
  rfl
theorem cut_l {α : Type} (xs : List α) (x : α) : cut (xs ++ [x]) (some (-1)) none = [x] := by
  simp only [cut, sIx]
  rw [if_pos (by decide), List.length_append, List.length_singleton, show (-1 + ((xs.length + 1 : Nat) : Int)).toNat = xs.length by omega, List.drop_left', Nat.add_sub_cancel_left] <;> rfl
theorem get_l {α : Type} (xs : List α) (x : α) (i : Int) (h : i = xs.length) : getI (xs ++ [x]) i = some x := by
  subst h
  unfold getI
  rw [if_pos (by omega)]
  simp
local macro_rules | `(tactic| walk_at "km") => `(tactic| simp (decide := true) only [oc_innl, oc_innt, List.all_cons, List.all_nil, D.flat, List.any_cons, List.any_nil, D.eqv, beq_iff_eq, Bool.or_eq_true, Bool.or_eq_false_iff, beq_eq_false_iff_ne, ne_eq, true_or, or_true, or_false, false_or, true_implies, false_implies, and_true, true_and, and_false, false_and, not_true_eq_false, not_false_eq_true, reduceCtorEq, tst_bl, Bool.and_true, Bool.and_false, Bool.true_and, Bool.false_and])
theorem law_is_pair_ok (k : Nat) (s : Str) (Q : Slot → Prop) (q : Q (.val (.bl (decide (s ∈ pairsK))))) : semF (PH k) 1 c_law_is_pair [.str s] Q := by
  unfold c_law_is_pair
  walk_at "dl"
  refine ⟨by simp [sizeLine], ?_⟩
  rw [oc_innl]
  refine ⟨⟨rfl, rfl⟩, ?_⟩
  have : (([D.str "both", D.str "either", D.str "unless", D.str "since", D.str "sincenot", D.str "until", D.str "untilnot"] : List D).any fun y => y.eqv (.str s)) = decide (s ∈ pairsK) := by
    rw [Bool.eq_iff_iff]
    simp only [List.any_cons, List.any_nil, D.eqv, pairsK, Bool.or_eq_true, beq_iff_eq, decide_eq_true_eq, List.mem_cons, List.not_mem_nil, or_false, Bool.or_false]
    constructor
    · rintro (h | h | h | h | h | h | h) <;> simp [← h]
    · rintro (h | h | h | h | h | h | h) <;> simp [h]
  rw [this]
  exact q
theorem law_parts_ok (k : Nat) (x : Qn) (hx : x.ok) (Q : Slot → Prop) (q : Q (.val (.lst (x.parts.map Qn.e)))) : semF (PH (k + 1)) 1 c_law_parts [x.e] Q := by
  unfold c_law_parts
  match x, hx, q with
  | .fact w ts, _, q =>
    unfold Qn.e
    walk_at "dl"
    exact ⟨by simp [sizeLine], q⟩
  | .two s a b, ⟨hs, _, _⟩, q =>
    unfold Qn.e
    walk_at "dl"
    rw [ph_law_is_pair]
    have hf : (s = "fact") = False := by
      simp only [eq_iff_iff, iff_false]
      rintro rfl
      exact absurd hs (by decide)
    simp only [hf, decide_false, Bool.false_eq_true, false_implies, true_and, true_implies]
    refine law_is_pair_ok _ _ _ ?_
    walk_at "dl"
    rw [decide_eq_true hs]
    walk_at "dl"
    exact ⟨by simp [sizeLine], q⟩
  | .shift n p, _, q =>
    unfold Qn.e
    walk_at "dl"
    rw [ph_law_is_pair]
    refine ⟨fun h => absurd h (by decide), fun _ => law_is_pair_ok _ _ _ ?_⟩
    walk_at "dl"
    refine ⟨fun h => absurd h (by decide), fun _ => ?_⟩
    exact ⟨_, rfl, by simp [sizeLine], q⟩
  | .tm s w p, ⟨hs, _, _⟩, q =>
    unfold Qn.e
    walk_at "dl"
    rw [ph_law_is_pair]
    have hf : ¬ s = "fact" := by
      rintro rfl
      exact absurd hs (by decide)
    have hp : ¬ s ∈ pairsK := by
      simp only [tmsK, List.mem_cons, List.not_mem_nil, or_false] at hs
      rcases hs with rfl | rfl | rfl | rfl <;> decide
    refine ⟨fun h => absurd (of_decide_eq_true h) hf, fun _ => law_is_pair_ok _ _ _ ?_⟩
    walk_at "dl"
    refine ⟨fun h => absurd (of_decide_eq_true h) hp, fun _ => ?_⟩
    exact ⟨_, rfl, by simp [sizeLine], q⟩
  | .oth s xs p, ⟨hs, _⟩, q =>
    unfold Qn.e
    walk_at "dl"
    rw [ph_law_is_pair]
    have hf : ¬ s = "fact" := by
      rintro rfl
      exact absurd hs (by decide)
    have hp : ¬ s ∈ pairsK := by
      simp only [othK, List.mem_cons, List.not_mem_nil, or_false] at hs
      rcases hs with rfl | rfl | rfl | rfl | rfl | rfl | rfl | rfl <;> decide
    refine ⟨fun h => absurd (of_decide_eq_true h) hf, fun _ => law_is_pair_ok _ _ _ ?_⟩
    walk_at "dl"
    refine ⟨fun h => absurd (of_decide_eq_true h) hp, fun _ => ?_⟩
    exact ⟨_, get_l (D.str s :: xs) p.e _ (by simp), by simp [sizeLine], q⟩
theorem parts_of_ok (k : Nat) (x : Qn) (hx : x.ok) (hn : ∀ w ts, x ≠ .fact w ts) (Q : Slot → Prop) (q : Q (.val (.tup (x.parts.map Qn.e)))) : semF (PH k) 1 c_parts_of [x.e] Q := by
  unfold c_parts_of
  have hP : (PH k).c 0 = .tup (pairsK.map .str) := by cases k <;> rfl
  have hin : ∀ (s : Str) (R : D → Prop), R (.bl (decide (s ∈ pairsK))) → opc .inn (.str s) ((PH k).c 0) R := by
    intro s R r
    rw [hP, oc_innt]
    refine ⟨⟨rfl, rfl⟩, ?_⟩
    have : ((pairsK.map D.str).any fun y => y.eqv (.str s)) = decide (s ∈ pairsK) := by
      rw [Bool.eq_iff_iff]
      simp only [pairsK, List.map_cons, List.map_nil, List.any_cons, List.any_nil, D.eqv, Bool.or_eq_true, beq_iff_eq, decide_eq_true_eq, List.mem_cons, List.not_mem_nil, or_false, Bool.or_false]
      constructor
      · rintro (h | h | h | h | h | h | h) <;> simp [← h]
      · rintro (h | h | h | h | h | h | h) <;> simp [h]
    rw [this]
    exact r
  match x, hx, hn, q with
  | .fact w ts, _, hn, q => exact absurd rfl (hn w ts)
  | .two s a b, ⟨hs, _, _⟩, _, q =>
    unfold Qn.e
    walk_at "dl"
    have hf : ¬ s = "fact" := by
      rintro rfl
      exact absurd hs (by decide)
    refine ⟨fun h => absurd (of_decide_eq_true h) hf, fun _ => hin _ _ ?_⟩
    walk_at "dl"
    refine ⟨fun _ => ?_, fun h => absurd hs (of_decide_eq_false h)⟩
    rw [cut_1]
    exact q
  | .shift n p, _, _, q =>
    unfold Qn.e
    walk_at "dl"
    refine ⟨fun h => absurd h (by decide), fun _ => hin _ _ ?_⟩
    walk_at "dl"
    refine ⟨fun h => absurd h (by decide), fun _ => ?_⟩
    exact (cut_l [D.str "shift", D.int n] p.e).symm ▸ q
  | .tm s w p, ⟨hs, _, _⟩, _, q =>
    unfold Qn.e
    walk_at "dl"
    have hf : ¬ s = "fact" := by
      rintro rfl
      exact absurd hs (by decide)
    have hp : ¬ s ∈ pairsK := by
      simp only [tmsK, List.mem_cons, List.not_mem_nil, or_false] at hs
      rcases hs with rfl | rfl | rfl | rfl <;> decide
    refine ⟨fun h => absurd (of_decide_eq_true h) hf, fun _ => hin _ _ ?_⟩
    walk_at "dl"
    refine ⟨fun h => absurd (of_decide_eq_true h) hp, fun _ => ?_⟩
    exact (cut_l [D.str s, dO w] p.e).symm ▸ q
  | .oth s xs p, ⟨hs, _⟩, _, q =>
    unfold Qn.e
    walk_at "dl"
    have hf : ¬ s = "fact" := by
      rintro rfl
      exact absurd hs (by decide)
    have hp : ¬ s ∈ pairsK := by
      simp only [othK, List.mem_cons, List.not_mem_nil, or_false] at hs
      rcases hs with rfl | rfl | rfl | rfl | rfl | rfl | rfl | rfl <;> decide
    refine ⟨fun h => absurd (of_decide_eq_true h) hf, fun _ => hin _ _ ?_⟩
    walk_at "dl"
    refine ⟨fun h => absurd (of_decide_eq_true h) hp, fun _ => ?_⟩
    exact (cut_l (D.str s :: xs) p.e).symm ▸ q
/-! ### whens with their bounds -/
inductive Wh : Nat → D → Int → Prop
  | frm (n : Nat) (a : Int) : 0 ≤ a → Wh n (.tup [.str "from", .int a]) a
  | span (n : Nat) (a b : Int) : 0 ≤ b → Wh n (.tup [.str "span", .int a, .int b]) b
  | rnd (n : Nat) (a l e : Int) : 0 ≤ a → Wh n (.tup [.str "round", .int a, .int l, .int e, .non]) a
  | rndc (n : Nat) (a l e c : Int) : 0 ≤ a → 0 ≤ l → 0 < e → e ≤ 60 → 1 ≤ c → Wh n (.tup [.str "round", .int a, .int l, .int e, .int c]) (a + (c - 1) * e + l)
  | two (n : Nat) (k : Str) (u v : D) (a b : Int) : (k = "also" ∨ k = "but") → Wh n u a → Wh n v b → Wh (n + 1) (.tup [.str k, u, v]) (if b > a then b else a)
theorem Wh.nn {n : Nat} {w : D} {b : Int} (h : Wh n w b) : 0 ≤ b := by
  induction h with
  | frm n a h => exact h
  | span n a b h => exact h
  | rnd n a l e h => exact h
  | rndc n a l e c h1 h2 h3 h4 h5 =>
    have : 0 ≤ (c - 1) * e := Int.mul_nonneg (by omega) (by omega)
    omega
  | two n k u v a b hk h1 h2 i1 i2 => split <;> omega
theorem Wh.up {n : Nat} {w : D} {b : Int} (h : Wh n w b) : Wh (n + 1) w b := by
  induction h with
  | frm n a h => exact .frm _ a h
  | span n a b h => exact .span _ a b h
  | rnd n a l e h => exact .rnd _ a l e h
  | rndc n a l e c h1 h2 h3 h4 h5 => exact .rndc _ a l e c h1 h2 h3 h4 h5
  | two n k u v a b hk h1 h2 i1 i2 => exact .two _ k u v a b hk i1 i2
theorem Wh.sm {n : Nat} {w : D} {b : Int} (h : Wh n w b) : w.sm (n + 2) = true := by
  have h3 : decide (3 ≤ sizeLine) = true := by decide
  have h2 : decide (2 ≤ sizeLine) = true := by decide
  have h5 : decide (5 ≤ sizeLine) = true := by decide
  have hn : ∀ m, D.sm m .non = true := fun m => by cases m <;> (unfold D.sm; rfl)
  have hi : ∀ m i, D.sm m (.int i) = true := fun m i => by cases m <;> (unfold D.sm; rfl)
  have hs : ∀ m i, D.sm m (.str i) = true := fun m i => by cases m <;> (unfold D.sm; rfl)
  induction h with
  | frm n a h => simp [sm_tup, sms, hn, hi, hs, h2, h3, h5]
  | span n a b h => simp [sm_tup, sms, hn, hi, hs, h2, h3, h5]
  | rnd n a l e h => simp [sm_tup, sms, hn, hi, hs, h2, h3, h5]
  | rndc n a l e c h1 h2' h3' h4 h5' => simp [sm_tup, sms, hn, hi, hs, h2, h3, h5]
  | two n k u v a b hk h1 h2' i1 i2 => simp [sm_tup, sms, hn, hi, hs, h2, h3, h5, i1, i2]
theorem law_sized_leaf_ok (k : Nat) (ns : List Int) (c : Int) (hc : 1 ≤ c) (hc2 : c ≤ 60) (Q : Slot → Prop) (q : ∀ w b, Wh 0 w b → Q (.val w)) : semF (PH (k + 2)) 8 c_law_sized_leaf [.opq 0, .scr ns, .int c] Q := by
  unfold c_law_sized_leaf
  walk_at "dl"
  rw [ph_law_size]
  refine law_size_ok k ns _ fun s hs => ?_
  walk_at "dl"
  rw [ph_law_take]
  walk_at "dl"
  refine ⟨by decide, fun t t0 t1 => ⟨fun _ => ⟨by simp [sizeLine], q _ _ (.frm _ _ hs)⟩, fun _ => ⟨fun _ => ?_, fun _ => ?_⟩⟩⟩
  · rw [ph_law_size]
    refine law_size_ok k ns _ fun s' hs' => ?_
    walk_at "dl"
    exact ⟨by simp [sizeLine], q _ _ (.span _ _ _ (by omega))⟩
  · rw [rangeD_map]
    refine loopE_all (en := fun i : Nat => D.int (1 + (i : Nat))) (fun i : Nat => if c % (1 + (i : Int)) = 0 then some (.int (1 + (i : Nat))) else none) (bindT_mono _) (semC_mono (PHm _) _) _ [] _ (by simp [sizeLine]; omega) (fun i hi => ?_) ?_
    · rw [List.mem_range] at hi
      walk_at "dl"
      refine ⟨by omega, fun h R r => r _ (if_pos (of_decide_eq_true h)), fun h => if_neg (of_decide_eq_false h)⟩
    rw [List.nil_append]
    have hlen : 0 < ((List.range (c + 1 - 1).toNat).filterMap fun i : Nat => if c % (1 + (i : Int)) = 0 then some (D.int (1 + (i : Nat))) else none).length := by
      have h0 : D.int (1 + (0 : Nat)) ∈ ((List.range (c + 1 - 1).toNat).filterMap fun i : Nat => if c % (1 + (i : Int)) = 0 then some (D.int (1 + (i : Nat))) else none) := by
        rw [List.mem_filterMap]
        exact ⟨0, List.mem_range.mpr (by omega), by simp⟩
      exact List.length_pos_of_mem h0
    rw [ph_law_pick]
    refine law_pick_ok _ _ _ hlen fun d hd => ?_
    rw [List.mem_filterMap] at hd
    obtain ⟨i, hi, hd⟩ := hd
    rw [List.mem_range] at hi
    split at hd
    case isFalse => cases hd
    injection hd with hd
    subst hd
    walk_at "dl"
    rw [ph_law_take]
    walk_at "dl"
    refine ⟨by omega, fun l l0 l1 => ?_⟩
    rw [ph_law_take]
    walk_at "dl"
    refine ⟨by decide, fun t t0 t1 => ⟨fun _ => ⟨by simp [sizeLine], q _ _ (.rnd _ _ _ _ hs)⟩, fun _ => ?_⟩⟩
    rw [ph_law_size]
    refine law_size_ok k ns _ fun s' hs' => ?_
    walk_at "dl"
    exact ⟨by simp [sizeLine], q _ _ (.rndc _ _ _ _ _ hs (by omega) (by omega) (by omega) (by omega))⟩
theorem law_sized_leaves_ok (k : Nat) (ns : List Int) (c m : Int) (hc : 1 ≤ c) (hc2 : c ≤ 60) (hm : 1 ≤ m) (hm2 : m ≤ 8) (Q : Slot → Prop) (q : ∀ ws : List D, ws.length = m.toNat → (∀ w ∈ ws, ∃ b, Wh 0 w b) → Q (.own ws)) : semF (PH (k + 3)) 6 c_law_sized_leaves [.opq 0, .scr ns, .int c, .int m] Q := by
  unfold c_law_sized_leaves
  walk_at "dl"
  refine loopE_each (β := D) (eo := id) (P := fun w => ∃ b, Wh 0 w b) (bindT_mono _) _ _ _ _ (by rw [rangeD_len]; simp [sizeLine]; omega) (fun a ha R hR => ?_) (fun ws hl hws => ?_)
  · obtain ⟨i, i0, i1, rfl⟩ := mem_rangeD.mp ha
    walk_at "dl"
    rw [ph_law_sized_leaf]
    refine law_sized_leaf_ok k ns c hc hc2 _ fun w b h => ?_
    walk_at "dl"
    exact hR _ ⟨b, h⟩
  rw [rangeD_len] at hl
  rw [List.nil_append, List.map_id]
  walk_at "dl"
  rw [ph_law_take]
  walk_at "dl"
  refine ⟨by decide, fun t t0 t1 => ⟨fun _ => ?_, fun _ => q ws (by omega) hws⟩⟩
  refine ⟨_, getI_nat ws 0 (by decide) (by omega), (m - 1).toNat, ?_, q _ (by rw [List.length_set]; omega) fun w hw => ?_⟩
  · unfold ixN
    rw [if_pos (by omega), if_pos (by omega)]
  · rcases List.mem_or_eq_of_mem_set hw with h | rfl
    · exact hws w h
    · exact hws _ (List.getElem_mem _)
theorem law_chained_ok (k : Nat) (ws : List D) (ys : List Int) (n : Nat) (hw : ∀ w ∈ ws, ∃ b, Wh 0 w b) (h0 : 0 < ws.length) (hy : ws.length ≤ ys.length) (Q : Slot → Prop) (hn : ws.length ≤ n + 1) (q : ∀ w b, Wh n w b → Q (.val w)) : semF (PH k) 5 c_law_chained [.lst ws, .lst (ys.map .int)] Q := by
  unfold c_law_chained
  walk_at "dl"
  have h00 : ∃ b, Wh 0 (ws[(0 : Int).toNat]'h0) b := hw _ (List.getElem_mem _)
  refine ⟨_, getI_nat ws 0 (by decide) (by omega), ?_⟩
  refine loopS_rng _ (fun i ε => ∃ (w : D) (b : Int) (x y : Slot), ε = [.val (.lst ws), .val (.lst (ys.map .int)), .val w, x, y] ∧ Wh (i - 1).toNat w b) (semSs_mono (PHm _) _) (bindT_mono _) 1 _ ?_ ?_ ?_
  · obtain ⟨b, hb⟩ := h00
    exact ⟨_, b, _, _, rfl, hb⟩
  · rintro i i0 i1 ε ⟨w, b, x, y, rfl, hb⟩
    have hg : getI (ys.map D.int) i = some (.int (ys[i.toNat]'(by omega))) := by
      rw [getI_nat _ _ (by omega) (by simp; omega), List.getElem_map]
    have hg2 := getI_nat ws i (by omega) (by omega)
    obtain ⟨b2, hb2⟩ := hw _ (List.getElem_mem (show i.toNat < ws.length by omega))
    generalize ys[i.toNat]'(by omega) = y0 at hg
    generalize ws[i.toNat]'(by omega) = w2 at hg2 hb2
    have hb2 : Wh (i - 1).toNat w2 b2 := by
      generalize (i - 1).toNat = m
      clear hb
      induction m with
      | zero => exact hb2
      | succ m ih => exact ih.up
    have hk : ∀ R : D → Prop, (∀ s : Str, (s = "also" ∨ s = "but") → R (.str s)) → ∃ d, getI [D.str "also", D.str "but"] (y0 % 2) = some d ∧ R d := by
      intro R h
      have : y0 % 2 = 0 ∨ y0 % 2 = 1 := by omega
      rcases this with e | e <;> rw [e]
      · exact ⟨_, rfl, h _ (.inl rfl)⟩
      · exact ⟨_, rfl, h _ (.inr rfl)⟩
    walk_at "dl"
    refine ⟨by simp [sizeLine], _, hg, ?_⟩
    walk_at "dl"
    refine ⟨by decide, hk _ fun s hs => ?_⟩
    refine ⟨_, hg, ?_⟩
    walk_at "dl"
    refine ⟨by decide, by decide, fun _ => ?_, fun _ => ?_⟩
    · refine ⟨_, hg2, by simp [sizeLine], _, (if b2 > b then b2 else b), _, _, rfl, ?_⟩
      rw [show (i + 1 - 1).toNat = (i - 1).toNat + 1 by omega]
      exact .two _ _ _ _ _ _ hs hb hb2
    · refine ⟨_, hg2, by simp [sizeLine], _, (if b > b2 then b else b2), _, _, rfl, ?_⟩
      rw [show (i + 1 - 1).toNat = (i - 1).toNat + 1 by omega]
      exact .two _ _ _ _ _ _ hs hb2 hb
  · rintro ε ⟨w, b, x, y, rfl, hb⟩
    walk_at "dl"
    refine q w b ?_
    rw [if_pos (by omega)] at hb
    have : ∃ m, n = ((ws.length : Int) - 1).toNat + m := ⟨n - ((ws.length : Int) - 1).toNat, by omega⟩
    obtain ⟨m, rfl⟩ := this
    clear q hn
    induction m with
    | zero => exact hb
    | succ m ih => exact ih.up
theorem law_tree_ok (k : Nat) (ws : List D) (ys : List Int) (s : Int) (hw : ∀ w ∈ ws, ∃ b, Wh 0 w b) (h0 : 0 ≤ s) (h1 : s < ws.length) (hl : ws.length ≤ 8) (hy : ws.length ≤ ys.length) (Q : Slot → Prop) (q : ∀ w b, Wh 8 w b → Q (.val w)) : semF (PH (k + 1)) 5 c_law_tree [.lst ws, .lst (ys.map .int), .int s] Q := by
  unfold c_law_tree
  walk_at "dl"
  have et : cut ws none (some (s + 1)) = ws.take (s + 1).toNat := cut_lo _ _ (by omega) (by omega)
  have ed : cut ws (some (s + 1)) none = ws.drop (s + 1).toNat := cut_hi _ _ (by omega) (by omega)
  have ed2 : cut (ys.map D.int) (some (s + 1)) none = (ys.drop (s + 1).toNat).map D.int := by rw [cut_hi _ _ (by omega) (by simp; omega), List.map_drop]
  rw [et]
  rw [ph_law_chained]
  refine law_chained_ok k _ ys 7 (fun w hw' => hw w (List.mem_of_mem_take hw')) (by rw [List.length_take]; omega) (by rw [List.length_take]; omega) _ (by rw [List.length_take]; omega) fun w b hb => ?_
  walk_at "dl"
  refine ⟨fun _ => q w b hb.up, fun h => ?_⟩
  have h := of_decide_eq_false h
  rw [ed, ed2, ph_law_chained]
  refine law_chained_ok k _ _ 7 (fun w hw' => hw w (List.mem_of_mem_drop hw')) (by rw [List.length_drop]; omega) (by rw [List.length_drop, List.length_drop]; omega) _ (by rw [List.length_drop]; omega) fun w' b' hb' => ?_
  walk_at "dl"
  have hg : getI (ys.map D.int) 0 = some (.int (ys[0]'(by omega))) := by
    rw [getI_nat _ _ (by omega) (by simp; omega), List.getElem_map]
    rfl
  refine ⟨by simp [sizeLine], _, hg, ?_⟩
  walk_at "dl"
  generalize ys[0]'(by omega) = y0
  have : y0 % 2 = 0 ∨ y0 % 2 = 1 := by omega
  rcases this with e | e <;> rw [e]
  · exact ⟨by decide, _, rfl, by simp [sizeLine], q _ _ (.two _ _ _ _ _ _ (.inl rfl) hb hb')⟩
  · exact ⟨by decide, _, rfl, by simp [sizeLine], q _ _ (.two _ _ _ _ _ _ (.inr rfl) hb hb')⟩
theorem strs_flat (cs : List Str) : (cs.map D.str).all D.flat = true := by simp [D.flat]
theorem law_some_columns_ok (k : Nat) (cs : List Str) (hl : cs.length ≤ 1000) (Q : Slot → Prop) (q : ∀ ys : List Str, ys.Sublist cs → Q (.val (.tup (ys.map .str)))) : semF (PH (k + 1)) 3 c_law_some_columns [.opq 0, .tup (cs.map .str)] Q := by
  unfold c_law_some_columns
  walk_at "dl"
  refine loopE_some (bindT_mono _) (semC_mono (PHm _) _) _ [] _ (by simp [sizeLine]; omega) (fun i hi => ?_) (fun ys hy => ?_)
  · walk_at "dl"
    rw [ph_law_take]
    walk_at "dl"
    exact ⟨by decide, fun t _ _ => ⟨fun _ R r => r, fun _ => trivial⟩⟩
  · rw [List.nil_append]
    walk_at "dl"
    exact q ys hy
theorem law_wide_term_ok (k : Nat) (ns : List Int) (ws cs : List Str) (hw : 0 < ws.length) (Q : Slot → Prop) (q : ∀ d, Q (.val d)) : semF (PH (k + 4)) 4 c_law_wide_term [.opq 0, .scr ns, .lst (ws.map .str), .tup (cs.map .str)] Q := by
  unfold c_law_wide_term
  walk_at "dl"
  have h2 : ∀ R : D → Prop, (∀ d, R d) → (PH (k + 4)).f 18 [.opq 0, .scr ns, .lst (ws.map .str)] (fun s => callQ s R) := by
    intro R r
    rw [ph_law_worth]
    refine law_worth_ok k ns ws _ hw fun d hd => ?_
    walk_at "dl"
    exact r d
  refine ⟨fun h => ?_, fun _ => h2 _ fun d => ⟨by simp [sizeLine], q _⟩⟩
  have h := of_decide_eq_true h
  rw [ph_law_take]
  walk_at "dl"
  refine ⟨by decide, fun t _ _ => ⟨fun _ => ?_, fun _ => h2 _ fun d => ⟨by simp [sizeLine], q _⟩⟩⟩
  rw [ph_law_pick]
  refine law_pick_t _ _ _ (by omega) fun d hd => ?_
  walk_at "dl"
  obtain ⟨s, hs, rfl⟩ := List.mem_map.mp hd
  exact ⟨by simp [sizeLine], q _⟩
theorem law_wide_fact_ok (k : Nat) (ns : List Int) (ws cs : List Str) (hw : 0 < ws.length) (hc : cs.length ≤ 8) (Q : Slot → Prop) (q : ∀ w ts, Q (.val (.tup [.str "fact", .str w, .tup ts]))) : semF (PH (k + 5)) 8 c_law_wide_fact [.opq 0, .scr ns, .lst (ws.map .str), .tup (cs.map .str)] Q := by
  unfold c_law_wide_fact
  walk_at "dl"
  refine loopE_map (en := D.str) (fun s => .tup [.str "col", .str s]) (bindT_mono _) _ _ [] _ (by simp [sizeLine]; omega) (fun i hi R r => ?_) ?_
  · walk_at "dl"
    exact ⟨by simp [sizeLine], r⟩
  rw [List.nil_append]
  walk_at "dl"
  rw [ph_law_take]
  walk_at "dl"
  refine ⟨by simp; omega, fun t t0 t1 => ?_⟩
  refine loopS_rng _ (fun i ε => ∃ (ds : List D) (x y z u : Slot), ε = [.val (.opq 0), .val (.scr ns), .val (.lst (ws.map .str)), .val (.tup (cs.map .str)), .own ds, x, y, z] ∧ (ds.length : Int) ≤ 8 + i) (semSs_mono (PHm _) _) (bindT_mono _) 0 _ ?_ ?_ ?_
  · exact ⟨_, _, _, _, .non, rfl, by simp; omega⟩
  · rintro i i0 i1 ε ⟨ds, x, y, z, u, rfl, hd⟩
    walk_at "dl"
    rw [ph_law_take]
    walk_at "dl"
    refine ⟨by decide, fun t' _ _ => ⟨fun _ => ?_, fun _ => ⟨ds, _, _, _, .non, rfl, by omega⟩⟩⟩
    rw [ph_law_wide_term]
    refine law_wide_term_ok k ns ws cs hw _ fun d => ?_
    walk_at "dl"
    exact ⟨by simp [sizeLine]; omega, _, _, _, _, .non, rfl, by simp; omega⟩
  · rintro ε ⟨ds, x, y, z, u, rfl, hd⟩
    walk_at "dl"
    rw [ph_law_take]
    walk_at "dl"
    refine ⟨by omega, fun s s0 s1 => ?_⟩
    have e1 : cut ds (some s) none = ds.drop s.toNat := cut_hi _ _ (by omega) (by omega)
    have e2 : cut ds none (some s) = ds.take s.toNat := cut_lo _ _ (by omega) (by omega)
    rw [e1, e2]
    refine ⟨by rw [List.length_drop, List.length_take]; simp [sizeLine]; omega, ?_⟩
    rw [ph_law_take]
    walk_at "dl"
    refine ⟨by decide, fun t' _ _ => ⟨fun _ => ?_, fun _ => ?_⟩⟩
    all_goals
      rw [ph_law_pick]
      refine law_pick_ok _ _ _ (by simpa using hw) fun d hd => ?_
      obtain ⟨w, hs, rfl⟩ := List.mem_map.mp hd
      walk_at "dl"
      exact ⟨by simp [sizeLine], q _ _⟩
theorem law_more_ok (k : Nat) (ws cs : List Str) (hc : cs.length ≤ 8) (Q : Slot → Prop) (q : ∀ ys : List Str, ys.length ≤ 8 → Q (.val (.tup (ys.map .str)))) : semF (PH (k + 1)) 5 c_law_more [.opq 0, .lst (ws.map .str), .tup (cs.map .str)] Q := by
  unfold c_law_more
  walk_at "dl"
  refine loopS_inv (en := D.str) (fun ps ε => ∃ (ds : List Str) (x : Slot), ε = [.val (.opq 0), .val (.lst (ws.map .str)), .val (.tup (cs.map .str)), .own (ds.map .str), x] ∧ ds.length ≤ 8) (semSs_mono (PHm _) _) (bindT_mono _) ⟨cs, _, rfl, hc⟩ ?_ ?_
  · rintro ps w qs ε ⟨ds, x, rfl, hd⟩ hx
    walk_at "dl"
    refine ⟨fun h => ?_, fun _ => ⟨ds, _, rfl, hd⟩⟩
    have h := of_decide_eq_true h
    show opc .nin (.str w) (.lst (ds.map .str)) _
    rw [oc_ninl]
    refine ⟨⟨rfl, strs_flat _⟩, ?_⟩
    show tst (.bl _) _ _
    rw [tst_bl]
    refine ⟨fun _ => ?_, fun _ => ⟨ds, _, rfl, hd⟩⟩
    rw [ph_law_take]
    walk_at "dl"
    refine ⟨by decide, fun t' _ _ => ⟨fun _ => ?_, fun _ => ⟨ds, _, rfl, hd⟩⟩⟩
    exact ⟨by rw [List.length_map] at h ⊢; simp [sizeLine]; omega, ds ++ [w], _, by rw [List.map_append]; rfl, by rw [List.length_map] at h; simp; omega⟩
  · rintro ε ⟨ds, x, rfl, hd⟩
    walk_at "dl"
    refine .inr ⟨ds, rfl, by omega, fun ys hp _ => ?_⟩
    walk_at "dl"
    exact q ys (by rw [hp.length_eq]; exact hd)
/-- what a call of the generator may rely on -/
def WideOk (P : Sm) (ns : List Int) (ws : List Str) (n : Nat) : Prop := ∀ (cs : List Str) (d : Int) (Q : Slot → Prop), cs.length ≤ 8 → d ≤ n → (∀ x : Qn, x.ok → x.dep ≤ n → Q (.val x.e)) → P.f 24 [.opq 0, .scr ns, .lst (ws.map .str), .tup (cs.map .str), .int d] Q
theorem oc_nes (a b : Str) (Q : D → Prop) : opc .ne (.str a) (.str b) Q = Q (.bl (!decide (a = b))) := by
  rw [oc_ne]
  have : D.eqv (.str a) (.str b) = decide (a = b) := by unfold D.eqv; by_cases h : a = b <;> simp [h]
  rw [this]
  simp [D.ok]
theorem law_wide_total_ok (k n : Nat) (ns : List Int) (ws cs : List Str) (d : Int) (hw : 0 < ws.length) (hc : cs.length ≤ 8) (hc0 : 0 < cs.length) (hd : d ≤ n + 1) (ih : WideOk (PH (k + 2)) ns ws n) (Q : Slot → Prop) (q : ∀ x : Qn, x.ok → x.dep ≤ n + 1 → Q (.val x.e)) : semF (PH (k + 2)) 11 c_law_wide_total [.opq 0, .scr ns, .lst (ws.map .str), .tup (cs.map .str), .int d] Q := by
  unfold c_law_wide_total
  walk_at "dl"
  rw [ph_law_pick]
  refine law_pick_t _ _ _ (by simpa using hc0) fun nd hnd => ?_
  obtain ⟨nw, hs, rfl⟩ := List.mem_map.mp hnd
  walk_at "dl"
  refine loopE_some (bindT_mono _) (semC_mono (PHm _) _) cs [] _ (by simp [sizeLine]; omega) (fun i hi => ?_) (fun kp hkp => ?_)
  · walk_at "dl"
    rw [oc_nes, tst_bl]
    exact ⟨fun h R r => r, fun h => trivial⟩
  rw [List.nil_append]
  have hk : kp.length ≤ 8 := Nat.le_trans hkp.length_le hc
  walk_at "dl"
  rw [ph_law_more]
  refine law_more_ok _ ws kp hk _ fun inn hin => ?_
  walk_at "dl"
  have h0 : getI (ws.map D.str) 0 = some (.str (ws[0]'hw)) := by
    rw [getI_nat _ _ (by omega) (by simp; omega), List.getElem_map]
    rfl
  have key : ∀ inn : List Str, inn.length ≤ 8 → 0 < inn.length → (PH (k + 2)).f 24 [.opq 0, .scr ns, .lst (ws.map .str), .tup (inn.map .str), .int (d - 1)] fun s => callQ s fun p =>
      4 ≤ sizeLine ∧ (PH (k + 2)).f 5 [.opq 0, .lst [.str "count", .str "sum", .str "least", .str "most"]] fun s => callQ s fun kd =>
        opc .eq kd (.str "count") fun y => tst y (4 ≤ sizeLine ∧ Q (.val (.tup [kd, .str nw, .tup (kp.map .str), p]))) ((PH (k + 2)).f 5 [.opq 0, .tup (inn.map .str)] fun s => callQ s fun c => 5 ≤ sizeLine ∧ Q (.val (.tup [kd, .str nw, c, .tup (kp.map .str), p]))) := by
    intro inn hi hi0
    refine ih inn (d - 1) _ hi (by omega) fun x hx hxd => ?_
    walk_at "dl"
    refine ⟨by simp [sizeLine], ?_⟩
    rw [ph_law_pick]
    refine law_pick_ok _ _ _ (by decide) fun kd hkd => ?_
    have hfin : ∀ s : Str, s ∈ othK → opc .eq (.str s) (.str "count") fun y => tst y (4 ≤ sizeLine ∧ Q (.val (.tup [.str s, .str nw, .tup (kp.map .str), x.e]))) ((PH (k + 2)).f 5 [.opq 0, .tup (inn.map .str)] fun s' => callQ s' fun c => 5 ≤ sizeLine ∧ Q (.val (.tup [.str s, .str nw, c, .tup (kp.map .str), x.e]))) := by
      intro s hs
      rw [oc_eqs, tst_bl]
      refine ⟨fun _ => ⟨by simp [sizeLine], q (.oth s [.str nw, .tup (kp.map .str)] x) ⟨hs, hx⟩ ?_⟩, fun _ => ?_⟩
      · show 1 + x.dep ≤ _
        omega
      · rw [ph_law_pick]
        refine law_pick_t _ _ _ (by simpa using hi0) fun c hc => ?_
        rw [callQ_v]
        refine ⟨by simp [sizeLine], q (.oth s [.str nw, c, .tup (kp.map .str)] x) ⟨hs, hx⟩ ?_⟩
        show 1 + x.dep ≤ _
        omega
    simp only [List.mem_cons, List.not_mem_nil, or_false] at hkd
    rcases hkd with rfl | rfl | rfl | rfl
    all_goals
      rw [callQ_v]
      exact hfin _ (by decide)
  refine ⟨fun h => ⟨_, h0, by simp [sizeLine], key [_] (by simp) (by simp)⟩, fun h => key inn hin ?_⟩
  have := of_decide_eq_false h
  simp at this
  cases inn with
  | nil => exact absurd rfl this
  | cons a b => simp
theorem law_wide_pair_ok (k n : Nat) (ns : List Int) (ws cs : List Str) (d : Int) (hw : 0 < ws.length) (hc : cs.length ≤ 8) (hd : d ≤ n + 1) (ih : WideOk (PH (k + 2)) ns ws n) (Q : Slot → Prop) (q : ∀ x : Qn, x.ok → x.dep ≤ n + 1 → Q (.val x.e)) : semF (PH (k + 2)) 11 c_law_wide_pair [.opq 0, .scr ns, .lst (ws.map .str), .tup (cs.map .str), .int d] Q := by
  unfold c_law_wide_pair
  walk_at "dl"
  refine ⟨by simp [sizeLine], ?_⟩
  rw [ph_law_pick]
  refine law_pick_ok _ _ _ (by decide) fun kd hkd => ?_
  obtain ⟨s, hs, rfl⟩ : ∃ s, s ∈ pairsK ∧ kd = .str s := by
    obtain ⟨s, h1, h2⟩ := List.mem_map.mp (show kd ∈ pairsK.map D.str from hkd)
    exact ⟨s, h1, h2.symm⟩
  have fin : ∀ (c1 c2 : List Str) (d1 d2 : Int), c1.length ≤ 8 → c2.length ≤ 8 → d1 ≤ n → d2 ≤ n →
      ∃ y, getI [D.int d1, .int d2] 0 = some y ∧ (PH (k + 2)).f 24 [.opq 0, .scr ns, .lst (ws.map .str), .tup (c1.map .str), y] fun s' => callQ s' fun p =>
      ∃ y', getI [D.int d1, .int d2] 1 = some y' ∧ (PH (k + 2)).f 24 [.opq 0, .scr ns, .lst (ws.map .str), .tup (c2.map .str), y'] fun s'' => callQ s'' fun p' => 3 ≤ sizeLine ∧ Q (.val (.tup [.str s, p, p'])) := by
    intro c1 c2 d1 d2 h1 h2 h3 h4
    refine ⟨_, rfl, ih _ _ _ h1 h3 fun x hx hxd => ?_⟩
    rw [show callQ (.val x.e) = fun R => R x.e from rfl]
    refine ⟨_, rfl, ih _ _ _ h2 h4 fun y hy hyd => ?_⟩
    refine ⟨by simp [sizeLine], q (.two s x y) ⟨hs, hx, hy⟩ ?_⟩
    show 1 + (if _ then _ else _) ≤ _
    split <;> omega
  have cols : ∀ R : D → Prop, (∀ ys : List Str, ys.length ≤ 8 → R (.tup (ys.map .str))) → (PH (k + 2)).f 10 [.opq 0, .tup (cs.map .str)] (fun s => callQ s R) := by
    intro R r
    rw [ph_law_some_columns]
    refine law_some_columns_ok _ cs (by omega) _ fun ys hy => ?_
    rw [callQ_v]
    exact r ys (Nat.le_trans hy.length_le hc)
  walk_at "dl"
  simp only [ph_law_take]
  walk_at "dl"
  refine ⟨by decide, fun t0 t00 t01 => ⟨by simp [sizeLine], by decide, fun t1 _ _ => ⟨fun _ => ?_, fun _ => ?_⟩⟩⟩
  all_goals
    have hd1 : d - 1 ≤ n := by omega
    have hd2 : (if 1 + t0 < d - 1 then 1 + t0 else d - 1) ≤ n := by split <;> omega
    refine ⟨fun _ => cols _ fun ys hy => ?_, fun _ => ⟨fun _ => cols _ fun ys hy => ?_, fun _ => ?_⟩⟩
    · first
      | exact fin cs ys _ _ hc hy hd2 hd1
      | exact fin cs ys _ _ hc hy hd1 hd2
    · refine loopE_some (bindT_mono _) (semC_mono (PHm _) _) cs [] _ (by simp [sizeLine]; omega) (fun i hi => ?_) (fun kp hkp => ?_)
      · walk_at "dl"
        show opc .nin (.str i) (.tup (ys.map .str)) _
        rw [oc_nint]
        refine ⟨⟨rfl, strs_flat _⟩, ?_⟩
        show tst (.bl _) _ _
        rw [tst_bl]
        refine ⟨fun _ R r => r, fun _ => ?_⟩
        rw [ph_law_take]
        walk_at "dl"
        exact ⟨by decide, fun t _ _ => ⟨fun _ R r => r, fun _ => trivial⟩⟩
      · rw [List.nil_append]
        walk_at "dl"
        first
        | exact fin ys kp _ _ hy (Nat.le_trans hkp.length_le hc) hd2 hd1
        | exact fin ys kp _ _ hy (Nat.le_trans hkp.length_le hc) hd1 hd2
    · show opc .ne (.str s) (.str "either") _
      rw [oc_nes, tst_bl]
      refine ⟨fun _ => cols _ fun ys hy => ?_, fun _ => ?_⟩
      · first
        | exact fin ys cs _ _ hy hc hd2 hd1
        | exact fin ys cs _ _ hy hc hd1 hd2
      · first
        | exact fin cs cs _ _ hc hc hd2 hd1
        | exact fin cs cs _ _ hc hc hd1 hd2
theorem WideOk.up {P : Sm} {ns : List Int} {ws : List Str} {n : Nat} (cs : List Str) (d : Int) (Q : Slot → Prop) (h : WideOk P ns ws n) (hc : cs.length ≤ 8) (hd : d ≤ n) (q : ∀ x : Qn, x.ok → x.dep ≤ n → Q (.val x.e)) : P.f 24 [.opq 0, .scr ns, .lst (ws.map .str), .tup (cs.map .str), .int d] Q := h cs d Q hc hd q
theorem law_wide_ok (ns : List Int) (ws : List Str) (hw : 0 < ws.length) : ∀ (n k : Nat), WideOk (PH (k + 2 * n + 7)) ns ws (n + 1) := by
  intro n
  induction n with
  | zero =>
    intro k cs d Q hc hd q
    rw [show k + 2 * 0 + 7 = (k + 6) + 1 from rfl, ph_law_wide]
    unfold c_law_wide
    walk_at "dl"
    have hfact : ∀ R : D → Prop, (∀ x : Qn, x.ok → x.dep = 1 → R x.e) → (PH (k + 6)).f 20 [.opq 0, .scr ns, .lst (ws.map .str), .tup (cs.map .str)] fun s => callQ s R := by
      intro R r
      rw [ph_law_wide_fact]
      exact law_wide_fact_ok k ns ws cs hw hc _ fun w ts => r (.fact w ts) trivial rfl
    refine ⟨fun _ => hfact _ fun x h1 h2 => q x h1 (by omega), fun h => ?_⟩
    have := of_decide_eq_false h
    omega
  | succ n ih =>
    intro k cs d Q hc hd q
    rw [show k + 2 * (n + 1) + 7 = (k + 2 * n + 8) + 1 from by omega, ph_law_wide]
    unfold c_law_wide
    walk_at "dl"
    have hfact : ∀ R : D → Prop, (∀ x : Qn, x.ok → x.dep = 1 → R x.e) → (PH (k + 2 * n + 8)).f 20 [.opq 0, .scr ns, .lst (ws.map .str), .tup (cs.map .str)] fun s => callQ s R := by
      intro R r
      rw [ph_law_wide_fact]
      exact law_wide_fact_ok (k + 2 * n + 2) ns ws cs hw hc _ fun w ts => r (.fact w ts) trivial rfl
    have ihA : WideOk (PH (k + 2 * n + 5 + 2)) ns ws (n + 1) := ih k
    have ihB : WideOk (PH (k + 2 * n + 8)) ns ws (n + 1) := by
      have := ih (k + 1)
      rwa [show k + 1 + 2 * n + 7 = k + 2 * n + 8 by omega] at this
    refine ⟨fun _ => hfact _ fun x h1 h2 => q x h1 (by omega), fun _ => ?_⟩
    rw [ph_law_take]
    walk_at "dl"
    refine ⟨by decide, fun t _ _ => ⟨fun _ => hfact _ fun x h1 h2 => q x h1 (by omega), fun _ => ?_⟩⟩
    rw [ph_law_take]
    walk_at "dl"
    refine ⟨by decide, fun a _ _ => ⟨fun _ => ?_, fun _ => ⟨fun _ => ⟨fun h => ?_, fun _ => ?_⟩, fun _ => ?_⟩⟩⟩
    · rw [ph_law_wide_pair]
      exact law_wide_pair_ok _ (n + 1) ns ws cs d hw hc (by omega) ihA _ q
    · have h := of_decide_eq_true h
      rw [ph_law_wide_total]
      exact law_wide_total_ok _ (n + 1) ns ws cs d hw hc (by rw [List.length_map] at h; omega) (by omega) ihA _ q
    all_goals
      refine ⟨fun _ => ?_, fun _ => ?_⟩
      · rw [ph_law_more]
        refine law_more_ok _ ws cs hc _ fun inn hin => ?_
        walk_at "dl"
        refine ihB inn _ _ hin (by omega) fun x hx hxd => ?_
        walk_at "dl"
        refine ⟨by simp [sizeLine], q (.oth "only" [.tup (cs.map .str)] x) ⟨by decide, hx⟩ ?_⟩
        show 1 + x.dep ≤ _
        omega
      refine ihB cs _ _ hc (by omega) fun x hx hxd => ?_
      have hx1 : 1 + x.dep ≤ n + 1 + 1 := by omega
      walk_at "dl"
      have pick : ∀ (ss : List Str) (R : D → Prop), 0 < ss.length → (∀ s ∈ ss, R (.str s)) → (PH (k + 2 * n + 8)).f 5 [.opq 0, .lst (ss.map .str)] (fun s => callQ s R) := by
        intro ss R h0 r
        rw [ph_law_pick]
        refine law_pick_ok _ _ _ (by simpa using h0) fun d hd => ?_
        obtain ⟨s, hs, rfl⟩ := List.mem_map.mp hd
        rw [callQ_v]
        exact r s hs
      have term : ∀ R : D → Prop, (∀ d, R d) → (PH (k + 2 * n + 8)).f 19 [.opq 0, .scr ns, .lst (ws.map .str), .tup (cs.map .str)] (fun s => callQ s R) := by
        intro R r
        rw [ph_law_wide_term]
        refine law_wide_term_ok (k + 2 * n + 3) ns ws cs hw _ fun d => ?_
        rw [callQ_v]
        exact r d
      refine ⟨fun _ => ⟨fun h2 => ?_, fun _ => ?_⟩, fun _ => ?_⟩
      · have h2 := of_decide_eq_true h2
        rw [List.length_map] at h2
        match cs, h2 with
        | [c0, c1], _ =>
        refine ⟨_, rfl, _, rfl, by simp [sizeLine], by simp [sizeLine], ?_⟩
        rw [ph_law_take]
        walk_at "dl"
        refine ⟨by decide, fun t t0 t1 => ?_⟩
        have : t = 0 ∨ t = 1 := by omega
        rcases this with rfl | rfl
        all_goals
          refine ⟨_, rfl, by simp [sizeLine], pick ["linked", "way"] _ (by decide) fun s hs => ?_⟩
          refine ⟨_, rfl, _, rfl, by simp [sizeLine], ?_⟩
          first
          | exact q (.oth s [.str c0, .str c1] x) ⟨by simp only [List.mem_cons, List.not_mem_nil, or_false] at hs; rcases hs with rfl | rfl <;> decide, hx⟩ hx1
          | exact q (.oth s [.str c1, .str c0] x) ⟨by simp only [List.mem_cons, List.not_mem_nil, or_false] at hs; rcases hs with rfl | rfl <;> decide, hx⟩ hx1
      all_goals
        refine ⟨fun _ => ⟨by simp [sizeLine], pick ["same", "other", "less"] _ (by decide) fun s hs => term _ fun d1 => term _ fun d2 => ⟨by simp [sizeLine], q (.oth "where" [.str s, d1, d2] x) ⟨by decide, hx⟩ hx1⟩⟩, fun _ => ⟨fun _ => ?_, fun _ => ?_⟩⟩
        · rw [ph_law_number]
          refine law_number_ok (k + 2 * n + 5) ns _ fun m => ?_
          rw [callQ_v]
          exact ⟨by simp [sizeLine], q (.shift m x) hx hx1⟩
        · rw [ph_law_take]
          walk_at "dl"
          refine ⟨by decide, fun t t0 t1 => ⟨fun _ => ?_, fun _ => ⟨by simp [sizeLine], pick tmsK _ (by decide) fun s hs => ⟨by simp [sizeLine], q (.tm s none x) ⟨hs, fun _ h => (by cases h), hx⟩ hx1⟩⟩⟩⟩
          rw [ph_law_size]
          refine law_size_ok _ ns _ fun m hm => ?_
          rw [callQ_v]
          exact ⟨by simp [sizeLine], pick tmsK _ (by decide) fun s hs => ⟨by simp [sizeLine], q (.tm s (some m) x) ⟨hs, fun _ h => (by injection h with h; omega), hx⟩ hx1⟩⟩
theorem law_wide_columns_ok (k : Nat) (ws : List Str) (hw : ws.length = 10) (Q : Slot → Prop) (q : ∀ cs : List Str, cs.length ≤ 8 → Q (.val (.tup (cs.map .str)))) : semF (PH (k + 1)) 3 c_law_wide_columns [.opq 0, .lst (ws.map .str)] Q := by
  unfold c_law_wide_columns
  walk_at "dl"
  simp only [ph_law_take]
  walk_at "dl"
  have key : ∀ t : Int, 0 ≤ t → t ≤ 8 → DL.bi .sorted [.lst (cut (ws.map D.str) none (some t))] fun d => DL.bi .tuple [d] fun d => Q (.val d) := by
    intro t t0 t1
    rw [cut_lo _ _ t0 (by simp; omega), ← List.map_take]
    refine .inr ⟨_, rfl, by rw [List.length_take]; omega, fun ys hp _ => ?_⟩
    walk_at "dl"
    refine q ys ?_
    rw [hp.length_eq, List.length_take]
    omega
  exact ⟨by decide, fun t t0 t1 => ⟨by decide, fun t' _ _ => ⟨fun _ => key _ (by decide) (by decide), fun _ => key _ t0 (by omega)⟩⟩⟩
theorem law_depth_ok : ∀ (n k : Nat) (x : Qn), x.ok → x.dep ≤ n → n ≤ 50 → ∀ Q : Slot → Prop, Q (.val (.int x.dep)) → semF (PH (k + n + 2)) 2 c_law_depth [x.e] Q := by
  intro n
  induction n with
  | zero => intro k x hx hd; have := x.dep_pos; omega
  | succ n ih =>
    intro k x hx hd hn Q q
    unfold c_law_depth
    walk_at "dl"
    refine ⟨by simp [sizeLine], ?_⟩
    rw [show k + (n + 1) + 2 = (k + n + 1) + 1 + 1 from by omega, ph_law_parts]
    refine law_parts_ok _ x hx _ ?_
    walk_at "dl"
    have hpl : x.parts.length ≤ 2 := by cases x <;> simp [Qn.parts]
    refine loopE_map (en := Qn.e) (fun y => .int y.dep) (bindT_mono _) _ _ [] _ (by simp [sizeLine]; omega) (fun y hy R r => ?_) ?_
    · walk_at "dl"
      have hyx : y.ok ∧ y.dep ≤ n := by
        cases x with
        | fact w ts => cases hy
        | two s a b =>
          unfold Qn.dep at hd
          unfold Qn.parts at hy
          simp only [List.mem_cons, List.not_mem_nil, or_false] at hy
          rcases hy with rfl | rfl
          · exact ⟨hx.2.1, by split at hd <;> omega⟩
          · exact ⟨hx.2.2, by split at hd <;> omega⟩
        | shift m p =>
          unfold Qn.dep at hd
          rcases List.mem_singleton.mp hy with rfl
          exact ⟨hx, by omega⟩
        | tm s w p =>
          unfold Qn.dep at hd
          rcases List.mem_singleton.mp hy with rfl
          exact ⟨hx.2.2, by omega⟩
        | oth s w p =>
          unfold Qn.dep at hd
          rcases List.mem_singleton.mp hy with rfl
          exact ⟨hx.2, by omega⟩
      rw [ph_law_depth]
      refine ih k y hyx.1 hyx.2 (by omega) _ ?_
      walk_at "dl"
      exact r
    rw [List.nil_append]
    refine ⟨by simp [sizeLine]; omega, ?_⟩
    show DL.bi .maxL [.lst _] _
    rw [b_maxL]
    refine ⟨0 :: x.parts.map fun y => (y.dep : Int), by simp, by simp, fun m hm hmx => ?_⟩
    walk_at "dl"
    have : 1 + m = x.dep := by
      cases x with
      | fact w ts =>
        unfold Qn.dep
        unfold Qn.parts at hm
        rcases List.mem_singleton.mp hm with rfl
        rfl
      | two s a b =>
        unfold Qn.dep
        unfold Qn.parts at hm hmx
        have h1 := hmx a.dep (by simp)
        have h2 := hmx b.dep (by simp)
        simp only [List.map_cons, List.map_nil, List.mem_cons, List.not_mem_nil, or_false] at hm
        have := a.dep_pos
        split <;> omega
      | shift s p =>
        unfold Qn.dep
        unfold Qn.parts at hm hmx
        have h1 := hmx p.dep (by simp)
        simp only [List.map_cons, List.map_nil, List.mem_cons, List.not_mem_nil, or_false] at hm
        have := p.dep_pos
        omega
      | tm s w p =>
        unfold Qn.dep
        unfold Qn.parts at hm hmx
        have h1 := hmx p.dep (by simp)
        simp only [List.map_cons, List.map_nil, List.mem_cons, List.not_mem_nil, or_false] at hm
        have := p.dep_pos
        omega
      | oth s w p =>
        unfold Qn.dep
        unfold Qn.parts at hm hmx
        have h1 := hmx p.dep (by simp)
        simp only [List.map_cons, List.map_nil, List.mem_cons, List.not_mem_nil, or_false] at hm
        have := p.dep_pos
        omega
    rw [this]
    exact q
theorem law_wrapped_ok (k : Nat) (ns : List Int) (x : Qn) (d : Int) (n : Nat) (hx : x.ok) (hd : d ≤ n) (hxd : x.dep ≤ n) (hn : n ≤ 50) (hn1 : 1 ≤ n) (Q : Slot → Prop) (q : ∀ y : Qn, y.ok → y.dep ≤ n → Q (.val y.e)) : semF (PH (k + n + 3)) 6 c_law_wrapped [.opq 0, .scr ns, x.e, .int d] Q := by
  unfold c_law_wrapped
  walk_at "dl"
  refine loopS_keep (fun ε => ∃ (y : Qn) (u v : Slot), ε = [.val (.opq 0), .val (.scr ns), .val y.e, .val (.int d), u, v] ∧ y.ok ∧ y.dep ≤ n) (semSs_mono (PHm _) _) (bindT_mono _) ⟨x, _, _, rfl, hx, hxd⟩ ?_ ?_
  · rintro i hi ε ⟨y, u, v, rfl, hy, hyd⟩
    walk_at "dl"
    rw [show k + n + 3 = (k + n + 2) + 1 from rfl, ph_law_depth]
    refine law_depth_ok n k y hy hyd hn _ ?_
    walk_at "dl"
    refine ⟨fun _ => q y hy hyd, fun h => ?_⟩
    have h := of_decide_eq_false h
    rw [ph_law_take]
    walk_at "dl"
    refine ⟨by decide, fun t t0 t1 => ⟨fun _ => ?_, fun _ => ⟨fun _ => ⟨by simp [sizeLine], ?_⟩, fun _ => ⟨by simp [sizeLine], by simp [sizeLine], by simp [sizeLine], ?_⟩⟩⟩⟩
    · rw [ph_law_number]
      refine law_number_ok (k + n) ns _ fun m => ?_
      walk_at "dl"
      refine ⟨by simp [sizeLine], .shift m y, _, _, rfl, hy, ?_⟩
      show 1 + y.dep ≤ n
      omega
    · refine ⟨.tm "soon" none y, _, _, rfl, ⟨by decide, fun _ h => (by cases h), hy⟩, ?_⟩
      show 1 + y.dep ≤ n
      omega
    · refine ⟨.two "unless" y (.fact "a" []), _, _, rfl, ⟨by decide, hy, trivial⟩, ?_⟩
      show 1 + (if y.dep < 1 then 1 else y.dep) ≤ n
      have := y.dep_pos
      rw [if_neg (by omega)]
      omega
  · rintro ε ⟨y, u, v, rfl, hy, hyd⟩
    walk_at "dl"
    exact q y hy hyd
theorem law_some_question_ok (k : Nat) (ns : List Int) (ws : List Str) (d : Int) (n : Nat) (hw : ws.length = 10) (hd1 : 1 ≤ d) (hd : d ≤ n + 1) (hn : n ≤ 40) (Q : Slot → Prop) (q : ∀ y : Qn, y.ok → y.dep ≤ n + 1 → Q (.val y.e)) : semF (PH (k + 2 * n + 7)) 5 c_law_some_question [.opq 0, .scr ns, .lst (ws.map .str), .int d] Q := by
  unfold c_law_some_question
  walk_at "dl"
  rw [show k + 2 * n + 7 = (k + 2 * n + 6) + 1 from rfl, ph_law_wide_columns]
  refine law_wide_columns_ok _ ws hw _ fun cs hc => ?_
  walk_at "dl"
  rw [ph_law_take]
  walk_at "dl"
  refine ⟨by omega, fun t t0 t1 => law_wide_ok ns ws (by omega) n k cs _ _ hc (by push_cast; omega) fun x hx hxd => ?_⟩
  walk_at "dl"
  rw [ph_law_take]
  walk_at "dl"
  refine ⟨by decide, fun t' _ _ => ⟨fun _ => ?_, fun _ => q x hx hxd⟩⟩
  rw [ph_law_take]
  walk_at "dl"
  refine ⟨by decide, fun t2 _ _ => ?_⟩
  rw [ph_law_wrapped]
  have := law_wrapped_ok (k + n + 2) ns x (d - t2) (n + 1) hx (by push_cast; omega) hxd (by omega) (by omega) (fun s => callQ s fun d => Q (.val d)) fun y hy hyd => q y hy hyd
  rw [show k + 2 * n + 6 = k + n + 2 + (n + 1) + 3 by omega]
  exact this
structure Fc where
  n : Str
  r : List D
  w : D
  b : Int
def Fc.e (f : Fc) : D := .tup [.str f.n, .tup f.r, f.w]
def Fc.ok (f : Fc) : Prop := Wh 9 f.w f.b ∧ (∀ d ∈ f.r, isWv d = true) ∧ f.r.length ≤ 100
theorem when_bound_ok : ∀ (n k : Nat) (w : D) (b : Int), Wh n w b → ∀ Q : Slot → Prop, Q (.val (.int b)) → semF (PH (k + n)) 2 c_when_bound [w] Q := by
  intro n
  induction n with
  | zero =>
    intro k w b h Q q
    unfold c_when_bound
    cases h with
    | frm _ a h => walk_at "dl"; (try walk_at "km"); exact q
    | span _ a b h => walk_at "dl"; (try walk_at "km"); exact q
    | rnd _ a l e h => walk_at "dl"; (try walk_at "km"); exact q
    | rndc _ a l e c h1 h2 h3 h4 h5 => walk_at "dl"; (try walk_at "km"); exact ⟨.inr (by omega), q⟩
  | succ n ih =>
    intro k w b h Q q
    unfold c_when_bound
    cases h with
    | frm _ a h => walk_at "dl"; (try walk_at "km"); exact q
    | span _ a b h => walk_at "dl"; (try walk_at "km"); exact q
    | rnd _ a l e h => walk_at "dl"; (try walk_at "km"); exact q
    | rndc _ a l e c h1 h2 h3 h4 h5 => walk_at "dl"; (try walk_at "km"); exact ⟨.inr (by omega), q⟩
    | two _ s u v a b hs h1 h2 =>
      rcases hs with rfl | rfl
      all_goals
        walk_at "dl"
        try walk_at "km"
        rw [show k + (n + 1) = (k + n) + 1 from rfl, ph_when_bound]
        refine ih k u a h1 _ ?_
        rw [callQ_v, ph_when_bound]
        refine ih k v b h2 _ ?_
        rw [callQ_v]
        exact q
theorem law_when_bound_ok : ∀ (n k : Nat) (w : D) (b : Int), Wh n w b → ∀ Q : Slot → Prop, Q (.val (.int b)) → semF (PH (k + n)) 1 c_law_when_bound [w] Q := by
  intro n
  induction n with
  | zero =>
    intro k w b h Q q
    unfold c_law_when_bound
    cases h with
    | frm _ a h => walk_at "dl"; (try walk_at "km"); exact q
    | span _ a b h => walk_at "dl"; (try walk_at "km"); exact q
    | rnd _ a l e h => walk_at "dl"; (try walk_at "km"); exact q
    | rndc _ a l e c h1 h2 h3 h4 h5 => walk_at "dl"; (try walk_at "km"); exact ⟨.inr (by omega), q⟩
  | succ n ih =>
    intro k w b h Q q
    unfold c_law_when_bound
    cases h with
    | frm _ a h => walk_at "dl"; (try walk_at "km"); exact q
    | span _ a b h => walk_at "dl"; (try walk_at "km"); exact q
    | rnd _ a l e h => walk_at "dl"; (try walk_at "km"); exact q
    | rndc _ a l e c h1 h2 h3 h4 h5 => walk_at "dl"; (try walk_at "km"); exact ⟨.inr (by omega), q⟩
    | two _ s u v a b hs h1 h2 =>
      rcases hs with rfl | rfl
      all_goals
        walk_at "dl"
        try walk_at "km"
        rw [show k + (n + 1) = (k + n) + 1 from rfl, ph_law_when_bound]
        refine ih k u a h1 _ ?_
        rw [callQ_v, ph_law_when_bound]
        refine ih k v b h2 _ ?_
        rw [callQ_v]
        exact q
def bnds (fs : List Fc) (w : Str) : List Int := (fs.filter fun f => decide (f.n = w)).map (·.b)
theorem bnds_eq (w : Str) : ∀ fs : List Fc, (fs.filterMap fun f => if f.n = w then some (D.int f.b) else none) = (bnds fs w).map D.int
  | [] => rfl
  | f :: fs => by
    unfold bnds
    by_cases h : f.n = w
    · rw [List.filterMap_cons, if_pos h, List.filter_cons, if_pos (by simpa using h), bnds_eq w fs]
      rfl
    · rw [List.filterMap_cons, if_neg h, List.filter_cons, if_neg (by simpa using h), bnds_eq w fs]
      rfl
def hz (c : Int) (fs : List Fc) : Qn → Int
  | .fact w _ => mxL (bnds fs w)
  | .two k a b => if k = "since" ∨ k = "sincenot" then mxL [hz c fs a, hz c fs b] + c else mxL [hz c fs a, hz c fs b]
  | .shift n p => if mxL [hz c fs p] - n > 0 then mxL [hz c fs p] - n else 0
  | .tm k w p => if k = "once" ∨ k = "lately" then mxL [hz c fs p] + w.getD c else mxL [hz c fs p]
  | .oth _ _ p => mxL [hz c fs p]
theorem hz_0 (c : Int) (hc : 1 ≤ c) (fs : List Fc) : ∀ x : Qn, x.ok → 0 ≤ hz c fs x
  | .fact w _, _ => mxL_0 _
  | .two k a b, h => by
    have := mxL_0 [hz c fs a, hz c fs b]
    unfold hz
    split <;> omega
  | .shift n p, h => by
    unfold hz
    split <;> omega
  | .tm k w p, h => by
    have := mxL_0 [hz c fs p]
    unfold hz
    split
    · cases w with
      | none => simp only [Option.getD_none]; omega
      | some x => have := h.2.1 x rfl; simp only [Option.getD_some]; omega
    · omega
  | .oth _ _ p, h => mxL_0 _
theorem parts_ok {x y : Qn} (hx : x.ok) (hy : y ∈ x.parts) : y.ok ∧ y.dep + 1 ≤ x.dep := by
  cases x with
  | fact w ts => cases hy
  | two s a b =>
    unfold Qn.parts at hy
    simp only [List.mem_cons, List.not_mem_nil, or_false] at hy
    rcases hy with rfl | rfl
    · refine ⟨hx.2.1, ?_⟩
      show _ ≤ 1 + (if _ then _ else _)
      split <;> omega
    · refine ⟨hx.2.2, ?_⟩
      show _ ≤ 1 + (if _ then _ else _)
      split <;> omega
  | shift m p =>
    rcases List.mem_singleton.mp hy with rfl
    exact ⟨hx, by show _ ≤ 1 + _; omega⟩
  | tm s w p =>
    rcases List.mem_singleton.mp hy with rfl
    exact ⟨hx.2.2, by show _ ≤ 1 + _; omega⟩
  | oth s w p =>
    rcases List.mem_singleton.mp hy with rfl
    exact ⟨hx.2, by show _ ≤ 1 + _; omega⟩
theorem horizon_ok (c : Int) (hc : 1 ≤ c) (fs : List Fc) (hf : ∀ f ∈ fs, f.ok) (hfl : fs.length ≤ 1000) : ∀ (n k : Nat) (x : Qn), x.ok → x.dep ≤ n → ∀ Q : Slot → Prop, Q (.val (.int (hz c fs x))) → semF (PH (k + n + 10)) 9 c_horizon [.int c, .lst (fs.map Fc.e), x.e] Q := by
  intro n
  induction n with
  | zero => intro k x hx hd; have := x.dep_pos; omega
  | succ n ih =>
    intro k x hx hd Q q
    have loop : ∀ R : D → Prop, (R (.lst (x.parts.map fun y => .int (hz c fs y)))) → ∀ (s0 s3 s4 s5 s6 s7 s8 : Slot), loopE (bindT (.nm 8)) (semC (PH (k + (n + 1) + 10)) .no) (semE (PH (k + (n + 1) + 10)) (.call 2 (.cons (.var 0) (.cons (.var 1) (.cons (.var 8) .nil))))) [.val (.int c), .val (.lst (fs.map Fc.e)), s0, s3, s4, s5, s6, s7, s8] (x.parts.map Qn.e) [] R := by
      intro R r s0 s3 s4 s5 s6 s7 s8
      have hpl : x.parts.length ≤ 2 := by cases x <;> simp [Qn.parts]
      refine loopE_map (en := Qn.e) (fun y => .int (hz c fs y)) (bindT_mono _) _ _ [] _ (by simp [sizeLine]; omega) (fun y hy R r => ?_) r
      have hyx := parts_ok hx hy
      walk_at "dl"
      rw [show k + (n + 1) + 10 = (k + n + 10) + 1 from rfl, ph_horizon]
      refine ih k y hyx.1 (by omega) _ ?_
      walk_at "dl"
      exact r
    have mx : ∀ R : D → Prop, x.parts ≠ [] → R (.int (mxL (x.parts.map (hz c fs)))) → DL.bi .maxL [.lst (x.parts.map fun y => .int (hz c fs y))] R := by
      intro R hne r
      rw [b_maxL]
      refine ⟨x.parts.map (hz c fs), by rw [List.map_map]; rfl, by rw [List.length_map]; exact List.length_pos_iff.mpr hne, fun m h1 h2 => ?_⟩
      rw [mxL_eq (m := m) ?_ h1 h2]
      · exact r
      · obtain ⟨y, hy, rfl⟩ := List.mem_map.mp h1
        exact hz_0 c hc fs y (parts_ok hx hy).1
    unfold c_horizon
    cases x with
    | fact w ts =>
      unfold Qn.e
      walk_at "dl"
      refine loopE_all (en := Fc.e) (fun f => if f.n = w then some (D.int f.b) else none) (bindT_mono _) (semC_mono (PHm _) _) fs [] _ (by simp [sizeLine]; omega) (fun f hf' => ?_) ?_
      · unfold Fc.e
        walk_at "dl"
        refine ⟨fun h R r => ?_, fun h => if_neg (of_decide_eq_false h)⟩
        rw [show k + (n + 1) + 10 = (k + n + 1 + 9) + 1 from by omega, ph_when_bound]
        refine when_bound_ok 9 _ f.w f.b (hf f hf').1 _ ?_
        rw [callQ_v]
        exact r _ (if_pos (of_decide_eq_true h))
      · rw [List.nil_append, bnds_eq]
        walk_at "dl"
        refine ⟨_, rfl, fun h => ?_, fun m h1 h2 => ?_⟩
        · have : hz c fs (.fact w ts) = 0 := by
            show mxL (bnds fs w) = 0
            rw [h]
            rfl
          rw [this] at q
          exact q
        · rw [mxL_eq (m := m) ?_ h1 h2]
          · exact q
          · obtain ⟨f, hf', rfl⟩ := List.mem_map.mp h1
            exact (hf f (List.mem_filter.mp hf').1).1.nn
    | two s a b =>
      have hs := hx.1
      have po := parts_of_ok (k + (n + 1) + 9) (.two s a b) hx (fun _ _ h => by cases h)
      simp only [pairsK, List.mem_cons, List.not_mem_nil, or_false] at hs
      unfold Qn.e
      rcases hs with rfl | rfl | rfl | rfl | rfl | rfl | rfl
      all_goals
        walk_at "dl"
        try walk_at "km"
        rw [show k + (n + 1) + 10 = (k + (n + 1) + 9) + 1 from rfl, ph_parts_of]
        refine po _ ?_
        walk_at "dl"
        refine loop _ ?_ _ _ _ _ _ _ _
        refine mx _ (by simp [Qn.parts]) ?_
        try walk_at "dl"
        try walk_at "km"
        simp (decide := true) only [hz, if_true, if_false] at q
        exact q
    | shift m p =>
      have po := parts_of_ok (k + (n + 1) + 9) (.shift m p) hx (fun _ _ h => by cases h)
      unfold Qn.e
      walk_at "dl"
      walk_at "km"
      rw [show k + (n + 1) + 10 = (k + (n + 1) + 9) + 1 from rfl, ph_parts_of]
      refine po _ ?_
      walk_at "dl"
      refine loop _ ?_ _ _ _ _ _ _ _
      refine mx _ (by simp [Qn.parts]) ?_
      walk_at "dl"
      exact q
    | tm s w p =>
      have hs := hx.1
      have po := parts_of_ok (k + (n + 1) + 9) (.tm s w p) hx (fun _ _ h => by cases h)
      simp only [tmsK, List.mem_cons, List.not_mem_nil, or_false] at hs
      unfold Qn.e
      cases w
      all_goals rcases hs with rfl | rfl | rfl | rfl
      all_goals simp only [dO] at po ⊢
      all_goals
        walk_at "dl"
        try walk_at "km"
        rw [show k + (n + 1) + 10 = (k + (n + 1) + 9) + 1 from rfl, ph_parts_of]
        refine po _ ?_
        walk_at "dl"
        refine loop _ ?_ _ _ _ _ _ _ _
        refine mx _ (by simp [Qn.parts]) ?_
        try walk_at "dl"
        try walk_at "km"
        simp (decide := true) only [hz, if_true, if_false] at q
        exact q
    | oth s xs p =>
      have hs := hx.1
      have po := parts_of_ok (k + (n + 1) + 9) (.oth s xs p) hx (fun _ _ h => by cases h)
      simp only [othK, List.mem_cons, List.not_mem_nil, or_false] at hs
      unfold Qn.e
      rcases hs with rfl | rfl | rfl | rfl | rfl | rfl | rfl | rfl
      all_goals
        walk_at "dl"
        try walk_at "km"
        rw [show k + (n + 1) + 10 = (k + (n + 1) + 9) + 1 from rfl, ph_parts_of]
        refine po _ ?_
        walk_at "dl"
        refine loop _ ?_ _ _ _ _ _ _ _
        refine mx _ (by simp [Qn.parts]) ?_
        try walk_at "dl"
        try walk_at "km"
        exact q
theorem law_horizon_ok (c : Int) (hc : 1 ≤ c) (fs : List Fc) (hf : ∀ f ∈ fs, f.ok) (hfl : fs.length ≤ 1000) : ∀ (n k : Nat) (x : Qn), x.ok → x.dep ≤ n → ∀ Q : Slot → Prop, Q (.val (.int (hz c fs x))) → semF (PH (k + n + 10)) 7 c_law_horizon [.int c, .lst (fs.map Fc.e), x.e] Q := by
  intro n
  induction n with
  | zero => intro k x hx hd; have := x.dep_pos; omega
  | succ n ih =>
    intro k x hx hd Q q
    have loop : ∀ R : D → Prop, (R (.lst (x.parts.map fun y => .int (hz c fs y)))) → ∀ (s0 s3 s4 s5 s6 : Slot), loopE (bindT (.nm 6)) (semC (PH (k + (n + 1) + 10)) .no) (semE (PH (k + (n + 1) + 10)) (.call 30 (.cons (.var 0) (.cons (.var 1) (.cons (.var 6) .nil))))) [.val (.int c), .val (.lst (fs.map Fc.e)), s0, s3, s4, s5, s6] (x.parts.map Qn.e) [] R := by
      intro R r s0 s3 s4 s5 s6
      have hpl : x.parts.length ≤ 2 := by cases x <;> simp [Qn.parts]
      refine loopE_map (en := Qn.e) (fun y => .int (hz c fs y)) (bindT_mono _) _ _ [] _ (by simp [sizeLine]; omega) (fun y hy R r => ?_) r
      have hyx := parts_ok hx hy
      walk_at "dl"
      rw [show k + (n + 1) + 10 = (k + n + 10) + 1 from rfl, ph_law_horizon]
      refine ih k y hyx.1 (by omega) _ ?_
      walk_at "dl"
      exact r
    have mx : ∀ R : D → Prop, x.parts ≠ [] → R (.int (mxL (x.parts.map (hz c fs)))) → DL.bi .maxL [.lst (x.parts.map fun y => .int (hz c fs y))] R := by
      intro R hne r
      rw [b_maxL]
      refine ⟨x.parts.map (hz c fs), by rw [List.map_map]; rfl, by rw [List.length_map]; exact List.length_pos_iff.mpr hne, fun m h1 h2 => ?_⟩
      rw [mxL_eq (m := m) ?_ h1 h2]
      · exact r
      · obtain ⟨y, hy, rfl⟩ := List.mem_map.mp h1
        exact hz_0 c hc fs y (parts_ok hx hy).1
    have po := law_parts_ok (k + (n + 1) + 8) x hx
    unfold c_law_horizon
    cases x with
    | fact w ts =>
      unfold Qn.e
      walk_at "dl"
      refine ⟨by simp [sizeLine], ?_⟩
      refine loopE_all (en := Fc.e) (fun f => if f.n = w then some (D.int f.b) else none) (bindT_mono _) (semC_mono (PHm _) _) fs [] _ (by simp [sizeLine]; omega) (fun f hf' => ?_) ?_
      · unfold Fc.e
        walk_at "dl"
        refine ⟨fun h R r => ?_, fun h => if_neg (of_decide_eq_false h)⟩
        rw [show k + (n + 1) + 10 = (k + n + 1 + 9) + 1 from by omega, ph_law_when_bound]
        refine law_when_bound_ok 9 _ f.w f.b (hf f hf').1 _ ?_
        rw [callQ_v]
        exact r _ (if_pos (of_decide_eq_true h))
      · rw [List.nil_append, bnds_eq]
        walk_at "dl"
        refine ⟨?_, ?_⟩
        · have : (bnds fs w).length ≤ fs.length := by
            unfold bnds
            rw [List.length_map]
            exact List.length_filter_le _ _
          rw [List.length_map]
          simp [sizeLine]
          omega
        show DL.bi .maxL [.lst _] _
        rw [b_maxL]
        refine ⟨0 :: bnds fs w, by simp, by simp, fun m h1 h2 => ?_⟩
        have h0 := h2 0 (by simp)
        have hm : m = mxL (bnds fs w) := by
          rcases List.mem_cons.mp h1 with rfl | h1
          · have h3 := mxL_0 (bnds fs w)
            rcases mxL_mem (bnds fs w) with h | h
            · exact h.symm
            · have := h2 _ (List.mem_cons_of_mem _ h)
              omega
          · exact mxL_eq h0 h1 fun y hy => h2 y (List.mem_cons_of_mem _ hy)
        rw [hm]
        exact q
    | two s a b =>
      have hs := hx.1
      simp only [pairsK, List.mem_cons, List.not_mem_nil, or_false] at hs
      unfold Qn.e
      rcases hs with rfl | rfl | rfl | rfl | rfl | rfl | rfl
      all_goals
        walk_at "dl"
        try walk_at "km"
        rw [show k + (n + 1) + 10 = (k + (n + 1) + 8 + 1) + 1 from rfl, ph_law_parts]
        refine po _ ?_
        walk_at "dl"
        refine loop _ ?_ _ _ _ _ _
        refine mx _ (by simp [Qn.parts]) ?_
        try walk_at "dl"
        try walk_at "km"
        simp (decide := true) only [hz, if_true, if_false] at q
        exact q
    | shift m p =>
      unfold Qn.e
      walk_at "dl"
      try walk_at "km"
      rw [show k + (n + 1) + 10 = (k + (n + 1) + 8 + 1) + 1 from rfl, ph_law_parts]
      refine po _ ?_
      walk_at "dl"
      refine loop _ ?_ _ _ _ _ _
      refine mx _ (by simp [Qn.parts]) ?_
      walk_at "dl"
      exact q
    | tm s w p =>
      have hs := hx.1
      simp only [tmsK, List.mem_cons, List.not_mem_nil, or_false] at hs
      unfold Qn.e
      cases w
      all_goals rcases hs with rfl | rfl | rfl | rfl
      all_goals simp only [dO] at po ⊢
      all_goals
        walk_at "dl"
        try walk_at "km"
        rw [show k + (n + 1) + 10 = (k + (n + 1) + 8 + 1) + 1 from rfl, ph_law_parts]
        refine po _ ?_
        walk_at "dl"
        refine loop _ ?_ _ _ _ _ _
        refine mx _ (by simp [Qn.parts]) ?_
        try walk_at "dl"
        try walk_at "km"
        simp (decide := true) only [hz, if_true, if_false] at q
        exact q
    | oth s xs p =>
      have hs := hx.1
      simp only [othK, List.mem_cons, List.not_mem_nil, or_false] at hs
      unfold Qn.e
      rcases hs with rfl | rfl | rfl | rfl | rfl | rfl | rfl | rfl
      all_goals
        walk_at "dl"
        try walk_at "km"
        rw [show k + (n + 1) + 10 = (k + (n + 1) + 8 + 1) + 1 from rfl, ph_law_parts]
        refine po _ ?_
        walk_at "dl"
        refine loop _ ?_ _ _ _ _ _
        refine mx _ (by simp [Qn.parts]) ?_
        try walk_at "dl"
        try walk_at "km"
        exact q
theorem law_facts_in_ok : ∀ (n k : Nat) (x : Qn), x.ok → x.dep ≤ n → n ≤ 20 → ∀ Q : Slot → Prop, Q (.val (.lst (x.facts.map fE))) → semF (PH (k + n + 2)) 3 c_law_facts_in [x.e] Q := by
  intro n
  induction n with
  | zero => intro k x hx hd; have := x.dep_pos; omega
  | succ n ih =>
    intro k x hx hd hn Q q
    have po := law_parts_ok (k + (n + 1)) x hx
    have hlen : x.facts.length ≤ 2 ^ 20 := Nat.le_trans x.facts_le (Nat.pow_le_pow_right (by decide) (by omega))
    have rest : ¬ (∃ w ts, x = .fact w ts) → loopS (bindT (.nm 2)) (semSs (PH (k + (n + 1) + 2)) (.cons (.set (.nm 1) (.cat (.var 1) (.call 31 (.cons (.var 2) (.nil))))) .nil)) (x.parts.map Qn.e) ⟨semSs (PH (k + (n + 1) + 2)) (.cons (.ret (.var 1)) .nil) ⟨fun _ => Q (.val .non), Q, fun _ => False, fun _ => False⟩, Q, fun _ => False, fun _ => False⟩ [.val x.e, .val (.lst []), .non] := by
      intro hnf
      have hsum : x.facts = (x.parts.map Qn.facts).flatten := by
        cases x with
        | fact w ts => exact absurd ⟨w, ts, rfl⟩ hnf
        | two s a b => simp [Qn.parts, Qn.facts]
        | shift s p => simp [Qn.parts, Qn.facts]
        | tm s w p => simp [Qn.parts, Qn.facts]
        | oth s xs p => simp [Qn.parts, Qn.facts]
      refine loopS_inv (en := Qn.e) (fun ps ε => ∃ u, ε = [.val x.e, .val (.lst ((ps.map Qn.facts).flatten.map fE)), u]) (semSs_mono (PHm _) _) (bindT_mono _) ⟨_, rfl⟩ ?_ ?_
      · rintro ps y ss ε ⟨u, rfl⟩ hx2
        have hyx := parts_ok hx (show y ∈ x.parts by rw [hx2]; simp)
        have hl2 : ((ps.map Qn.facts).flatten).length + y.facts.length ≤ x.facts.length := by
          rw [hsum, hx2]
          simp only [List.map_append, List.map_cons, List.flatten_append, List.flatten_cons, List.length_append]
          omega
        walk_at "dl"
        rw [show k + (n + 1) + 2 = (k + n + 2) + 1 from rfl, ph_law_facts_in]
        refine ih k y hyx.1 (by omega) (by omega) _ ?_
        walk_at "dl"
        refine ⟨by rw [List.length_map, List.length_map]; show _ ≤ 16777216; omega, .val y.e, ?_⟩
        rw [List.map_append, List.flatten_append, List.map_append]
        simp only [List.map_cons, List.map_nil, List.flatten_cons, List.flatten_nil, List.append_nil]
      · rintro ε ⟨u, rfl⟩
        walk_at "dl"
        rw [← hsum]
        exact q
    unfold c_law_facts_in
    match x, hx, hd, q, po, rest with
    | .fact w ts, _, _, q, _, _ =>
      unfold Qn.e
      walk_at "dl"
      try walk_at "km"
      exact q
    | .two s a b, hx, hd, q, po, rest =>
      have hf : ¬ s = "fact" := by
        rintro rfl
        exact absurd hx.1 (by decide)
      show semF _ _ _ [.tup [.str s, a.e, b.e]] _
      walk_at "dl"
      refine ⟨fun h => absurd (of_decide_eq_true h) hf, fun _ => ⟨by simp [sizeLine], ?_⟩⟩
      rw [show k + (n + 1) + 2 = (k + (n + 1) + 1) + 1 from rfl, ph_law_parts]
      refine po _ ?_
      rw [callQ_v]
      walk_at "dl"
      exact rest (by rintro ⟨w, ts, h⟩; cases h)
    | .shift m p, hx, hd, q, po, rest =>
      show semF _ _ _ [.tup [.str "shift", .int m, p.e]] _
      walk_at "dl"
      refine ⟨fun h => absurd h (by decide), fun _ => ⟨by simp [sizeLine], ?_⟩⟩
      rw [show k + (n + 1) + 2 = (k + (n + 1) + 1) + 1 from rfl, ph_law_parts]
      refine po _ ?_
      rw [callQ_v]
      walk_at "dl"
      exact rest (by rintro ⟨w, ts, h⟩; cases h)
    | .tm s w p, hx, hd, q, po, rest =>
      have hf : ¬ s = "fact" := by
        rintro rfl
        exact absurd hx.1 (by decide)
      show semF _ _ _ [.tup [.str s, dO w, p.e]] _
      walk_at "dl"
      refine ⟨fun h => absurd (of_decide_eq_true h) hf, fun _ => ⟨by simp [sizeLine], ?_⟩⟩
      rw [show k + (n + 1) + 2 = (k + (n + 1) + 1) + 1 from rfl, ph_law_parts]
      refine po _ ?_
      rw [callQ_v]
      walk_at "dl"
      exact rest (by rintro ⟨w, ts, h⟩; cases h)
    | .oth s xs p, hx, hd, q, po, rest =>
      have hf : ¬ s = "fact" := by
        rintro rfl
        exact absurd hx.1 (by decide)
      show semF _ _ _ [.tup (.str s :: (xs ++ [p.e]))] _
      walk_at "dl"
      refine ⟨fun h => absurd (of_decide_eq_true h) hf, fun _ => ⟨by simp [sizeLine], ?_⟩⟩
      rw [show k + (n + 1) + 2 = (k + (n + 1) + 1) + 1 from rfl, ph_law_parts]
      refine po _ ?_
      rw [callQ_v]
      walk_at "dl"
      exact rest (by rintro ⟨w, ts, h⟩; cases h)
theorem law_math (ns : List Int) (hns : ns.length ≤ 63) : (phi fns cst 65).f 32 [.scr ns] fun s => s = .val (.bl true) := by
  show (PH (64 + 1)).f 32 _ _
  rw [ph_law]
  unfold c_law
  walk_at "dl"
  show (PH (63 + 1)).f 3 _ _
  rw [ph_law_draws]
  refine law_draws_ok _ _ _ _ hns (by decide) fun ds hds => ?_
  walk_at "dl"
  refine ⟨⟨ds, rfl, hds⟩, ?_⟩
  show (PH (63 + 1)).f 8 _ _
  rw [ph_law_cycle]
  refine law_cycle_ok 62 _ fun c hc hc2 => ?_
  walk_at "dl"
  show (PH (63 + 1)).f 16 _ _
  rw [ph_law_words]
  refine law_words_ok 62 10 _ (by decide) fun ws hws => ?_
  walk_at "dl"
  show (PH (63 + 1)).f 29 _ _
  rw [ph_law_some_question]
  refine law_some_question_ok 34 ns ws 12 11 hws (by decide) (by decide) (by decide) _ fun x hx hxd => ?_
  walk_at "dl"
  show (PH (63 + 1)).f 31 _ _
  rw [ph_law_facts_in]
  refine law_facts_in_ok 12 49 x hx hxd (by decide) _ ?_
  walk_at "dl"
  have hfl : x.facts.length ≤ 2 ^ 12 := Nat.le_trans x.facts_le (Nat.pow_le_pow_right (by decide) (by omega))
  refine loopE_map (en := fE) (fun f => .str f.1) (bindT_mono _) _ _ [] _ (by show _ ≤ 16777216; rw [List.length_nil]; omega) (fun f hf R r => ?_) ?_
  · unfold fE
    walk_at "dl"
    exact r
  rw [List.nil_append]
  have hnm : ∃ nm : List Str, (x.facts.map fun f => D.str f.1) = nm.map D.str ∧ 0 < nm.length := ⟨x.facts.map (·.1), by rw [List.map_map]; rfl, by rw [List.length_map]; exact x.facts_ne⟩
  obtain ⟨nm, e, hnm⟩ := hnm
  rw [e]
  refine ⟨by simp [sizeLine], ?_⟩
  show (PH (63 + 1)).f 4 _ _
  rw [ph_law_take]
  walk_at "dl"
  refine ⟨by decide, fun many m0 m1 => ?_⟩
  have pickS : ∀ (ss : List Str) (R : D → Prop), 0 < ss.length → (∀ s : Str, R (.str s)) → (PH (63 + 1)).f 5 [.opq 0, .lst (ss.map .str)] (fun s => callQ s R) := by
    intro ss R h0 r
    rw [ph_law_pick]
    refine law_pick_ok _ _ _ (by simpa using h0) fun d hd => ?_
    obtain ⟨s, hs, rfl⟩ := List.mem_map.mp hd
    rw [callQ_v]
    exact r s
  refine loopS_rng _ (fun i ε => ∃ (fs : List Fc) (s8 s9 s10 s11 s12 s13 s14 : Slot), ε = [.val (.scr ns), .val (.opq 0), .val (.int c), .val (.lst (ws.map .str)), .val x.e, .val (.lst (nm.map .str)), .non, .own (fs.map Fc.e), s8, s9, s10, s11, s12, s13, s14, .non, .non] ∧ (fs.length : Int) = i ∧ ∀ f ∈ fs, f.ok) (semSs_mono (PHm _) _) (bindT_mono _) 0 _ ?_ ?_ ?_
  · exact ⟨[], _, _, _, _, _, _, _, rfl, rfl, by simp⟩
  · rintro i i0 i1 ε ⟨fs, s8, s9, s10, s11, s12, s13, s14, rfl, hfs, hok⟩
    walk_at "dl"
    show (PH (63 + 1)).f 4 _ _
    rw [ph_law_take]
    walk_at "dl"
    refine ⟨by decide, fun t t0 t1 => ?_⟩
    refine loopE_each (β := Int) (eo := D.int) (P := fun _ => True) (bindT_mono _) _ _ _ _ (by rw [rangeD_len]; simp [sizeLine]; omega) (fun a ha R hR => ?_) (fun ys hl _ => ?_)
    · obtain ⟨i, i0, i1, rfl⟩ := mem_rangeD.mp ha
      walk_at "dl"
      show (PH (63 + 1)).f 4 _ _
      rw [ph_law_take]
      walk_at "dl"
      exact ⟨by decide, fun y _ _ => hR y trivial⟩
    rw [rangeD_len] at hl
    walk_at "dl"
    show (PH (63 + 1)).f 15 _ _
    rw [ph_law_sized_leaves]
    refine law_sized_leaves_ok 60 ns c (1 + t) hc hc2 (by omega) (by omega) _ fun lv hlv hlvw => ?_
    walk_at "dl"
    show (PH (63 + 1)).f 4 _ _
    rw [ph_law_take]
    walk_at "dl"
    refine ⟨by omega, fun sp sp0 sp1 => ?_⟩
    show (PH (63 + 1)).f 14 _ _
    rw [ph_law_tree]
    refine law_tree_ok 62 lv ys sp hlvw sp0 (by omega) (by omega) (by omega) _ fun w b hw => ?_
    walk_at "dl"
    refine pickS nm _ hnm fun s1 => pickS nm _ hnm fun s2 => pickS ws _ (by omega) fun s3 => ⟨by simp [sizeLine], ?_⟩
    refine pickS [s1, s2, s3] _ (by simp) fun nme => ?_
    show (PH (63 + 1)).f 4 _ _
    rw [ph_law_take]
    walk_at "dl"
    refine ⟨by decide, fun u u0 u1 => ?_⟩
    refine loopE_each (β := D) (eo := id) (P := fun d => isWv d = true) (bindT_mono _) _ _ _ _ (by rw [rangeD_len]; simp [sizeLine]; omega) (fun a ha R hR => ?_) (fun rw' hl' hrw => ?_)
    · obtain ⟨i, i0, i1, rfl⟩ := mem_rangeD.mp ha
      walk_at "dl"
      show (PH (63 + 1)).f 18 _ _
      rw [ph_law_worth]
      refine law_worth_ok 60 ns ws _ (by omega) fun d hd => ?_
      walk_at "dl"
      exact hR d hd
    rw [rangeD_len] at hl'
    rw [List.nil_append, List.map_id]
    walk_at "dl"
    refine ⟨by simp [sizeLine], by rw [List.length_map]; simp [sizeLine]; omega, fs ++ [⟨nme, rw', w, b⟩], _, _, _, _, _, _, _, by rw [List.map_append]; rfl, by rw [List.length_append, List.length_singleton]; omega, fun f hf => ?_⟩
    rcases List.mem_append.mp hf with h | h
    · exact hok f h
    · rcases List.mem_singleton.mp h with rfl
      exact ⟨hw.up, hrw, by show rw'.length ≤ _; omega⟩
  · rintro ε ⟨fs, s8, s9, s10, s11, s12, s13, s14, rfl, hfs, hok⟩
    rw [if_pos m0] at hfs
    walk_at "dl"
    show (PH (63 + 1)).f 30 _ _
    rw [ph_law_horizon]
    refine law_horizon_ok c hc fs hok (by omega) 12 41 x hx hxd _ ?_
    walk_at "dl"
    show (PH (63 + 1)).f 2 _ _
    rw [ph_horizon]
    refine horizon_ok c hc fs hok (by omega) 12 41 x hx hxd _ ?_
    walk_at "dl"
    have hsm : D.sm 13 (.lst (fs.map Fc.e)) = true := by
      rw [sm_lst, Bool.and_eq_true, decide_eq_true_eq]
      refine ⟨by rw [List.length_map]; simp [sizeLine]; omega, sms_of fun d hd => ?_⟩
      obtain ⟨f, hf, rfl⟩ := List.mem_map.mp hd
      have h := hok f hf
      unfold Fc.e
      rw [sm_tup]
      have h1 : D.sm 11 (.str f.n) = true := by unfold D.sm; rfl
      have h2 : D.sm 11 (.tup f.r) = true := by
        rw [sm_tup, Bool.and_eq_true, decide_eq_true_eq]
        exact ⟨Nat.le_trans h.2.2 (by decide), sms_of fun d hd => isWv_sm (h.2.1 d hd) _⟩
      have h3 : D.sm 11 f.w = true := h.1.sm
      simp [sms, h1, h2, h3, sizeLine]
    show (PH (63 + 1)).f 7 _ _
    rw [ph_law_same]
    refine law_same_ok 1 62 _ _ rfl (by decide) ?_
    walk_at "dl"
    show (PH (63 + 1)).f 7 _ _
    rw [ph_law_same]
    refine law_same_ok 13 50 _ _ hsm (by decide) ?_
    rfl
end K70

namespace K70
open PySem PySem.Spec PyProof.Rows L2 DL
def top (i : Nat) : Stmt := PySem.Challenge.pw_ateverymoment_k70_horizon.main.body.getD i (.Pass ⟨0, 0, 0, 0⟩)
theorem tie_parts_of : tieF tab ["question"] ["question"] c_parts_of (top 2) = true := by decide +kernel
theorem bind_parts_of : BindOk "parts_of" (top 2) ["question"] := fun _ _ _ _ _ _ us hl => match us, hl with | [_], _ => rfl
theorem tie_when_bound : tieF tab ["when", "kind"] ["when"] c_when_bound (top 4) = true := by decide +kernel
theorem bind_when_bound : BindOk "when_bound" (top 4) ["when"] := fun _ _ _ _ _ _ us hl => match us, hl with | [_], _ => rfl
theorem tie_horizon : tieF tab ["cycle", "facts", "question", "kind", "name", "row", "when", "bound", "part"] ["cycle", "facts", "question"] c_horizon (top 6) = true := by decide +kernel
theorem bind_horizon : BindOk "horizon" (top 6) ["cycle", "facts", "question"] := fun _ _ _ _ _ _ us hl => match us, hl with | [_, _, _], _ => rfl
theorem tie_law_draws : tieF tab ["script", "many", "cells", "cell", "rest", "draws", "k", "at", "mixed"] ["script", "many"] c_law_draws (top 8) = true := by decide +kernel
theorem bind_law_draws : BindOk "_law_draws" (top 8) ["script", "many"] := fun _ _ _ _ _ _ us hl => match us, hl with | [_, _], _ => rfl
theorem tie_law_take : tieTake tab ["draws", "many"] (top 9) = true := by decide +kernel
theorem bind_law_take : BindOk "_law_take" (top 9) ["draws", "many"] := fun _ _ _ _ _ _ us hl => match us, hl with | [_, _], _ => rfl
theorem tie_law_pick : tieF tab ["draws", "row"] ["draws", "row"] c_law_pick (top 10) = true := by decide +kernel
theorem bind_law_pick : BindOk "_law_pick" (top 10) ["draws", "row"] := fun _ _ _ _ _ _ us hl => match us, hl with | [_, _], _ => rfl
theorem tie_law_size : tieF tab ["draws", "script", "kind", "number", "k"] ["draws", "script"] c_law_size (top 11) = true := by decide +kernel
theorem bind_law_size : BindOk "_law_size" (top 11) ["draws", "script"] := fun _ _ _ _ _ _ us hl => match us, hl with | [_, _], _ => rfl
theorem tie_law_same : tieF tab ["actual", "due", "k"] ["actual", "due"] c_law_same (top 12) = true := by decide +kernel
theorem bind_law_same : BindOk "_law_same" (top 12) ["actual", "due"] := fun _ _ _ _ _ _ us hl => match us, hl with | [_, _], _ => rfl
theorem tie_law_cycle : tieF tab ["draws"] ["draws"] c_law_cycle (top 13) = true := by decide +kernel
theorem bind_law_cycle : BindOk "_law_cycle" (top 13) ["draws"] := fun _ _ _ _ _ _ us hl => match us, hl with | [_], _ => rfl
theorem tie_law_when_bound : tieF tab ["when"] ["when"] c_law_when_bound (top 14) = true := by decide +kernel
theorem bind_law_when_bound : BindOk "_law_when_bound" (top 14) ["when"] := fun _ _ _ _ _ _ us hl => match us, hl with | [_], _ => rfl
theorem tie_law_some_columns : tieF tab ["draws", "columns", "x"] ["draws", "columns"] c_law_some_columns (top 15) = true := by decide +kernel
theorem bind_law_some_columns : BindOk "_law_some_columns" (top 15) ["draws", "columns"] := fun _ _ _ _ _ _ us hl => match us, hl with | [_, _], _ => rfl
theorem tie_law_is_pair : tieF tab ["kind"] ["kind"] c_law_is_pair (top 16) = true := by decide +kernel
theorem bind_law_is_pair : BindOk "_law_is_pair" (top 16) ["kind"] := fun _ _ _ _ _ _ us hl => match us, hl with | [_], _ => rfl
theorem tie_law_sized_leaf : tieF tab ["draws", "script", "cycle", "start", "kind", "every", "k", "length"] ["draws", "script", "cycle"] c_law_sized_leaf (top 17) = true := by decide +kernel
theorem bind_law_sized_leaf : BindOk "_law_sized_leaf" (top 17) ["draws", "script", "cycle"] := fun _ _ _ _ _ _ us hl => match us, hl with | [_, _, _], _ => rfl
theorem tie_law_chained : tieF tab ["leaves", "ways", "when", "k", "kind"] ["leaves", "ways"] c_law_chained (top 18) = true := by decide +kernel
theorem bind_law_chained : BindOk "_law_chained" (top 18) ["leaves", "ways"] := fun _ _ _ _ _ _ us hl => match us, hl with | [_, _], _ => rfl
theorem tie_law_tree : tieF tab ["leaves", "ways", "split", "one", "other"] ["leaves", "ways", "split"] c_law_tree (top 19) = true := by decide +kernel
theorem bind_law_tree : BindOk "_law_tree" (top 19) ["leaves", "ways", "split"] := fun _ _ _ _ _ _ us hl => match us, hl with | [_, _, _], _ => rfl
theorem tie_law_sized_leaves : tieF tab ["draws", "script", "cycle", "many", "leaves", "k"] ["draws", "script", "cycle", "many"] c_law_sized_leaves (top 20) = true := by decide +kernel
theorem bind_law_sized_leaves : BindOk "_law_sized_leaves" (top 20) ["draws", "script", "cycle", "many"] := fun _ _ _ _ _ _ us hl => match us, hl with | [_, _, _, _], _ => rfl
theorem tie_law_words : tieF tab ["draws", "many", "words", "k", "size", "word", "j"] ["draws", "many"] c_law_words (top 21) = true := by decide +kernel
theorem bind_law_words : BindOk "_law_words" (top 21) ["draws", "many"] := fun _ _ _ _ _ _ us hl => match us, hl with | [_, _], _ => rfl
theorem tie_law_number : tieF tab ["draws", "script"] ["draws", "script"] c_law_number (top 22) = true := by decide +kernel
theorem bind_law_number : BindOk "_law_number" (top 22) ["draws", "script"] := fun _ _ _ _ _ _ us hl => match us, hl with | [_, _], _ => rfl
theorem tie_law_worth : tieF tab ["draws", "script", "words"] ["draws", "script", "words"] c_law_worth (top 23) = true := by decide +kernel
theorem bind_law_worth : BindOk "_law_worth" (top 23) ["draws", "script", "words"] := fun _ _ _ _ _ _ us hl => match us, hl with | [_, _, _], _ => rfl
theorem tie_law_wide_term : tieF tab ["draws", "script", "words", "columns"] ["draws", "script", "words", "columns"] c_law_wide_term (top 24) = true := by decide +kernel
theorem bind_law_wide_term : BindOk "_law_wide_term" (top 24) ["draws", "script", "words", "columns"] := fun _ _ _ _ _ _ us hl => match us, hl with | [_, _, _, _], _ => rfl
theorem tie_law_wide_fact : tieF tab ["draws", "script", "words", "columns", "terms", "x", "k", "turn"] ["draws", "script", "words", "columns"] c_law_wide_fact (top 25) = true := by decide +kernel
theorem bind_law_wide_fact : BindOk "_law_wide_fact" (top 25) ["draws", "script", "words", "columns"] := fun _ _ _ _ _ _ us hl => match us, hl with | [_, _, _, _], _ => rfl
theorem tie_law_more : tieF tab ["draws", "words", "columns", "found", "word"] ["draws", "words", "columns"] c_law_more (top 26) = true := by decide +kernel
theorem bind_law_more : BindOk "_law_more" (top 26) ["draws", "words", "columns"] := fun _ _ _ _ _ _ us hl => match us, hl with | [_, _, _], _ => rfl
theorem tie_law_wide_total : tieF tab ["draws", "script", "words", "columns", "depth", "new", "keep", "x", "inner", "part", "kind"] ["draws", "script", "words", "columns", "depth"] c_law_wide_total (top 27) = true := by decide +kernel
theorem bind_law_wide_total : BindOk "_law_wide_total" (top 27) ["draws", "script", "words", "columns", "depth"] := fun _ _ _ _ _ _ us hl => match us, hl with | [_, _, _, _, _], _ => rfl
theorem tie_law_wide_pair : tieF tab ["draws", "script", "words", "columns", "depth", "kind", "depths", "first", "second", "x", "one"] ["draws", "script", "words", "columns", "depth"] c_law_wide_pair (top 28) = true := by decide +kernel
theorem bind_law_wide_pair : BindOk "_law_wide_pair" (top 28) ["draws", "script", "words", "columns", "depth"] := fun _ _ _ _ _ _ us hl => match us, hl with | [_, _, _, _, _], _ => rfl
theorem tie_law_wide : tieF tab ["draws", "script", "words", "columns", "depth", "kind", "inner", "part", "pair", "test", "left", "within"] ["draws", "script", "words", "columns", "depth"] c_law_wide (top 29) = true := by decide +kernel
theorem bind_law_wide : BindOk "_law_wide" (top 29) ["draws", "script", "words", "columns", "depth"] := fun _ _ _ _ _ _ us hl => match us, hl with | [_, _, _, _, _], _ => rfl
theorem tie_law_wide_columns : tieF tab ["draws", "words", "many"] ["draws", "words"] c_law_wide_columns (top 30) = true := by decide +kernel
theorem bind_law_wide_columns : BindOk "_law_wide_columns" (top 30) ["draws", "words"] := fun _ _ _ _ _ _ us hl => match us, hl with | [_, _], _ => rfl
theorem tie_law_parts : tieF tab ["question"] ["question"] c_law_parts (top 31) = true := by decide +kernel
theorem bind_law_parts : BindOk "_law_parts" (top 31) ["question"] := fun _ _ _ _ _ _ us hl => match us, hl with | [_], _ => rfl
theorem tie_law_depth : tieF tab ["question", "part"] ["question"] c_law_depth (top 32) = true := by decide +kernel
theorem bind_law_depth : BindOk "_law_depth" (top 32) ["question"] := fun _ _ _ _ _ _ us hl => match us, hl with | [_], _ => rfl
theorem tie_law_wrapped : tieF tab ["draws", "script", "question", "depth", "k", "kind"] ["draws", "script", "question", "depth"] c_law_wrapped (top 33) = true := by decide +kernel
theorem bind_law_wrapped : BindOk "_law_wrapped" (top 33) ["draws", "script", "question", "depth"] := fun _ _ _ _ _ _ us hl => match us, hl with | [_, _, _, _], _ => rfl
theorem tie_law_some_question : tieF tab ["draws", "script", "words", "depth", "question"] ["draws", "script", "words", "depth"] c_law_some_question (top 34) = true := by decide +kernel
theorem bind_law_some_question : BindOk "_law_some_question" (top 34) ["draws", "script", "words", "depth"] := fun _ _ _ _ _ _ us hl => match us, hl with | [_, _, _, _], _ => rfl
theorem tie_law_horizon : tieF tab ["cycle", "facts", "question", "kind", "fact", "bound", "part"] ["cycle", "facts", "question"] c_law_horizon (top 35) = true := by decide +kernel
theorem bind_law_horizon : BindOk "_law_horizon" (top 35) ["cycle", "facts", "question"] := fun _ _ _ _ _ _ us hl => match us, hl with | [_, _, _], _ => rfl
theorem tie_law_facts_in : tieF tab ["question", "found", "part"] ["question"] c_law_facts_in (top 36) = true := by decide +kernel
theorem bind_law_facts_in : BindOk "_law_facts_in" (top 36) ["question"] := fun _ _ _ _ _ _ us hl => match us, hl with | [_], _ => rfl
theorem tie_law : tieF tab ["script", "draws", "cycle", "words", "question", "names", "node", "facts", "k", "many", "ways", "j", "when", "name", "row", "passed", "due"] ["script"] c_law (top 37) = true := by decide +kernel
theorem bind_law : BindOk "law" (top 37) ["script"] := fun _ _ _ _ _ _ us hl => match us, hl with | [_], _ => rfl
section
variable {P : Program} {w : World} {K : PySem.W.Frag} {mg : Str → Option Value} {base h : Heap}
theorem pr_ok (X : K.In h) (G : h.Ns mainGlobals mg)
    (h0 : FnHas K "parts_of" (top 2))
    (h1 : FnHas K "when_bound" (top 4))
    (h2 : FnHas K "horizon" (top 6))
    (h3 : FnHas K "_law_draws" (top 8))
    (h4 : FnHas K "_law_take" (top 9))
    (h5 : FnHas K "_law_pick" (top 10))
    (h6 : FnHas K "_law_size" (top 11))
    (h7 : FnHas K "_law_same" (top 12))
    (h8 : FnHas K "_law_cycle" (top 13))
    (h9 : FnHas K "_law_when_bound" (top 14))
    (h10 : FnHas K "_law_some_columns" (top 15))
    (h11 : FnHas K "_law_is_pair" (top 16))
    (h12 : FnHas K "_law_sized_leaf" (top 17))
    (h13 : FnHas K "_law_chained" (top 18))
    (h14 : FnHas K "_law_tree" (top 19))
    (h15 : FnHas K "_law_sized_leaves" (top 20))
    (h16 : FnHas K "_law_words" (top 21))
    (h17 : FnHas K "_law_number" (top 22))
    (h18 : FnHas K "_law_worth" (top 23))
    (h19 : FnHas K "_law_wide_term" (top 24))
    (h20 : FnHas K "_law_wide_fact" (top 25))
    (h21 : FnHas K "_law_more" (top 26))
    (h22 : FnHas K "_law_wide_total" (top 27))
    (h23 : FnHas K "_law_wide_pair" (top 28))
    (h24 : FnHas K "_law_wide" (top 29))
    (h25 : FnHas K "_law_wide_columns" (top 30))
    (h26 : FnHas K "_law_parts" (top 31))
    (h27 : FnHas K "_law_depth" (top 32))
    (h28 : FnHas K "_law_wrapped" (top 33))
    (h29 : FnHas K "_law_some_question" (top 34))
    (h30 : FnHas K "_law_horizon" (top 35))
    (h31 : FnHas K "_law_facts_in" (top 36))
    (h32 : FnHas K "law" (top 37))
    (z0 : PySem.W.nsIn K mainGlobals "abs" = some none)
    (z1 : PySem.W.nsIn K mainGlobals "bool" = some none)
    (z2 : PySem.W.nsIn K mainGlobals "int" = some none)
    (z3 : PySem.W.nsIn K mainGlobals "isinstance" = some none)
    (z4 : PySem.W.nsIn K mainGlobals "len" = some none)
    (z5 : PySem.W.nsIn K mainGlobals "list" = some none)
    (z6 : PySem.W.nsIn K mainGlobals "max" = some none)
    (z7 : PySem.W.nsIn K mainGlobals "min" = some none)
    (z8 : PySem.W.nsIn K mainGlobals "range" = some none)
    (z9 : PySem.W.nsIn K mainGlobals "sorted" = some none)
    (z10 : PySem.W.nsIn K mainGlobals "str" = some none)
    (z11 : PySem.W.nsIn K mainGlobals "tuple" = some none)
    (q0 : CstHas K "PAIRS" (.tup [.str "both", .str "either", .str "unless", .str "since", .str "until", .str "sincenot", .str "untilnot"]))
    : PrOk tab fns cst P w K mg base := by
  have hb : ∀ x ∈ tab.bis, mg x = none := by
    intro x hx
    simp only [tab, List.mem_cons, List.not_mem_nil, or_false] at hx
    rcases hx with rfl | rfl | rfl | rfl | rfl | rfl | rfl | rfl | rfl | rfl | rfl | rfl
    · exact PySem.W.mg_none_of X G z0
    · exact PySem.W.mg_none_of X G z1
    · exact PySem.W.mg_none_of X G z2
    · exact PySem.W.mg_none_of X G z3
    · exact PySem.W.mg_none_of X G z4
    · exact PySem.W.mg_none_of X G z5
    · exact PySem.W.mg_none_of X G z6
    · exact PySem.W.mg_none_of X G z7
    · exact PySem.W.mg_none_of X G z8
    · exact PySem.W.mg_none_of X G z9
    · exact PySem.W.mg_none_of X G z10
    · exact PySem.W.mg_none_of X G z11
  refine ⟨hb, fun k x hx => ?_, mono_p, fun f x ps kw hf => ?_⟩
  · match k, hx with
    | 0, hx => exact cst_of X G q0 hx
    | n + 1, hx => cases hx
  match f, hf with
  | 0, hf => exact ent_code X G h0 bind_parts_of tie_parts_of rfl hf
  | 1, hf => exact ent_code X G h1 bind_when_bound tie_when_bound rfl hf
  | 2, hf => exact ent_code X G h2 bind_horizon tie_horizon rfl hf
  | 3, hf => exact ent_code X G h3 bind_law_draws tie_law_draws rfl hf
  | 4, hf => exact ent_take X G h4 bind_law_take hb tie_law_take rfl hf
  | 5, hf => exact ent_code X G h5 bind_law_pick tie_law_pick rfl hf
  | 6, hf => exact ent_code X G h6 bind_law_size tie_law_size rfl hf
  | 7, hf => exact ent_code X G h7 bind_law_same tie_law_same rfl hf
  | 8, hf => exact ent_code X G h8 bind_law_cycle tie_law_cycle rfl hf
  | 9, hf => exact ent_code X G h9 bind_law_when_bound tie_law_when_bound rfl hf
  | 10, hf => exact ent_code X G h10 bind_law_some_columns tie_law_some_columns rfl hf
  | 11, hf => exact ent_code X G h11 bind_law_is_pair tie_law_is_pair rfl hf
  | 12, hf => exact ent_code X G h12 bind_law_sized_leaf tie_law_sized_leaf rfl hf
  | 13, hf => exact ent_code X G h13 bind_law_chained tie_law_chained rfl hf
  | 14, hf => exact ent_code X G h14 bind_law_tree tie_law_tree rfl hf
  | 15, hf => exact ent_code X G h15 bind_law_sized_leaves tie_law_sized_leaves rfl hf
  | 16, hf => exact ent_code X G h16 bind_law_words tie_law_words rfl hf
  | 17, hf => exact ent_code X G h17 bind_law_number tie_law_number rfl hf
  | 18, hf => exact ent_code X G h18 bind_law_worth tie_law_worth rfl hf
  | 19, hf => exact ent_code X G h19 bind_law_wide_term tie_law_wide_term rfl hf
  | 20, hf => exact ent_code X G h20 bind_law_wide_fact tie_law_wide_fact rfl hf
  | 21, hf => exact ent_code X G h21 bind_law_more tie_law_more rfl hf
  | 22, hf => exact ent_code X G h22 bind_law_wide_total tie_law_wide_total rfl hf
  | 23, hf => exact ent_code X G h23 bind_law_wide_pair tie_law_wide_pair rfl hf
  | 24, hf => exact ent_code X G h24 bind_law_wide tie_law_wide rfl hf
  | 25, hf => exact ent_code X G h25 bind_law_wide_columns tie_law_wide_columns rfl hf
  | 26, hf => exact ent_code X G h26 bind_law_parts tie_law_parts rfl hf
  | 27, hf => exact ent_code X G h27 bind_law_depth tie_law_depth rfl hf
  | 28, hf => exact ent_code X G h28 bind_law_wrapped tie_law_wrapped rfl hf
  | 29, hf => exact ent_code X G h29 bind_law_some_question tie_law_some_question rfl hf
  | 30, hf => exact ent_code X G h30 bind_law_horizon tie_law_horizon rfl hf
  | 31, hf => exact ent_code X G h31 bind_law_facts_in tie_law_facts_in rfl hf
  | 32, hf => exact ent_code X G h32 bind_law tie_law rfl hf
  | n + 33, hf => cases hf
theorem all_mk {l : PySem.W.OpenLaw} {fa : Addr} (X : K.In h) (G : h.Ns mainGlobals mg) (hfa : mg "law" = some (.ref fa))
    (h0 : FnHas K "parts_of" (top 2))
    (h1 : FnHas K "when_bound" (top 4))
    (h2 : FnHas K "horizon" (top 6))
    (h3 : FnHas K "_law_draws" (top 8))
    (h4 : FnHas K "_law_take" (top 9))
    (h5 : FnHas K "_law_pick" (top 10))
    (h6 : FnHas K "_law_size" (top 11))
    (h7 : FnHas K "_law_same" (top 12))
    (h8 : FnHas K "_law_cycle" (top 13))
    (h9 : FnHas K "_law_when_bound" (top 14))
    (h10 : FnHas K "_law_some_columns" (top 15))
    (h11 : FnHas K "_law_is_pair" (top 16))
    (h12 : FnHas K "_law_sized_leaf" (top 17))
    (h13 : FnHas K "_law_chained" (top 18))
    (h14 : FnHas K "_law_tree" (top 19))
    (h15 : FnHas K "_law_sized_leaves" (top 20))
    (h16 : FnHas K "_law_words" (top 21))
    (h17 : FnHas K "_law_number" (top 22))
    (h18 : FnHas K "_law_worth" (top 23))
    (h19 : FnHas K "_law_wide_term" (top 24))
    (h20 : FnHas K "_law_wide_fact" (top 25))
    (h21 : FnHas K "_law_more" (top 26))
    (h22 : FnHas K "_law_wide_total" (top 27))
    (h23 : FnHas K "_law_wide_pair" (top 28))
    (h24 : FnHas K "_law_wide" (top 29))
    (h25 : FnHas K "_law_wide_columns" (top 30))
    (h26 : FnHas K "_law_parts" (top 31))
    (h27 : FnHas K "_law_depth" (top 32))
    (h28 : FnHas K "_law_wrapped" (top 33))
    (h29 : FnHas K "_law_some_question" (top 34))
    (h30 : FnHas K "_law_horizon" (top 35))
    (h31 : FnHas K "_law_facts_in" (top 36))
    (h32 : FnHas K "law" (top 37))
    (z0 : PySem.W.nsIn K mainGlobals "abs" = some none)
    (z1 : PySem.W.nsIn K mainGlobals "bool" = some none)
    (z2 : PySem.W.nsIn K mainGlobals "int" = some none)
    (z3 : PySem.W.nsIn K mainGlobals "isinstance" = some none)
    (z4 : PySem.W.nsIn K mainGlobals "len" = some none)
    (z5 : PySem.W.nsIn K mainGlobals "list" = some none)
    (z6 : PySem.W.nsIn K mainGlobals "max" = some none)
    (z7 : PySem.W.nsIn K mainGlobals "min" = some none)
    (z8 : PySem.W.nsIn K mainGlobals "range" = some none)
    (z9 : PySem.W.nsIn K mainGlobals "sorted" = some none)
    (z10 : PySem.W.nsIn K mainGlobals "str" = some none)
    (z11 : PySem.W.nsIn K mainGlobals "tuple" = some none)
    (q0 : CstHas K "PAIRS" (.tup [.str "both", .str "either", .str "unless", .str "since", .str "until", .str "sincenot", .str "untilnot"]))
    : ∃ fd : FuncData, (∀ (s : Shared) (v : Value), BindsTo s fd ⟨[v], []⟩ [("script", v)]) ∧ ∀ base : Heap, K.In base → base.Ns mainGlobals mg → FnOk l.prog w K mg base CX0 65 fa fd ["script"] (spLaw K) := by
  obtain ⟨a, fd, n, F⟩ := h32.ex
  have e := hfa.symm.trans (PySem.W.mg_of X G n)
  cases e
  have hbd : ∀ (s : Shared) (v : Value), BindsTo s fd ⟨[v], []⟩ [("script", v)] := by
    obtain ⟨oc, od, kV, doc, pm, an, cdv, ct, osl, rfl, _, _⟩ := F.ex
    exact fun s v => .of_eq rfl
  refine ⟨fd, hbd, fun base _ _ => ?_⟩
  obtain ⟨a2, fd2, g1, g2, g3, g5, g4⟩ := prog_ok (P := l.prog) (w := w) (base := base) (pr_ok (P := l.prog) (w := w) (base := base) X G h0 h1 h2 h3 h4 h5 h6 h7 h8 h9 h10 h11 h12 h13 h14 h15 h16 h17 h18 h19 h20 h21 h22 h23 h24 h25 h26 h27 h28 h29 h30 h31 h32 z0 z1 z2 z3 z4 z5 z6 z7 z8 z9 z10 z11 q0) 65 32 "law" ["script"] false rfl
  have e := hfa.symm.trans g1
  cases e
  cases fd_same g5 F.look
  exact law_ok (PHm 65) rfl g4 law_math
end
end K70
open PySem PySem.W PyProof.Rows
set_option maxRecDepth 100000 in
set_option maxHeartbeats 0 in
theorem PySem.Challenge.cw_ateverymoment_k70_horizon_holds : PySem.Challenge.rw_ateverymoment_k70_horizon.Holds := by
  w_on; o_law; k_head; (case hw => w_witness2)
  k_fill
  refine DL.walk (l := PySem.Challenge.rw_ateverymoment_k70_horizon) rfl rfl (fun w h Y => PySem.W.kIn_of Y) ?F
  case F =>
    intro w mg fa h KX G hmg
    refine' K70.all_mk KX G hmg ?h0 ?h1 ?h2 ?h3 ?h4 ?h5 ?h6 ?h7 ?h8 ?h9 ?h10 ?h11 ?h12 ?h13 ?h14 ?h15 ?h16 ?h17 ?h18 ?h19 ?h20 ?h21 ?h22 ?h23 ?h24 ?h25 ?h26 ?h27 ?h28 ?h29 ?h30 ?h31 ?h32 ?z0 ?z1 ?z2 ?z3 ?z4 ?z5 ?z6 ?z7 ?z8 ?z9 ?z10 ?z11 ?q0
    (case h0 => refine' DL.fnHas ?n ?l ?c ?k; (case n => k_is); (case l => k_is); (case c => k_is); (case k => k_is))
    (case h1 => refine' DL.fnHas ?n ?l ?c ?k; (case n => k_is); (case l => k_is); (case c => k_is); (case k => k_is))
    (case h2 => refine' DL.fnHas ?n ?l ?c ?k; (case n => k_is); (case l => k_is); (case c => k_is); (case k => k_is))
    (case h3 => refine' DL.fnHas ?n ?l ?c ?k; (case n => k_is); (case l => k_is); (case c => k_is); (case k => k_is))
    (case h4 => refine' DL.fnHas ?n ?l ?c ?k; (case n => k_is); (case l => k_is); (case c => k_is); (case k => k_is))
    (case h5 => refine' DL.fnHas ?n ?l ?c ?k; (case n => k_is); (case l => k_is); (case c => k_is); (case k => k_is))
    (case h6 => refine' DL.fnHas ?n ?l ?c ?k; (case n => k_is); (case l => k_is); (case c => k_is); (case k => k_is))
    (case h7 => refine' DL.fnHas ?n ?l ?c ?k; (case n => k_is); (case l => k_is); (case c => k_is); (case k => k_is))
    (case h8 => refine' DL.fnHas ?n ?l ?c ?k; (case n => k_is); (case l => k_is); (case c => k_is); (case k => k_is))
    (case h9 => refine' DL.fnHas ?n ?l ?c ?k; (case n => k_is); (case l => k_is); (case c => k_is); (case k => k_is))
    (case h10 => refine' DL.fnHas ?n ?l ?c ?k; (case n => k_is); (case l => k_is); (case c => k_is); (case k => k_is))
    (case h11 => refine' DL.fnHas ?n ?l ?c ?k; (case n => k_is); (case l => k_is); (case c => k_is); (case k => k_is))
    (case h12 => refine' DL.fnHas ?n ?l ?c ?k; (case n => k_is); (case l => k_is); (case c => k_is); (case k => k_is))
    (case h13 => refine' DL.fnHas ?n ?l ?c ?k; (case n => k_is); (case l => k_is); (case c => k_is); (case k => k_is))
    (case h14 => refine' DL.fnHas ?n ?l ?c ?k; (case n => k_is); (case l => k_is); (case c => k_is); (case k => k_is))
    (case h15 => refine' DL.fnHas ?n ?l ?c ?k; (case n => k_is); (case l => k_is); (case c => k_is); (case k => k_is))
    (case h16 => refine' DL.fnHas ?n ?l ?c ?k; (case n => k_is); (case l => k_is); (case c => k_is); (case k => k_is))
    (case h17 => refine' DL.fnHas ?n ?l ?c ?k; (case n => k_is); (case l => k_is); (case c => k_is); (case k => k_is))
    (case h18 => refine' DL.fnHas ?n ?l ?c ?k; (case n => k_is); (case l => k_is); (case c => k_is); (case k => k_is))
    (case h19 => refine' DL.fnHas ?n ?l ?c ?k; (case n => k_is); (case l => k_is); (case c => k_is); (case k => k_is))
    (case h20 => refine' DL.fnHas ?n ?l ?c ?k; (case n => k_is); (case l => k_is); (case c => k_is); (case k => k_is))
    (case h21 => refine' DL.fnHas ?n ?l ?c ?k; (case n => k_is); (case l => k_is); (case c => k_is); (case k => k_is))
    (case h22 => refine' DL.fnHas ?n ?l ?c ?k; (case n => k_is); (case l => k_is); (case c => k_is); (case k => k_is))
    (case h23 => refine' DL.fnHas ?n ?l ?c ?k; (case n => k_is); (case l => k_is); (case c => k_is); (case k => k_is))
    (case h24 => refine' DL.fnHas ?n ?l ?c ?k; (case n => k_is); (case l => k_is); (case c => k_is); (case k => k_is))
    (case h25 => refine' DL.fnHas ?n ?l ?c ?k; (case n => k_is); (case l => k_is); (case c => k_is); (case k => k_is))
    (case h26 => refine' DL.fnHas ?n ?l ?c ?k; (case n => k_is); (case l => k_is); (case c => k_is); (case k => k_is))
    (case h27 => refine' DL.fnHas ?n ?l ?c ?k; (case n => k_is); (case l => k_is); (case c => k_is); (case k => k_is))
    (case h28 => refine' DL.fnHas ?n ?l ?c ?k; (case n => k_is); (case l => k_is); (case c => k_is); (case k => k_is))
    (case h29 => refine' DL.fnHas ?n ?l ?c ?k; (case n => k_is); (case l => k_is); (case c => k_is); (case k => k_is))
    (case h30 => refine' DL.fnHas ?n ?l ?c ?k; (case n => k_is); (case l => k_is); (case c => k_is); (case k => k_is))
    (case h31 => refine' DL.fnHas ?n ?l ?c ?k; (case n => k_is); (case l => k_is); (case c => k_is); (case k => k_is))
    (case h32 => refine' DL.fnHas ?n ?l ?c ?k; (case n => k_is); (case l => k_is); (case c => k_is); (case k => k_is))
    (case z0 => k_is)
    (case z1 => k_is)
    (case z2 => k_is)
    (case z3 => k_is)
    (case z4 => k_is)
    (case z5 => k_is)
    (case z6 => k_is)
    (case z7 => k_is)
    (case z8 => k_is)
    (case z9 => k_is)
    (case z10 => k_is)
    (case z11 => k_is)
    (case q0 => refine' DL.cstTup ?n ?l ?c; (case n => k_is); (case l => k_is); (case c => decide +kernel))

