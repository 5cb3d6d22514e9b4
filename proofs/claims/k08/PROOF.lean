import PyProof.Rows.All
import Wide.All
import OpenK.AllK
import Wide.FinOn
import HandS.ForMost
import HandS.Star
import HandS.Zip
import HandS.TupAny
import HandS.TupMul
import HandS.IsInst
import HandS.EndTab
import HandS.Flow
import HandS.Style
import HandS.Wide
import HandS.Rev
import HandS.RevRange
import KE.DataEq
import KE.KeyNested
import KE.KDictKeyed
import HandS.TupSets
import HandS.SetTxt0
import KE.SortData
import KE.DataCmp
import KE.KDictPairs
import HandS.Small
import KE.GoesMore
import PyProof.EnumMake
import HandS.More
import KE.SortKeyHeap
import KE.KSortKey
import KE.KRevSl
import HandS.Codes
import HandS.Words
import HandS.EndOwn
import PySem.Challenge.RW_ownerlines_k08_whole_fewest_approvers
set_option Elab.async false
set_option linter.all false
set_option maxRecDepth 100000
/-! sorted(set(xs)): xs a list of texts, or of tuples of texts. -/
namespace OwS
open PySem PySem.Spec PyProof.Rows L2

/-! ### what a set has got of the first items -/
structure Some' {κ : Type} (ks : List (Value × κ)) (i : Nat) (L : List (Value × κ)) : Prop where
  sub : ∀ p ∈ L, p ∈ ks.take i
  all : ∀ p ∈ ks.take i, p.2 ∈ L.map (·.2)
  len : L.length ≤ i

theorem Some'.zero {κ : Type} (ks : List (Value × κ)) : Some' ks 0 [] :=
  ⟨fun p h => (by cases h), fun p h => (by simp at h), Nat.le_refl _⟩

theorem take1 {α : Type} {l : List α} {i : Nat} {x : α} (h : l[i]? = some x) : l.take (i + 1) = l.take i ++ [x] := by
  rw [List.take_succ, h]; rfl

theorem Some'.same {κ : Type} {ks L : List (Value × κ)} {i : Nat} {x : Value × κ} (g : Some' ks i L) (h : ks[i]? = some x)
    (hm : x.2 ∈ L.map (·.2)) : Some' ks (i + 1) L := by
  have e := take1 h
  constructor
  · intro p hp
    rw [e]
    exact List.mem_append.mpr (.inl (g.sub p hp))
  · intro p hp
    rw [e] at hp
    cases List.mem_append.mp hp with
    | inl z => exact g.all p z
    | inr z => rw [List.mem_singleton.mp z]; exact hm
  · exact Nat.le_trans g.len (Nat.le_succ i)

theorem Some'.more {κ : Type} {ks L L' : List (Value × κ)} {i : Nat} {x : Value × κ} (g : Some' ks i L) (h : ks[i]? = some x)
    (pm : L'.Perm (x :: L)) : Some' ks (i + 1) L' := by
  have e := take1 h
  constructor
  · intro p hp
    rw [e]
    cases List.mem_cons.mp (pm.mem_iff.mp hp) with
    | inl z => rw [z]; exact List.mem_append.mpr (.inr (List.mem_singleton.mpr rfl))
    | inr z => exact List.mem_append.mpr (.inl (g.sub p z))
  · intro p hp
    rw [e] at hp
    rw [(pm.map (·.2)).mem_iff, List.map_cons]
    cases List.mem_append.mp hp with
    | inl z => exact List.mem_cons.mpr (.inr (g.all p z))
    | inr z => rw [List.mem_singleton.mp z]; exact List.mem_cons.mpr (.inl rfl)
  · have := pm.length_eq
    rw [List.length_cons] at this
    have := g.len
    omega

/-- all that stands in h stands in h' -/
abbrev Kept (h h' : Heap) : Prop := ∀ b o, h.get? b = some o → h'.get? b = some o

/-- a kind of members: Hld h S L says that the set at S has the members L -/
structure Kind (P : Program) (w : World) (κ : Type) (ks : List (Value × κ)) (h0 : Heap) (S : Addr) (room : Nat) where
  Hld : Heap → List (Value × κ) → Prop
  stay : ∀ h h' L, Hld h L → (∀ o, h.get? S = some o → h'.get? S = some o) → Kept h0 h' → Some' ks L.length L ∨ (∀ p ∈ L, p ∈ ks) → Hld h' L
  fresh : ∀ h, h.get? S = some { cls := .type "set", dict := none, data := .set #[] 0 (.fresh 0 0 (!w.params.followText "set-order")) } → Hld h []
  add : ∀ (A : Around) (E : Value → Shared → Prop) (s : Shared) (i : Nat) (p : Value × κ) (L : List (Value × κ)) (Q : Bool → Shared → Prop),
    ks[i]? = some p → Hld s.heap L → Some' ks i L → Kept h0 s.heap → A.units + room < cLine →
    (∀ b h' tk L', Heap.SameBut S s.heap h' → s.toks ≤ tk → Hld h' L' → (p.2 ∈ L.map (·.2) → L' = L) → (p.2 ∉ L.map (·.2) → L'.Perm (p :: L)) → Q b { s with heap := h', toks := tk }) →
    wpAny (model P w) A (setAdd S p.1) Q E s

section
variable {P : Program} {w : World} {A : Around} {E : Value → Shared → Prop} {s : Shared} {κ : Type}

/-- the loop that fills the set -/
theorem fill_loop {I : Addr} {fp wr : List Addr} {G : Array GenState → Array GenState → Prop} {n : Nat} {Pv : Nat → Value → Prop}
    {St : Nat → Shared → Prop} {R : Result → Shared → Prop} (S : Addr) (ks : List (Value × κ)) (h0 : Heap) {room : Nat} (Kd : Kind P w κ ks h0 S room)
    (W : WalksS P w A.in1 I fp wr G n Pv St) (hSf : S ∉ fp) (hn : n = ks.length) (hval : ∀ i v, Pv i v → ∃ p, ks[i]? = some p ∧ v = p.1)
    (hS0 : h0.get? S = none) (hw0 : ∀ b ∈ wr, h0.get? b = none) (hu : A.in1.units + room < cLine) :
    ∀ (k i : Nat) (s : Shared), n - i = k → i ≤ n → St i s → Kept h0 s.heap → (∃ L, Kd.Hld s.heap L ∧ Some' ks i L) →
      (∀ s' L, Moved (S :: wr) G s s' → Kd.Hld s'.heap L → Some' ks n L → Kept h0 s'.heap → R (.ok (.ret .none)) s') →
      codeAny (model P w) A (.builtin "set.update.loop" ⟨[.ref S, .ref I], []⟩) R s := by
  have nSw : S ∉ wr := fun h => hSf (W.sub _ h)
  have up : ∀ b ∈ wr, b ∈ S :: wr := fun b hb => List.mem_cons.mpr (.inr hb)
  have keeps : ∀ {s s' : Shared}, Moved wr G s s' → Kept h0 s.heap → Kept h0 s'.heap := by
    intro s s' m k b o e
    refine m.heap b o (fun z => ?_) (k b o e)
    rw [hw0 b z] at e
    cases e
  intro k
  induction k with
  | zero =>
    intro i s hk hi st kp hL hR
    obtain ⟨L, hS, g⟩ := hL
    have ei : i = n := by omega
    subst ei
    refine codeAny_builtin F.entry_set_update_loop ?_
    rw [Around.under_plainId F.plain_set_update_loop _]
    show wpAny _ A.in1 (pyNext (.ref I) >>= _) _ _ s
    refine wpAny_bind (W.done s _ _ st fun s1 m => ?_)
    show wpAny _ A.in1 (ret Value.none) _ _ s1
    have kp1 := keeps m kp
    refine wpAny_pure (hR s1 L (m.mono up) (Kd.stay _ _ L hS (fun o e => m.heap S o nSw e) kp1 (.inr fun p hp => List.mem_of_mem_take (g.sub p hp))) g kp1)
  | succ k ih =>
    intro i s hk hi st kp hL hR
    obtain ⟨L, hS, g⟩ := hL
    have lt : i < n := by omega
    refine codeAny_builtin F.entry_set_update_loop ?_
    rw [Around.under_plainId F.plain_set_update_loop _]
    show wpAny _ A.in1 (pyNext (.ref I) >>= _) _ _ s
    refine wpAny_bind (W.item i s _ _ lt st fun v s1 hv st1 m => ?_)
    obtain ⟨p, hp, ev⟩ := hval i v hv
    subst ev
    have kp1 := keeps m kp
    have hS1 := Kd.stay _ _ L hS (fun o e => m.heap S o nSw e) kp1 (.inr fun p hp => List.mem_of_mem_take (g.sub p hp))
    show wpAny _ A.in1 (holding [p.1] (setAdd S p.1) >>= _) _ _ s1
    refine wpAny_bind (wpAny_holding (Kd.add _ _ s1 i p L _ hp hS1 g kp1 hu fun b h' tk L' sb tl hS2 c1 c2 => ?_))
    have g' : Some' ks (i + 1) L' := by
      by_cases c : p.2 ∈ L.map (·.2)
      · rw [c1 c]; exact g.same hp c
      · exact g.more hp (c2 c)
    have kp2 : Kept h0 h' := by
      intro b o e
      refine (sb.2 b fun z => ?_).trans (kp1 b o e)
      rw [z, hS0] at e
      cases e
    refine wpAny_pure ⟨plainId_quiet F.plain_set_update_loop _, ih (i + 1) _ (by omega) lt (W.frame _ s1 _ tk st1 tl ?_) kp2 ⟨L', hS2, g'⟩ ?_⟩
    · intro b hb o e
      rw [sb.2 b (fun z => hSf (z ▸ hb))]
      exact e
    · intro s2 L2 m2 hS3 g3 kp3
      refine hR s2 L2 (Moved.trans W.gtrans ((m.mono up).then_heap tl ?_) m2) hS3 g3 kp3
      intro b o hb e
      rw [sb.2 b (fun z => hb (by rw [z]; exact List.mem_cons_self))]
      exact e
end

section
variable {P : Program} {w : World} {A : Around} {E : Value → Shared → Prop} {s : Shared} {κ : Type}

set_option maxHeartbeats 4000000 in
/-- set(xs), xs a list -/
theorem call_set {l : Addr} {items : Array Value} (ks : List (Value × κ)) {room : Nat} (Kd : Kind P w κ ks s.heap s.heap.objs.size room)
    {Q : Value → Shared → Prop} (hh : A.handled = none) (hl : s.heap.IsList l items) (hit : items.toList = ks.map (·.1)) (hu : A.units + 3 + room < cLine)
    (h : ∀ (h' : Heap) (tk : Nat) L, Kd.Hld h' L → Some' ks ks.length L → Kept s.heap h' →
      Q (.ref s.heap.objs.size) { s with heap := h', toks := tk }) :
    wpAny (model P w) A (call (.type "set") [.ref l]) Q E s := by
  have hisz : items.size = ks.length := by
    have q := congrArg List.length hit
    simpa using q
  have S0 : s.heap.get? s.heap.objs.size = none := Heap.get?_none_of_le (Nat.le_refl _)
  obtain ⟨c, tl, hmro⟩ := F.called_set.mro
  have hmade := F.called_set.made
  have hsub := F.called_set.sub
  refine wpAny_call (codeAny_of_tree ?_)
  show wpAny _ _ (callAny (.type "set") _) _ _ _
  refine wpAny_pure ⟨Code.quiet_builtin _ (by decide +kernel), codeAny_builtin F.entry_type_call ?_⟩
  rw [Around.under_plain (weight_type_call_type "set" [.ref l] []) rfl]
  have h1 := F.called_set.notType
  have h2 := F.called_set.canCreate
  have hct := F.typeCall_set_1 (.ref l)
  repeat (any_goals (first | assumption | wp_step))
  let fr : Obj := { cls := .type "set", dict := none, data := .set #[] 0 (.fresh 0 0 (!w.params.followText "set-order")) }
  refine codeAny_mono (code_set_led1 (.ref l) (E := E) (Q₁ := fun obj s1 => obj = .ref s.heap.objs.size ∧ s1 = { s with heap := s.heap.push fr }) ⟨rfl, rfl⟩) fun r s1 hr => ?_
  cases r with
  | error e => exact hr
  | ok fl =>
    cases fl with
    | ret obj =>
      obtain ⟨e1, e2⟩ := hr
      subst e1 e2
      have hS : (s.heap.push fr).get? s.heap.objs.size = some fr := Heap.get?_push_size _ rfl
      have hT : Shared.TypeIs { s with heap := s.heap.push fr } (.ref s.heap.objs.size) "set" := ⟨_, hS, rfl⟩
      have hli := F.called_set.init.lookup
      have hbi := F.called_set.init.bind (.ref s.heap.objs.size)
      repeat (any_goals (first | assumption | wp_step))
      let fin : Value → Shared → Prop := fun r s2 => r = .none ∧ ∃ h' tk L, s2 = { s with heap := h', toks := tk } ∧ Kd.Hld h' L ∧ Some' ks ks.length L ∧ Kept s.heap h'
      refine codeAny_mono (codeAny_call_builtin (R := wants fin E) F.called_set.init.plain F.entry_set_init (check_set_init_1 hT ?_)) fun r2 s2 hr2 => ?_
      · obtain ⟨ol, hol, hcl, nl, hdl⟩ := hl
        obtain ⟨ocls, odict, odata, oslots⟩ := ol
        simp only at hcl hdl
        subst hcl hdl
        have hol' := Heap.get?_push_of_some fr hol
        have hsls := F.sub_list_set
        have hslf := F.sub_list_frozenset
        have hne : (Value.type "list" == Value.type "dict") = false := by decide
        have hl1 : (s.heap.push fr).IsList l items := ⟨_, hol', rfl, nl, rfl⟩
        unfold Builtin.«set.__init__» noKeywords Builtin.Frozenset.updateFrom
        generalize hPI : pyIter = PI
        wp_walk
        subst hPI
        refine wpAny_pyIter_list hl1 ?_
        refine wpAny_bind (wpAny_runValue ?_)
        have hlS : l < s.heap.objs.size := Heap.lt_size hol
        have hh3 : A.in1.in1.in1.handled = none := by simp [hh]
        have hz1 : (s.heap.push fr).objs.size = s.heap.objs.size + 1 := Heap.size_push ..
        have hneI : l ≠ (s.heap.push fr).objs.size := by rw [hz1]; exact Nat.ne_of_lt (Nat.lt_succ_of_lt hlS)
        have hSf : s.heap.objs.size ∉ [(s.heap.push fr).objs.size, l] := by
          rw [hz1]
          intro z
          cases List.mem_cons.mp z with
          | inl z => exact Nat.ne_of_lt (Nat.lt_succ_self _) z
          | inr z => exact Nat.ne_of_gt hlS (List.mem_singleton.mp z)
        have hval : ∀ (i : Nat) (v : Value), items[i]? = some v → ∃ p, ks[i]? = some p ∧ v = p.1 := by
          intro i v hv
          rw [← Array.getElem?_toList, hit, List.getElem?_map] at hv
          cases hq : ks[i]? with
          | none => rw [hq] at hv; cases hv
          | some p => rw [hq] at hv; exact ⟨p, rfl, (Option.some.inj hv).symm⟩
        refine fill_loop (s.heap.objs.size) ks s.heap Kd ((Walks.list hh3 _ l hneI items).toS) hSf hisz hval S0 ?hw0 ?hu2 (items.size - 0) 0 _ (by omega) (Nat.zero_le _)
          ⟨⟨_, Heap.get?_push_size _ rfl, rfl, rfl⟩, (hl1.push _)⟩ (fun b o e => Heap.get?_push_of_some _ (Heap.get?_push_of_some _ e)) ?hS1 ?hR1
        case hw0 =>
          intro b hb
          refine Heap.get?_none_of_le ?_
          rw [List.mem_singleton.mp hb, hz1]
          exact Nat.le_succ _
        case hu2 =>
          show A.units + 1 + 1 + 1 + room < cLine
          omega
        case hS1 =>
          exact ⟨[], Kd.fresh _ (Heap.get?_push_of_some _ hS), Some'.zero ks⟩
        case hR1 =>
          intro s' L hm hS' g' hkp
          obtain ⟨h', g2, d', tk', os'⟩ := s'
          have eg : g2 = s.gens := hm.gens
          have ed : d' = s.drawn := hm.drawn
          have eo : os' = s.os := hm.os
          subst eg ed eo
          show wpAny _ _ _ _ _ _
          refine wpAny_pure ?_
          show wpAny _ _ (ret Value.none) _ _ _
          rw [hisz] at g'
          exact wpAny_pure ⟨rfl, h', tk', L, rfl, hS', g', hkp⟩
      · cases r2 with
        | error e => exact hr2
        | ok fl2 =>
          cases fl2 with
          | ret r =>
            obtain ⟨er, h', tk, L, es, hS', g', hk'⟩ := hr2
            subst er es
            repeat (any_goals (first | assumption | wp_step))
            exact h _ _ _ hS' g' hk'
          | _ => exact hr2.elim
    | _ => exact hr.elim
end
end OwS
namespace OwS
open PySem PySem.Spec PyProof.Rows L2

/-! ### texts -/
section
variable {P : Program} {w : World}

theorem addTx_facts (h : Int) (v : Value) (es : Array (Int × Value)) (ep : Nat) (t : SetTable) (r : Ris t.place.toList) :
    (Froz.addTx h v (es, ep, t)).1.toList.Perm ((h, v) :: es.toList) ∧ Ris (Froz.addTx h v (es, ep, t)).2.2.place.toList ∧
      (Froz.addTx h v (es, ep, t)).2.2.led = t.led := by
  have p1 := layNew_perm t es h v
  rw [Array.toList_push] at p1
  have p1' := p1.trans (List.perm_append_singleton _ _)
  have r1 := layNew_ris t es h v r
  have l1 := layNew_led t es h v
  unfold Froz.addTx Froz.tailTx
  dsimp only
  generalize layNew t es h v = Z at p1' r1 l1 ⊢
  obtain ⟨es1, t1, wd, gv⟩ := Z
  dsimp only at p1' r1 l1 ⊢
  have key : ∀ t2 : SetTable, Ris t2.place.toList → t2.led = t.led →
      (if (!wd && t2.tooFull) = true then ((relayAll t2 es1 (SetTable.grown es1.size)).1, ep + 2, (relayAll t2 es1 (SetTable.grown es1.size)).2.1) else (es1, ep + 1, t2)).1.toList.Perm ((h, v) :: es.toList) ∧
      Ris (if (!wd && t2.tooFull) = true then ((relayAll t2 es1 (SetTable.grown es1.size)).1, ep + 2, (relayAll t2 es1 (SetTable.grown es1.size)).2.1) else (es1, ep + 1, t2)).2.2.place.toList ∧
      (if (!wd && t2.tooFull) = true then ((relayAll t2 es1 (SetTable.grown es1.size)).1, ep + 2, (relayAll t2 es1 (SetTable.grown es1.size)).2.1) else (es1, ep + 1, t2)).2.2.led = t.led := by
    intro t2 r2 l2
    split
    · exact ⟨(relayAll_perm t2 es1 _).trans p1', relayAll_ris t2 es1 _, (relayAll_led t2 es1 _).trans l2⟩
    · exact ⟨p1', r2, l2⟩
  split
  · exact key { t1 with plain := false } r1 l1
  · exact key t1 r1 l1

/-- the set at S holds the texts L -/
structure StrSet (P : Program) (w : World) (S : Addr) (h : Heap) (L : List (Value × Str)) (es : Array (Int × Value)) (ep : Nat) (t : SetTable) : Prop where
  ob : h.get? S = some (Froz.sObj "set" (es, ep, t))
  rows : es.toList.Perm (L.map fun p => (hashStr w p.2, p.1))
  txs : ∀ p ∈ L, ∃ tk, p.1 = .str p.2 tk
  tx : Froz.TxOk P w (es, ep, t) (L.map (·.2))
  nd : (L.map (·.2)).Nodup
  ris : Ris t.place.toList
  led : w.params.followText "set-order" = true ∨ t.led = true

theorem isStr_key (k : Str) (u : Tok) : (strKind P w).is k (.str k u) = true := Froz.is_str k u

theorem add_str {A : Around} {E : Value → Shared → Prop} {s : Shared} {S : Addr} {L : List (Value × Str)} {es : Array (Int × Value)} {ep : Nat} {t : SetTable}
    {k : Str} {u : Tok} {Q : Bool → Shared → Prop} (R : StrSet P w S s.heap L es ep t) (room : L.length + 1 < scanBound)
    (hQ : ∀ b h' L' es' ep' t', Heap.SameBut S s.heap h' → StrSet P w S h' L' es' ep' t' → (k ∈ L.map (·.2) → L' = L) → (k ∉ L.map (·.2) → L'.Perm ((.str k u, k) :: L)) → Q b { s with heap := h' }) :
    wpAny (model P w) A (setAddHashed S (.str k u) (hashStr w k)) Q E s := by
  have hsz : es.size = L.length := by have := R.tx.sz; simpa using this
  by_cases hk : k ∈ L.map (·.2)
  · have hd : (Froz.sObj "set" (es, ep, t)).data = .set es ep t := rfl
    have hf : t.fits es.size = true := R.tx.fit
    have hel : ElemsOf (strKind P w) es.toList := R.tx.el
    have hb0 : es.size < scanBound := by omega
    have hkey : (strKind P w).is k (.str k u) = true := isStr_key k u
    unfold setAddHashed setAddHashedIn
    refine wpAny_holding (wpAny_bind (wpAny_setState_of R.ob hd hf ?_))
    dsimp only
    rw [byScan_of rfl hb0 hel]
    simp only [↓reduceIte]
    unfold setAddByScan
    refine wpAny_bind (wpAny_bind (wpAny_rule (wpAny_bind (wpAny_setScan_of (knd := strKind P w) (k := k) hkey R.ob hd hf hel ?_))))
    cases hr : List.findIdx? (fun e => (strKind P w).is k e.2) es.toList with
    | none =>
      exfalso
      obtain ⟨e, he, q⟩ := (R.tx.mem k).mp hk
      have c := List.findIdx?_eq_none_iff.mp hr e he
      rw [q] at c
      cases c
    | some j =>
      dsimp only
      exact wpAny_pure (wpAny_pure (hQ false s.heap L es ep t (Heap.SameBut.refl S s.heap) R (fun _ => rfl) fun z => absurd hk z))
  · refine Froz.add_x R.ob R.tx hk (by rw [List.length_map]; exact room) ?_
    obtain ⟨f1, f2, f3⟩ := addTx_facts (hashStr w k) (.str k u) es ep t R.ris
    have ok := Froz.add_ok (P := P) (w := w) (k := k) u R.tx
    generalize Froz.addTx (hashStr w k) (.str k u) (es, ep, t) = Z at f1 f2 f3 ok ⊢
    obtain ⟨es1, ep1, t1⟩ := Z
    dsimp only at f1 f2 f3 ok ⊢
    refine hQ true _ ((.str k u, k) :: L) es1 ep1 t1 (Heap.SameBut.update s.heap S _) ⟨Froz.get_upd _ R.ob rfl, ?_, ?_, ?_, ?_, f2, ?_⟩ (fun z => absurd z hk) fun _ => List.Perm.refl _
    · exact f1.trans (List.Perm.cons _ R.rows)
    · intro p hp
      cases List.mem_cons.mp hp with
      | inl e => rw [e]; exact ⟨u, rfl⟩
      | inr e => exact R.txs p e
    · exact ok
    · exact List.nodup_cons.mpr ⟨hk, R.nd⟩
    · exact R.led.imp id fun z => by rw [f3]; exact z

/-- texts as members -/
def strK (P : Program) (w : World) (ks : List (Value × Str)) (hs : ∀ p ∈ ks, ∃ tk, p.1 = .str p.2 tk) (hl : ks.length + 1 < scanBound) (h0 : Heap) (S : Addr) : Kind P w Str ks h0 S 0 where
  Hld h L := ∃ es ep t, StrSet P w S h L es ep t
  stay := fun h h' L hL k _ _ => by
    obtain ⟨es, ep, t, R⟩ := hL
    exact ⟨es, ep, t, ⟨k _ R.ob, R.rows, R.txs, R.tx, R.nd, R.ris, R.led⟩⟩
  fresh := fun h e => by
    refine ⟨#[], 0, _, ⟨e, List.Perm.refl _, fun p hp => (by cases hp), Froz.TxOk.nil rfl, List.nodup_nil, List.Pairwise.nil, ?_⟩⟩
    show _ ∨ (!w.params.followText "set-order") = true
    cases w.params.followText "set-order"
    · exact .inr rfl
    · exact .inl rfl
  add := fun A E s i p L Q hp hL g _ _ hQ => by
    obtain ⟨es, ep, t, R⟩ := hL
    obtain ⟨v, k⟩ := p
    obtain ⟨tk, e⟩ := hs _ (List.mem_of_getElem? hp)
    dsimp only at e
    subst e
    have hi : i < ks.length := (List.getElem?_eq_some_iff.mp hp).1
    have hlen := g.len
    unfold setAdd
    refine wpAny_holding (wpAny_bind ((strKind P w).pyHash (isStr_key k tk) ?_))
    refine add_str (s := { s with toks := s.toks + 1 }) R (by omega) fun b h' L' es' ep' t' sb R' c1 c2 => ?_
    exact hQ b h' (s.toks + 1) L' sb (Nat.le_succ _) ⟨es', ep', t', R'⟩ c1 c2
end
end OwS
namespace OwS
open PySem PySem.Spec PyProof.Rows L2

/-! ### tuples of texts -/
section
variable {P : Program} {w : World}

/-- the tuple at b is of the texts k -/
abbrev Tx (P : Program) (w : World) (h : Heap) (k : List Str) (b : Addr) : Prop := IsTupleKey (strKind P w) h k b
abbrev hx (P : Program) (w : World) (k : List Str) : Int := tupleKeyHash (strKind P w) k

theorem Tx.kept {h h' : Heap} {k : List Str} {b : Addr} (x : Tx P w h k b) (kp : Kept h h') : Tx P w h' k b := by
  obtain ⟨o, its, n, ho, r⟩ := x
  exact ⟨o, its, n, kp b o ho, r⟩

theorem Tx.apart {h h' : Heap} {k : List Str} {a b : Addr} {o : Obj} {es : Array (Int × Value)} {ep : Nat} {t : SetTable} (x : Tx P w h k b)
    (ho : h.get? a = some o) (hd : o.data = .set es ep t) (sb : Heap.SameBut a h h') : Tx P w h' k b := by
  obtain ⟨o1, its, n, e1, c1, d1, i1⟩ := x
  have ne : b ≠ a := by
    intro z
    rw [z, ho] at e1
    cases e1
    rw [hd] at d1
    cases d1
  exact ⟨o1, its, n, (sb.2 b ne).trans e1, c1, d1, i1⟩

theorem txt_items {k : List Str} {vs : List Value} (h : ItemsAre (strKind P w) k vs) : ∀ v ∈ vs, ∃ x tk, v = Value.str x tk := by
  induction h with
  | nil => intro v hv; cases hv
  | @cons k0 v' ks vs h1 _ ih =>
    intro v hv
    cases List.mem_cons.mp hv with
    | inl e =>
      obtain ⟨tk, e2⟩ := Value.isStrOf_shape (x := k0) (v := v') h1
      exact ⟨k0, tk, e.trans e2⟩
    | inr hv => exact ih v hv

theorem str_noClass (n : Nat) (x : Str) (t : Tok) : ofAClassStatement n (.str x t) = pure false := by
  cases n <;> rfl
theorem str_byVal (n : Nat) (x : Str) (t : Tok) : hashByValue n (.str x t) = pure false := by
  cases n <;> rfl

section
variable {A : Around} {E : Value → Shared → Prop} {s : Shared}

theorem noClass {k : List Str} {b : Addr} {Q : Bool → Shared → Prop} (hk : Tx P w s.heap k b) (h : Q false s) :
    wpAny (model P w) A (ofAClassStatement 8 (.ref b)) Q E s := by
  have hT := hk.typeIs
  obtain ⟨o, its, n, ho, _, hd, hi⟩ := hk
  unfold ofAClassStatement
  refine wpAny_bind (wpAny_typeOf hT ?_)
  dsimp only
  have e : (("tuple" : String) == "tuple") = true := by decide
  simp only [e, if_true, Bool.not_true, Bool.false_eq_true, if_false]
  try refine wpAny_bind (wpAny_pure ?_)
  try simp only [Bool.not_true, Bool.false_eq_true, if_false]
  show wpAny _ _ (seqItems? (.ref b) >>= _) _ _ s
  refine wpAny_bind (wpAny_seqItems ho hd ?_)
  dsimp only
  refine wpAny_bind ?_
  show wpAny _ _ (forIn its _ _) _ _ s
  rw [← Array.forIn_toList]
  refine wpAny_forIn_list _ (fun rest r s' => r.1 = none ∧ s' = s ∧ ∀ v ∈ rest, ∃ x t, v = Value.str x t) _ ?_ ?_ _ _ ⟨rfl, rfl, txt_items hi⟩
  · intro v rest r s' hh
    obtain ⟨hr, es, al⟩ := hh
    subst es
    obtain ⟨x, t, ev⟩ := al v List.mem_cons_self
    subst ev
    rw [str_noClass]
    refine wpAny_bind (wpAny_pure ?_)
    simp only [Bool.false_eq_true, if_false]
    exact wpAny_pure ⟨rfl, rfl, fun u hu => al u (List.mem_cons_of_mem _ hu)⟩
  · intro r s' hh
    obtain ⟨r1, r2⟩ := r
    obtain ⟨hr, es, _⟩ := hh
    subst es
    simp only at hr
    subst hr
    exact wpAny_pure h

theorem byVal {k : List Str} {b : Addr} {Q : Bool → Shared → Prop} (hk : Tx P w s.heap k b) (h : ∀ c, Q c s) :
    wpAny (model P w) A (hashByValue 8 (.ref b)) Q E s := by
  have hT := hk.typeIs
  obtain ⟨o, its, n, ho, _, hd, hi⟩ := hk
  unfold hashByValue
  refine wpAny_bind (wpAny_specialOf hT F.slot_tuple_hash.lookup ?_)
  show wpAny _ _ (seqItems? (.ref b) >>= _) _ _ s
  refine wpAny_bind (wpAny_seqItems ho hd ?_)
  refine wpAny_bind ?_
  show wpAny _ _ (forIn its _ _) _ _ s
  rw [← Array.forIn_toList]
  have hall := txt_items hi
  refine wpAny_forIn_list _ (fun rest r s' => r.1 = none ∧ s' = s ∧ ∀ v ∈ rest, ∃ x t, v = Value.str x t) _ ?_ ?_ _ _ ⟨rfl, rfl, hall⟩
  · intro v rest r s' hh
    obtain ⟨hr, es, al⟩ := hh
    subst es
    obtain ⟨x, t, ev⟩ := al v List.mem_cons_self
    subst ev
    rw [str_byVal]
    refine wpAny_bind (wpAny_pure ?_)
    simp only [Bool.not_false, if_true]
    exact wpAny_pure (wpAny_pure (h _))
  · intro r s' hh
    obtain ⟨r1, r2⟩ := r
    obtain ⟨hr, es, _⟩ := hh
    subst es
    simp only at hr
    subst hr
    exact wpAny_pure (h _)

/-- a search among tuples of texts shows nothing -/
theorem unseen {k : List Str} {b : Addr} {Q : Bool → Shared → Prop} (hk : Tx P w s.heap k b) {ys : List Value}
    (hy : ∀ y ∈ ys, ∃ k' c, y = Value.ref c ∧ Tx P w s.heap k' c) (h : Q false s) : wpAny (model P w) A (searchCouldBeSeen (.ref b) ys) Q E s := by
  unfold searchCouldBeSeen
  refine wpAny_bind ?_
  refine wpAny_forIn_list _ (fun rest r s' => r.1 = none ∧ s' = s ∧ ∀ y ∈ rest, ∃ k' c, y = Value.ref c ∧ Tx P w s.heap k' c) _ ?_ ?_ _ _ ⟨rfl, rfl, hy⟩
  · intro v rest r s' hh
    obtain ⟨hr, es, al⟩ := hh
    subst es
    obtain ⟨k', c, ev, hc⟩ := al v List.mem_cons_self
    subst ev
    have al' := fun u hu => al u (List.mem_cons_of_mem (Value.ref c) hu)
    dsimp only
    by_cases hv : (b == c || (carriedByValue (.ref b) && carriedByValue (.ref c))) = true
    · rw [if_pos hv]
      exact wpAny_pure ⟨rfl, rfl, al'⟩
    · rw [if_neg hv]
      refine wpAny_bind (wpAny_eqIsQuiet_tuple hk ?_)
      simp only [Bool.not_true, Bool.false_eq_true, if_false]
      refine wpAny_bind (wpAny_eqIsQuiet_tuple hc ?_)
      simp only [Bool.not_true, Bool.false_eq_true, if_false]
      refine wpAny_bind (noClass hk ?_)
      simp only [Bool.false_eq_true, if_false]
      refine wpAny_bind (noClass hc ?_)
      simp only [Bool.false_eq_true, if_false]
      exact wpAny_pure ⟨rfl, rfl, al'⟩
  · intro r s' hh
    obtain ⟨r1, r2⟩ := r
    obtain ⟨hr, es, _⟩ := hh
    subst es
    simp only at hr
    subst hr
    exact wpAny_pure h
end
end
end OwS
namespace OwS
open PySem PySem.Spec PyProof.Rows L2

/-- the c-th place that a search for the hash h looks at -/
abbrev stp (m : Nat) (h : Int) (c : Nat) : SetTable.Probe := nth m (runAt m (SetTable.bits h % (m + 1)) (SetTable.bits h)) c

theorem stp_j (m : Nat) (h : Int) (c : Nat) : (stp m h c).j = way m h c := rfl
theorem stp_add (m : Nat) (h : Int) (c q : Nat) : nth m (stp m h c) q = stp m h (c + q) := (nth_add m c _ q).symm
theorem nth_dummy (m : Nat) : ∀ (c : Nat) (p : SetTable.Probe), p.dummy = none → (nth m p c).dummy = none
  | 0, _, h => h
  | c + 1, p, h => by
    refine nth_dummy m c (adv m p) ?_
    unfold adv
    split <;> exact h

section
variable {P : Program} {w : World}

def rowsT (P : Program) (w : World) (L : List (Value × List Str)) : List (Int × Value) := L.map fun p => (hx P w p.2, p.1)
def hashesT (P : Program) (w : World) (L : List (Value × List Str)) : List Int := L.map fun p => hx P w p.2

/-- the set at S holds the tuples L -/
structure TupSet (P : Program) (w : World) (S : Addr) (h : Heap) (L : List (Value × List Str)) (es : Array (Int × Value)) (ep : Nat) (t : SetTable) : Prop where
  ob : ∃ o, h.get? S = some o ∧ o.ExactSet ∧ o.data = .set es ep t
  rows : es.toList = rowsT P w L
  tab : TabOk t (hashesT P w L)
  nd : (L.map (·.2)).Nodup
  tup : ∀ p ∈ L, ∃ b, p.1 = .ref b ∧ Tx P w h p.2 b
  led : w.params.followText "set-order" = true ∨ t.led = true
  room : L.length * 5 < t.mask * 3
  few : L.length < 64

section
variable {A : Around} {E : Value → Shared → Prop} {s : Shared} {S : Addr} {L : List (Value × List Str)} {es : Array (Int × Value)} {ep : Nat} {t : SetTable}

theorem rows_len (h : es.toList = rowsT P w L) : es.size = L.length := by
  have q := congrArg List.length h
  unfold rowsT at q
  simpa using q
theorem rows_at (h : es.toList = rowsT P w L) {i : Nat} {p : Value × List Str} (hp : L[i]? = some p) : es[i]? = some (hx P w p.2, p.1) := by
  rw [← Array.getElem?_toList, h]
  unfold rowsT
  rw [List.getElem?_map, hp]
  rfl
theorem tab_len (T : TabOk t (hashesT P w L)) : t.place.size = L.length := by
  have q := T.sz
  unfold hashesT at q
  simpa using q
theorem fits_of (T : TabOk t (hashesT P w L)) (hr : es.toList = rowsT P w L) (hm : L.length ≤ t.mask) : t.fits es.size = true := by
  have a := tab_len T
  have b := rows_len hr
  unfold SetTable.fits SetTable.fill
  rw [T.dm, Bool.and_eq_true, beq_iff_eq, decide_eq_true_eq]
  show t.place.size = es.size ∧ t.place.size + 0 ≤ t.mask
  omega
theorem TupSet.fits (R : TupSet P w S s.heap L es ep t) : t.fits es.size = true := by
  have := R.room
  exact fits_of R.tab R.rows (by omega)

/-- the search, from the c-th place on; K is the first empty place -/
theorem search_go (R : TupSet P w S s.heap L es ep t) {x : Addr} {k : List Str} (ht : Tx P w s.heap k x) (hu : A.units < cLine) {K : Nat}
    (hKf : K < 10 * SetTable.turns t.mask) (hK : way t.mask (hx P w k) K ∉ t.place.toList) (hKb : ∀ c, c < K → way t.mask (hx P w k) c ∈ t.place.toList)
    {Q : SetFound → Shared → Prop} (yes : k ∈ L.map (·.2) → Q (.there none) s) (no : k ∉ L.map (·.2) → Q (.free (way t.mask (hx P w k) K) false) s) :
    ∀ (f c : Nat) (st : Option SetTable.Probe), st.getD (t.probeStart (hx P w k)) = stp t.mask (hx P w k) c → c ≤ K → K - c < f →
      (∀ (i : Nat) p, L[i]? = some p → p.2 = k → ∃ d, c ≤ d ∧ d < K ∧ t.place.toList[i]? = some (way t.mask (hx P w k) d)) →
      wpAny (model P w) A (setSearchFrom S (.ref x) (hx P w k) true f st) Q E s := by
  obtain ⟨o, ho, hex, hd⟩ := R.ob
  have hashAt : ∀ (i : Nat) p, L[i]? = some p → (es[i]?.map (·.1)).getD 0 = hx P w p.2 := by
    intro i p hp
    rw [rows_at R.rows hp]
    rfl
  intro f
  induction f with
  | zero => intro c st _ _ hf _; exact absurd hf (Nat.not_lt_zero _)
  | succ f ih =>
    intro c st hst hc hf hre
    rw [setSearchFrom_succ]
    refine wpAny_bind (wpAny_setState_of ho hd R.fits ?_)
    dsimp only
    have ngw : ¬ t.gaveWay = true := by
      unfold SetTable.gaveWay
      rw [mask_odd R.tab.mok]
      decide
    rw [if_neg ngw]
    have ej : ∀ q, (nth t.mask (stp t.mask (hx P w k) c) q).j = way t.mask (hx P w k) (c + q) := fun q => congrArg SetTable.Probe.j (stp_add _ _ c q)
    have spec := go_spec t R.tab.ris R.tab.dm (fun i => (es[i]?.map (·.1)).getD 0) (hx P w k) (10 * SetTable.turns t.mask) (K - c) (stp t.mask (hx P w k) c) (nth_dummy _ c _ rfl) (by omega)
      (fun q hq => by rw [ej]; exact hKb (c + q) (by omega)) (by rw [ej, show c + (K - c) = K by omega]; exact hK)
    rcases spec with ⟨q, i, hq, hi, hh, hno, hpr⟩ | ⟨hno, hpr⟩
    · have pr : t.probe (fun i => (es[i]?.map (·.1)).getD 0) (hx P w k) (st.getD (t.probeStart (hx P w k))) =
          some (.candidate (way t.mask (hx P w k) (c + q)) i (stp t.mask (hx P w k) (c + (q + 1)))) := by
        rw [hst, ← ej, ← stp_add]
        exact hpr
      rw [pr]
      dsimp only
      rw [ej] at hi
      have hil : i < L.length := by
        have h1 : i < t.place.toList.length := (List.getElem?_eq_some_iff.mp hi).1
        have h2 := tab_len R.tab
        rw [Array.length_toList] at h1
        omega
      have hp : L[i]? = some L[i] := List.getElem?_eq_getElem hil
      generalize L[i] = p at hp
      have hmem : p ∈ L := List.mem_of_getElem? hp
      obtain ⟨b, eb, tb⟩ := R.tup p hmem
      have hrow := rows_at R.rows hp
      rw [eb] at hrow
      have rest : wpAny (model P w) A (searchRest S (.ref x) (hx P w k) true f es t (way t.mask (hx P w k) (c + q)) i (stp t.mask (hx P w k) (c + (q + 1)))) Q E s := by
        unfold searchRest
        rw [hrow]
        dsimp only
        refine wpAny_bind (wpAny_holding (wpAny_eqBool_tuple hu tb ht ?_))
        refine wpAny_bind (wpAny_setState_of ho hd R.fits ?_)
        dsimp only
        by_cases hkk : p.2 = k
        · rw [if_pos (by simp [hkk])]
          exact wpAny_pure (yes (List.mem_map.mpr ⟨p, hmem, hkk⟩))
        · rw [if_neg (by simp [hkk])]
          rw [sameMem]
          dsimp only
          have hsl : t.slot (way t.mask (hx P w k) (c + q)) = .live i := slot_live R.tab.ris hi
          simp only [if_true, hsl, hrow]
          refine wpAny_bind (wpAny_isSame_ref_self (wpAny_bind (wpAny_pure ?_)))
          simp only [if_true]
          rw [if_neg (by simp [hkk])]
          refine ih (c + (q + 1)) _ rfl (by omega) (by omega) fun i0 p0 h0 hk0 => ?_
          obtain ⟨d, a1, a2, a3⟩ := hre i0 p0 h0 hk0
          refine ⟨d, ?_, a2, a3⟩
          rcases Nat.lt_trichotomy d (c + q) with z | z | z
          · exfalso
            refine hno (d - c) i0 (by omega) (by rw [ej, show c + (d - c) = d by omega]; exact a3) ?_
            exact (hashAt i0 p0 h0).trans (congrArg (hx P w) hk0)
          · exfalso
            rw [z] at a3
            have s0 := slot_live R.tab.ris a3
            rw [hsl] at s0
            injection s0 with s0
            rw [← s0, hp] at h0
            exact hkk ((congrArg Prod.snd (Option.some.inj h0)).trans hk0)
          · omega
      by_cases hl : t.led = true
      · rw [if_neg (by simp [hl])]
        exact rest
      · rw [if_pos (by simp [hl])]
        refine wpAny_bind (unseen ht (fun y hy => ?_) ?_)
        · obtain ⟨e, he, ee⟩ := List.mem_map.mp hy
          have he1 : e ∈ es ∧ e.1 = hx P w k := by simpa using he
          have he2 : e ∈ es.toList := by simpa using he1.1
          rw [R.rows] at he2
          obtain ⟨p2, hp2, e2⟩ := List.mem_map.mp he2
          obtain ⟨b2, eb2, tb2⟩ := R.tup p2 hp2
          exact ⟨p2.2, b2, by rw [← ee, ← e2]; exact eb2, tb2⟩
        · rw [if_neg (by decide)]
          exact rest
    · have pr : t.probe (fun i => (es[i]?.map (·.1)).getD 0) (hx P w k) (st.getD (t.probeStart (hx P w k))) = some (.empty (way t.mask (hx P w k) K) none) := by
        have e2 := ej (K - c)
        rw [show c + (K - c) = K by omega] at e2
        rw [hst, ← e2]
        exact hpr
      rw [pr]
      dsimp only
      refine wpAny_pure (no fun hm => ?_)
      obtain ⟨p0, h0, hk0⟩ := List.mem_map.mp hm
      obtain ⟨i0, hi0, e0⟩ := List.getElem_of_mem h0
      have h00 : L[i0]? = some p0 := by rw [List.getElem?_eq_getElem hi0, e0]
      obtain ⟨d, a1, a2, a3⟩ := hre i0 p0 h00 hk0
      refine hno (d - c) i0 (by omega) (by rw [ej, show c + (d - c) = d by omega]; exact a3) ?_
      exact (hashAt i0 p0 h00).trans (congrArg (hx P w) hk0)

theorem search_tup (R : TupSet P w S s.heap L es ep t) {x : Addr} {k : List Str} (ht : Tx P w s.heap k x) (hu : A.units < cLine) {Q : SetFound → Shared → Prop}
    (yes : k ∈ L.map (·.2) → Q (.there none) s)
    (no : ∀ K, k ∉ L.map (·.2) → way t.mask (hx P w k) K ∉ t.place.toList → (∀ c, c < K → way t.mask (hx P w k) c ∈ t.place.toList) → Q (.free (way t.mask (hx P w k) K) false) s) :
    wpAny (model P w) A (setSearch S (.ref x) (hx P w k) true) Q E s := by
  have hroom := R.room
  obtain ⟨K, hKf, hK, hKb⟩ := R.tab.first (by unfold hashesT; rw [List.length_map]; omega) (hx P w k)
  have hbig : K < 100000 := by
    have : 10 * SetTable.turns t.mask ≤ 1420 := by
      unfold SetTable.turns
      rcases R.tab.mok with e | e | e <;> omega
    omega
  unfold setSearch
  refine search_go R ht hu hKf hK hKb yes (fun hn => no K hn hK hKb) 100000 0 none rfl (Nat.zero_le _) (by omega) fun i p hp hk => ?_
  have hi : (hashesT P w L)[i]? = some (hx P w k) := by
    unfold hashesT
    rw [List.getElem?_map, hp, ← hk]
    rfl
  have hil : i < t.place.toList.length := by
    have h1 : i < L.length := (List.getElem?_eq_some_iff.mp hp).1
    have h2 := tab_len R.tab
    rw [Array.length_toList]
    omega
  have hj := List.getElem?_eq_getElem hil
  obtain ⟨c, hc, e⟩ := R.tab.before hK hi hj
  exact ⟨c, Nat.zero_le _, hc, by rw [hj, e]⟩
end
end
end OwS
namespace OwS
open PySem PySem.Spec PyProof.Rows L2
section
variable {P : Program} {w : World}

theorem range_filterMap {α : Type} (L : List α) : ∀ n, n ≤ L.length → (List.range n).filterMap (fun i => L[i]?) = L.take n
  | 0, _ => rfl
  | n + 1, hn => by
    have lt : n < L.length := hn
    rw [List.range_succ, List.filterMap_append, range_filterMap L n (Nat.le_of_lt lt), List.take_succ, List.getElem?_eq_getElem lt,
      List.filterMap_cons_some (List.getElem?_eq_getElem lt)]
    rfl

/-- the rows in another order -/
theorem rows_order (L : List (Value × List Str)) (es : Array (Int × Value)) (order : Array Nat) (hr : es.toList = rowsT P w L) (hp : order.toList.Perm (List.range L.length)) :
    ∃ L2, (order.filterMap (es[·]?)).toList = rowsT P w L2 ∧ L2.Perm L ∧ hashesT P w L2 = order.toList.map fun i => (es.map (·.1)).getD i 0 := by
  have hsz := rows_len hr
  have key : ∀ l : List Nat, (∀ i ∈ l, i < L.length) → ∃ L2 : List (Value × List Str), l.filterMap (fun i => es[i]?) = rowsT P w L2 ∧ L2 = l.filterMap (fun i => L[i]?) ∧
      hashesT P w L2 = l.map fun i => (es.map (·.1)).getD i 0 := by
    intro l
    induction l with
    | nil => intro _; exact ⟨[], rfl, rfl, rfl⟩
    | cons i l ih =>
      intro hl
      have hi := hl i List.mem_cons_self
      obtain ⟨L2, e1, e2, e3⟩ := ih fun j hj => hl j (List.mem_cons_of_mem _ hj)
      have ei : es[i]? = some (hx P w L[i].2, L[i].1) := rows_at hr (List.getElem?_eq_getElem hi)
      refine ⟨L[i] :: L2, ?_, ?_, ?_⟩
      · rw [List.filterMap_cons_some ei, e1]; rfl
      · rw [List.filterMap_cons_some (List.getElem?_eq_getElem hi), e2]
      · have e5 : (es.map (·.1))[i]? = some (hx P w (L[i]).2) := by rw [Array.getElem?_map, ei]; rfl
        have e4 : (es.map (·.1)).getD i 0 = hx P w (L[i]).2 := by simp [Array.getD_eq_getD_getElem?, e5]
        show hx P w L[i].2 :: hashesT P w L2 = (es.map (·.1)).getD i 0 :: l.map _
        rw [e3, e4]
  obtain ⟨L2, e1, e2, e3⟩ := key order.toList fun i hi => List.mem_range.mp (hp.mem_iff.mp hi)
  refine ⟨L2, by simpa using e1, ?_, e3⟩
  have h1 := hp.filterMap (fun i => L[i]?)
  rw [range_filterMap L _ (Nat.le_refl _), List.take_length, ← e2] at h1
  exact h1

section
variable {A : Around} {E : Value → Shared → Prop} {s : Shared} {S : Addr} {L : List (Value × List Str)} {es : Array (Int × Value)} {ep : Nat} {t : SetTable}

/-- a larger table -/
theorem relay_tup {o : Obj} (ho : s.heap.get? S = some o) (hex : o.ExactSet) (hd : o.data = .set es ep t) (hr : es.toList = rowsT P w L) (T : t.place.size = es.size) (hdm : t.dummies = #[])
    (hfl : es.size ≤ t.mask) (nd : (L.map (·.2)).Nodup) (tup : ∀ p ∈ L, ∃ b, p.1 = .ref b ∧ Tx P w s.heap p.2 b) (ld : w.params.followText "set-order" = true ∨ t.led = true)
    (few : L.length < 64) {wanted M : Nat} (hw : SetTable.sizeAbove wanted - 1 = M) (hM : MaskOk M) (hw2 : SetTable.sizeAbove wanted ≤ 128) (hn : L.length * 5 < M * 3) {Q : Unit → Shared → Prop}
    (hQ : ∀ h' L' es' ep' t', Heap.SameBut S s.heap h' → TupSet P w S h' L' es' ep' t' → L'.Perm L → Q () { s with heap := h' }) :
    wpAny (model P w) A (setRelay S wanted) Q E s := by
  have hsl := rows_len hr
  have hfits : t.fits es.size = true := by
    unfold SetTable.fits SetTable.fill
    rw [hdm, Bool.and_eq_true, beq_iff_eq, decide_eq_true_eq]
    show t.place.size = es.size ∧ t.place.size + 0 ≤ t.mask
    omega
  obtain ⟨t', order, e, hp, T', em, el, ep', ed⟩ := relaid_ok t (hs := es.map (·.1)) (wanted := wanted) hw hM (by rw [Array.size_map, hsl]; omega)
  rw [Array.size_map, hsl] at hp
  obtain ⟨L2, r1, r2, r3⟩ := rows_order L es order hr hp
  rw [← r3] at T'
  have hs2 : (order.filterMap (es[·]?)).size = es.size := by rw [rows_len r1, r2.length_eq, hsl]
  rw [setRelay_eq]
  refine wpAny_bind (wpAny_setState_of ho hd hfits ?_)
  dsimp only
  rw [if_neg (by rw [sizeLine_eq]; omega)]
  rw [e]
  dsimp only
  refine wpAny_bind ?_
  rw [if_neg (by rw [hs2]; simp)]
  refine wpAny_pure ?_
  dsimp only
  refine wpAny_storeSet_of ho hd ?_ (by rw [hs2, hsl, sizeLine_eq]; omega)
  have sb : Heap.SameBut S s.heap (s.heap.update S (Obj.putSet (order.filterMap (es[·]?)) t')) := Heap.SameBut.update ..
  refine hQ _ L2 (order.filterMap (es[·]?)) (ep + 1) t' sb ⟨⟨_, store_at ho hd, ⟨hex.1, hex.2.1, hex.2.2⟩, rfl⟩, r1, T', ?_, ?_, ?_, ?_, ?_⟩ r2
  · exact (r2.map (·.2)).nodup_iff.mpr nd
  · intro p hpm
    obtain ⟨b, eb, tb⟩ := tup p (r2.mem_iff.mp hpm)
    exact ⟨b, eb, tb.apart ho hd sb⟩
  · rw [el]; exact ld
  · rw [r2.length_eq, em]; exact hn
  · rw [r2.length_eq]; exact few

theorem ins_perm {α : Type} (L : List α) (p : Nat) (x : α) : (L.take p ++ x :: L.drop p).Perm (x :: L) := by
  have h : (L.take p ++ x :: L.drop p).Perm (x :: (L.take p ++ L.drop p)) := List.perm_middle
  rwa [List.take_append_drop] at h

/-- a tuple is added -/
theorem add_tup (R : TupSet P w S s.heap L es ep t) {x : Addr} {k : List Str} (ht : Tx P w s.heap k x) (hu : A.units < cLine) (hfew : L.length + 1 < 64) {Q : Bool → Shared → Prop}
    (hQ : ∀ b h' L' es' ep' t', Heap.SameBut S s.heap h' → TupSet P w S h' L' es' ep' t' → (k ∈ L.map (·.2) → L' = L) → (k ∉ L.map (·.2) → L'.Perm ((.ref x, k) :: L)) → Q b { s with heap := h' }) :
    wpAny (model P w) A (setAddHashed S (.ref x) (hx P w k)) Q E s := by
  obtain ⟨o, ho, hex, hd⟩ := R.ob
  have hsl := rows_len R.rows
  have hroom := R.room
  unfold setAddHashed
  refine wpAny_holding ?_
  rw [show (100000 : Nat) = 99999 + 1 from rfl, setAddHashedIn_succ]
  refine wpAny_bind (wpAny_setState_of ho hd R.fits ?_)
  dsimp only
  rw [if_neg (by simp [byScan, Value.scannable])]
  refine wpAny_bind (search_tup R ht hu (fun hm => ?_) fun K hm hK hb => ?_)
  · dsimp only
    exact wpAny_pure (hQ false s.heap L es ep t (Heap.SameBut.refl S s.heap) R (fun _ => rfl) fun z => absurd hm z)
  · dsimp only
    refine wpAny_bind (wpAny_setState_of ho hd R.fits ?_)
    dsimp only
    obtain ⟨q1, q2, q3, q4, q5, q6, q7, q8, q9⟩ := R.tab.put hK hb
    generalize hpt : t.put (way t.mask (hx P w k) K) = pt at q1 q3 q4 q5 q6 q7 q8 q9 ⊢
    obtain ⟨t1, p⟩ := pt
    dsimp only at q1 q3 q4 q5 q6 q7 q8 q9 ⊢
    subst q1
    have hin : (SetTable.insertAt es (SetTable.below t.place (way t.mask (hx P w k) K)) (hx P w k, Value.ref x)).toList =
        rowsT P w (L.take (SetTable.below t.place (way t.mask (hx P w k) K)) ++ (.ref x, k) :: L.drop (SetTable.below t.place (way t.mask (hx P w k) K))) := by
      rw [SetTable.toList_insertAt, R.rows]
      unfold rowsT
      rw [List.map_append, List.map_cons, List.map_take, List.map_drop]
    generalize SetTable.below t.place (way t.mask (hx P w k) K) = p at q2 q3 hin ⊢
    have pm := ins_perm L p (Value.ref x, k)
    have hlen : (L.take p ++ (Value.ref x, k) :: L.drop p).length = L.length + 1 := pm.length_eq
    have hhs : hashesT P w (L.take p ++ (Value.ref x, k) :: L.drop p) = (hashesT P w L).take p ++ hx P w k :: (hashesT P w L).drop p := by
      unfold hashesT
      rw [List.map_append, List.map_cons, List.map_take, List.map_drop]
    rw [← hhs] at q3
    have nd1 : ((L.take p ++ (Value.ref x, k) :: L.drop p).map (·.2)).Nodup := by
      refine (pm.map (·.2)).nodup_iff.mpr ?_
      exact List.nodup_cons.mpr ⟨hm, R.nd⟩
    have hes : (SetTable.insertAt es p (hx P w k, Value.ref x)).size = L.length + 1 := by rw [rows_len hin, hlen]
    generalize SetTable.insertAt es p (hx P w k, Value.ref x) = es1 at hin hes ⊢
    generalize L.take p ++ (Value.ref x, k) :: L.drop p = L1 at pm hlen q3 nd1 hin
    -- whether the table is still plain
    have goOn : ∀ t2 : SetTable, TabOk t2 (hashesT P w L1) → t2.mask = t1.mask → t2.led = t1.led → t2.tooFull = t1.tooFull → wpAny (model P w) A (do
        storeSet S es1 t2
        if (!false && t2.tooFull) = true then setRelay S (SetTable.grown (es.size + 1))
        return true) Q E s := by
      intro t2 T2 em el ef
      refine wpAny_bind (wpAny_storeSet_of ho hd ?_ (by rw [hes, sizeLine_eq]; omega))
      have sb : Heap.SameBut S s.heap (s.heap.update S (Obj.putSet es1 t2)) := Heap.SameBut.update ..
      have ho1 := store_at (es' := es1) (t' := t2) ho hd
      generalize s.heap.update S (Obj.putSet es1 t2) = h1 at sb ho1 ⊢
      have tup1 : ∀ p ∈ L1, ∃ b, p.1 = .ref b ∧ Tx P w h1 p.2 b := by
        intro p hp
        rcases List.mem_cons.mp (pm.mem_iff.mp hp) with e | hp
        · rw [e]; exact ⟨x, rfl, ht.apart ho hd sb⟩
        · obtain ⟨b, eb, tb⟩ := R.tup p hp
          exact ⟨b, eb, tb.apart ho hd sb⟩
      have ld1 : w.params.followText "set-order" = true ∨ t2.led = true := by rw [el, q5]; exact R.led
      have fullness : t2.tooFull = true ↔ (L.length + 1) * 5 ≥ t1.mask * 3 := by
        rw [ef]
        unfold SetTable.tooFull
        rw [decide_eq_true_eq, q9]
        unfold hashesT
        rw [List.length_map]
      by_cases hf : t2.tooFull = true
      · have hfull := fullness.mp hf
        rw [if_pos (by simp [hf])]
        rw [hsl]
        have hsz1 : t2.place.size = es1.size := by rw [tab_len T2, hes, hlen]
        have cases2 : (t.mask = 7 ∧ L.length = 4) ∨ (t.mask = 31 ∧ L.length = 18) := by
          rcases R.tab.mok with e | e | e
          · left; rw [q4, e] at hfull; rw [e] at hroom; exact ⟨e, by omega⟩
          · right; rw [q4, e] at hfull; rw [e] at hroom; exact ⟨e, by omega⟩
          · exfalso; rw [q4, e] at hfull; omega
        have go : ∀ M, SetTable.sizeAbove (SetTable.grown (L.length + 1)) - 1 = M → MaskOk M → SetTable.sizeAbove (SetTable.grown (L.length + 1)) ≤ 128 → (L.length + 1) * 5 < M * 3 →
            wpAny (model P w) A (setRelay S (SetTable.grown (L.length + 1))) (fun _ s' => wpAny (model P w) A (pure true) Q E s') E { s with heap := h1 } := by
          intro M a1 a2 a3 a4
          refine relay_tup (s := { s with heap := h1 }) ho1 ⟨hex.1, hex.2.1, hex.2.2⟩ rfl hin hsz1 T2.dm ?_ nd1 tup1 ld1 (by rw [hlen]; exact hfew) a1 a2 a3 (by rw [hlen]; exact a4) ?_
          · rw [hes, em, q4]
            rcases cases2 with ⟨e, e2⟩ | ⟨e, e2⟩ <;> omega
          · intro h2 L2 es2 ep2 t2 sb2 R2 pm2
            exact wpAny_pure (hQ true h2 L2 es2 ep2 t2 (sb.trans sb2) R2 (fun z => absurd z hm) fun _ => pm2.trans pm)
        refine wpAny_bind ?_
        rcases cases2 with ⟨_, e2⟩ | ⟨_, e2⟩
        · exact go 31 (by rw [e2, size_20]) (.inr (.inl rfl)) (by rw [e2, size_20]; decide) (by omega)
        · exact go 127 (by rw [e2, size_76]) (.inr (.inr rfl)) (by rw [e2, size_76]; decide) (by omega)
      · rw [if_neg (by simp [hf])]
        have nfull : ¬ (L.length + 1) * 5 ≥ t1.mask * 3 := fun z => hf (fullness.mpr z)
        refine wpAny_pure (hQ true h1 L1 es1 (ep + 1) t2 sb ⟨⟨_, ho1, ⟨hex.1, hex.2.1, hex.2.2⟩, rfl⟩, hin, T2, nd1, tup1, ld1, ?_, by rw [hlen]; exact hfew⟩ (fun z => absurd z hm) fun _ => pm)
        rw [hlen, em]
        omega
    by_cases hpl : t1.plain = true
    · rw [if_pos hpl]
      refine wpAny_bind (byVal ht fun c => ?_)
      cases c with
      | true =>
        simp only [if_true]
        exact goOn t1 q3 rfl rfl rfl
      | false =>
        simp only [Bool.false_eq_true, if_false]
        exact goOn { t1 with plain := false } ⟨q3.ris, q3.dm, q3.sz, q3.mok, q3.bd, q3.reach⟩ rfl rfl rfl
    · rw [if_neg hpl]
      refine wpAny_bind (wpAny_pure ?_)
      simp only [if_true]
      exact goOn t1 q3 rfl rfl rfl
end
end
end OwS
namespace OwS
open PySem PySem.Spec PyProof.Rows L2
section
variable {P : Program} {w : World}

/-- tuples of texts as members -/
def tupK (P : Program) (w : World) (ks : List (Value × List Str)) (h0 : Heap) (S : Addr) (hk : ∀ p ∈ ks, ∃ b, p.1 = .ref b ∧ Tx P w h0 p.2 b) (hl : ks.length < 64) : Kind P w (List Str) ks h0 S 0 where
  Hld h L := ∃ es ep t, TupSet P w S h L es ep t ∧ ∀ p ∈ L, p ∈ ks
  stay := fun h h' L hL k kp _ => by
    obtain ⟨es, ep, t, R, sub⟩ := hL
    obtain ⟨o, ho, r⟩ := R.ob
    refine ⟨es, ep, t, ⟨⟨o, k o ho, r⟩, R.rows, R.tab, R.nd, fun p hp => ?_, R.led, R.room, R.few⟩, sub⟩
    obtain ⟨b, eb, tb⟩ := hk p (sub p hp)
    exact ⟨b, eb, tb.kept kp⟩
  fresh := fun h e => by
    refine ⟨#[], 0, _, ⟨⟨_, e, ⟨rfl, rfl, rfl⟩, rfl⟩, rfl, ⟨List.Pairwise.nil, rfl, rfl, .inl rfl, fun x hx => (by cases hx), fun i h j hi => (by simp [hashesT] at hi)⟩, List.nodup_nil,
      fun p hp => (by cases hp), ?_, ?_, ?_⟩, fun p hp => (by cases hp)⟩
    · show _ ∨ (!w.params.followText "set-order") = true
      cases w.params.followText "set-order"
      · exact .inr rfl
      · exact .inl rfl
    · show 0 * 5 < 7 * 3
      decide
    · show 0 < 64
      decide
  add := fun A E s i p L Q hp hL g kp hu hQ => by
    obtain ⟨es, ep, t, R, sub⟩ := hL
    obtain ⟨v, k⟩ := p
    have hm : (v, k) ∈ ks := List.mem_of_getElem? hp
    obtain ⟨b, eb, tb⟩ := hk _ hm
    dsimp only at eb tb
    subst eb
    have tb' : Tx P w s.heap k b := tb.kept kp
    have hi : i < ks.length := (List.getElem?_eq_some_iff.mp hp).1
    have hlen := g.len
    unfold setAdd
    refine wpAny_holding (wpAny_bind (wpAny_pyHash_tuple (by omega) tb' ?_))
    refine add_tup (s := { s with toks := s.toks + (k.length + 1) }) R tb' (by omega) (by omega) fun c h' L' es' ep' t' sb R' c1 c2 => ?_
    refine hQ c h' (s.toks + (k.length + 1)) L' sb (Nat.le_add_right _ _) ⟨es', ep', t', R', fun p hp' => ?_⟩ c1 c2
    by_cases hin : k ∈ L.map (·.2)
    · rw [c1 hin] at hp'; exact sub p hp'
    · rcases List.mem_cons.mp ((c2 hin).mem_iff.mp hp') with e | hp'
      · rw [e]; exact hm
      · exact sub p hp'

/-! ### sorted of a set -/
/-- the values of a set, whatever they are -/
def SetVals (w : World) (h : Heap) (a : Addr) (vs : List Value) : Prop :=
  ∃ es ep t, SetAt h a es ep t ∧ t.fits es.size = true ∧ es.size < scanBound ∧ Ris t.place.toList ∧ (w.params.followText "set-order" = true ∨ t.led = true) ∧ (es.toList.map (·.2)).Perm vs

theorem StrSet.vals {S : Addr} {h : Heap} {L : List (Value × Str)} {es : Array (Int × Value)} {ep : Nat} {t : SetTable} (R : StrSet P w S h L es ep t) (hl : L.length < scanBound) : SetVals w h S (L.map (·.1)) := by
  refine ⟨es, ep, t, ⟨_, R.ob, rfl, rfl⟩, R.tx.fit, ?_, R.ris, R.led, ?_⟩
  · have := R.tx.sz
    simp at this
    omega
  · have q := R.rows.map (·.2)
    rw [List.map_map] at q
    exact q
theorem TupSet.vals {S : Addr} {s : Shared} {L : List (Value × List Str)} {es : Array (Int × Value)} {ep : Nat} {t : SetTable} (R : TupSet P w S s.heap L es ep t) : SetVals w s.heap S (L.map (·.1)) := by
  obtain ⟨o, ho, hex, hd⟩ := R.ob
  refine ⟨es, ep, t, ⟨o, ho, hex.1, hd⟩, R.fits, ?_, R.tab.ris, R.led, ?_⟩
  · have := rows_len R.rows
    have := R.few
    unfold scanBound
    omega
  · rw [R.rows]
    unfold rowsT
    rw [List.map_map]
    exact List.Perm.refl _

theorem perm_lift {α β : Type} (f : α → β) : ∀ {vs : List β} {bs : List α}, vs.Perm (bs.map f) → ∃ bs' : List α, bs'.Perm bs ∧ vs = bs'.map f := by
  intro vs bs h
  generalize e : bs.map f = us at h
  induction h generalizing bs with
  | nil =>
    cases bs with
    | nil => exact ⟨[], List.Perm.refl _, rfl⟩
    | cons _ _ => cases e
  | @cons x l1 l2 _ ih =>
    cases bs with
    | nil => cases e
    | cons b bs =>
      injection e with e1 e2
      obtain ⟨bs', p, q⟩ := ih e2
      exact ⟨b :: bs', p.cons b, by rw [List.map_cons, e1, q]⟩
  | swap x y l =>
    cases bs with
    | nil => cases e
    | cons b bs =>
      cases bs with
      | nil => simp at e
      | cons c bs =>
        simp only [List.map_cons, List.cons.injEq] at e
        obtain ⟨e1, e2, e3⟩ := e
        exact ⟨c :: b :: bs, List.Perm.swap _ _ _, by simp [e1, e2, e3]⟩
  | trans _ _ ih1 ih2 =>
    obtain ⟨bs2, p2, q2⟩ := ih2 e
    obtain ⟨bs1, p1, q1⟩ := ih1 q2.symm
    exact ⟨bs1, p1.trans p2, q1⟩

theorem each_map_val {β : Type} (val : β → Value) : ∀ bs : List β, PySem.W.EachIs (fun v b => v = val b) (bs.map val) bs
  | [] => .nil
  | b :: bs => .cons rfl (each_map_val val bs)
theorem each_out {β : Type} {val : β → Value} : ∀ {vs : List Value} {bs : List β}, PySem.W.EachIs (fun v b => v = val b) vs bs → vs = bs.map val
  | _, _, .nil => rfl
  | _, _, .cons e t => by rw [e, each_out t]; rfl

variable {A : Around} {E : Value → Shared → Prop} {s : Shared}

/-- sorted(set), the members read as data -/
theorem sorted_setv {β : Type} {a : Addr} {bs : List β} (val : β → Value) (enc : β → PyData) {Q : Value → Shared → Prop} (R : SetVals w s.heap a (bs.map val)) (hh : A.handled = none)
    (rd : ∀ b ∈ bs, Reads s.heap (val b) (enc b) []) (hal : PySem.W.AllAlike (bs.map enc)) (hk : PySem.W.Sortable (bs.map enc)) (hL : bs.length ≤ sizeLine)
    (hu : ∀ b ∈ bs, A.units + 2 + (enc b).depth < cLine)
    (hQ : ∀ s' p (out : Array Value) (c : Nat) (bs' : List β), Kept s.heap s'.heap → s'.gens = s.gens → s'.os = s.os → s.heap.objs.size ≤ p →
      s'.heap.get? p = some (seqObj "list" out c) → out.toList = bs'.map val → bs'.Perm bs → bs'.Pairwise (fun x y => PySem.W.dataLe false enc x y = true) → Q (.ref p) s') :
    wpAny (model P w) A (call (.builtin "sorted") [.ref a]) Q E s := by
  obtain ⟨es, ep, t, ha, hf, hsz, ris, led, pm0⟩ := R
  refine Calls.call_function_entry kind_sorted plain_sorted entry_sorted (args_sorted1 _) ?_
  unfold Builtin.«sorted»
  refine wpAny_bind (m := checkCount "sorted" 1 1 _) (wpAny_pure ?_)
  refine wpAny_bind (collect_set (A := A.in1) hh ha hf hsz ris led fun s1 vs k1 hz g1 o1 pm => ?_)
  obtain ⟨bs1, p1, ev⟩ := perm_lift val (pm.trans pm0)
  subst ev
  refine wpAny_bind (wpAny_newList ?_ (by rw [List.length_map, p1.length_eq]; exact hL))
  have hoL : (s1.heap.push (seqObj "list" (bs1.map val).toArray 0)).get? s1.heap.objs.size = some (seqObj "list" (bs1.map val).toArray 0) := Heap.get?_push_size _ rfl
  have sub : ∀ d, d ∈ bs1.map enc → d ∈ bs.map enc := fun d hd => (p1.map enc).mem_iff.mp hd
  have er : PySem.W.EachIs (fun v b => ∃ as, Reads (s1.heap.push (seqObj "list" (bs1.map val).toArray 0)) v (enc b) as ∧ s1.heap.objs.size ∉ as) (bs1.map val) bs1 := by
    have key : ∀ l : List β, (∀ b ∈ l, b ∈ bs) → PySem.W.EachIs (fun v b => ∃ as, Reads (s1.heap.push (seqObj "list" (bs1.map val).toArray 0)) v (enc b) as ∧ s1.heap.objs.size ∉ as) (l.map val) l := by
      intro l
      induction l with
      | nil => intro _; exact .nil
      | cons b l ih =>
        intro hl
        refine .cons ⟨[], ?_, by simp⟩ (ih fun c hc => hl c (List.mem_cons_of_mem _ hc))
        exact PyProof.Rows.Reads.keeps (fun c o e => Heap.get?_push_of_some _ (k1 c o e)) (rd b (hl b List.mem_cons_self))
    exact key bs1 fun b hb => p1.mem_iff.mp hb
  have hk1 : PySem.W.Sortable (bs1.map enc) := by
    rcases hk with hk | hk
    · exact .inl fun d hd => hk d (sub d hd)
    · exact .inr fun d hd => hk d (sub d hd)
  refine wpAny_bind (wpAny_holding (PySem.W.list_sort_data (prog := P) (w := w) (s := { s1 with heap := s1.heap.push (seqObj "list" (bs1.map val).toArray 0) }) (vs := bs1.map val) (bs := bs1) (enc := enc)
    (R := fun v b => v = val b) hoL (each_map_val val bs1) er (fun d hd d' hd' => hal d (sub d hd) d' (sub d' hd')) hk1 (by rw [p1.length_eq]; exact hL)
    (fun b hb => by have := hu b (p1.mem_iff.mp hb); show A.units + 1 + 1 + _ < cLine; omega) fun out ho eo => ?_))
  have eo' := each_out eo
  obtain ⟨c, hc⟩ := sortedHeap_at (vs := bs1.map val) (out := out.toArray) hoL
  refine wpAny_pure ⟨_, rfl, hQ _ s1.heap.objs.size out.toArray c (bs1.mergeSort (PySem.W.dataLe false enc)) (fun b u e => ?_) g1 o1 hz hc ?_ ?_ ?_⟩
  · have q := k1 b u e
    have hlt := Heap.lt_size q
    show (sortedHeap (s1.heap.push (seqObj "list" (bs1.map val).toArray 0)) s1.heap.objs.size (bs1.map val) out.toArray).get? b = some u
    rw [sortedHeap_old (Nat.ne_of_lt hlt) (by rw [size_push']; exact Nat.lt_succ_of_lt hlt)]
    exact Heap.get?_push_of_some _ q
  · simpa using eo'
  · exact (List.mergeSort_perm _ _).trans p1
  · exact PySem.W.sort_pairwise (PySem.W.sortLe_total _ _ _) _
end
end OwS
namespace OwS
open PySem PySem.Spec PyProof.Rows L2

/-! ### sorted(set(xs)) as one expression -/
def encS (x : Str) : PyData := .str x
def encT (k : List Str) : PyData := .tuple (k.map .str)
abbrev leS : Str → Str → Bool := PySem.W.dataLe false encS
abbrev leT : List Str → List Str → Bool := PySem.W.dataLe false encT

def tSortedSet (K : PySem.W.Frag) (ta : TE) : TE := fun σ H Q => ta σ H fun x H1 => ∃ l vs, x = .ref l ∧ SqL K H1 l vs ∧
  ((∃ xs : List Str, vs = xs.map V.str ∧ xs.length + 1 < scanBound ∧
      ∀ (ys : List Str) p, ys.Nodup → (∀ x, x ∈ ys ↔ x ∈ xs) → ys.Pairwise (fun x y => leS x y = true) → H1 p = none → Q (.ref p) (upd H1 p (.lst (ys.map V.str)))) ∨
   (∃ ks : List (Addr × List Str), vs = ks.map (fun q => V.ref q.1) ∧ (∀ q ∈ ks, SqT K H1 q.1 (q.2.map V.str) ∧ q.2 ≠ []) ∧ ks.length < 64 ∧
      ∀ (ys : List (Addr × List Str)) p, (ys.map (·.2)).Nodup → (∀ q ∈ ys, q ∈ ks) → (∀ q ∈ ks, q.2 ∈ ys.map (·.2)) → ys.Pairwise (fun x y => leT x.2 y.2 = true) → H1 p = none →
        Q (.ref p) (upd H1 p (.lst (ys.map fun q => V.ref q.1)))))

theorem alikeAll_strs : ∀ xs ys : List Str, PySem.W.alikeAll (xs.map .str) (ys.map .str) = true
  | [], _ => by simp [PySem.W.alikeAll]
  | _ :: _, [] => by simp [PySem.W.alikeAll]
  | x :: xs, y :: ys => by
    show (PySem.W.alike (.str x) (.str y) && PySem.W.alikeAll (xs.map .str) (ys.map .str)) = true
    rw [alikeAll_strs xs ys]
    rfl
theorem depth_strs : ∀ xs : List Str, PyData.depthAll (xs.map .str) = 0
  | [] => rfl
  | x :: xs => by
    show max (PyData.depth (.str x)) (PyData.depthAll (xs.map .str)) = 0
    rw [depth_strs xs]
    rfl
theorem reads_strs {h : Heap} : ∀ {xs : List Str} {us : List Value}, Vals (xs.map V.str) us → ReadsAll h us (xs.map .str) []
  | [], _, .nil => .nil
  | x :: xs, _, .cons r t => by
    obtain ⟨tk, rfl⟩ := r
    exact ReadsAll.cons (as := []) (bs := []) (.str x tk) (reads_strs t)
theorem tx_items {P : Program} {w : World} : ∀ {xs : List Str} {us : List Value}, Vals (xs.map V.str) us → ItemsAre (strKind P w) xs us
  | [], _, .nil => .nil
  | x :: xs, _, .cons r t => by
    obtain ⟨tk, rfl⟩ := r
    exact .cons (isStr_key x tk) (tx_items t)

section
variable {X : Cx}

theorem tup_tx {pins : List (Addr × Obj)} {σ : L2.St} {H : Hp} {s : Shared} {b : Addr} {k : List Str} (I : Inv X pins σ H s) (h : SqT X.K H b (k.map V.str)) : Tx X.prog X.w s.heap k b := by
  obtain ⟨its, r, ⟨o, ho, hc, n, hd⟩, _⟩ := I.tuple h
  exact ⟨o, its.toArray, n, ho, hc, hd, by simpa using tx_items r⟩
theorem tup_reads {pins : List (Addr × Obj)} {σ : L2.St} {H : Hp} {s : Shared} {b : Addr} {k : List Str} (I : Inv X pins σ H s) (h : SqT X.K H b (k.map V.str)) : Reads s.heap (.ref b) (encT k) [] := by
  obtain ⟨its, r, ⟨o, ho, hc, n, hd⟩, _⟩ := I.tuple h
  exact Reads.tuple ho hc hd (by simpa using reads_strs r)

/-- a list laid behind a call that keeps all -/
theorem after_list {pins : List (Addr × Obj)} {σ : L2.St} {H : Hp} {s s' : Shared} {p : Addr} {vs : List V} {out : Array Value} {c : Nat} {Q : VK} (I : Inv X pins σ H s) (k : Kept s.heap s'.heap)
    (g : s'.gens = s.gens) (o : s'.os = s.os) (hp : s.heap.objs.size ≤ p) (hg : s'.heap.get? p = some (seqObj "list" out c)) (hv : Vals vs out.toList) (hl : vs.length ≤ sizeLine)
    (q : H p = none → Q (.ref p) (upd H p (.lst vs))) : EP X pins σ Q (.ref p) s' := by
  have hn : H p = none := I.hok.fresh hp
  have J : Inv X pins σ (upd H p (.lst vs)) { s with heap := s'.heap, gens := s'.gens, drawn := s'.drawn, toks := s'.toks } :=
    I.call (ch := []) (Un.laid k hp hn) (I.hok.laid k hp ⟨hl, out.toList, c, hv, hg⟩) (by rw [g]; exact I.bare) (fun _ z => nomatch z)
  have e : s' = { s with heap := s'.heap, gens := s'.gens, drawn := s'.drawn, toks := s'.toks } := by
    cases s'
    cases s
    cases o
    rfl
  rw [e]
  exact ⟨.ref p, _, J, rfl, q hn⟩

theorem vals_strs : ∀ (zs : List (Value × Str)), (∀ p ∈ zs, ∃ tk, p.1 = .str p.2 tk) → Vals ((zs.map (·.2)).map V.str) (zs.map (·.1))
  | [], _ => .nil
  | p :: zs, h => .cons (h p List.mem_cons_self) (vals_strs zs fun q hq => h q (List.mem_cons_of_mem _ hq))
theorem zip_strs : ∀ {xs : List Str} {us : List Value}, Vals (xs.map V.str) us → us = (us.zip xs).map (·.1) ∧ xs = (us.zip xs).map (·.2) ∧ ∀ p ∈ us.zip xs, ∃ tk, p.1 = .str p.2 tk
  | [], _, .nil => ⟨rfl, rfl, fun p h => (by cases h)⟩
  | x :: xs, _, .cons r t => by
    obtain ⟨a, b, c⟩ := zip_strs t
    refine ⟨?_, ?_, fun p hp => ?_⟩
    · rw [List.zip_cons_cons, List.map_cons, ← a]
    · rw [List.zip_cons_cons, List.map_cons, ← b]
    · rw [List.zip_cons_cons] at hp
      rcases List.mem_cons.mp hp with e | hp
      · rw [e]; exact r
      · exact c p hp

theorem refs_tx : ∀ {ks : List (Addr × List Str)} {us : List Value}, Vals (ks.map fun p => V.ref p.1) us → us = ks.map fun p => Value.ref p.1
  | [], _, .nil => rfl
  | p :: ks, _, .cons r t => by
    rw [show _ = Value.ref p.1 from r, refs_tx t]
    rfl
theorem vals_of_addr : ∀ (ks : List (Addr × List Str)), Vals (ks.map fun p => V.ref p.1) (ks.map fun p => Value.ref p.1)
  | [] => .nil
  | p :: ks => .cons rfl (vals_of_addr ks)
theorem back_tx {ks : List (Addr × List Str)} : ∀ (L : List (Value × List Str)), (∀ p ∈ L, ∃ q ∈ ks, p = (Value.ref q.1, q.2)) →
    ∃ M : List (Addr × List Str), L = M.map (fun q => (Value.ref q.1, q.2)) ∧ ∀ q ∈ M, q ∈ ks
  | [], _ => ⟨[], rfl, fun q h => (by cases h)⟩
  | p :: L, h => by
    obtain ⟨q, hq, e⟩ := h p List.mem_cons_self
    obtain ⟨M, e2, s⟩ := back_tx L fun r hr => h r (List.mem_cons_of_mem _ hr)
    refine ⟨q :: M, by rw [e, e2]; rfl, fun r hr => ?_⟩
    rcases List.mem_cons.mp hr with z | z
    · rw [z]; exact hq
    · exact s r z

theorem pe_sortedSet {a : Expr} {ta : TE} {p p2 q pos : Pos} (hc : X.calm = true) (hu : X.A.units + 80 < cLine) (hg : Gl X "sorted") (hm : X.mg "sorted" = none) (hg2 : Gl X "set") (hm2 : X.mg "set" = none) (ha : PE X a ta)
    (na : starEach [a] X.env = (false, eval a X.env) :: starEach [] X.env) : PE X (.Call (.Name "sorted" p) [.Call (.Name "set" p2) [a] [] q] [] pos) (tSortedSet X.K ta) := by
  refine ⟨fun pins s σ H Q I h => ?_⟩
  refine Call_ (ld_blt I hg hm (show bootBuiltins "sorted" = some (.builtin "sorted") by decide +kernel) ?_)
  refine PyProof.Rows.callWith_builtin1 (PyProof.Rows.args_cons ?_ rfl) rfl rfl
  refine Call_ (ld_blt I hg2 hm2 boot_set ?_)
  refine PyProof.Rows.callWith_type1 (PyProof.Rows.args_cons (thn (ha.run pins s σ H _ I h) fun v s1 ⟨x, H1, I1, r1, q1⟩ => PyProof.Rows.args_nil ?_) na) na rfl
  obtain ⟨l, vs, rfl, hq, q1⟩ := q1
  cases r1
  obtain ⟨its, rv, pl, hz⟩ := I1.list hq
  have hh := I1.ok.hd hc
  rcases q1 with ⟨xs, rfl, hl, q1⟩ | ⟨ks, rfl, hk, hl, q1⟩
  · obtain ⟨z1, z2, z3⟩ := zip_strs rv
    have zl : (its.zip xs).length = xs.length := by have := congrArg List.length z2; simpa using this.symm
    refine call_set (its.zip xs) (strK X.prog X.w (its.zip xs) z3 (by rw [zl]; exact hl) s1.heap s1.heap.objs.size) hh pl.isList (by simpa using z1) (by omega) fun h' tk L hL g kp => ?_
    obtain ⟨es, ep, t, R⟩ := hL
    have I2 : Inv X pins σ H1 { s1 with heap := h', toks := tk } := I1.kept kp
    have hLl : L.length < scanBound := by have := g.len; omega
    refine PyProof.Rows.args_nil ?_
    refine sorted_setv (s := { s1 with heap := h', toks := tk }) (bs := L) (val := (·.1)) (enc := fun p => encS p.2) (R.vals hLl) hh (fun b hb => ?_) ?_ ?_ ?_ (fun b hb => ?_) fun s' p out c bs' kp' g' o' hp hgp ho pm pw => ?_
    · obtain ⟨tk', e⟩ := R.txs b hb
      rw [e]
      exact .str _ _
    · intro d hd d' hd'
      obtain ⟨b, _, rfl⟩ := List.mem_map.mp hd
      obtain ⟨b', _, rfl⟩ := List.mem_map.mp hd'
      rfl
    · refine .inr fun d hd => ?_
      obtain ⟨b, _, rfl⟩ := List.mem_map.mp hd
      exact ⟨fun z => (nomatch z), fun xs z => (nomatch z)⟩
    · have := fits_of_scanBound hLl
      exact this
    · show X.A.units + 2 + 0 < cLine
      omega
    · have tx : ∀ p ∈ bs', ∃ tk, p.1 = .str p.2 tk := fun p hp => R.txs p (pm.mem_iff.mp hp)
      have hv : Vals ((bs'.map (·.2)).map V.str) out.toList := by rw [ho]; exact vals_strs bs' tx
      refine after_list I2 kp' g' o' hp hgp hv ?_ fun hn => q1 (bs'.map (·.2)) p ?_ (fun x => ?_) ?_ hn
      · rw [List.length_map, List.length_map, pm.length_eq]
        exact fits_of_scanBound hLl
      · exact (pm.map (·.2)).nodup_iff.mpr R.nd
      · rw [(pm.map (·.2)).mem_iff]
        constructor
        · intro hx
          obtain ⟨p, hp, rfl⟩ := List.mem_map.mp hx
          rw [z2]
          exact List.mem_map.mpr ⟨p, List.mem_of_mem_take (g.sub p hp), rfl⟩
        · intro hx
          rw [z2] at hx
          obtain ⟨p, hp, rfl⟩ := List.mem_map.mp hx
          exact g.all p (by rw [List.take_length]; exact hp)
      · rw [List.pairwise_map]
        exact pw
  · have hus : its = ks.map fun q => Value.ref q.1 := refs_tx rv
    let zs : List (Value × List Str) := ks.map fun q => (Value.ref q.1, q.2)
    have zl : zs.length = ks.length := List.length_map ..
    have hz : ∀ p ∈ zs, ∃ b, p.1 = .ref b ∧ Tx X.prog X.w s1.heap p.2 b := by
      intro p hp
      obtain ⟨q, hq, rfl⟩ := List.mem_map.mp hp
      exact ⟨q.1, rfl, tup_tx I1 (hk q hq).1⟩
    refine call_set zs (tupK X.prog X.w zs s1.heap s1.heap.objs.size hz (by rw [zl]; exact hl)) hh pl.isList (by simp [zs, hus]) (by omega) fun h' tk L hL g kp => ?_
    obtain ⟨es, ep, t, R, sub⟩ := hL
    have I2 : Inv X pins σ H1 { s1 with heap := h', toks := tk } := I1.kept kp
    have hLl : L.length < 64 := R.few
    have src : ∀ p ∈ L, ∃ q ∈ ks, p = (Value.ref q.1, q.2) := fun p hp => by
      obtain ⟨q, hq, e⟩ := List.mem_map.mp (sub p hp)
      exact ⟨q, hq, e.symm⟩
    obtain ⟨M, eM⟩ : ∃ M : List (Addr × List Str), L = M.map (fun q => (Value.ref q.1, q.2)) ∧ ∀ q ∈ M, q ∈ ks := back_tx L src
    obtain ⟨eM, subM⟩ := eM
    have RV := R.vals (s := { s1 with heap := h', toks := tk })
    rw [eM, List.map_map] at RV
    refine PyProof.Rows.args_nil ?_
    refine sorted_setv (s := { s1 with heap := h', toks := tk }) (bs := M) (val := fun q => Value.ref q.1) (enc := fun q => encT q.2) RV hh (fun b hb => tup_reads I2 (hk b (subM b hb)).1) ?_ ?_ ?_ (fun b hb => ?_) fun s' p out c bs' kp' g' o' hp hgp ho pm pw => ?_
    · intro d hd d' hd'
      obtain ⟨b, _, rfl⟩ := List.mem_map.mp hd
      obtain ⟨b', _, rfl⟩ := List.mem_map.mp hd'
      exact alikeAll_strs _ _
    · refine .inl fun d hd => ?_
      obtain ⟨b, hb, rfl⟩ := List.mem_map.mp hd
      have := (hk b (subM b hb)).2
      cases e : b.2 with
      | nil => exact absurd e this
      | cons x r => exact ⟨.str x, r.map .str, by simp [encT, e]⟩
    · have : M.length = L.length := by rw [eM, List.length_map]
      rw [sizeLine_eq]
      omega
    · have e : (encT b.2).depth ≤ 1 := by
        show PyData.depthAll (b.2.map .str) + 1 ≤ 1
        rw [depth_strs]
        exact Nat.le_refl _
      omega
    · have ML : M.length = L.length := by rw [eM, List.length_map]
      have keys : M.map (·.2) = L.map (·.2) := by rw [eM, List.map_map]; rfl
      have hv : Vals (bs'.map fun q => V.ref q.1) out.toList := by
        rw [ho]
        exact vals_of_addr bs'
      refine after_list I2 kp' g' o' hp hgp hv ?_ fun hn => q1 bs' p ?_ (fun q hq => subM q (pm.mem_iff.mp hq)) (fun q hq => ?_) pw hn
      · rw [List.length_map, pm.length_eq, sizeLine_eq]
        omega
      · rw [(pm.map (·.2)).nodup_iff, keys]
        exact R.nd
      · rw [(pm.map (·.2)).mem_iff, keys]
        have := g.all (Value.ref q.1, q.2) (by rw [List.take_length]; exact List.mem_map.mpr ⟨q, hq, rfl⟩)
        exact this
end
end OwS
/-! A small language of values, and what its defs compute. -/
namespace Ow

/-- a text, by its codes -/
abbrev W := List Nat

inductive D where
  | non | bl (b : Bool) | int (i : Int) | str (w : W) | tup (xs : List D) | lst (xs : List D) | ref (n : Nat)
  deriving Inhabited
inductive Cell where
  | lst (xs : List D)
  | dct (kvs : List (D × D))
  | ins (c : Nat) (fs : List (Nat × D))
  | tab (P : Nat)
  deriving Inhabited
abbrev Store := List Cell
abbrev Envr := List (Option D)

def SZ : Nat := 16777216

mutual
def noRef : D → Bool
  | .ref _ => false
  | .tup xs => noRefs xs
  | .lst xs => noRefs xs
  | .non => true
  | .bl _ => true
  | .int _ => true
  | .str _ => true
def noRefs : List D → Bool
  | [] => true
  | x :: xs => noRef x && noRefs xs
end
mutual
def dep : D → Nat
  | .tup xs => deps xs + 1
  | .lst xs => deps xs + 1
  | .ref _ => 0
  | .non => 0
  | .bl _ => 0
  | .int _ => 0
  | .str _ => 0
def deps : List D → Nat
  | [] => 0
  | x :: xs => max (dep x) (deps xs)
end
def b2n (b : Bool) : Int := if b = true then 1 else 0
def eqW : W → W → Bool
  | [], [] => true
  | a :: as, b :: bs => Nat.beq a b && eqW as bs
  | [], _ :: _ => false
  | _ :: _, [] => false
mutual
/-- x == y -/
def eqD : D → D → Bool
  | .non, y => match y with | .non => true | _ => false
  | .bl a, y => match y with | .bl b => a == b | .int j => b2n a == j | _ => false
  | .int i, y => match y with | .int j => i == j | .bl b => i == b2n b | _ => false
  | .str a, y => match y with | .str b => eqW a b | _ => false
  | .tup xs, y => match y with | .tup ys => eqDs xs ys | _ => false
  | .lst xs, y => match y with | .lst ys => eqDs xs ys | _ => false
  | .ref _, _ => false
def eqDs : List D → List D → Bool
  | [], ys => match ys with | [] => true | _ :: _ => false
  | x :: xs, ys => match ys with | [] => false | y :: ys => eqD x y && eqDs xs ys
end
def ltW : W → W → Bool
  | _, [] => false
  | [], _ :: _ => true
  | a :: as, b :: bs => if Nat.blt a b = true then true else if Nat.beq a b = true then ltW as bs else false
mutual
/-- x < y (both of one form) -/
def ltD : D → D → Bool
  | .int i, y => match y with | .int j => decide (i < j) | _ => false
  | .str a, y => match y with | .str b => ltW a b | _ => false
  | .tup xs, y => match y with | .tup ys => ltDs xs ys | _ => false
  | .non, _ => false
  | .bl _, _ => false
  | .lst _, _ => false
  | .ref _, _ => false
def ltDs : List D → List D → Bool
  | [], ys => match ys with | [] => false | _ :: _ => true
  | x :: xs, ys => match ys with | [] => false | y :: ys => if eqD x y = true then ltDs xs ys else ltD x y
end
mutual
/-- they can be compared by < -/
def alkD : D → D → Bool
  | .int _, y => match y with | .int _ => true | _ => false
  | .str _, y => match y with | .str _ => true | _ => false
  | .tup xs, y => match y with | .tup ys => alkDs xs ys | _ => false
  | .non, _ => false
  | .bl _, _ => false
  | .lst _, _ => false
  | .ref _, _ => false
def alkDs : List D → List D → Bool
  | [], _ => true
  | x :: xs, ys => match ys with | [] => true | y :: ys => alkD x y && alkDs xs ys
end

def insD (le : D → D → Bool) (x : D) : List D → List D
  | [] => [x]
  | y :: ys => if le x y = true then x :: y :: ys else y :: insD le x ys
def sortD (le : D → D → Bool) : List D → List D
  | [] => []
  | x :: xs => insD le x (sortD le xs)
def leD (x y : D) : Bool := !ltD y x
def memD (x : D) : List D → Bool
  | [] => false
  | y :: ys => eqD y x || memD x ys
def dedupD : List D → List D
  | [] => []
  | x :: xs => if memD x xs = true then dedupD xs else x :: dedupD xs
def isStr : D → Bool
  | .str _ => true
  | _ => false
def allStr (xs : List D) : Bool := xs.all isStr
def isPathD : D → Bool
  | .tup xs => !xs.isEmpty && allStr xs
  | _ => false
def sortedSet (xs : List D) : Option (List D) :=
  if allStr xs = true then (if xs.length < 4095 then some (sortD leD (dedupD xs)) else none)
  else if xs.all isPathD = true then (if xs.length < 64 then some (sortD leD (dedupD xs)) else none) else none

/-! dicts -/
mutual
def keyIt : D → Bool
  | .tup xs => keyIts xs
  | .lst _ => false
  | .ref _ => false
  | .non => true
  | .bl _ => true
  | .int _ => true
  | .str _ => true
def keyIts : List D → Bool
  | [] => true
  | x :: xs => keyIt x && keyIts xs
end
def isTupD : D → Bool
  | .tup _ => true
  | _ => false
/-- k may be a key beside the keys of kvs -/
def dkOk (kvs : List (D × D)) (k : D) : Bool := match k with
  | .str _ => kvs.all fun p => isStr p.1
  | .tup xs => keyIts xs && Nat.ble (deps xs + 1) 8 && kvs.all fun p => isTupD p.1
  | _ => false
def lookD (k : D) : List (D × D) → Option D
  | [] => none
  | p :: r => if eqD p.1 k = true then some p.2 else lookD k r
def putD (k v : D) : List (D × D) → List (D × D)
  | [] => [(k, v)]
  | p :: r => if eqD p.1 k = true then (p.1, v) :: r else p :: putD k v r
/-- pairs, put one behind the other -/
def pairsD : List D → List (D × D) → Option (List (D × D))
  | [], acc => some acc
  | .tup [.str k, .tup v] :: r, acc => if noRefs v = true then pairsD r (putD (.str k) (.tup v) acc) else none
  | _ :: _, _ => none
def dctOf (st : Store) : D → Option (List (D × D))
  | .ref n => match st[n]? with
    | some (.dct kvs) => some kvs
    | _ => none
  | _ => none
def isLref (st : Store) : D → Bool
  | .ref n => match st[n]? with
    | some (.lst _) => true
    | _ => false
  | _ => false
/-- d[k], if it is there -/
def getDk (st : Store) (d k : D) : Option (Option D) := match dctOf st d with
  | some kvs => if dkOk kvs k = true then some (lookD k kvs) else none
  | none => none

/-- an item that is no pair of something and a tuple -/
def notPr : D → Bool
  | .tup [_, .tup _] => false
  | _ => true
/-- what stands behind a value that is a row -/
def rowOf (st : Store) : D → Option (List D)
  | .tup xs => some xs
  | .lst xs => some xs
  | .ref n => match st[n]? with
    | some (.lst xs) => some xs
    | _ => none
  | _ => none
/-- what stands behind a list -/
def lstOf (st : Store) : D → Option (List D)
  | .lst xs => some xs
  | .ref n => match st[n]? with
    | some (.lst xs) => some xs
    | _ => none
  | _ => none
/-- a value without references -/
def valOf (st : Store) : D → Option D
  | .ref n => match st[n]? with
    | some (.lst xs) => some (.lst xs)
    | _ => none
  | d => if noRef d = true then some d else none
def truthy (st : Store) : D → Option Bool
  | .non => some false
  | .bl b => some b
  | .int i => some (i != 0)
  | .str w => if w.length ≤ SZ then some (!w.isEmpty) else none
  | .tup xs => some (!xs.isEmpty)
  | .lst xs => some (!xs.isEmpty)
  | .ref n => match st[n]? with
    | some (.lst xs) => some (!xs.isEmpty)
    | _ => none
/-- a list is made: a cell of its own (m), or a value -/
def mkDct (kvs : List (D × D)) (st : Store) : Option (D × Store) := some (.ref st.length, st ++ [.dct kvs])
def mkL (m : Bool) (xs : List D) (st : Store) : Option (D × Store) :=
  if xs.length ≤ SZ then
    (if m = true then (if noRefs xs = true then some (.ref st.length, st ++ [.lst xs]) else none) else some (.lst xs, st))
  else none

inductive Bop where | add | sub | mul | fdiv | mod | pow
  deriving DecidableEq
inductive Cop where | eq | ne | lt | le | gt | ge | is | isnot | isin | notin
  deriving DecidableEq
inductive Ty where | int | bool | str | list | tuple
  deriving DecidableEq
inductive Bi where | len | all | any | tuple | list | int | max | min
  deriving DecidableEq

def repL (xs : List D) : Nat → List D
  | 0 => []
  | n + 1 => xs ++ repL xs n
def repW (w : W) : Nat → W
  | 0 => []
  | n + 1 => w ++ repW w n

def binD (m : Bool) (o : Bop) (x y : D) (st : Store) : Option (D × Store) :=
  match o with
  | .add => match x, y with
    | .int i, .int j => some (.int (i + j), st)
    | .str a, .str b => if a.length + b.length ≤ SZ then some (.str (a ++ b), st) else none
    | .tup a, .tup b => if a.length + b.length ≤ SZ then some (.tup (a ++ b), st) else none
    | .tup _, _ => none
    | _, .tup _ => none
    | x, y => match rowOf st x, rowOf st y with
      | some a, some b => mkL m (a ++ b) st
      | _, _ => none
  | .sub => match x, y with
    | .int i, .int j => some (.int (i - j), st)
    | _, _ => none
  | .mul => match x, y with
    | .int i, .int j => if (-(2 ^ 64) < i ∧ i < 2 ^ 64) ∨ (-(2 ^ 64) < j ∧ j < 2 ^ 64) then some (.int (i * j), st) else none
    | .str w, .int j => if -1000 ≤ j ∧ j ≤ 1000 ∧ w.length ≤ 1000 then some (.str (repW w j.toNat), st) else none
    | .tup a, .int j => if 0 ≤ j ∧ j ≤ 1000 ∧ a.isEmpty = false ∧ a.length ≤ 1000 then some (.tup (repL a j.toNat), st) else none
    | .lst a, .int j => if -1000 ≤ j ∧ j ≤ 1000 ∧ a.length ≤ 1000 then mkL m (repL a j.toNat) st else none
    | _, _ => none
  | .fdiv => match x, y with
    | .int i, .int j => if 0 < j ∧ j < 2 ^ 64 then some (.int (i / j), st) else none
    | _, _ => none
  | .mod => match x, y with
    | .int i, .int j => if 0 < j then some (.int (i % j), st) else none
    | _, _ => none
  | .pow => match x, y with
    | .int i, .int j => if 0 ≤ j ∧ j ≤ 1000000 ∧ i.natAbs < 2 ^ 64 then some (.int (i ^ j.toNat), st) else none
    | _, _ => none

def memN (c : Nat) : W → Bool
  | [] => false
  | a :: w => Nat.beq a c || memN c w
def isSub (x : W) : W → Bool
  | [] => x.isEmpty
  | c :: w => List.isPrefixOf x (c :: w) || isSub x w

def ordD (x y : D) (f : Bool) : Option Bool :=
  match x, y with
  | .int i, .int j => some (if f = true then decide (i < j) else decide (i ≤ j))
  | x, y => if noRef x = true ∧ noRef y = true ∧ alkD x y = true ∧ alkD y x = true ∧ dep x ≤ 60 ∧ dep y ≤ 60 then some (if f = true then ltD x y else !ltD y x) else none
def inD0 (st : Store) (x y : D) : Option Bool :=
  match y with
  | .str w => match x with
    | .str [c] => some (memN c w)
    | _ => none
  | y => match valOf st x, rowOf st y with
    | some x, some ys => if noRefs ys = true ∧ dep x ≤ 60 ∧ deps ys ≤ 60 then some (memD x ys) else none
    | _, _ => none
def inD (st : Store) (x y : D) : Option Bool := match dctOf st y with
  | some kvs => if dkOk kvs x = true then some (lookD x kvs).isSome else none
  | none => inD0 st x y
def isNon : D → Bool
  | .non => true
  | _ => false
def isD (x y : D) : Option Bool :=
  match y with
  | .non => some (isNon x)
  | .bl b => match x with
    | .bl a => some (a == b)
    | _ => none
  | _ => none
def eqS (st : Store) (x y : D) : Option Bool :=
  match valOf st x, valOf st y with
  | some a, some b => if dep a ≤ 60 ∧ dep b ≤ 60 then some (eqD a b) else none
  | _, _ => none
def cmpD (o : Cop) (x y : D) (st : Store) : Option Bool :=
  match o with
  | .eq => eqS st x y
  | .ne => (eqS st x y).map (!·)
  | .lt => ordD x y true
  | .gt => ordD y x true
  | .le => ordD x y false
  | .ge => ordD y x false
  | .is => isD x y
  | .isnot => (isD x y).map (!·)
  | .isin => inD st x y
  | .notin => (inD st x y).map (!·)

/-- the place of index i among n -/
def ixOf (n : Nat) (i : Int) : Option Nat :=
  if 0 ≤ i then (if i < (n : Int) then some i.toNat else none) else (if -(n : Int) ≤ i then some (i + (n : Int)).toNat else none)
def ixD0 (x y : D) (st : Store) : Option D :=
  match y with
  | .int i => match x with
    | .str w => if w.length ≤ SZ then (match ixOf w.length i with
      | some k => match w[k]? with
        | some c => some (.str [c])
        | none => none
      | none => none) else none
    | x => match rowOf st x with
      | some xs => match ixOf xs.length i with
        | some k => xs[k]?
        | none => none
      | none => none
  | _ => none
def ixD (x y : D) (st : Store) : Option D := match dctOf st x with
  | some _ => match getDk st x y with
    | some o => o
    | none => none
  | none => ixD0 x y st
def cutIx (n d : Nat) : Option Int → Nat
  | none => d
  | some v => if v < 0 then (v + (n : Int)).toNat else min v.toNat n
def cutL {α : Type} (xs : List α) (lo hi : Option Int) : List α :=
  (xs.drop (cutIx xs.length 0 lo)).take (cutIx xs.length xs.length hi - cutIx xs.length 0 lo)
def slD (m : Bool) (x : D) (lo hi : Option Int) (st : Store) : Option (D × Store) :=
  match x with
  | .tup xs => some (.tup (cutL xs lo hi), st)
  | .str w => if w.length ≤ SZ then some (.str (cutL w lo hi), st) else none
  | x => match rowOf st x with
    | some xs => mkL m (cutL xs lo hi) st
    | none => none
def revD (m : Bool) (x : D) (st : Store) : Option (D × Store) :=
  match x with
  | .tup xs => some (.tup xs.reverse, st)
  | x => match lstOf st x with
    | some xs => mkL m xs.reverse st
    | none => none

def isTy : Ty → D → Store → Option Bool
  | .int, .int _, _ => some true
  | .int, .bl _, _ => some true
  | .bool, .bl _, _ => some true
  | .str, .str _, _ => some true
  | .tuple, .tup _, _ => some true
  | .list, .lst _, _ => some true
  | t, .ref n, st => match st[n]? with
    | some (.lst _) => some (decide (t = Ty.list))
    | _ => none
  | _, _, _ => some false
def isTys : List Ty → D → Store → Option Bool
  | [], _, _ => some false
  | t :: ts, d, st => match isTy t d st with
    | some true => some true
    | some false => isTys ts d st
    | none => none

def allBl : List D → Option (List Bool)
  | [] => some []
  | .bl b :: r => (allBl r).map (b :: ·)
  | _ :: _ => none
def allInt : List D → Option (List Int)
  | [] => some []
  | .int b :: r => (allInt r).map (b :: ·)
  | _ :: _ => none
def maxI : Int → List Int → Int
  | a, [] => a
  | a, b :: r => maxI (if b > a then b else a) r
def minI : Int → List Int → Int
  | a, [] => a
  | a, b :: r => minI (if b < a then b else a) r
/-- the digits of a number -/
def digs : Nat → Nat → W → W
  | 0, _, acc => acc
  | f + 1, n, acc => if n < 10 then (48 + n) :: acc else digs f (n / 10) ((48 + n % 10) :: acc)

def biLen (ds : List D) (st : Store) : Option (D × Store) :=
  match ds with
  | [x] => match x with
    | .str w => if w.length ≤ SZ then some (.int w.length, st) else none
    | x => match rowOf st x with
      | some xs => some (.int xs.length, st)
      | none => none
  | _ => none
def biBls (g : List Bool → Bool) (ds : List D) (st : Store) : Option (D × Store) :=
  match ds with
  | [x] => match lstOf st x with
    | some xs => match allBl xs with
      | some bs => some (.bl (g bs), st)
      | none => none
    | none => none
  | _ => none
def biOpt (g : Int → List Int → Int) (ds : List D) (st : Store) : Option (D × Store) :=
  match ds with
  | [.int i, .int j] => some (.int (g i [j]), st)
  | [x] => match lstOf st x with
    | some xs => match allInt xs with
      | some (a :: r) => some (.int (g a r), st)
      | _ => none
    | none => none
  | _ => none
def biTup (ds : List D) (st : Store) : Option (D × Store) :=
  match ds with
  | [x] => match rowOf st x with
    | some xs => some (.tup xs, st)
    | none => none
  | _ => none
def biLst (m : Bool) (ds : List D) (st : Store) : Option (D × Store) :=
  match ds with
  | [x] => match rowOf st x with
    | some xs => mkL m xs st
    | none => none
  | _ => none
def biInt (ds : List D) (st : Store) : Option (D × Store) :=
  match ds with
  | [.int i] => some (.int i, st)
  | [.bl b] => some (.int (b2n b), st)
  | _ => none
def biD (m : Bool) (b : Bi) (ds : List D) (st : Store) : Option (D × Store) :=
  match b with
  | .len => biLen ds st
  | .all => biBls (fun bs => bs.all id) ds st
  | .any => biBls (fun bs => bs.any id) ds st
  | .tuple => biTup ds st
  | .list => biLst m ds st
  | .int => biInt ds st
  | .max => biOpt maxI ds st
  | .min => biOpt minI ds st

/-! ### the language -/
inductive Tg where
  | nm (i : Nat) | tp (js : List Nat)
mutual
inductive Ex where
  | var (i : Nat) | cst (d : D) | gl (c : Nat)
  | bin (m : Bool) (o : Bop) (a b : Ex) | neg (a : Ex) | cmp (o : Cop) (a b : Ex) | chain (o p : Cop) (a b c : Ex)
  | and (es : Exs) | or (es : Exs) | not (a : Ex) | ite (t a b : Ex)
  | tup (es : Exs) | lst (m : Bool) (es : Exs)
  | ix (a b : Ex) | sl (m : Bool) (a : Ex) (lo hi : Exo) | rev (m : Bool) (a : Ex)
  | call (f : Nat) (es : Exs) | bi (m : Bool) (b : Bi) (es : Exs) | isi (a : Ex) (k : List Ty)
  | dnew | done (k v : Ex) | dof (a : Ex) | dgt (a k d : Ex)
  | sset (m : Bool) (a : Ex) | skey (m : Bool) (f : Nat) (a : Ex)
  | lc (m : Bool) (own : List Nat) (e : Ex) (c : Cls)
inductive Exo where
  | none | some (e : Ex)
inductive Exs where
  | nil | cons (s : Bool) (e : Ex) (r : Exs)
inductive It where
  | of (e : Ex) | rng (es : Exs) | enum (e : Ex) | zip (a b : Ex) | rrng (e : Ex)
inductive Cls where
  | last (t : Tg) (it : It) (c : Exo) | more (t : Tg) (it : It) (c : Exo) (r : Cls)
end
mutual
inductive Sm where
  | asg (t : Tg) (e : Ex) | par (js : List Nat) (es : Exs) | seti (o i e : Ex) | app (o e : Ex) | popi (o i : Ex) | insi (o i e : Ex)
  | ret (e : Ex) | ife (c : Ex) (a b : Sms) | for_ (t : Tg) (it : It) (b : Sms) | whl (n : Nat) (c : Ex) (b : Sms) | pass
inductive Sms where
  | nil | cons (s : Sm) (r : Sms)
end

/-- what a loop walks: a row that stands still, or a list's cell as it is at each turn -/
inductive Src where
  | st (xs : List D) | live (n len : Nat)
def srcOf (st : Store) : D → Option Src
  | .tup xs => some (.st xs)
  | .lst xs => some (.st xs)
  | .str w => some (.st (w.map fun c => .str [c]))
  | .ref n => match st[n]? with
    | some (.lst xs) => some (.live n xs.length)
    | _ => none
  | _ => none
def rngL (lo : Int) : Nat → List D
  | 0 => []
  | n + 1 => .int lo :: rngL (lo + 1) n
def rngD (lo : Int) : Nat → List D
  | 0 => []
  | n + 1 => .int lo :: rngD (lo - 1) n
def small (i : Int) : Bool := decide (-(2 ^ 62) ≤ i) && decide (i < 2 ^ 62)
def enumL (i : Int) : List D → List D
  | [] => []
  | x :: xs => .tup [.int i, x] :: enumL (i + 1) xs
def zipL : List D → List D → List D
  | x :: xs, y :: ys => .tup [x, y] :: zipL xs ys
  | _, _ => []

section
variable {α : Type}
def loopL (f : D → α → Store → Option (α × Store)) : List D → α → Store → Option (α × Store)
  | [], a, s => some (a, s)
  | x :: xs, a, s => match f x a s with
    | some (a', s') => loopL f xs a' s'
    | none => none
def liveAt (n len i : Nat) (s : Store) : Option D := match s[n]? with
  | some (.lst xs) => if xs.length = len then xs[i]? else none
  | _ => none
def liveEnd (n len : Nat) (s : Store) : Bool := match s[n]? with
  | some (.lst xs) => xs.length == len
  | _ => false
def loopN (n len : Nat) (f : D → α → Store → Option (α × Store)) : Nat → Nat → α → Store → Option (α × Store)
  | 0, _, a, s => if liveEnd n len s = true then some (a, s) else none
  | k + 1, i, a, s => match liveAt n len i s with
    | some x => match f x a s with
      | some (a', s') => loopN n len f k (i + 1) a' s'
      | none => none
    | none => none
def loop (src : Src) (f : D → α → Store → Option (α × Store)) (a : α) (s : Store) : Option (α × Store) :=
  match src with
  | .st xs => loopL f xs a s
  | .live n len => loopN n len f len 0 a s
end

def setEach : List Nat → List D → Envr → Envr
  | j :: js, d :: ds, env => setEach js ds (env.set j (some d))
  | _, _, env => env
def bindT (t : Tg) (x : D) (env : Envr) : Option Envr :=
  match t with
  | .nm i => some (env.set i (some x))
  | .tp js => match x with
    | .tup xs => if xs.length = js.length then some (setEach js xs env) else none
    | _ => none
def tgS : Tg → List Nat
  | .nm i => [i]
  | .tp js => js
def wipeE (env : Envr) : List Nat → Envr
  | [] => env
  | v :: vs => (wipeE env vs).set v none

abbrev Cal := Nat → List D → Store → Option (D × Store)

def pairOf (o : Option Int) : Option (Option Int) := some o
def cutBd : D → Option (Option Int)
  | .int i => if small i = true then some (some i) else none
  | _ => none

/-- (len(row), row) -/
def lenKey (x : D) : D := match x with
  | .tup xs => .tup [.int xs.length, .tup xs]
  | x => x
/-- a row of texts -/
def isRow : D → Bool
  | .tup xs => allStr xs
  | _ => false
/-- the table of code objects at P is a cell -/
def hasTab (p : D) (st : Store) : Bool := match p with
  | .int i => st.any fun c => match c with
    | .tab P => decide ((P : Int) = i)
    | _ => false
  | _ => false
def leP (p q : D × D) : Bool := !ltD q.1 p.1
def insP (x : D × D) : List (D × D) → List (D × D)
  | [] => [x]
  | y :: ys => if leP x y = true then x :: y :: ys else y :: insP x ys
def sortP : List (D × D) → List (D × D)
  | [] => []
  | x :: xs => insP x (sortP xs)

variable (gls : Nat → D) in
mutual
def ev (cal : Cal) : Ex → Envr → Store → Option (D × Store)
  | .var i, env, st => match env[i]? with
    | some (some d) => some (d, st)
    | _ => none
  | .cst d, _, st => some (d, st)
  | .gl c, _, st => some (gls c, st)
  | .bin m o a b, env, st => match ev cal a env st with
    | some (x, s1) => match ev cal b env s1 with
      | some (y, s2) => binD m o x y s2
      | none => none
    | none => none
  | .neg a, env, st => match ev cal a env st with
    | some (.int i, s1) => some (.int (-i), s1)
    | _ => none
  | .cmp o a b, env, st => match ev cal a env st with
    | some (x, s1) => match ev cal b env s1 with
      | some (y, s2) => match cmpD o x y s2 with
        | some c => some (.bl c, s2)
        | none => none
      | none => none
    | none => none
  | .chain o p a b c, env, st => match ev cal a env st with
    | some (x, s1) => match ev cal b env s1 with
      | some (y, s2) => match cmpD o x y s2 with
        | some true => match ev cal c env s2 with
          | some (z, s3) => match cmpD p y z s3 with
            | some k => some (.bl k, s3)
            | none => none
          | none => none
        | some false => some (.bl false, s2)
        | none => none
      | none => none
    | none => none
  | .and es, env, st => evAnd cal es env st
  | .or es, env, st => evOr cal es env st
  | .not a, env, st => match ev cal a env st with
    | some (x, s1) => match truthy s1 x with
      | some b => some (.bl (!b), s1)
      | none => none
    | none => none
  | .ite t a b, env, st => match ev cal t env st with
    | some (x, s1) => match truthy s1 x with
      | some true => ev cal a env s1
      | some false => ev cal b env s1
      | none => none
    | none => none
  | .tup es, env, st => match evs cal es env st with
    | some (ds, s1) => if ds.length ≤ SZ then some (.tup ds, s1) else none
    | none => none
  | .lst m es, env, st => match evs cal es env st with
    | some (ds, s1) => mkL m ds s1
    | none => none
  | .ix a b, env, st => match ev cal a env st with
    | some (x, s1) => match ev cal b env s1 with
      | some (y, s2) => match ixD x y s2 with
        | some d => some (d, s2)
        | none => none
      | none => none
    | none => none
  | .sl m a lo hi, env, st => match ev cal a env st with
    | some (x, s1) => match evo cal lo env s1 with
      | some (l, s2) => match evo cal hi env s2 with
        | some (h, s3) => slD m x l h s3
        | none => none
      | none => none
    | none => none
  | .rev m a, env, st => match ev cal a env st with
    | some (x, s1) => revD m x s1
    | none => none
  | .call f es, env, st => match evs cal es env st with
    | some (ds, s1) => cal f ds s1
    | none => none
  | .bi m b es, env, st => match evs cal es env st with
    | some (ds, s1) => biD m b ds s1
    | none => none
  | .isi a k, env, st => match ev cal a env st with
    | some (x, s1) => match isTys k x s1 with
      | some b => some (.bl b, s1)
      | none => none
    | none => none
  | .sset m a, env, st => match ev cal a env st with
    | some (x, s1) => match lstOf s1 x with
      | some xs => match sortedSet xs with
        | some ys => mkL m ys s1
        | none => none
      | none => none
    | none => none
  | .dnew, _, st => mkDct [] st
  | .done k v, env, st => match ev cal k env st with
    | some (x, s1) => match ev cal v env s1 with
      | some (y, s2) => if dkOk [] x = true ∧ noRef y = true then mkDct [(x, y)] s2 else none
      | none => none
    | none => none
  | .dof a, env, st => match ev cal a env st with
    | some (.tup xs, s1) => match pairsD xs [] with
      | some kvs => if xs.length ≤ SZ then mkDct kvs s1 else none
      | none => none
    | _ => none
  | .dgt a k d, env, st => match ev cal a env st with
    | some (x, s1) => if (dctOf s1 x).isSome = true then (match ev cal k env s1 with
      | some (y, s2) => match ev cal d env s2 with
        | some (z, s3) => match getDk s3 x y with
          | some o => some (o.getD z, s3)
          | none => none
        | none => none
      | none => none) else none
    | none => none
  | .skey m f a, env, st => match ev cal a env st with
    | some (x, s1) => match lstOf s1 x with
      | some xs => if xs.all isRow = true ∧ (decide (f = 0) = true → hasTab (gls 999) s1 = true) then mkL m ((sortP (xs.map fun x => (lenKey x, x))).map (·.2)) s1 else none
      | none => none
    | none => none
  | .lc m own e c, env, st => match evCls cal (ev cal e) c env (wipeE env own) [] st with
    | some (ds, s1) => mkL m ds s1
    | none => none
def evo (cal : Cal) : Exo → Envr → Store → Option (Option Int × Store)
  | .none, _, st => some (none, st)
  | .some e, env, st => match ev cal e env st with
    | some (x, s1) => match cutBd x with
      | some o => some (o, s1)
      | none => none
    | none => none
def evAnd (cal : Cal) : Exs → Envr → Store → Option (D × Store)
  | .nil, _, _ => none
  | .cons _ e r, env, st => match ev cal e env st with
    | some (x, s1) => match r with
      | .nil => some (x, s1)
      | .cons _ _ _ => match truthy s1 x with
        | some true => evAnd cal r env s1
        | some false => some (x, s1)
        | none => none
    | none => none
def evOr (cal : Cal) : Exs → Envr → Store → Option (D × Store)
  | .nil, _, _ => none
  | .cons _ e r, env, st => match ev cal e env st with
    | some (x, s1) => match r with
      | .nil => some (x, s1)
      | .cons _ _ _ => match truthy s1 x with
        | some false => evOr cal r env s1
        | some true => some (x, s1)
        | none => none
    | none => none
def evs (cal : Cal) : Exs → Envr → Store → Option (List D × Store)
  | .nil, _, st => some ([], st)
  | .cons star e r, env, st => match ev cal e env st with
    | some (x, s1) => match star with
      | false => match evs cal r env s1 with
        | some (ds, s2) => some (x :: ds, s2)
        | none => none
      | true => match rowOf s1 x with
        | some xs => match evs cal r env s1 with
          | some (ds, s2) => some (xs ++ ds, s2)
          | none => none
        | none => none
    | none => none
def evIt (cal : Cal) : It → Envr → Store → Option (Src × Store)
  | .of e, env, st => match ev cal e env st with
    | some (x, s1) => match srcOf s1 x with
      | some src => some (src, s1)
      | none => none
    | none => none
  | .rng es, env, st => match evs cal es env st with
    | some ([.int j], s1) => if small j = true then some (.st (rngL 0 j.toNat), s1) else none
    | some ([.int i, .int j], s1) => if small i = true ∧ small j = true then some (.st (rngL i (j - i).toNat), s1) else none
    | some ([.int i, .int j, .int k], s1) => if small i = true ∧ small j = true ∧ k = -1 then some (.st (rngD i (i - j).toNat), s1) else none
    | _ => none
  | .enum e, env, st => match ev cal e env st with
    | some (x, s1) => match x with
      | .ref _ => none
      | x => match rowOf s1 x with
        | some xs => some (.st (enumL 0 xs), s1)
        | none => none
    | none => none
  | .zip a b, env, st => match ev cal a env st with
    | some (x, s1) => match ev cal b env s1 with
      | some (y, s2) => match x, y with
        | .tup xs, .tup ys => if xs.all notPr = true then some (.st (zipL xs ys), s2) else none
        | .lst xs, .lst ys => if xs.all notPr = true then some (.st (zipL xs ys), s2) else none
        | _, _ => none
      | none => none
    | none => none
  | .rrng e, env, st => match ev cal e env st with
    | some (.int j, s1) => if small j = true then some (.st (rngD (j - 1) j.toNat), s1) else none
    | _ => none
def evCls (cal : Cal) (fe : Envr → Store → Option (D × Store)) : Cls → Envr → Envr → List D → Store → Option (List D × Store)
  | .last t it c, envI, env, acc, st => match evIt cal it envI st with
    | some (src, s1) => loop src (fun x acc s => match bindT t x (wipeE env (tgS t)) with
        | some env1 => match evc cal c env1 s with
          | some (true, s2) => match fe env1 s2 with
            | some (d, s3) => if acc.length < SZ then some (acc ++ [d], s3) else none
            | none => none
          | some (false, s2) => some (acc, s2)
          | none => none
        | none => none) acc s1
    | none => none
  | .more t it c r, envI, env, acc, st => match evIt cal it envI st with
    | some (src, s1) => loop src (fun x acc s => match bindT t x (wipeE env (tgS t)) with
        | some env1 => match evc cal c env1 s with
          | some (true, s2) => evCls cal fe r env1 env1 acc s2
          | some (false, s2) => some (acc, s2)
          | none => none
        | none => none) acc s1
    | none => none
def evc (cal : Cal) : Exo → Envr → Store → Option (Bool × Store)
  | .none, _, st => some (true, st)
  | .some e, env, st => match ev cal e env st with
    | some (x, s1) => match truthy s1 x with
      | some b => some (b, s1)
      | none => none
    | none => none
end

inductive Out where
  | nx (env : Envr) (st : Store) | rt (d : D) (st : Store)
def loopLS (f : D → Envr → Store → Option Out) : List D → Envr → Store → Option Out
  | [], env, s => some (.nx env s)
  | x :: xs, env, s => match f x env s with
    | some (.nx env' s') => loopLS f xs env' s'
    | r => r
def loopNS (n len : Nat) (f : D → Envr → Store → Option Out) : Nat → Nat → Envr → Store → Option Out
  | 0, _, env, s => if liveEnd n len s = true then some (.nx env s) else none
  | k + 1, i, env, s => match liveAt n len i s with
    | some x => match f x env s with
      | some (.nx env' s') => loopNS n len f k (i + 1) env' s'
      | r => r
    | none => none
def loopS (src : Src) (f : D → Envr → Store → Option Out) (env : Envr) (s : Store) : Option Out :=
  match src with
  | .st xs => loopLS f xs env s
  | .live n len => loopNS n len f len 0 env s
def whileF (c : Envr → Store → Option (Bool × Store)) (f : Envr → Store → Option Out) : Nat → Envr → Store → Option Out
  | 0, _, _ => none
  | k + 1, env, s => match c env s with
    | some (true, s1) => match f env s1 with
      | some (.nx env' s') => whileF c f k env' s'
      | r => r
    | some (false, s1) => some (.nx env s1)
    | none => none

def setD0 (o i e : D) (st : Store) : Option Store :=
  match o, i with
  | .ref n, .int j => match st[n]? with
    | some (.lst xs) => match ixOf xs.length j with
      | some k => if noRef e = true then some (st.set n (.lst (xs.set k e))) else none
      | none => none
    | _ => none
  | _, _ => none
def setD (o i e : D) (st : Store) : Option Store := match dctOf st o with
  | some kvs => match o with
    | .ref n => if dkOk kvs i = true ∧ noRef e = true ∧ kvs.length < SZ then some (st.set n (.dct (putD i e kvs))) else none
    | _ => none
  | none => setD0 o i e st
def appD (o e : D) (st : Store) : Option Store :=
  match o with
  | .ref n => match st[n]? with
    | some (.lst xs) => if noRef e = true ∧ xs.length < SZ then some (st.set n (.lst (xs ++ [e]))) else none
    | _ => none
  | _ => none
def popD (o i : D) (st : Store) : Option Store :=
  match o, i with
  | .ref n, .int j => match st[n]? with
    | some (.lst xs) => match ixOf xs.length j with
      | some k => if small j = true then some (st.set n (.lst (xs.eraseIdx k))) else none
      | none => none
    | _ => none
  | _, _ => none
def insDl (o i e : D) (st : Store) : Option Store :=
  match o, i with
  | .ref n, .int j => match st[n]? with
    | some (.lst xs) => if noRef e = true ∧ xs.length < SZ ∧ 0 ≤ j ∧ j < 2 ^ 62 then some (st.set n (.lst (xs.take j.toNat ++ [e] ++ xs.drop j.toNat))) else none
    | _ => none
  | _, _ => none

variable (gls : Nat → D) in
mutual
def exec (cal : Cal) : Sm → Envr → Store → Option Out
  | .asg t e, env, st => match ev gls cal e env st with
    | some (x, s1) => match bindT t x env with
      | some env1 => some (.nx env1 s1)
      | none => none
    | none => none
  | .par js es, env, st => match evs gls cal es env st with
    | some (ds, s1) => if ds.length = js.length then some (.nx (setEach js ds env) s1) else none
    | none => none
  | .seti o i e, env, st => match ev gls cal e env st with
    | some (x, s1) => match ev gls cal o env s1 with
      | some (y, s2) => match ev gls cal i env s2 with
        | some (z, s3) => match setD y z x s3 with
          | some s4 => some (.nx env s4)
          | none => none
        | none => none
      | none => none
    | none => none
  | .app o e, env, st => match ev gls cal o env st with
    | some (y, s1) => if isLref s1 y = true then (match ev gls cal e env s1 with
      | some (x, s2) => match appD y x s2 with
        | some s3 => some (.nx env s3)
        | none => none
      | none => none) else none
    | none => none
  | .popi o i, env, st => match ev gls cal o env st with
    | some (y, s1) => if isLref s1 y = true then (match ev gls cal i env s1 with
      | some (z, s2) => match popD y z s2 with
        | some s3 => some (.nx env s3)
        | none => none
      | none => none) else none
    | none => none
  | .insi o i e, env, st => match ev gls cal o env st with
    | some (y, s1) => if isLref s1 y = true then (match ev gls cal i env s1 with
      | some (z, s2) => match ev gls cal e env s2 with
        | some (x, s3) => match insDl y z x s3 with
          | some s4 => some (.nx env s4)
          | none => none
        | none => none
      | none => none) else none
    | none => none
  | .ret e, env, st => match ev gls cal e env st with
    | some (x, s1) => some (.rt x s1)
    | none => none
  | .ife c a b, env, st => match ev gls cal c env st with
    | some (x, s1) => match truthy s1 x with
      | some true => execs cal a env s1
      | some false => execs cal b env s1
      | none => none
    | none => none
  | .for_ t it b, env, st => match evIt gls cal it env st with
    | some (src, s1) => loopS src (fun x env s => match bindT t x env with
        | some env1 => execs cal b env1 s
        | none => none) env s1
    | none => none
  | .whl n c b, env, st => whileF (fun env s => match ev gls cal c env s with
      | some (x, s1) => match truthy s1 x with
        | some b => some (b, s1)
        | none => none
      | none => none) (fun env s => execs cal b env s) n env st
  | .pass, env, st => some (.nx env st)
def execs (cal : Cal) : Sms → Envr → Store → Option Out
  | .nil, env, st => some (.nx env st)
  | .cons s r, env, st => match exec cal s env st with
    | some (.nx env1 s1) => execs cal r env1 s1
    | r => r
end

structure FDef where
  ps : Nat
  n : Nat
  body : Sms

/-- what a def hands back: its own cells are let go -/
def handBack (k : Nat) (d : D) (s : Store) : Option (D × Store) :=
  if s.length = k then some (d, s)
  else if noRef d = true then some (d, s.take k)
  else match d with
    | .ref n => if n < k then some (.ref n, s.take k) else match s[n]? with
      | some (.lst xs) => some (.lst xs, s.take k)
      | some c => some (.ref k, s.take k ++ [c])
      | none => none
    | _ => none
def finish (k : Nat) : Option Out → Option (D × Store)
  | some (.nx _ s) => handBack k .non s
  | some (.rt d s) => handBack k d s
  | none => none
variable (gls : Nat → D) (Gam : Nat → Option FDef) in
def call : Nat → Cal
  | 0, _, _, _ => none
  | k + 1, f, ds, st => match Gam f with
    | some d => if ds.length = d.ps then finish st.length (execs gls (call k) d.body (ds.map some ++ List.replicate (d.n - d.ps) none) st) else none
    | none => none
/-- the module constants: the letters, the most people -/
def glsA : Nat → D
  | 0 => .str [97,98,99,100,101,102,103,104,105,106,107,108,109,110,111,112,113,114,115,116,117,118,119,120,121,122]
  | 1 => .int 5
  | _ => .non
end Ow
/-! How the small language's values stand in the heap. -/
namespace Ow
open PySem PySem.Spec PyProof.Rows L2

abbrev Str := PySem.Str
def toS (w : W) : Str := ⟨w.toArray⟩
theorem toS_cps (w : W) : (toS w).cps.toList = w := by simp [toS]
theorem toS_inj {a b : W} (h : toS a = toS b) : a = b := by
  have := congrArg (fun x : Str => x.cps.toList) h
  simpa [toS] using this
theorem toS_len (w : W) : (toS w).length = w.length := by
  show (toS w).cps.size = _
  simp [toS]
theorem SZ_line : (SZ : Nat) = sizeLine := by rw [sizeLine_eq]; rfl

/-! keys of dicts -/
mutual
def nk : D → NestedKey
  | .non => .none
  | .bl b => .num (b2n b)
  | .int i => .num i
  | .str w => .text (toS w)
  | .tup xs => .tup (nks xs)
  | .lst _ => .none
  | .ref _ => .none
def nks : List D → List NestedKey
  | [] => []
  | x :: xs => nk x :: nks xs
end
def rawE (w : World) (p : NestedKey × Value × Value) : DictEntry := ⟨p.1.hash w, p.2.1, p.2.2⟩
def EntR (p : NestedKey × V × V) (q : NestedKey × Value × Value) : Prop := p.1 = q.1 ∧ RelV p.2.1 q.2.1 ∧ RelV p.2.2 q.2.2
/-- a dict of these entries: keys, values -/
def DctAt (w : World) (a : Addr) (es : List (NestedKey × V × V)) (h : Heap) : Prop :=
  (a == sysModules) = false ∧ ∃ xs : List (NestedKey × Value × Value), Paired EntR es xs ∧ ∃ o ds ep, h.get? a = some o ∧ o.ExactDict ∧ o.data = .dict ds ep ∧ ds.toList = xs.map (rawE w)
def DctO (w : World) (a : Addr) (es : List (NestedKey × V × V)) : HO := .ext (DctAt w a es)
/-- the entries of a dict's cell -/
def ent : List (D × D) → List V → List V → List (NestedKey × V × V)
  | p :: r, k :: ks, v :: vs => (nk p.1, k, v) :: ent r ks vs
  | _, _, _ => []
def KvOk (p : D × D) : Prop := noRef p.1 = true ∧ noRef p.2 = true ∧ dkOk [] p.1 = true

/-- the name that the lambda's code object bears -/
def lamQ : Str := (("subsets" : Str) ++ ".<locals>.") ++ "<lambda>"
section
variable (wd : World) (K : PySem.W.Frag) (mu rho : List Addr) (H : Hp)
/-- the tuple at a -/
def TupAt (a : Addr) (vs : List V) : Prop := Rd H a (.tup vs) ∧ a ∉ rho ∧ a ∉ mu
/-- the tuple at a has no attributes of its own, or it is a pair that cannot be a row of pairs -/
def Pln (K : PySem.W.Frag) (H : Hp) (a : Addr) (ds : List D) : Prop := K = K ∧ ((∃ (o : Obj) (vs : List V), H a = some (.frz o (.tup vs)) ∧ o.dict = none) ∨ ∃ d e, ds = [d, e] ∧ notPr d = true)
/-- the list at a, which nobody changes -/
def LstAt (a : Addr) (vs : List V) : Prop := Rd H a (.lst vs) ∧ a ∉ rho ∧ a ∉ mu
mutual
/-- v stands for d -/
inductive Rl : D → V → Prop where
  | non : Rl .non .non
  | bl (b : Bool) : Rl (.bl b) (.bl b)
  | int (i : Int) : Rl (.int i) (.int i)
  | str (w : W) : Rl (.str w) (.str (toS w))
  | tup {a : Addr} {vs : List V} {ds : List D} : TupAt mu rho H a vs → Pln K H a ds → Rls ds vs → Rl (.tup ds) (.ref a)
  | lst {a : Addr} {vs : List V} {ds : List D} : LstAt mu rho H a vs → Rls ds vs → Rl (.lst ds) (.ref a)
  | ref {n : Nat} {a : Addr} : rho[n]? = some a → Rl (.ref n) (.ref a)
inductive Rls : List D → List V → Prop where
  | nil : Rls [] []
  | cons {d : D} {v : V} {ds : List D} {vs : List V} : Rl d v → Rls ds vs → Rls (d :: ds) (v :: vs)
end
def CellOk (c : Cell) (a : Addr) : Prop := match c with
  | .lst ds => noRefs ds = true ∧ ∃ vs, H a = some (.lst vs) ∧ Rls K mu rho H ds vs
  | .dct kvs => (∀ p ∈ kvs, KvOk p) ∧ (kvs.map fun p => nk p.1).Nodup ∧ kvs.length ≤ SZ ∧ ∃ ks vs : List V, H a = some (DctO wd a (ent kvs ks vs)) ∧ Rls K mu rho H (kvs.map (·.1)) ks ∧ Rls K mu rho H (kvs.map (·.2)) vs
  | .tab P => a = P ∧ ∃ ps : Array Value, H a = some (.tbl ps) ∧ TriplesOk ps.toList ∧ ∀ (pos : Pos) (cv : Value), codeAmong pos ps.toList = some cv → ∃ c, cv = .ref c ∧ H c = some (LamX.CodeO c lamQ) ∧ c ∉ rho ∧ c ∉ mu
  | _ => False
structure Sim (st : Store) : Prop where
  len : rho.length = st.length
  nd : rho.Nodup
  cells : ∀ (n : Nat) (c : Cell) (a : Addr), st[n]? = some c → rho[n]? = some a → CellOk wd K mu rho H c a
  mus : ∀ a ∈ mu, H a ≠ none ∧ a ∉ rho
def EnvR (env : Envr) (σ : L2.St) : Prop := env.length = σ.length ∧ ∀ (i : Nat) (d : D), env[i]? = some (some d) → ∃ v, σ[i]? = some (some v) ∧ Rl K mu rho H d v
end

/-- nothing but cells has changed -/
structure Le (rho : List Addr) (H : Hp) (rho' : List Addr) (H' : Hp) : Prop where
  pre : ∃ e, rho' = rho ++ e
  keep : ∀ a o, H a = some o → a ∉ rho → (∀ q, o ≠ .tbl q) → H' a = some o
  new : ∀ a ∈ rho', a ∉ rho → H a = none
  still : ∀ a, H a ≠ none → H' a ≠ none
/-- .. nor what stands at mu -/
structure Lm (mu rho : List Addr) (H : Hp) (rho' : List Addr) (H' : Hp) : Prop where
  pre : ∃ e, rho' = rho ++ e
  keep : ∀ a o, H a = some o → a ∉ rho → a ∉ mu → (∀ q, o ≠ .tbl q) → H' a = some o
  new : ∀ a ∈ rho', a ∉ rho → H a = none
  still : ∀ a, H a ≠ none → H' a ≠ none

section
variable {wd : World} {K : PySem.W.Frag} {mu mu' rho rho' rho'' : List Addr} {H H' H'' : Hp} {st st' : Store} {a p : Addr} {vs : List V} {ds : List D} {d : D} {v : V}

theorem upd_still {H : Hp} {a : Addr} {o : HO} : ∀ b, H b ≠ none → upd H a o b ≠ none := fun b hb => by
  by_cases z : b = a
  · rw [z, upd_same]
    simp
  · rw [upd_ne z]
    exact hb
theorem Le.refl (rho : List Addr) (H : Hp) : Le rho H rho H := ⟨⟨[], by simp⟩, fun _ _ h _ _ => h, fun a h n => absurd h n, fun _ h => h⟩
theorem Le.lm (h : Le rho H rho' H') (mu : List Addr) : Lm mu rho H rho' H' := ⟨h.pre, fun a o e n _ t => h.keep a o e n t, h.new, h.still⟩
theorem Lm.refl (mu rho : List Addr) (H : Hp) : Lm mu rho H rho H := (Le.refl rho H).lm mu
theorem Le.sub (h : Le rho H rho' H') {a : Addr} (n : a ∉ rho') : a ∉ rho := by
  obtain ⟨e, q⟩ := h.pre
  rw [q] at n
  exact fun z => n (List.mem_append_left _ z)
theorem Lm.sub (h : Lm mu rho H rho' H') {a : Addr} (n : a ∉ rho') : a ∉ rho := by
  obtain ⟨e, q⟩ := h.pre
  rw [q] at n
  exact fun z => n (List.mem_append_left _ z)
theorem Lm.out (h : Lm mu rho H rho' H') {a : Addr} {o : HO} (e : H a = some o) (n : a ∉ rho) : a ∉ rho' := fun z => by
  rw [h.new a z n] at e
  cases e
theorem Le.out (h : Le rho H rho' H') {a : Addr} {o : HO} (e : H a = some o) (n : a ∉ rho) : a ∉ rho' := (h.lm []).out e n
theorem Le.trans (h : Le rho H rho' H') (k : Le rho' H' rho'' H'') : Le rho H rho'' H'' := by
  refine ⟨?_, fun a o e n t => k.keep a o (h.keep a o e n t) (h.out e n) t, fun a m n => ?_, fun a z => k.still a (h.still a z)⟩
  · obtain ⟨e1, q1⟩ := h.pre
    obtain ⟨e2, q2⟩ := k.pre
    exact ⟨e1 ++ e2, by rw [q2, q1, List.append_assoc]⟩
  · by_cases m1 : a ∈ rho'
    · exact h.new a m1 n
    · have e := k.new a m m1
      cases q : H a with
      | none => rfl
      | some o => exact absurd e (h.still a (by rw [q]; simp))
theorem Lm.trans (h : Lm mu rho H rho' H') (k : Lm mu rho' H' rho'' H'') (hm : ∀ a ∈ mu, H a ≠ none → H' a ≠ none) : Lm mu rho H rho'' H'' := by
  refine ⟨?_, fun a o e n m t => k.keep a o (h.keep a o e n m t) (h.out e n) m t, fun a m n => ?_, fun a z => k.still a (h.still a z)⟩
  · obtain ⟨e1, q1⟩ := h.pre
    obtain ⟨e2, q2⟩ := k.pre
    exact ⟨e1 ++ e2, by rw [q2, q1, List.append_assoc]⟩
  · by_cases m1 : a ∈ rho'
    · exact h.new a m1 n
    · have e := k.new a m m1
      cases q : H a with
      | none => rfl
      | some o => exact absurd e (h.still a (by rw [q]; simp))
theorem TupAt.seq (h : TupAt mu rho H a vs) : SqT K H a vs := .inl h.1
theorem LstAt.seq (h : LstAt mu rho H a vs) : SqL K H a vs := .inl h.1
theorem Rd.keepLm {u : HO} (h : Rd H a u) (l : Lm mu rho H rho' H') (n : a ∉ rho) (m : a ∉ mu) (t : ∀ q, u ≠ .tbl q) : Rd H' a u := by
  rcases h with h | ⟨o, h⟩
  · exact .inl (l.keep a _ h n m t)
  · exact .inr ⟨o, l.keep a _ h n m fun q z => nomatch z⟩
theorem Rd.outLm {u : HO} (h : Rd H a u) (l : Lm mu rho H rho' H') (n : a ∉ rho) : a ∉ rho' := by
  rcases h with h | ⟨o, h⟩
  · exact l.out h n
  · exact l.out h n
theorem TupAt.lm (h : TupAt mu rho H a vs) (l : Lm mu rho H rho' H') : TupAt mu rho' H' a vs := ⟨Rd.keepLm h.1 l h.2.1 h.2.2 (fun q z => nomatch z), Rd.outLm h.1 l h.2.1, h.2.2⟩
theorem Pln.lm (p : Pln K H a ds) (h : TupAt mu rho H a vs) (l : Lm mu rho H rho' H') : Pln K H' a ds := by
  rcases p with ⟨_, ⟨o, ws, e, q⟩ | p⟩
  · exact ⟨rfl, .inl ⟨o, ws, l.keep a _ e h.2.1 h.2.2 (fun q z => nomatch z), q⟩⟩
  · exact ⟨rfl, .inr p⟩
theorem LstAt.lm (h : LstAt mu rho H a vs) (l : Lm mu rho H rho' H') : LstAt mu rho' H' a vs := by
  obtain ⟨h, n, m⟩ := h
  exact ⟨Rd.keepLm h l n m (fun q z => nomatch z), Rd.outLm h l n, m⟩
theorem pre_get (h : ∃ e, rho' = rho ++ e) {n : Nat} (e : rho[n]? = some a) : rho'[n]? = some a := by
  obtain ⟨t, q⟩ := h
  rw [q, List.getElem?_append_left (List.getElem?_eq_some_iff.mp e).1]
  exact e
mutual
theorem Rl.lm (l : Lm mu rho H rho' H') : ∀ {d : D} {v : V}, Rl K mu rho H d v → Rl K mu rho' H' d v
  | _, _, .non => .non
  | _, _, .bl b => .bl b
  | _, _, .int i => .int i
  | _, _, .str w => .str w
  | _, _, .tup h p r => .tup (h.lm l) (p.lm h l) (Rls.lm l r)
  | _, _, .lst h r => .lst (h.lm l) (Rls.lm l r)
  | _, _, .ref e => .ref (pre_get l.pre e)
theorem Rls.lm (l : Lm mu rho H rho' H') : ∀ {ds : List D} {vs : List V}, Rls K mu rho H ds vs → Rls K mu rho' H' ds vs
  | _, _, .nil => .nil
  | _, _, .cons r s => .cons (Rl.lm l r) (Rls.lm l s)
end
theorem Rl.le (h : Rl K mu rho H d v) (l : Le rho H rho' H') : Rl K mu rho' H' d v := h.lm (l.lm mu)
theorem Rls.le (h : Rls K mu rho H ds vs) (l : Le rho H rho' H') : Rls K mu rho' H' ds vs := h.lm (l.lm mu)
theorem EnvR.lm {env : Envr} {σ : L2.St} (h : EnvR K mu rho H env σ) (l : Lm mu rho H rho' H') : EnvR K mu rho' H' env σ :=
  ⟨h.1, fun i d e => let ⟨v, a, r⟩ := h.2 i d e; ⟨v, a, r.lm l⟩⟩
theorem EnvR.le {env : Envr} {σ : L2.St} (h : EnvR K mu rho H env σ) (l : Le rho H rho' H') : EnvR K mu rho' H' env σ := h.lm (l.lm mu)

/-! fewer pending lists, more of them -/
theorem TupAt.muD (h : TupAt mu rho H a vs) (hm : ∀ b ∈ mu', b ∈ mu) : TupAt mu' rho H a vs := ⟨h.1, h.2.1, fun z => h.2.2 (hm a z)⟩
mutual
theorem Rl.muD (hm : ∀ b ∈ mu', b ∈ mu) : ∀ {d : D} {v : V}, Rl K mu rho H d v → Rl K mu' rho H d v
  | _, _, .non => .non
  | _, _, .bl b => .bl b
  | _, _, .int i => .int i
  | _, _, .str w => .str w
  | _, _, .tup h p r => .tup (h.muD hm) p (Rls.muD hm r)
  | _, _, .lst h r => .lst ⟨h.1, h.2.1, fun z => h.2.2 (hm _ z)⟩ (Rls.muD hm r)
  | _, _, .ref e => .ref e
theorem Rls.muD (hm : ∀ b ∈ mu', b ∈ mu) : ∀ {ds : List D} {vs : List V}, Rls K mu rho H ds vs → Rls K mu' rho H ds vs
  | _, _, .nil => .nil
  | _, _, .cons r s => .cons (Rl.muD hm r) (Rls.muD hm s)
end
/-- a list at p is laid, and will grow -/
theorem Pln.updN {o : HO} (q : Pln K H a ds) (n : H p = none) : Pln K (upd H p o) a ds := by
  rcases q with ⟨_, ⟨ob, ws, e, q⟩ | q⟩
  · exact ⟨rfl, .inl ⟨ob, ws, by rw [upd_ne (fun z => by rw [z, n] at e; cases e)]; exact e, q⟩⟩
  · exact ⟨rfl, .inr q⟩
theorem Rd.upd {u o : HO} (h : Rd H a u) (n : H p = none) : Rd (upd H p o) a u ∧ a ≠ p := by
  have key : ∀ w, H a = some w → a ≠ p := fun w e z => by rw [z, n] at e; cases e
  rcases h with h | ⟨ob, h⟩
  · exact ⟨.inl (by rw [upd_ne (key _ h)]; exact h), key _ h⟩
  · exact ⟨.inr ⟨ob, by rw [upd_ne (key _ h)]; exact h⟩, key _ h⟩
mutual
theorem Rl.pend {o : HO} (n : H p = none) : ∀ {d : D} {v : V}, Rl K mu rho H d v → Rl K (p :: mu) rho (upd H p o) d v
  | _, _, .non => .non
  | _, _, .bl b => .bl b
  | _, _, .int i => .int i
  | _, _, .str w => .str w
  | _, _, .tup ⟨h, k, m⟩ q r => .tup ⟨(Rd.upd h n).1, k, fun z => (List.mem_cons.mp z).elim (Rd.upd (o := o) h n).2 m⟩ (q.updN n) (Rls.pend n r)
  | _, _, .lst ⟨h, k, m⟩ r => .lst ⟨(Rd.upd h n).1, k, fun z => (List.mem_cons.mp z).elim (Rd.upd (o := o) h n).2 m⟩ (Rls.pend n r)
  | _, _, .ref e => .ref e
theorem Rls.pend {o : HO} (n : H p = none) : ∀ {ds : List D} {vs : List V}, Rls K mu rho H ds vs → Rls K (p :: mu) rho (upd H p o) ds vs
  | _, _, .nil => .nil
  | _, _, .cons r s => .cons (Rl.pend n r) (Rls.pend n s)
end

/-! ### new objects -/
theorem Le.fresh {o : HO} (n : H p = none) : Le rho H rho (upd H p o) :=
  ⟨⟨[], by simp⟩, fun a u e _ _ => by rw [upd_ne (fun z => by rw [z, n] at e; cases e)]; exact e, fun a h k => absurd h k, upd_still⟩
theorem Sim.cellLm (S : Sim wd K mu rho H st) (l : Lm mu rho H rho' H') {n : Nat} {c : Cell} (e : st[n]? = some c) (ea : rho[n]? = some a) (same : H' a = H a) : CellOk wd K mu rho' H' c a := by
  have q := S.cells n c a e ea
  cases c with
  | lst ds =>
    obtain ⟨h1, vs, h2, h3⟩ := q
    exact ⟨h1, vs, by rw [same]; exact h2, h3.lm l⟩
  | dct kvs =>
    obtain ⟨h1, h2, h3, ks, vs, h4, h5, h6⟩ := q
    exact ⟨h1, h2, h3, ks, vs, by rw [same]; exact h4, h5.lm l, h6.lm l⟩
  | ins _ _ => exact q
  | tab P =>
    obtain ⟨h1, ps, h2, h3, h4⟩ := q
    refine ⟨h1, ps, by rw [same]; exact h2, h3, fun pos cv hc => ?_⟩
    obtain ⟨c, e1, e2, e3, e4⟩ := h4 pos cv hc
    exact ⟨c, e1, l.keep c _ e2 e3 e4 fun q => LamX.codeO_ne q, l.out e2 e3, e4⟩
theorem Sim.isSome (S : Sim wd K mu rho H st) {n : Nat} (ea : rho[n]? = some a) : H a ≠ none := by
  have hn : n < st.length := by rw [← S.len]; exact (List.getElem?_eq_some_iff.mp ea).1
  have q := S.cells n _ a (List.getElem?_eq_getElem hn) ea
  intro z
  cases e : st[n] with
  | lst ds =>
    rw [e] at q
    obtain ⟨_, vs, h2, _⟩ := q
    rw [z] at h2
    cases h2
  | dct kvs =>
    rw [e] at q
    obtain ⟨_, _, _, ks, vs, h4, _⟩ := q
    rw [z] at h4
    cases h4
  | ins _ _ => rw [e] at q; exact q
  | tab P =>
    rw [e] at q
    obtain ⟨_, ps, h2, _⟩ := q
    rw [z] at h2
    cases h2
theorem Sim.notRho (S : Sim wd K mu rho H st) (n : H p = none) : p ∉ rho := fun h => by
  obtain ⟨i, hi, e⟩ := List.getElem_of_mem h
  exact S.isSome (n := i) (a := p) (by rw [List.getElem?_eq_getElem hi, e]) n
theorem Sim.notMu (S : Sim wd K mu rho H st) (n : H p = none) : p ∉ mu := fun h => (S.mus p h).1 n
theorem Sim.fresh {o : HO} (S : Sim wd K mu rho H st) (n : H p = none) : Sim wd K mu rho (upd H p o) st := by
  have ne : ∀ a, H a ≠ none → a ≠ p := fun a h z => h (by rw [z]; exact n)
  refine ⟨S.len, S.nd, fun i c a e ea => S.cellLm ((Le.fresh n).lm mu) e ea (upd_ne (ne a (S.isSome ea))), fun a h => ⟨?_, (S.mus a h).2⟩⟩
  rw [upd_ne (ne a (S.mus a h).1)]
  exact (S.mus a h).1
/-- a pending list is laid -/
theorem Sim.pend {o : HO} (S : Sim wd K mu rho H st) (n : H p = none) : Sim wd K (p :: mu) rho (upd H p o) st := by
  have ne : ∀ a, H a ≠ none → a ≠ p := fun a h z => h (by rw [z]; exact n)
  refine ⟨S.len, S.nd, fun i c a e ea => ?_, fun a h => ?_⟩
  · have q := S.cells i c a e ea
    cases c with
    | lst ds =>
      obtain ⟨h1, vs, h2, h3⟩ := q
      exact ⟨h1, vs, by rw [upd_ne (ne a (S.isSome ea))]; exact h2, h3.pend n⟩
    | dct kvs =>
      obtain ⟨h1, h2, h3, ks, vs, h4, h5, h6⟩ := q
      exact ⟨h1, h2, h3, ks, vs, by rw [upd_ne (ne a (S.isSome ea))]; exact h4, h5.pend n, h6.pend n⟩
    | ins _ _ => exact q
    | tab P =>
      obtain ⟨h1, ps, h2, h3, h4⟩ := q
      refine ⟨h1, ps, by rw [upd_ne (ne a (S.isSome ea))]; exact h2, h3, fun pos cv hc => ?_⟩
      obtain ⟨c, e1, e2, e3, e4⟩ := h4 pos cv hc
      have nc : c ≠ p := fun z => by rw [z, n] at e2; cases e2
      exact ⟨c, e1, by rw [upd_ne nc]; exact e2, e3, fun z => (List.mem_cons.mp z).elim nc e4⟩
  · rcases List.mem_cons.mp h with z | z
    · rw [z, upd_same]
      exact ⟨by simp, S.notRho n⟩
    · rw [upd_ne (ne a (S.mus a z).1)]
      exact S.mus a z
/-- a cell is made -/
theorem Le.cell {o : HO} (n : H p = none) : Le rho H (rho ++ [p]) (upd H p o) :=
  ⟨⟨[p], rfl⟩, fun a u e _ _ => by rw [upd_ne (fun z => by rw [z, n] at e; cases e)]; exact e, fun a h k => by
    rcases List.mem_append.mp h with z | z
    · exact absurd z k
    · rw [List.mem_singleton.mp z]; exact n, upd_still⟩
theorem Sim.cellC {c : Cell} {o : HO} (S : Sim wd K mu rho H st) (n : H p = none) (ok : CellOk wd K mu (rho ++ [p]) (upd H p o) c p) : Sim wd K mu (rho ++ [p]) (upd H p o) (st ++ [c]) := by
  have ne : ∀ a, H a ≠ none → a ≠ p := fun a h z => h (by rw [z]; exact n)
  have l : Lm mu rho H (rho ++ [p]) (upd H p o) := (Le.cell n).lm mu
  refine ⟨by simp [S.len], ?_, fun i c' a e ea => ?_, fun a h => ?_⟩
  · refine List.nodup_append.mpr ⟨S.nd, by simp, fun a ha b hb z => ?_⟩
    rw [List.mem_singleton.mp hb] at z
    exact S.notRho n (z ▸ ha)
  · by_cases hi : i < rho.length
    · rw [List.getElem?_append_left hi] at ea
      rw [List.getElem?_append_left (by rw [← S.len]; exact hi)] at e
      exact S.cellLm l e ea (upd_ne (ne a (S.isSome ea)))
    · rw [List.getElem?_append_right (by omega)] at ea
      rw [List.getElem?_append_right (by rw [← S.len]; omega), ← S.len] at e
      have i0 : i - rho.length = 0 := by
        have := (List.getElem?_eq_some_iff.mp ea).1
        simp at this
        exact this
      rw [i0] at e ea
      simp at e ea
      subst e ea
      exact ok
  · rw [upd_ne (ne a (S.mus a h).1)]
    refine ⟨(S.mus a h).1, fun z => ?_⟩
    rcases List.mem_append.mp z with z | z
    · exact (S.mus a h).2 z
    · exact ne a (S.mus a h).1 (List.mem_singleton.mp z)
theorem Sim.cell (S : Sim wd K mu rho H st) (n : H p = none) (hr : noRefs ds = true) (r : Rls K mu rho H ds vs) : Sim wd K mu (rho ++ [p]) (upd H p (.lst vs)) (st ++ [.lst ds]) :=
  S.cellC n ⟨hr, vs, upd_same, r.lm ((Le.cell n).lm mu)⟩
/-- a cell is changed -/
theorem Le.write {o : HO} (h : a ∈ rho) : Le rho H rho (upd H a o) :=
  ⟨⟨[], by simp⟩, fun b u e n _ => by rw [upd_ne (fun z : b = a => n (by rw [z]; exact h))]; exact e, fun b h k => absurd h k, upd_still⟩
theorem Sim.writeC {c : Cell} {o : HO} (S : Sim wd K mu rho H st) {n : Nat} (ea : rho[n]? = some a) (ok : CellOk wd K mu rho (upd H a o) c a) : Sim wd K mu rho (upd H a o) (st.set n c) := by
  have ha : a ∈ rho := List.mem_of_getElem? ea
  have l : Lm mu rho H rho (upd H a o) := (Le.write ha).lm mu
  refine ⟨by rw [List.length_set]; exact S.len, S.nd, fun i c' b e eb => ?_, fun b h => ?_⟩
  · by_cases hi : i = n
    · subst hi
      rw [ea] at eb
      have eb' := Option.some.inj eb
      subst eb'
      have hl : i < st.length := by rw [← S.len]; exact (List.getElem?_eq_some_iff.mp ea).1
      rw [List.getElem?_set_self hl] at e
      have e' := Option.some.inj e
      subst e'
      exact ok
    · rw [List.getElem?_set_ne (Ne.symm hi)] at e
      have ne : b ≠ a := fun z => hi (by
        obtain ⟨h1, e1⟩ := List.getElem?_eq_some_iff.mp ea
        obtain ⟨h2, e2⟩ := List.getElem?_eq_some_iff.mp eb
        exact (List.getElem_inj S.nd).mp (e2.trans (z.trans e1.symm)))
      exact S.cellLm l e eb (upd_ne ne)
  · have ne : b ≠ a := fun z => (S.mus b h).2 (z ▸ ha)
    rw [upd_ne ne]
    exact S.mus b h
theorem Sim.write (S : Sim wd K mu rho H st) {n : Nat} (ea : rho[n]? = some a) (hr : noRefs ds = true) (r : Rls K mu rho H ds vs) : Sim wd K mu rho (upd H a (.lst vs)) (st.set n (.lst ds)) :=
  S.writeC ea ⟨hr, vs, upd_same, r.lm ((Le.write (List.mem_of_getElem? ea)).lm mu)⟩
end
end Ow
/-! What a computed value leaves; equality of data. -/
namespace Ow
open PySem PySem.Spec PyProof.Rows L2

/-- Q holds of whatever stands for d, at st', from here on -/
def Fin (wd : World) (K : PySem.W.Frag) (mu rho : List Addr) (H : Hp) (d : D) (st' : Store) (Q : VK) : Prop :=
  ∀ (rho' : List Addr) (H' : Hp) (v : V), Le rho H rho' H' → Sim wd K mu rho' H' st' → Rl K mu rho' H' d v → Q v H'
def Post (wd : World) (K : PySem.W.Frag) (mu rho : List Addr) (H : Hp) (r : Option (D × Store)) (Q : VK) : Prop := ∃ d st', r = some (d, st') ∧ Fin wd K mu rho H d st' Q

section
variable {wd : World} {K : PySem.W.Frag} {mu mu' rho rho' rho'' : List Addr} {H H' H'' : Hp} {st st' : Store} {a p : Addr} {vs ws : List V} {ds es : List D} {d e : D} {v u : V} {Q : VK}
theorem Fin.here (S : Sim wd K mu rho H st) (r : Rl K mu rho H d v) (f : Fin wd K mu rho H d st Q) : Q v H := f rho H v (Le.refl _ _) S r
theorem Fin.le (l : Le rho H rho' H') (f : Fin wd K mu rho H d st Q) : Fin wd K mu rho' H' d st Q := fun r2 H2 v l2 S r => f r2 H2 v (l.trans l2) S r
theorem Post.le {r : Option (D × Store)} (l : Le rho H rho' H') (f : Post wd K mu rho H r Q) : Post wd K mu rho' H' r Q := let ⟨d, s, e, f⟩ := f; ⟨d, s, e, f.le l⟩
theorem Fin.newTup (S : Sim wd K mu rho H st) (r : Rls K mu rho H ds vs) (f : Fin wd K mu rho H (.tup ds) st Q) : ∀ p o, H p = none → o.dict = none → Q (.ref p) (upd H p (.frz o (.tup vs))) := fun p o n ho =>
  f rho _ _ (Le.fresh n) (S.fresh n) (.tup ⟨.inr ⟨o, upd_same⟩, S.notRho n, S.notMu n⟩ ⟨rfl, .inl ⟨o, vs, upd_same, ho⟩⟩ (r.le (Le.fresh n)))
theorem mkL_len {m : Bool} (h : mkL m ds st = some (d, st')) : ds.length ≤ sizeLine := by
  unfold mkL at h
  split at h
  · rename_i k; rw [← SZ_line]; exact k
  · cases h
theorem Fin.newLst {m : Bool} (S : Sim wd K mu rho H st) (r : Rls K mu rho H ds vs) (h : mkL m ds st = some (d, st')) (f : Fin wd K mu rho H d st' Q) : ∀ p, H p = none → Q (.ref p) (upd H p (.lst vs)) := fun p n => by
  unfold mkL at h
  split at h
  · cases m with
    | true =>
      rw [if_pos rfl] at h
      split at h
      · rename_i hr
        cases h
        refine f _ _ _ (Le.cell n) (S.cell n hr r) (.ref ?_)
        rw [← S.len, List.getElem?_append_right (Nat.le_refl _), Nat.sub_self]
        rfl
      · cases h
    | false =>
      rw [if_neg Bool.false_ne_true] at h
      cases h
      exact f rho _ _ (Le.fresh n) (S.fresh n) (.lst ⟨.inl upd_same, S.notRho n, S.notMu n⟩ (r.le (Le.fresh n)))
  · cases h

theorem Rls.length : ∀ {ds : List D} {vs : List V}, Rls K mu rho H ds vs → ds.length = vs.length
  | _, _, .nil => rfl
  | _, _, .cons _ r => by rw [List.length_cons, List.length_cons, Rls.length r]
theorem Rls.append : ∀ {ds es : List D} {vs ws : List V}, Rls K mu rho H ds vs → Rls K mu rho H es ws → Rls K mu rho H (ds ++ es) (vs ++ ws)
  | _, _, _, _, .nil, s => s
  | _, _, _, _, .cons r t, s => .cons r (Rls.append t s)
theorem Rls.take : ∀ (n : Nat) {ds : List D} {vs : List V}, Rls K mu rho H ds vs → Rls K mu rho H (ds.take n) (vs.take n)
  | 0, _, _, _ => .nil
  | _ + 1, _, _, .nil => .nil
  | n + 1, _, _, .cons r t => .cons r (Rls.take n t)
theorem Rls.drop : ∀ (n : Nat) {ds : List D} {vs : List V}, Rls K mu rho H ds vs → Rls K mu rho H (ds.drop n) (vs.drop n)
  | 0, _, _, r => r
  | _ + 1, _, _, .nil => .nil
  | n + 1, _, _, .cons _ t => Rls.drop n t
theorem Rls.reverse : ∀ {ds : List D} {vs : List V}, Rls K mu rho H ds vs → Rls K mu rho H ds.reverse vs.reverse
  | _, _, .nil => .nil
  | _, _, .cons r t => by rw [List.reverse_cons, List.reverse_cons]; exact (Rls.reverse t).append (.cons r .nil)
theorem Rls.set (r : Rl K mu rho H d v) : ∀ (n : Nat) {ds : List D} {vs : List V}, Rls K mu rho H ds vs → Rls K mu rho H (ds.set n d) (vs.set n v)
  | _, _, _, .nil => .nil
  | 0, _, _, .cons _ t => .cons r t
  | n + 1, _, _, .cons q t => .cons q (Rls.set r n t)
theorem Rls.eraseIdx : ∀ (n : Nat) {ds : List D} {vs : List V}, Rls K mu rho H ds vs → Rls K mu rho H (ds.eraseIdx n) (vs.eraseIdx n)
  | _, _, _, .nil => .nil
  | 0, _, _, .cons _ t => t
  | n + 1, _, _, .cons q t => .cons q (Rls.eraseIdx n t)
theorem Rls.get : ∀ (n : Nat) {ds : List D} {vs : List V} {d : D}, Rls K mu rho H ds vs → ds[n]? = some d → ∃ v, vs[n]? = some v ∧ Rl K mu rho H d v
  | _, _, _, _, .nil, e => by simp at e
  | 0, _, _, _, .cons r _, e => by simp at e; subst e; exact ⟨_, rfl, r⟩
  | n + 1, _, _, _, .cons _ t, e => by
    obtain ⟨v, h1, h2⟩ := Rls.get n t (by simpa using e)
    exact ⟨v, by simpa using h1, h2⟩
theorem Rls.getV : ∀ (n : Nat) {ds : List D} {vs : List V} {v : V}, Rls K mu rho H ds vs → vs[n]? = some v → ∃ d, ds[n]? = some d ∧ Rl K mu rho H d v
  | _, _, _, _, .nil, e => by simp at e
  | 0, _, _, _, .cons r _, e => by simp at e; subst e; exact ⟨_, rfl, r⟩
  | n + 1, _, _, _, .cons _ t, e => by
    obtain ⟨v, h1, h2⟩ := Rls.getV n t (by simpa using e)
    exact ⟨v, by simpa using h1, h2⟩

/-! what a row is -/
theorem rowOf_ref {n : Nat} (h : rowOf st (.ref n) = some ds) : st[n]? = some (.lst ds) := by
  simp only [rowOf] at h
  split at h
  · rename_i hn
    have e := Option.some.inj h
    subst e
    exact hn
  · cases h
theorem valOf_ref {n : Nat} (h : valOf st (.ref n) = some d) : ∃ ds, d = .lst ds ∧ st[n]? = some (.lst ds) := by
  simp only [valOf] at h
  split at h
  · rename_i hn
    have e := Option.some.inj h
    subst e
    exact ⟨_, rfl, hn⟩
  · cases h
theorem Rl.tup_inv (r : Rl K mu rho H (.tup ds) v) : ∃ a vs, v = .ref a ∧ TupAt mu rho H a vs ∧ Rls K mu rho H ds vs := by
  cases r with
  | tup h _ s => exact ⟨_, _, rfl, h, s⟩
/-- a row that is no tuple -/
theorem Rl.lst_inv (S : Sim wd K mu rho H st) (r : Rl K mu rho H d v) (e : rowOf st d = some ds) (nt : ∀ xs, d ≠ .tup xs) : ∃ a vs, v = .ref a ∧ Rd H a (.lst vs) ∧ Rls K mu rho H ds vs := by
  cases r with
  | lst h s => cases e; exact ⟨_, _, rfl, h.1, s⟩
  | tup h s => exact absurd rfl (nt _)
  | ref ea =>
    obtain ⟨_, vs, h2, h3⟩ := S.cells _ _ _ (rowOf_ref e) ea
    exact ⟨_, vs, rfl, .inl h2, h3⟩
  | non => cases e
  | bl => cases e
  | int => cases e
  | str => cases e
theorem lstOf_row (h : lstOf st d = some ds) : rowOf st d = some ds ∧ ∀ xs, d ≠ .tup xs := by
  cases d with
  | lst xs => exact ⟨h, fun _ z => by cases z⟩
  | ref n => exact ⟨h, fun _ z => by cases z⟩
  | _ => cases h
theorem Rl.lstOf_inv (S : Sim wd K mu rho H st) (r : Rl K mu rho H d v) (e : lstOf st d = some ds) : ∃ a vs, v = .ref a ∧ Rd H a (.lst vs) ∧ Rls K mu rho H ds vs :=
  r.lst_inv S (lstOf_row e).1 (lstOf_row e).2
theorem Rl.row_inv (S : Sim wd K mu rho H st) (r : Rl K mu rho H d v) (e : rowOf st d = some ds) : ∃ a vs, v = .ref a ∧ (SqL K H a vs ∨ SqT K H a vs) ∧ Rls K mu rho H ds vs := by
  by_cases nt : ∀ xs, d ≠ .tup xs
  · obtain ⟨a, vs, h1, h2, h3⟩ := r.lst_inv S e nt
    exact ⟨a, vs, h1, .inl (.inl h2), h3⟩
  · cases d with
    | tup xs =>
      cases e
      obtain ⟨a, vs, h1, h2, h3⟩ := r.tup_inv
      exact ⟨a, vs, h1, .inr h2.seq, h3⟩
    | _ => exact absurd (fun xs h => by cases h) nt
end

/-! ### as data -/
mutual
def toPy : D → PyData
  | .non => .none
  | .bl b => .bool b
  | .int i => .int i
  | .str w => .str (toS w)
  | .tup xs => .tuple (toPys xs)
  | .lst xs => .list (toPys xs)
  | .ref _ => .none
def toPys : List D → List PyData
  | [] => []
  | x :: xs => toPy x :: toPys xs
end
theorem toPys_map : ∀ xs, toPys xs = xs.map toPy
  | [] => rfl
  | x :: xs => by rw [toPys, toPys_map xs, List.map_cons]
mutual
theorem toPy_plain : ∀ d, (toPy d).plain = true
  | .non => rfl
  | .bl _ => rfl
  | .int _ => rfl
  | .str _ => rfl
  | .tup xs => by rw [toPy, PyData.plain]; exact toPys_plain xs
  | .lst xs => by rw [toPy, PyData.plain]; exact toPys_plain xs
  | .ref _ => rfl
theorem toPys_plain : ∀ ds, PyData.plainAll (toPys ds) = true
  | [] => rfl
  | x :: xs => by rw [toPys, PyData.plainAll, toPy_plain x, toPys_plain xs]; rfl
end
mutual
theorem toPy_depth : ∀ d, (toPy d).depth = dep d
  | .non => rfl
  | .bl _ => rfl
  | .int _ => rfl
  | .str _ => rfl
  | .tup xs => by rw [toPy, PyData.depth, dep, toPys_depth xs]
  | .lst xs => by rw [toPy, PyData.depth, dep, toPys_depth xs]
  | .ref _ => rfl
theorem toPys_depth : ∀ ds, PyData.depthAll (toPys ds) = deps ds
  | [] => rfl
  | x :: xs => by rw [toPys, PyData.depthAll, toPy_depth x, toPys_depth xs, deps]
end
theorem eqW_iff : ∀ a b : W, eqW a b = true ↔ a = b
  | [], [] => by simp [eqW]
  | a :: as, b :: bs => by
    have ih := eqW_iff as bs
    rw [eqW, Bool.and_eq_true, ih, Nat.beq_eq, List.cons.injEq]
  | [], _ :: _ => by simp [eqW]
  | _ :: _, [] => by simp [eqW]
theorem eqW_eq (a b : W) : eqW a b = (toS a == toS b) := by
  rw [Bool.eq_iff_iff, eqW_iff, beq_iff_eq]
  exact ⟨fun h => by rw [h], toS_inj⟩
mutual
theorem eqD_py : ∀ a b, noRef a = true → noRef b = true → eqD a b = PyData.eqv (toPy a) (toPy b)
  | .non, b, _, hb => by cases b <;> first | rfl | cases hb
  | .bl x, b, _, hb => by cases b <;> first | rfl | cases hb
  | .int x, b, _, hb => by cases b <;> first | rfl | cases hb
  | .str x, b, _, hb => by
    cases b with
    | str y => rw [eqD, toPy, toPy, PyData.eqv]; exact eqW_eq x y
    | ref n => cases hb
    | _ => rfl
  | .tup xs, b, ha, hb => by
    cases b with
    | tup ys => rw [eqD, toPy, toPy, PyData.eqv]; exact eqDs_py xs ys (by simpa [noRef] using ha) (by simpa [noRef] using hb)
    | ref n => cases hb
    | _ => rfl
  | .lst xs, b, ha, hb => by
    cases b with
    | lst ys => rw [eqD, toPy, toPy, PyData.eqv]; exact eqDs_py xs ys (by simpa [noRef] using ha) (by simpa [noRef] using hb)
    | ref n => cases hb
    | _ => rfl
  | .ref n, _, ha, _ => by cases ha
theorem eqDs_py : ∀ xs ys, noRefs xs = true → noRefs ys = true → eqDs xs ys = PyData.eqvAll (toPys xs) (toPys ys)
  | [], [], _, _ => rfl
  | [], _ :: _, _, _ => rfl
  | _ :: _, [], _, _ => rfl
  | x :: xs, y :: ys, ha, hb => by
    have ha' : noRef x = true ∧ noRefs xs = true := by simpa [noRefs] using ha
    have hb' : noRef y = true ∧ noRefs ys = true := by simpa [noRefs] using hb
    rw [eqDs, toPys, toPys, PyData.eqvAll, eqD_py x y ha'.1 hb'.1, eqDs_py xs ys ha'.2 hb'.2]
end
theorem memD_py {x : D} (hx : noRef x = true) : ∀ ys, noRefs ys = true → memD x ys = (toPys ys).any fun y => PyData.eqv y (toPy x)
  | [], _ => rfl
  | y :: ys, h => by
    have h' : noRef y = true ∧ noRefs ys = true := by simpa [noRefs] using h
    rw [memD, toPys, List.any_cons, eqD_py y x h'.1 hx, memD_py hx ys h'.2]

section
variable {wd : World} {K : PySem.W.Frag} {mu rho : List Addr} {H : Hp} {st st' : Store} {ds : List D} {d e : D} {v u : V} {Q : VK}
mutual
theorem Rl.dp : ∀ {d : D} {v : V}, Rl K mu rho H d v → noRef d = true → Dp K H v (toPy d)
  | _, _, .non, _ => .non
  | _, _, .bl b, _ => .bl b
  | _, _, .int i, _ => .int i
  | _, _, .str w, _ => .str _
  | _, _, .tup h _ r, n => by rw [toPy]; exact .tup h.seq (Rls.dp r (by simpa [noRef] using n))
  | _, _, .lst h r, n => by rw [toPy]; exact .lst h.seq (Rls.dp r (by simpa [noRef] using n))
  | _, _, .ref e, n => by cases n
theorem Rls.dp : ∀ {ds : List D} {vs : List V}, Rls K mu rho H ds vs → noRefs ds = true → DpAll K H vs (toPys ds)
  | _, _, .nil, _ => .nil
  | _, _, .cons r t, n => by
    rw [noRefs, Bool.and_eq_true] at n
    rw [toPys]
    exact .cons (Rl.dp r n.1) (Rls.dp t n.2)
end
theorem valOf_val (h : valOf st d = some e) (nr : ∀ n, d ≠ .ref n) : noRef d = true ∧ e = d := by
  unfold valOf at h
  split at h
  · exact absurd rfl (nr _)
  · split at h
    · rename_i hr; cases h; exact ⟨hr, rfl⟩
    · cases h
theorem valOf_dp (S : Sim wd K mu rho H st) (r : Rl K mu rho H d v) (h : valOf st d = some e) : Dp K H v (toPy e) ∧ noRef e = true := by
  cases r with
  | ref ea =>
    obtain ⟨ds, rfl, hn⟩ := valOf_ref h
    obtain ⟨h1, vs, h2, h3⟩ := S.cells _ _ _ hn ea
    refine ⟨?_, by simpa [noRef] using h1⟩
    rw [toPy]
    exact .lst (.inl (.inl h2)) (Rls.dp h3 h1)
  | non => cases h; exact ⟨.non, rfl⟩
  | bl b => cases h; exact ⟨.bl b, rfl⟩
  | int i => cases h; exact ⟨.int i, rfl⟩
  | str w => cases h; exact ⟨.str _, rfl⟩
  | tup hh hp rr =>
    obtain ⟨h1, h2⟩ := valOf_val h (fun n z => by cases z)
    subst h2
    exact ⟨Rl.dp (.tup hh hp rr) h1, h1⟩
  | lst hh rr =>
    obtain ⟨h1, h2⟩ := valOf_val h (fun n z => by cases z)
    subst h2
    exact ⟨Rl.dp (.lst hh rr) h1, h1⟩
theorem rowOf_dp (S : Sim wd K mu rho H st) (r : Rl K mu rho H d v) (h : rowOf st d = some ds) (n : noRefs ds = true) : Dp K H v (.list (toPys ds)) ∨ Dp K H v (.tuple (toPys ds)) := by
  obtain ⟨a, vs, rfl, h2, h3⟩ := r.row_inv S h
  rcases h2 with h2 | h2
  · exact .inl (.lst h2 (Rls.dp h3 n))
  · exact .inr (.tup h2 (Rls.dp h3 n))
end

/-! ### ==, !=, in, not in -/
section
variable {X : Cx}
def rEqP (K : PySem.W.Frag) (f : Bool → Bool) : R2 := fun x y H Q => ∃ d e, Dp K H x d ∧ Dp K H y e ∧ d.plain = true ∧ e.plain = true ∧ d.depth ≤ 60 ∧ Q (.bl (f (PyData.eqv d e))) H
theorem op_eqP (hu : X.A.units + 80 < cLine) : OpR X (compareOp .Eq) (rEqP X.K id) := by
  intro pins s σ H x y v u Q I rx ry ⟨d, e, h1, h2, p1, p2, hd, q⟩
  obtain ⟨as, r1⟩ := Dp.reads I d x v h1 rx
  obtain ⟨bs, r2⟩ := Dp.reads I e y u h2 ry
  exact SeqAt.eq_plain r1 r2 p1 p2 (by omega) ⟨.bl _, H, I, rfl, q⟩
theorem op_neP (hu : X.A.units + 80 < cLine) : OpR X (compareOp .NotEq) (rEqP X.K (!·)) := by
  intro pins s σ H x y v u Q I rx ry ⟨d, e, h1, h2, p1, p2, hd, q⟩
  obtain ⟨as, r1⟩ := Dp.reads I d x v h1 rx
  obtain ⟨bs, r2⟩ := Dp.reads I e y u h2 ry
  exact SeqAt.ne_plain r1 r2 p1 p2 (by omega) ⟨.bl _, H, I, rfl, q⟩
def rInP (K : PySem.W.Frag) (f : Bool → Bool) : R2 := fun x y H Q => ∃ d es, Dp K H x d ∧ (Dp K H y (.list es) ∨ Dp K H y (.tuple es)) ∧ d.plain = true ∧ PyData.plainAll es = true ∧ d.depth ≤ 60 ∧ Q (.bl (f (es.any fun y => PyData.eqv y d))) H
theorem op_inP (hu : X.A.units + 80 < cLine) : OpR X (compareOp .In) (rInP X.K id) := by
  intro pins s σ H x y v u Q I rx ry ⟨d, es, h1, h2, p1, p2, hd, q⟩
  obtain ⟨as, r1⟩ := Dp.reads I d x v h1 rx
  rcases h2 with h2 | h2
  · obtain ⟨bs, r2⟩ := Dp.reads I _ y u h2 ry
    exact SeqAt.in_list_data r2 r1 p2 p1 (by omega) ⟨.bl _, H, I, rfl, q⟩
  · obtain ⟨bs, r2⟩ := Dp.reads I _ y u h2 ry
    exact SeqAt.in_tuple_data r2 r1 p2 p1 (by omega) ⟨.bl _, H, I, rfl, q⟩
theorem op_notinP (hu : X.A.units + 80 < cLine) : OpR X (compareOp .NotIn) (rInP X.K (!·)) := by
  intro pins s σ H x y v u Q I rx ry ⟨d, es, h1, h2, p1, p2, hd, q⟩
  obtain ⟨as, r1⟩ := Dp.reads I d x v h1 rx
  rcases h2 with h2 | h2
  · obtain ⟨bs, r2⟩ := Dp.reads I _ y u h2 ry
    exact SeqAt.notIn_list_data r2 r1 p2 p1 (by omega) ⟨.bl _, H, I, rfl, q⟩
  · obtain ⟨bs, r2⟩ := Dp.reads I _ y u h2 ry
    exact SeqAt.notIn_tuple_data r2 r1 p2 p1 (by omega) ⟨.bl _, H, I, rfl, q⟩
end
section
variable {wd : World} {K : PySem.W.Frag} {mu rho : List Addr} {H : Hp} {st : Store} {d e : D} {v u : V} {Q : VK} {c : Bool} {f : Bool → Bool}
theorem eqS_rule (S : Sim wd K mu rho H st) (rx : Rl K mu rho H d v) (ry : Rl K mu rho H e u) (h : eqS st d e = some c) (q : Q (.bl (f c)) H) : rEqP K f v u H Q := by
  unfold eqS at h
  split at h
  · rename_i a b ha hb
    split at h
    · rename_i hd
      cases h
      obtain ⟨d1, n1⟩ := valOf_dp S rx ha
      obtain ⟨d2, n2⟩ := valOf_dp S ry hb
      refine ⟨_, _, d1, d2, toPy_plain _, toPy_plain _, by rw [toPy_depth]; exact hd.1, ?_⟩
      rw [← eqD_py a b n1 n2]
      exact q
    · cases h
  · cases h
end
end Ow
/-! Orderings. -/
namespace Ow
open PySem PySem.Spec PyProof.Rows L2

theorem ltW_iff : ∀ a b : W, ltW a b = true ↔ a < b
  | [], [] => by simp [ltW]
  | _ :: _, [] => by simp [ltW]
  | [], _ :: _ => by simp [ltW]
  | a :: as, b :: bs => by
    have ih := ltW_iff as bs
    rw [ltW, List.cons_lt_cons_iff]
    by_cases h1 : a < b
    · rw [if_pos (by rw [Nat.blt_eq]; exact h1)]
      exact ⟨fun _ => .inl h1, fun _ => rfl⟩
    · rw [if_neg (by rw [Nat.blt_eq]; exact h1)]
      by_cases h2 : a = b
      · rw [if_pos (by rw [Nat.beq_eq]; exact h2), ih]
        refine ⟨fun h => .inr ⟨h2, h⟩, fun h => ?_⟩
        rcases h with z | z
        · exact absurd z h1
        · exact z.2
      · rw [if_neg (by rw [Nat.beq_eq]; exact h2)]
        refine ⟨fun h => (by cases h), fun h => ?_⟩
        rcases h with z | z
        · exact absurd z h1
        · exact absurd z.1 h2
theorem ltW_eq (a b : W) : ltW a b = decide ((toS a).cps.toList < (toS b).cps.toList) := by
  rw [Bool.eq_iff_iff, ltW_iff, decide_eq_true_iff, toS_cps, toS_cps]
mutual
theorem alk_py : ∀ a b, alkD a b = true → PySem.W.alike (toPy a) (toPy b) = true
  | .int _, b, h => by cases b <;> first | rfl | cases h
  | .str _, b, h => by cases b <;> first | rfl | cases h
  | .tup xs, b, h => by
    cases b with
    | tup ys => rw [toPy, toPy, PySem.W.alike]; exact alks_py xs ys (by simpa [alkD] using h)
    | _ => cases h
  | .non, _, h => by cases h
  | .bl _, _, h => by cases h
  | .lst _, _, h => by cases h
  | .ref _, _, h => by cases h
theorem alks_py : ∀ xs ys, alkDs xs ys = true → PySem.W.alikeAll (toPys xs) (toPys ys) = true
  | [], [], _ => by rw [toPys]; rfl
  | [], _ :: _, _ => by rw [toPys]; unfold PySem.W.alikeAll; rfl
  | x :: xs, [], _ => by rw [toPys, toPys, PySem.W.alikeAll]
  | x :: xs, y :: ys, h => by
    rw [alkDs, Bool.and_eq_true] at h
    rw [toPys, toPys, PySem.W.alikeAll, alk_py x y h.1, alks_py xs ys h.2]
    rfl
end
mutual
theorem lt_py : ∀ a b, noRef a = true → noRef b = true → alkD a b = true → ltD a b = PySem.W.dataLt (toPy a) (toPy b)
  | .int _, b, _, _, h => by
    cases b with
    | int j => rw [toPy, toPy, PySem.W.dataLt_int]; rfl
    | _ => cases h
  | .str _, b, _, _, h => by
    cases b with
    | str j => rw [toPy, toPy, PySem.W.dataLt_str]; exact ltW_eq _ _
    | _ => cases h
  | .tup xs, b, n1, n2, h => by
    cases b with
    | tup ys => rw [toPy, toPy, PySem.W.dataLt_tuple, ltD]; exact lts_py xs ys (by simpa [noRef] using n1) (by simpa [noRef] using n2) (by simpa [alkD] using h)
    | _ => cases h
  | .non, _, _, _, h => by cases h
  | .bl _, _, _, _, h => by cases h
  | .lst _, _, _, _, h => by cases h
  | .ref _, _, _, _, h => by cases h
theorem lts_py : ∀ xs ys, noRefs xs = true → noRefs ys = true → alkDs xs ys = true → ltDs xs ys = PyProof.Rows.lexLt itemOrd (PySem.W.keyToksAll (toPys xs)) (PySem.W.keyToksAll (toPys ys))
  | [], [], _, _, _ => by rw [toPys]; rfl
  | [], y :: ys, _, _, _ => by
    rw [toPys, toPys, ltDs, PySem.W.toks_all_cons, PySem.W.keyToksAll, lex_diff (O := itemOrd) (by simp)]
    rfl
  | x :: xs, [], _, _, _ => by
    rw [toPys, toPys, ltDs, PySem.W.toks_all_cons, PySem.W.keyToksAll, lex_diff (O := itemOrd) (by simp)]
    rfl
  | x :: xs, y :: ys, n1, n2, h => by
    rw [alkDs, Bool.and_eq_true] at h
    rw [noRefs, Bool.and_eq_true] at n1 n2
    rw [toPys, toPys, ltDs, PySem.W.dataLt_cons (alk_py x y h.1), eqD_py x y n1.1 n2.1, lts_py xs ys n1.2 n2.2 h.2, lt_py x y n1.1 n2.1 h.1]
end
section
variable {X : Cx}
def rOrdP (K : PySem.W.Frag) (f : PyData → PyData → Bool) : R2 := fun x y H Q => ∃ d e, Dp K H x d ∧ Dp K H y e ∧ PySem.W.alike d e = true ∧ d ≠ .none ∧ d.depth ≤ 60 ∧ Q (.bl (f d e)) H
theorem op_ltP (hu : X.A.units + 80 < cLine) : OpR X (compareOp .Lt) (rOrdP X.K fun d e => PySem.W.dataLt d e) := by
  intro pins s σ H x y v u Q I rx ry ⟨d, e, h1, h2, p1, p2, hd, q⟩
  obtain ⟨as, r1⟩ := Dp.reads I d x v h1 rx
  obtain ⟨bs, r2⟩ := Dp.reads I e y u h2 ry
  exact PySem.W.lt_data r1 r2 p1 p2 (by omega) ⟨.bl _, H, I, rfl, q⟩
theorem op_gtP (hu : X.A.units + 80 < cLine) : OpR X (compareOp .Gt) (rOrdP X.K fun d e => PySem.W.dataLt e d) := by
  intro pins s σ H x y v u Q I rx ry ⟨d, e, h1, h2, p1, p2, hd, q⟩
  obtain ⟨as, r1⟩ := Dp.reads I d x v h1 rx
  obtain ⟨bs, r2⟩ := Dp.reads I e y u h2 ry
  exact PySem.W.gt_data r1 r2 p1 p2 (by omega) ⟨.bl _, H, I, rfl, q⟩
theorem op_leP (hu : X.A.units + 80 < cLine) : OpR X (compareOp .LtE) (rOrdP X.K fun d e => !PySem.W.dataLt e d) := by
  intro pins s σ H x y v u Q I rx ry ⟨d, e, h1, h2, p1, p2, hd, q⟩
  obtain ⟨as, r1⟩ := Dp.reads I d x v h1 rx
  obtain ⟨bs, r2⟩ := Dp.reads I e y u h2 ry
  exact PySem.W.le_data r1 r2 p1 p2 (by omega) ⟨.bl _, H, I, rfl, q⟩
theorem op_geP (hu : X.A.units + 80 < cLine) : OpR X (compareOp .GtE) (rOrdP X.K fun d e => !PySem.W.dataLt d e) := by
  intro pins s σ H x y v u Q I rx ry ⟨d, e, h1, h2, p1, p2, hd, q⟩
  obtain ⟨as, r1⟩ := Dp.reads I d x v h1 rx
  obtain ⟨bs, r2⟩ := Dp.reads I e y u h2 ry
  exact PySem.W.ge_data r1 r2 p1 p2 (by omega) ⟨.bl _, H, I, rfl, q⟩
end
section
variable {wd : World} {K : PySem.W.Frag} {mu rho : List Addr} {H : Hp} {st : Store} {d e : D} {v u : V} {Q : VK} {c : Bool}
/-- x < y, by x and y in this order or the other -/
theorem ord_inv {f : Bool} (h : ordD d e f = some c) : noRef d = true ∧ noRef e = true ∧ alkD d e = true ∧ alkD e d = true ∧ dep d ≤ 60 ∧ dep e ≤ 60 ∧ c = if f = true then ltD d e else !ltD e d := by
  unfold ordD at h
  split at h
  · cases h
    refine ⟨rfl, rfl, rfl, rfl, by simp [dep], by simp [dep], ?_⟩
    cases f with
    | true => rfl
    | false =>
      show decide _ = !decide _
      rw [Bool.eq_iff_iff]
      simp
  · split at h
    · rename_i hh
      cases h
      exact ⟨hh.1, hh.2.1, hh.2.2.1, hh.2.2.2.1, hh.2.2.2.2.1, hh.2.2.2.2.2, rfl⟩
    · cases h
theorem alk_some (h : alkD d e = true) : toPy d ≠ .none := by
  cases d with
  | int i => intro z; cases z
  | str i => intro z; cases z
  | tup i => intro z; cases z
  | _ => cases h
theorem ord_lt (rx : Rl K mu rho H d v) (ry : Rl K mu rho H e u) (h : ordD d e true = some c) (q : Q (.bl c) H) : rOrdP K (fun d e => PySem.W.dataLt d e) v u H Q := by
  obtain ⟨n1, n2, a1, a2, d1, d2, rfl⟩ := ord_inv h
  refine ⟨_, _, rx.dp n1, ry.dp n2, alk_py _ _ a1, alk_some a1, by rw [toPy_depth]; exact d1, ?_⟩
  show Q (.bl _) H
  simp only [← lt_py d e n1 n2 a1]
  exact q
theorem ord_gt (rx : Rl K mu rho H d v) (ry : Rl K mu rho H e u) (h : ordD e d true = some c) (q : Q (.bl c) H) : rOrdP K (fun d e => PySem.W.dataLt e d) v u H Q := by
  obtain ⟨n1, n2, a1, a2, d1, d2, rfl⟩ := ord_inv h
  refine ⟨_, _, rx.dp n2, ry.dp n1, alk_py _ _ a2, alk_some a2, by rw [toPy_depth]; exact d2, ?_⟩
  show Q (.bl _) H
  simp only [← lt_py e d n1 n2 a1]
  exact q
theorem ord_le (rx : Rl K mu rho H d v) (ry : Rl K mu rho H e u) (h : ordD d e false = some c) (q : Q (.bl c) H) : rOrdP K (fun d e => !PySem.W.dataLt e d) v u H Q := by
  obtain ⟨n1, n2, a1, a2, d1, d2, rfl⟩ := ord_inv h
  refine ⟨_, _, rx.dp n1, ry.dp n2, alk_py _ _ a1, alk_some a1, by rw [toPy_depth]; exact d1, ?_⟩
  show Q (.bl _) H
  simp only [← lt_py e d n2 n1 a2]
  exact q
theorem ord_ge (rx : Rl K mu rho H d v) (ry : Rl K mu rho H e u) (h : ordD e d false = some c) (q : Q (.bl c) H) : rOrdP K (fun d e => !PySem.W.dataLt d e) v u H Q := by
  obtain ⟨n1, n2, a1, a2, d1, d2, rfl⟩ := ord_inv h
  refine ⟨_, _, rx.dp n2, ry.dp n1, alk_py _ _ a2, alk_some a2, by rw [toPy_depth]; exact d2, ?_⟩
  show Q (.bl _) H
  simp only [← lt_py d e n2 n1 a2]
  exact q
end
end Ow
/-! Tuples that are made: their objects have no attributes of their own. -/
namespace Ow
open PySem PySem.Spec PyProof.Rows L2

def tob (us : List Value) : Obj := { cls := .type "tuple", data := .seq us.toArray }
section
variable {X : Cx} {pins : List (Addr × Obj)} {σ : L2.St} {H : Hp} {s : Shared} {xs ys : List V} {us : List Value} {Q : VK}
/-- a new tuple is laid -/
theorem tup_laid (I : Inv X pins σ H s) (r : Vals xs us) (z : xs.length ≤ sizeLine) (q : ∀ p o, H p = none → o.dict = none → Q (.ref p) (upd H p (.frz o (.tup xs)))) :
    EP X pins σ Q (.ref s.heap.objs.size) { s with heap := s.heap.push (tob us) } := by
  have new : (s.heap.push (tob us)).get? s.heap.objs.size = some (tob us) := Heap.get?_push_size _ rfl
  have I2 := I.laid (a := s.heap.objs.size) (o := .frz (tob us) (.tup xs)) (h' := s.heap.push (tob us)) (t' := s.toks) (fun _ _ e => Heap.get?_push_of_some _ e) (Nat.le_refl _)
    (show ObjOk X.prog X.w _ _ _ (.frz (tob us) (.tup xs)) from ⟨new, z, us, r, IsTup.new _ _⟩)
  exact ⟨.ref s.heap.objs.size, _, I2, rfl, q _ _ (I.hok.fresh (Nat.le_refl _)) rfl⟩
def tTupF (t : TA) : TE := fun σ H Q => t σ H fun xs H1 => xs.length ≤ sizeLine ∧ ∀ p o, H1 p = none → o.dict = none → Q (.ref p) (upd H1 p (.frz o (.tup xs)))
theorem pe_tupF {es : List Expr} {k : Nat} {pos : Pos} {t : TA} (h : PA X es t) : PE X (.Tuple es k pos) (tTupF t) :=
  ⟨fun pins s σ H Q I hq => wpAny_Tuple_spliced (thn (h.run pos pins s σ H _ I hq) fun us s1 ⟨xs, H1, I1, r, z, q⟩ => ⟨Nat.le_trans (Nat.le_of_eq r.length.symm) z, tup_laid I1 r z q⟩)⟩
/-- tuple(x) of a list; of a tuple, it itself -/
def rTupF (K : PySem.W.Frag) : List V → Hp → VK → Prop := fun xs H Q => ∃ p ys, xs = [.ref p] ∧ ((SqL K H p ys ∧ ∀ l o, H l = none → o.dict = none → Q (.ref l) (upd H l (.frz o (.tup ys)))) ∨ (SqT K H p ys ∧ Q (.ref p) H))
theorem call_tupF : CallR X (.type "tuple") (rTupF X.K) := by
  intro pins s σ H xs us Q I r ⟨p, ys, e, h⟩
  subst e
  obtain ⟨u, e, rx⟩ := vals1 r
  subst e
  cases rx
  rcases h with ⟨hq, q⟩ | ⟨hq, q⟩
  · obtain ⟨its, rv, pl, hz⟩ := I.list hq
    have hs : its.length = ys.length := rv.length.symm
    exact call_tuple_list pl.isList (fun h' kp => tup_laid (s := { s with heap := h' }) (I.kept (t' := s.toks) kp) rv hz q) (by rw [List.size_toArray]; omega)
  · obtain ⟨its, rv, pl, hz⟩ := I.tuple hq
    exact call_tuple_same pl ⟨.ref p, H, I, rfl, q⟩
/-- t + u -/
def rCatF (K : PySem.W.Frag) : R2 := fun x y H Q => ∃ a b xs ys, x = .ref a ∧ y = .ref b ∧ SqT K H a xs ∧ SqT K H b ys ∧ xs.length + ys.length ≤ sizeLine ∧
  (xs = [] → Q (.ref b) H) ∧ (xs ≠ [] → ys = [] → Q (.ref a) H) ∧ (xs ≠ [] → ys ≠ [] → ∀ p o, H p = none → o.dict = none → Q (.ref p) (upd H p (.frz o (.tup (xs ++ ys)))))
theorem op_catF : OpR X (binaryOp .Add) (rCatF X.K) := by
  intro pins s σ H x y v u Q I rx ry ⟨a, b, xs, ys, e1, e2, ha, hb, hz, q0, q1, q2⟩
  subst e1 e2
  cases rx
  cases ry
  obtain ⟨as, ra, pa, _⟩ := I.tuple ha
  obtain ⟨bs, rb, pb, _⟩ := I.tuple hb
  by_cases hx : xs = []
  · subst hx
    cases ra
    exact cat_tup0 pa pb ⟨.ref b, H, I, rfl, q0 rfl⟩
  · have hs : as.length + bs.length ≤ sizeLine := by rw [← ra.length, ← rb.length]; exact hz
    refine HT.cat_tup pa pb (mt ra.nil_iff.mp hx) (fun z => ⟨.ref a, H, I, rfl, q1 hx (rb.nil_iff.mp z)⟩) (fun z => ?_) hs
    exact tup_laid I (ra.append rb) (by rw [List.length_append]; exact hz) (q2 hx (mt rb.nil_iff.mpr z))
/-- t[lo:hi] -/
def rSlF (K : PySem.W.Frag) : V → Option Int → Option Int → Hp → VK → Prop := fun x lo hi H Q => ∃ a xs, x = .ref a ∧ SqT K H a xs ∧
  (HT.sIx xs.length 0 lo = 0 ∧ HT.sIx xs.length xs.length hi = xs.length → Q (.ref a) H) ∧ (¬ (HT.sIx xs.length 0 lo = 0 ∧ HT.sIx xs.length xs.length hi = xs.length) → ∀ p o, H p = none → o.dict = none → Q (.ref p) (upd H p (.frz o (.tup (cutV xs lo hi)))))
theorem sl_tupF : SlR X (rSlF X.K) := by
  intro pins s σ H x v vl vu lo hi sl Q I rx hs pl pu ⟨a, xs, e, hx, q1, q2⟩
  subst e
  cases rx
  obtain ⟨its, r, ht, hz⟩ := I.tuple hx
  have hn : its.toArray.size = xs.length := by rw [List.size_toArray, r.length]
  refine ⟨"tuple", _, PyProof.Rows.slot_tuple_getitem.lookup, ht.typeIs, ?_⟩
  by_cases hw : HT.sIx xs.length 0 lo = 0 ∧ HT.sIx xs.length xs.length hi = xs.length
  · exact getItem_tuple_whole ht hs pl pu (by rw [hn]; exact hw) ⟨.ref a, H, I, rfl, q1 hw⟩
  · refine HT.getItem_tuple_cut ht hs pl pu (by rw [hn]; exact hw) ?_ (by rw [hn]; exact hz)
    rw [hn]
    exact tup_laid I ((r.drop _).take _) (Nat.le_trans (cutV_length xs lo hi) hz) (q2 hw)
end
end Ow
/-! + and * of rows and texts. -/
namespace Ow
open PySem PySem.Spec PyProof.Rows L2

/-! ### tuple * 1, tuple * 0 -/
theorem tupTimes1 (l : Addr) (its : Array Value) (n : Nat) (dd : Option Addr) (sl : Array (Option Value)) (u : Tok) :
    Meets (Builtin.«tuple.__mul__» ⟨[.ref l, .int 1 u], []⟩) (fun _ R s => s.heap.get? l = some { cls := .type "tuple", dict := dd, data := .seq its n, slots := sl } ∧ R (.ok (.ret (Value.ref l))) s) :=
  .of_wp fun prog w A R s h => by
    obtain ⟨hp, g, d, tk, os⟩ := s
    obtain ⟨hl, h⟩ := h
    have f1 := AutoSeq1.idx_int
    have c1 : (its.isEmpty || (1 : Int) == 1) = true := by simp
    wp_walk using wpAny_loadPart' hl
    repeat (first
      | (refine wpAny_ite_false (decide_eq_false (by decide)) ?_; wp_walk using wpAny_loadPart' hl)
      | (refine wpAny_ite_true (decide_eq_true c1) ?_; wp_walk using wpAny_loadPart' hl))
    exact ⟨_, rfl, h⟩
theorem tupTimes0 (l : Addr) (its : Array Value) (n : Nat) (dd : Option Addr) (sl : Array (Option Value)) (u : Tok) (c1 : its.isEmpty = false) :
    Meets (Builtin.«tuple.__mul__» ⟨[.ref l, .int 0 u], []⟩) (fun _ R s => s.heap.get? l = some { cls := .type "tuple", dict := dd, data := .seq its n, slots := sl } ∧
      R (.ok (.ret (Value.ref s.heap.objs.size))) { s with heap := s.heap.push { cls := Value.type "tuple", data := Data.seq #[] }, toks := s.toks }) :=
  .of_wp fun prog w A R s h => by
    obtain ⟨hp, g, d, tk, os⟩ := s
    obtain ⟨hl, h⟩ := h
    have f1 := AutoSeq1.idx_int
    have c2 : (its.isEmpty || (0 : Int) == 1) = false := by simp [c1]
    have c3 : (decide ((0 : Int) ≤ 0) || its.isEmpty) = true := by simp
    wp_walk using wpAny_loadPart' hl
    repeat (first
      | (refine wpAny_ite_false (decide_eq_false (by decide)) ?_; wp_walk using wpAny_loadPart' hl)
      | (refine wpAny_ite_false (decide_eq_false (by rw [c2]; exact Bool.false_ne_true)) ?_; wp_walk using wpAny_loadPart' hl)
      | (refine wpAny_ite_true (decide_eq_true c3) ?_; wp_walk using wpAny_loadPart' hl))
    exact ⟨_, rfl, h⟩

theorem repL_flat (xs : List D) : ∀ n, repL xs n = (List.replicate n xs).flatten
  | 0 => rfl
  | n + 1 => by rw [repL, repL_flat xs n, List.replicate_succ, List.flatten_cons]
section
variable {X : Cx} {pins : List (Addr × Obj)} {σ : L2.St} {H : Hp} {s : Shared} {l : Addr} {xs : List V}
theorem rd_list (I : Inv X pins σ H s) (h : Rd H l (.lst xs)) : ∃ (its : List Value) (n : Nat), xs.length ≤ sizeLine ∧ Vals xs its ∧ s.heap.get? l = some { cls := .type "list", data := .seq its.toArray n } := by
  obtain ⟨z, its, n, r, e⟩ := h.ok I.hok
  exact ⟨its, n, z, r, e⟩
theorem rd_tup (I : Inv X pins σ H s) (h : SqT X.K H l xs) : ∃ (its : List Value) (n : Nat) (dd : Option Addr) (sl : Array (Option Value)), xs.length ≤ sizeLine ∧ Vals xs its ∧ s.heap.get? l = some { cls := .type "tuple", dict := dd, data := .seq its.toArray n, slots := sl } := by
  obtain ⟨its, r, ⟨⟨cls, dd, data, sl⟩, ho, hc, n, hd⟩, hz⟩ := I.tuple h
  cases hc
  cases hd
  exact ⟨its, n, dd, sl, hz, r, ho⟩
/-- a + b, two lists -/
def rCatLs : R2 := fun x y H Q => ∃ l b xs ys, x = .ref l ∧ y = .ref b ∧ Rd H l (.lst xs) ∧ Rd H b (.lst ys) ∧ xs.length + ys.length ≤ sizeLine ∧ ∀ p, H p = none → Q (.ref p) (upd H p (.lst (xs ++ ys)))
theorem op_catLs : OpR X (binaryOp .Add) rCatLs := by
  intro pins s σ H x y v u Q I rx ry ⟨l, b, xs, ys, hx, hy, hl, hb, hz, q⟩
  subst hx hy
  cases rx
  cases ry
  obtain ⟨i1, n1, z1, r1, e1⟩ := rd_list I hl
  obtain ⟨i2, n2, z2, r2, e2⟩ := rd_list I hb
  have k : (i1.toArray.size + i2.toArray.size : Nat) ≤ sizeLine := by
    simp only [List.size_toArray]
    rw [← r1.length, ← r2.length]
    exact hz
  refine PySem.P.add_list e1 e2 ?_ k
  rw [show i1.toArray ++ i2.toArray = (i1 ++ i2).toArray from by simp]
  exact ⟨.ref _, _, I.lnew (t' := s.toks) (r1.append r2) (by rw [List.length_append]; exact hz), rfl, q _ I.fresh⟩
/-- a list * n -/
def rTimesL : R2 := fun x y H Q => ∃ l k xs, x = .ref l ∧ y = .int k ∧ Rd H l (.lst xs) ∧ -1000 ≤ k ∧ k ≤ 1000 ∧ xs.length ≤ 1000 ∧ ∀ p, H p = none → Q (.ref p) (upd H p (.lst (List.replicate k.toNat xs).flatten))
theorem op_timesL : OpR X (binaryOp .Mult) rTimesL := by
  intro pins s σ H x y v u Q I rx ry ⟨l, k, xs, hx, hy, hl, k1, k2, hz, q⟩
  subst hx hy
  cases rx
  obtain ⟨t, rfl⟩ := ry
  obtain ⟨its, n, z, r, e⟩ := rd_list I hl
  have hm : its.length * k.toNat ≤ 1000 * 1000 := Nat.mul_le_mul (by rw [← r.length]; exact hz) (by omega)
  have m1 := fun Q' => call_meets (prog := X.prog) (w := X.w) (A := X.A) (E := X.xe) (Q := Q') F.slot_int_rmul (typeIs_int s k t) F.entry_int_rmul (F.args_int_rmul_2 _ _)
    (int___rmul___int_list k t l its.toArray n)
  have m2 := fun Q' => call_meets (prog := X.prog) (w := X.w) (A := X.A) (E := X.xe) (s := s) (Q := Q') (self := .ref l) (rest := [.int k t]) F.slot_list_mul ⟨_, e, rfl⟩ F.entry_list_mul (F.args_list_mul_2 _ _)
    (AutoListH.list___mul___list_int_3 l its.toArray n k t (by simp [Builtin.List.listFitsIndex]; omega) (by rw [List.size_toArray]; omega)
      (by
        rw [List.size_toArray, notLongL (by rw [sizeLine_eq]; omega)]
        exact Bool.false_ne_true))
  refine wpAny_binaryOp_repeat_ref (by decide) ⟨_, e, rfl⟩ (fun s' => typeIs_int s' k t) noFill_list_mul F.fills_int_mul F.slot_int_rmul repeat_list
    F.slot_int_index.lookup (m1 _ ⟨e, rfl, ⟨_, e, rfl⟩, m2 _ ⟨e, ?_⟩⟩)
  have fl : ∀ j : Nat, List.foldl (fun a b => a ++ b) #[] (List.replicate j its.toArray) = (List.replicate j its).flatten.toArray := fun j => by
    simpa using foldl_rep its j []
  have fe : (List.replicate (if its.toArray.isEmpty = true then 0 else k.toNat) its).flatten = (List.replicate k.toNat its).flatten := by
    cases its with
    | nil => simp
    | cons c d => rfl
  rw [fl, fe]
  refine ⟨.ref _, _, I.lnew (t' := s.toks) (r.rep k.toNat) ?_, rfl, q _ I.fresh⟩
  rw [PyProof.Rows.lm_len_rep_flat, r.length, Nat.mul_comm, sizeLine_eq]
  omega
/-- a tuple * 1, * 0 -/
def rTimesT (K : PySem.W.Frag) : R2 := fun x y H Q => ∃ l k xs, x = .ref l ∧ y = .int k ∧ SqT K H l xs ∧ xs ≠ [] ∧ 0 ≤ k ∧ k ≤ 1000 ∧ xs.length ≤ 1000 ∧
  ((k = 1 ∧ Q (.ref l) H) ∨ (k ≠ 1 ∧ ∀ p o, H p = none → o.dict = none → Q (.ref p) (upd H p (.frz o (.tup (List.replicate k.toNat xs).flatten)))))
theorem op_timesT : OpR X (binaryOp .Mult) (rTimesT X.K) := by
  intro pins s σ H x y v u Q I rx ry ⟨l, k, xs, hx, hy, hl, hne, k0, k1, hz, q⟩
  subst hx hy
  cases rx
  obtain ⟨t, rfl⟩ := ry
  obtain ⟨its, n, dd, sl, z, r, e⟩ := rd_tup I hl
  have ne : its.toArray.isEmpty = false := by
    cases r with
    | nil => exact absurd rfl hne
    | cons _ _ => rfl
  have m1 := fun Q' => call_meets (prog := X.prog) (w := X.w) (A := X.A) (E := X.xe) (Q := Q') F.slot_int_rmul (typeIs_int s k t) F.entry_int_rmul (F.args_int_rmul_2 _ _)
    (int_rmul_tuple k t l its.toArray n dd sl)
  refine wpAny_binaryOp_repeat_ref (by decide) ⟨_, e, rfl⟩ (fun s' => typeIs_int s' k t) noFill_tuple_mul F.fills_int_mul F.slot_int_rmul repeat_tuple
    F.slot_int_index.lookup (m1 _ ⟨e, rfl, ⟨_, e, rfl⟩, ?_⟩)
  rcases q with ⟨rfl, q⟩ | ⟨h1, q⟩
  · exact call_meets F.slot_tuple_mul ⟨_, e, rfl⟩ F.entry_tuple_mul (F.args_tuple_mul_2 _ _) (tupTimes1 l its.toArray n dd sl t) ⟨e, ⟨.ref l, H, I, rfl, q⟩⟩
  · by_cases h0 : k = 0
    · subst h0
      refine call_meets F.slot_tuple_mul ⟨_, e, rfl⟩ F.entry_tuple_mul (F.args_tuple_mul_2 _ _) (tupTimes0 l its.toArray n dd sl t ne) ⟨e, ?_⟩
      exact tup_laid (us := []) I .nil (Nat.zero_le _) q
    · have lits : its.length = xs.length := r.length.symm
      have sits : its.toArray.size = xs.length := by rw [List.size_toArray, lits]
      have fl : (List.replicate k.toNat its).flatten.length ≤ sizeLine := by
        have a1 : k.toNat * xs.length ≤ 1000 * 1000 := Nat.mul_le_mul (by omega) hz
        rw [PyProof.Rows.lm_len_rep_flat, lits, sizeLine_eq]
        omega
      have prod : ((its.toArray.size : Nat) : Int) * k ≤ 1000 * k := by rw [sits]; exact Int.mul_le_mul_of_nonneg_right (by omega) (by omega)
      have b0 : (decide (k < -(2 ^ 63)) || decide (k ≥ 2 ^ 63)) = false := by simp; omega
      have b1 : (its.toArray.isEmpty || k == 1) = false := by rw [ne]; simp [h1]
      have b2 : (decide (k ≤ 0) || its.toArray.isEmpty) = false := by rw [ne]; simp; omega
      have b4 : Builtin.Tuple.tupleTooMany (((its.toArray.size : Nat) : Int) * k) = false := by
        unfold Builtin.Tuple.tupleTooMany
        simp only [sizeLine_eq, decide_eq_false_iff_not]
        omega
      refine call_meets F.slot_tuple_mul ⟨_, e, rfl⟩ F.entry_tuple_mul (F.args_tuple_mul_2 _ _) (tuple_mulW l its.toArray n dd sl k t b0 b1 b2 (by omega) b4 (by rw [size_rep, List.size_toArray]; exact fl)) ⟨e, ?_⟩
      rw [size_rep]
      exact tup_laid (us := (List.replicate k.toNat its).flatten) I (r.rep k.toNat) (by rw [(r.rep k.toNat).length]; exact fl) q
/-- a text * n -/
def rTimesS : R2 := fun x y H Q => ∃ z k, x = .str z ∧ y = .int k ∧ -1000 ≤ k ∧ k ≤ 1000 ∧ z.length ≤ 1000 ∧ Q (.str ⟨(List.replicate k.toNat z.cps.toList).flatten.toArray⟩) H
theorem foldl_repA (z : Array Nat) : ∀ n, (List.replicate n z).foldl (· ++ ·) #[] = (List.replicate n z.toList).flatten.toArray := fun n => by
  have k : ∀ (n : Nat) (acc : List Nat), (List.replicate n z).foldl (· ++ ·) acc.toArray = (acc ++ (List.replicate n z.toList).flatten).toArray := by
    intro n
    induction n with
    | zero => intro acc; simp
    | succ n ih =>
      intro acc
      rw [List.replicate_succ, List.foldl_cons, show acc.toArray ++ z = (acc ++ z.toList).toArray from by simp, ih, List.replicate_succ, List.flatten_cons, List.append_assoc]
  simpa using k n []
theorem op_timesS : OpR X (binaryOp .Mult) rTimesS := by
  intro pins s σ H x y v u Q I rx ry ⟨z, k, hx, hy, k1, k2, hz, q⟩
  subst hx hy
  obtain ⟨t, rfl⟩ := rx
  obtain ⟨t', rfl⟩ := ry
  have fin : ∀ (x' : Str) (t : Tok) (tk : Nat), x' = ⟨(List.replicate k.toNat z.cps.toList).flatten.toArray⟩ → EP X pins σ Q (.str x' t) { s with toks := tk } := fun x' t tk h => by
    subst h
    exact ⟨.str _, H, I.tok _, ⟨_, rfl⟩, q⟩
  have hm : ∀ j : Int, j ≤ 1000 → z.length * j.toNat ≤ 1000 * 1000 := fun j h => Nat.mul_le_mul hz (by omega)
  refine PySem.P.mul_str (by simp; omega) (fun h1 _ h3 => ?_) (fun h1 _ => ?_) ?_
  · have a1 : (1000 : Int) ≤ (2 ^ 63 - 1) / k := by
      refine (Int.le_ediv_iff_mul_le (by omega)).mpr ?_
      omega
    omega
  · unfold Builtin.Str.tooLong
    rw [sizeLine_eq]
    have := hm k k2
    exact decide_eq_false (by omega)
  · split
    · refine ⟨by decide, fin _ _ _ ?_⟩
      rw [show k.toNat = 0 from by omega]
      rfl
    · split
      · rename_i h1 h2
        refine fin _ _ _ ?_
        rw [Bool.or_eq_true] at h2
        rcases h2 with h2 | h2
        · have : k = 1 := by simpa using h2
          subst this
          cases z
          simp
        · have : z.cps = #[] := by
            have h3 : z.length = 0 := by simpa using h2
            have h4 : z.cps.size = 0 := h3
            exact Array.eq_empty_of_size_eq_zero h4
          cases z
          cases this
          simp
      · refine ⟨?_, fin _ _ _ (by rw [foldl_repA])⟩
        rw [foldl_repA]
        show ((List.replicate k.toNat z.cps.toList).flatten.toArray).size ≤ sizeLine
        rw [List.size_toArray, PyProof.Rows.lm_len_rep_flat, sizeLine_eq, Nat.mul_comm]
        have := hm k k2
        have e : z.cps.toList.length = z.length := by simp [PySem.Str.length]
        rw [e]
        omega
end
end Ow
/-! Two-place operations and comparisons, by value. -/
namespace Ow
open PySem PySem.Spec PyProof.Rows L2

def bopOf : Bop → Operator
  | .add => .Add
  | .sub => .Sub
  | .mul => .Mult
  | .fdiv => .FloorDiv
  | .mod => .Mod
  | .pow => .Pow
def rStrCat : R2 := fun x y H Q => ∃ i j, x = .str i ∧ y = .str j ∧ i.length + j.length ≤ sizeLine ∧ Q (.str (i ++ j)) H
def rBin (K : PySem.W.Frag) : Bop → R2
  | .add => fun x y H Q => ((rI0 (fun i j => .int (i + j)) x y H Q ∨ rStrCat x y H Q) ∨ rCatF K x y H Q) ∨ rCatLs x y H Q
  | .sub => rI0 fun i j => .int (i - j)
  | .mul => fun x y H Q => ((rI CMul (fun i j => .int (i * j)) x y H Q ∨ rTimesS x y H Q) ∨ rTimesT K x y H Q) ∨ rTimesL x y H Q
  | .fdiv => rI CDivW fun i j => .int (i / j)
  | .mod => rI (fun _ j => 0 < j) fun i j => .int (i % j)
  | .pow => rI CPow fun i j => .int (i ^ j.toNat)
theorem op_bin {X : Cx} : ∀ o : Bop, OpR X (binaryOp (bopOf o)) (rBin X.K o)
  | .add => ((op_add.or op_add_str).or op_catF).or op_catLs
  | .sub => op_sub
  | .mul => ((op_mul.or op_timesS).or op_timesT).or op_timesL
  | .fdiv => op_fdivW
  | .mod => op_mod
  | .pow => op_pow
theorem toS_append (a b : W) : toS a ++ toS b = toS (a ++ b) := by
  show (⟨(toS a).cps ++ (toS b).cps⟩ : Str) = _
  simp [toS]
theorem repW_flat (w : W) : ∀ n, repW w n = (List.replicate n w).flatten
  | 0 => rfl
  | n + 1 => by rw [repW, repW_flat w n, List.replicate_succ, List.flatten_cons]
section
variable {wd : World} {K : PySem.W.Frag} {mu rho : List Addr} {H : Hp} {st st' : Store} {ds es : List D} {d e f : D} {v u : V} {vs ws : List V} {Q : VK} {m : Bool}
theorem Rl.int_inv {i : Int} (r : Rl K mu rho H (.int i) v) : v = .int i := by cases r; rfl
theorem Rl.str_inv {w : W} (r : Rl K mu rho H (.str w) v) : v = .str (toS w) := by cases r; rfl
theorem Rl.bl_inv {b : Bool} (r : Rl K mu rho H (.bl b) v) : v = .bl b := by cases r; rfl
theorem Rls.nil_iff (r : Rls K mu rho H ds vs) : ds = [] ↔ vs = [] := by
  cases r with
  | nil => simp
  | cons _ _ => simp
theorem Rls.rep (r : Rls K mu rho H ds vs) : ∀ n : Nat, Rls K mu rho H (repL ds n) (List.replicate n vs).flatten
  | 0 => .nil
  | n + 1 => by
    rw [repL, List.replicate_succ, List.flatten_cons]
    exact r.append (Rls.rep r n)
theorem bin_add (S : Sim wd K mu rho H st) (rx : Rl K mu rho H d v) (ry : Rl K mu rho H e u) (h : binD m .add d e st = some (f, st')) (q : Fin wd K mu rho H f st' Q) : rBin K .add v u H Q := by
  have lists : (∀ xs, d ≠ .tup xs) → (∀ xs, e ≠ .tup xs) → (match rowOf st d, rowOf st e with
      | some a, some b => mkL m (a ++ b) st
      | _, _ => none) = some (f, st') → rBin K .add v u H Q := fun n1 n2 hh => by
    split at hh
    · rename_i a b ea eb
      obtain ⟨pa, va, rfl, ha, ra⟩ := rx.lst_inv S ea n1
      obtain ⟨pb, vb, rfl, hb, rb⟩ := ry.lst_inv S eb n2
      refine .inr ⟨pa, pb, va, vb, rfl, rfl, ha, hb, ?_, Fin.newLst S (ra.append rb) hh q⟩
      have := mkL_len hh
      rw [List.length_append, ra.length, rb.length] at this
      exact this
    · cases hh
  cases d with
  | int i =>
    have e1 := rx.int_inv
    subst e1
    cases e with
    | int j =>
      cases h
      have e2 := ry.int_inv
      subst e2
      exact .inl (.inl (.inl ⟨i, j, rfl, rfl, q.here S (.int _)⟩))
    | tup _ => cases h
    | _ => exact lists (fun _ z => by cases z) (fun _ z => by cases z) h
  | str a =>
    have e1 := rx.str_inv
    subst e1
    cases e with
    | str b =>
      have e2 := ry.str_inv
      subst e2
      simp only [binD] at h
      split at h
      · rename_i hl
        cases h
        refine .inl (.inl (.inr ⟨_, _, rfl, rfl, ?_, ?_⟩))
        · rw [toS_len, toS_len, ← SZ_line]; exact hl
        · rw [toS_append]; exact q.here S (.str _)
      · cases h
    | tup _ => cases h
    | _ => exact lists (fun _ z => by cases z) (fun _ z => by cases z) h
  | tup xs =>
    cases e with
    | tup ys =>
      obtain ⟨pa, va, rfl, ha, ra⟩ := rx.tup_inv
      obtain ⟨pb, vb, rfl, hb, rb⟩ := ry.tup_inv
      simp only [binD] at h
      split at h
      · rename_i hl
        cases h
        refine .inl (.inr ⟨pa, pb, va, vb, rfl, rfl, ha.seq, hb.seq, ?_, fun z => ?_, fun _ z => ?_, fun _ _ => Fin.newTup S (ra.append rb) q⟩)
        · rw [← ra.length, ← rb.length, ← SZ_line]; exact hl
        · have : xs = [] := ra.nil_iff.mpr z
          subst this
          exact q.here S ry
        · have : ys = [] := rb.nil_iff.mpr z
          subst this
          rw [List.append_nil] at q
          exact q.here S rx
      · cases h
    | _ => cases h
  | non => cases e <;> first | (cases h; done) | exact lists (fun _ z => by cases z) (fun _ z => by cases z) h
  | bl b => cases e <;> first | (cases h; done) | exact lists (fun _ z => by cases z) (fun _ z => by cases z) h
  | lst xs => cases e <;> first | (cases h; done) | exact lists (fun _ z => by cases z) (fun _ z => by cases z) h
  | ref n => cases e <;> first | exact lists (fun _ z => by cases z) (fun _ z => by cases z) h | (cases h; done)
theorem bin_mul (S : Sim wd K mu rho H st) (rx : Rl K mu rho H d v) (ry : Rl K mu rho H e u) (h : binD m .mul d e st = some (f, st')) (q : Fin wd K mu rho H f st' Q) : rBin K .mul v u H Q := by
  have hj : ∃ j, e = .int j := by
    cases d <;> cases e <;> first | exact ⟨_, rfl⟩ | cases h
  obtain ⟨j, rfl⟩ := hj
  have e2 := ry.int_inv
  subst e2
  cases d with
  | int i =>
    have e1 := rx.int_inv
    subst e1
    simp only [binD] at h
    split at h
    · rename_i hc
      cases h
      exact .inl (.inl (.inl ⟨i, j, rfl, rfl, hc, q.here S (.int _)⟩))
    · cases h
  | str w =>
    have e1 := rx.str_inv
    subst e1
    simp only [binD] at h
    split at h
    · rename_i hc
      cases h
      refine .inl (.inl (.inr ⟨_, _, rfl, rfl, hc.1, hc.2.1, by rw [toS_len]; exact hc.2.2, ?_⟩))
      rw [toS_cps, ← repW_flat]
      exact q.here S (.str _)
    · cases h
  | tup xs =>
    obtain ⟨pa, va, rfl, ha, ra⟩ := rx.tup_inv
    simp only [binD] at h
    split at h
    · rename_i hc
      cases h
      have ne : va ≠ [] := fun z => by
        have := ra.nil_iff.mpr z
        rw [this] at hc
        exact absurd hc.2.2.1 (by simp)
      refine .inl (.inr ⟨pa, j, va, rfl, rfl, ha.seq, ne, hc.1, hc.2.1, by rw [← ra.length]; exact hc.2.2.2, ?_⟩)
      by_cases h1 : j = 1
      · subst h1
        refine .inl ⟨rfl, ?_⟩
        have : repL xs (1 : Int).toNat = xs := by
          show xs ++ [] = xs
          rw [List.append_nil]
        rw [this] at q
        exact q.here S rx
      · exact .inr ⟨h1, Fin.newTup S (ra.rep _) q⟩
    · cases h
  | lst xs =>
    obtain ⟨pa, va, rfl, ha, ra⟩ := rx.lst_inv S rfl (fun _ z => by cases z)
    simp only [binD] at h
    split at h
    · rename_i hc
      exact .inr ⟨pa, j, va, rfl, rfl, ha, hc.1, hc.2.1, by rw [← ra.length]; exact hc.2.2, Fin.newLst S (ra.rep _) h q⟩
    · cases h
  | _ => cases h
theorem log2_64 {j : Int} (h : 0 < j) (h2 : j < 2 ^ 64) : j.natAbs.log2 < 9000 := by
  have : j.natAbs < 2 ^ 64 := by omega
  have := Nat.log2_lt (n := j.natAbs) (k := 64) (by omega) |>.mpr this
  omega
theorem bin_ok {o : Bop} (S : Sim wd K mu rho H st) (rx : Rl K mu rho H d v) (ry : Rl K mu rho H e u) (h : binD m o d e st = some (f, st')) (q : Fin wd K mu rho H f st' Q) : rBin K o v u H Q := by
  cases o with
  | add => exact bin_add S rx ry h q
  | mul => exact bin_mul S rx ry h q
  | sub =>
    cases d <;> cases e <;> first | (cases h; done) | skip
    cases h
    cases rx; cases ry
    exact ⟨_, _, rfl, rfl, q.here S (.int _)⟩
  | fdiv =>
    cases d <;> cases e <;> first | (cases h; done) | skip
    cases rx; cases ry
    simp only [binD] at h
    split at h
    · rename_i hc
      cases h
      exact ⟨_, _, rfl, rfl, ⟨hc.1, log2_64 hc.1 hc.2⟩, q.here S (.int _)⟩
    · cases h
  | mod =>
    cases d <;> cases e <;> first | (cases h; done) | skip
    cases rx; cases ry
    simp only [binD] at h
    split at h
    · rename_i hc
      cases h
      exact ⟨_, _, rfl, rfl, hc, q.here S (.int _)⟩
    · cases h
  | pow =>
    cases d <;> cases e <;> first | (cases h; done) | skip
    cases rx; cases ry
    simp only [binD] at h
    split at h
    · rename_i hc
      cases h
      exact ⟨_, _, rfl, rfl, hc, q.here S (.int _)⟩
    · cases h
end
end Ow
/-! Dicts: cells of pairs. -/
namespace Ow
open PySem PySem.Spec PyProof.Rows L2

theorem b2n_eq (a b : Bool) : (a == b) = decide (b2n a = b2n b) := by cases a <;> cases b <;> rfl
mutual
theorem eqD_nk : ∀ a b : D, keyIt a = true → keyIt b = true → eqD a b = (nk a).beq (nk b)
  | .non, b, _, hb => by cases b <;> first | rfl | cases hb
  | .bl x, b, _, hb => by
    cases b with
    | bl y => rw [eqD, nk, nk, NestedKey.beq]; exact b2n_eq x y
    | int y => rw [eqD, nk, nk, NestedKey.beq]; show (b2n x == y) = _; rw [Bool.eq_iff_iff]; simp
    | ref n => cases hb
    | lst n => cases hb
    | _ => rfl
  | .int x, b, _, hb => by
    cases b with
    | bl y => rw [eqD, nk, nk, NestedKey.beq]; show (x == b2n y) = _; rw [Bool.eq_iff_iff]; simp
    | int y => rw [eqD, nk, nk, NestedKey.beq]; show (x == y) = _; rw [Bool.eq_iff_iff]; simp
    | ref n => cases hb
    | lst n => cases hb
    | _ => rfl
  | .str x, b, _, hb => by
    cases b with
    | str y =>
      rw [eqD, nk, nk, NestedKey.beq, Bool.eq_iff_iff, eqW_iff, decide_eq_true_iff]
      exact ⟨fun h => by rw [h], toS_inj⟩
    | ref n => cases hb
    | lst n => cases hb
    | _ => rfl
  | .tup xs, b, ha, hb => by
    cases b with
    | tup ys => rw [eqD, nk, nk, NestedKey.beq]; exact eqDs_nk xs ys (by simpa [keyIt] using ha) (by simpa [keyIt] using hb)
    | ref n => cases hb
    | lst n => cases hb
    | _ => rfl
  | .lst _, _, ha, _ => by cases ha
  | .ref _, _, ha, _ => by cases ha
theorem eqDs_nk : ∀ as bs : List D, keyIts as = true → keyIts bs = true → eqDs as bs = NestedKey.beqAll (nks as) (nks bs)
  | [], [], _, _ => rfl
  | [], _ :: _, _, _ => rfl
  | _ :: _, [], _, _ => rfl
  | x :: xs, y :: ys, ha, hb => by
    have ha' : keyIt x = true ∧ keyIts xs = true := by simpa [keyIts] using ha
    have hb' : keyIt y = true ∧ keyIts ys = true := by simpa [keyIts] using hb
    rw [eqDs, nks, nks, NestedKey.beqAll, eqD_nk x y ha'.1 hb'.1, eqDs_nk xs ys ha'.2 hb'.2]
end
theorem eqD_key {a b : D} (ha : keyIt a = true) (hb : keyIt b = true) : eqD a b = decide (nk a = nk b) := by rw [eqD_nk a b ha hb, NestedKey.decide_eq]
mutual
theorem nk_depth : ∀ d : D, keyIt d = true → (nk d).depth = dep d
  | .non, _ => rfl
  | .bl _, _ => rfl
  | .int _, _ => rfl
  | .str _, _ => rfl
  | .tup xs, h => by rw [nk, NestedKey.depth, dep, nks_depth xs (by simpa [keyIt] using h)]
  | .lst _, h => by cases h
  | .ref _, h => by cases h
theorem nks_depth : ∀ ds : List D, keyIts ds = true → NestedKey.depthAll (nks ds) = deps ds
  | [], _ => rfl
  | x :: xs, h => by
    have h' : keyIt x = true ∧ keyIts xs = true := by simpa [keyIts] using h
    rw [nks, NestedKey.depthAll, deps, nk_depth x h'.1, nks_depth xs h'.2]
end
mutual
theorem key_noRef : ∀ d : D, keyIt d = true → noRef d = true
  | .non, _ => rfl
  | .bl _, _ => rfl
  | .int _, _ => rfl
  | .str _, _ => rfl
  | .tup xs, h => by rw [noRef]; exact keys_noRef xs (by simpa [keyIt] using h)
  | .lst _, h => by cases h
  | .ref _, h => by cases h
theorem keys_noRef : ∀ ds : List D, keyIts ds = true → noRefs ds = true
  | [], _ => rfl
  | x :: xs, h => by
    have h' : keyIt x = true ∧ keyIts xs = true := by simpa [keyIts] using h
    rw [noRefs, key_noRef x h'.1, keys_noRef xs h'.2]
    rfl
end
mutual
theorem nested_of {h : Heap} : ∀ (d : D) (u : Value) (as : List Addr), keyIt d = true → Reads h u (toPy d) as → NestedIs h (nk d) u
  | .non, _, _, _, r => by cases r; exact .none
  | .bl b, _, _, _, r => by cases r; exact .bool rfl
  | .int i, _, _, _, r => by cases r; exact .int _ _
  | .str w, _, _, _, r => by cases r; exact .text _ _
  | .tup xs, _, _, k, r => by
    rw [toPy] at r
    cases r with
    | tuple h1 h2 h3 h4 => rw [nk]; exact .tup h1 h2 h3 (nesteds_of xs _ _ (by simpa [keyIt] using k) h4)
  | .lst _, _, _, k, _ => by cases k
  | .ref _, _, _, k, _ => by cases k
theorem nesteds_of {h : Heap} : ∀ (ds : List D) (us : List Value) (as : List Addr), keyIts ds = true → ReadsAll h us (toPys ds) as → NestedAll h (nks ds) us
  | [], _, _, _, r => by rw [toPys] at r; cases r; exact .nil
  | x :: xs, _, _, k, r => by
    have k' : keyIt x = true ∧ keyIts xs = true := by simpa [keyIts] using k
    rw [toPys] at r
    cases r with
    | cons h1 h2 => rw [nks]; exact .cons (nested_of x _ _ k'.1 h1) (nesteds_of xs _ _ k'.2 h2)
end
/-- what a dict's key is -/
theorem dk_inv {kvs : List (D × D)} {d : D} (h : dkOk kvs d = true) : keyIt d = true ∧ ((∃ w, d = .str w ∧ ∀ p ∈ kvs, isStr p.1 = true) ∨ (∃ xs, d = .tup xs ∧ dep d ≤ 8 ∧ ∀ p ∈ kvs, isTupD p.1 = true)) := by
  cases d with
  | str w => exact ⟨rfl, .inl ⟨w, rfl, fun p hp => List.all_eq_true.mp h p hp⟩⟩
  | tup xs =>
    unfold dkOk at h
    rw [Bool.and_eq_true, Bool.and_eq_true] at h
    refine ⟨by rw [keyIt]; exact h.1.1, .inr ⟨xs, rfl, ?_, fun p hp => List.all_eq_true.mp h.2 p hp⟩⟩
    rw [dep]
    exact Nat.le_of_ble_eq_true h.1.2
  | _ => cases h

/-! the object -/
section
variable {P : Program} {w : World} {a : Addr} {h : Heap}
/-- the entries whose keys are texts -/
def asStr (xs : List (NestedKey × Value × Value)) : List (Str × Value) := xs.map fun x => (match x.1 with | .text s => s | _ => ⟨#[]⟩, x.2.2)
def keyAddr : Value → Addr
  | .ref a => a
  | _ => 0
def asTup (xs : List (NestedKey × Value × Value)) : List (NestedKey × Addr × Value) := xs.map fun x => (x.1, keyAddr x.2.1, x.2.2)
def IsTx (x : NestedKey × Value × Value) : Prop := ∃ s t, x.1 = .text s ∧ x.2.1 = .str s t
def IsTu (h : Heap) (x : NestedKey × Value × Value) : Prop := ∃ b, x.2.1 = .ref b ∧ NestedIs h x.1 (.ref b) ∧ x.1.depth ≤ 8
theorem tx_pairs : ∀ {xs : List (NestedKey × Value × Value)} {ds : List DictEntry}, (∀ x ∈ xs, IsTx x) → ds = xs.map (rawE w) → Pairs (strKind P w) ds (asStr xs)
  | [], _, _, e => by rw [e]; exact .nil
  | x :: xs, _, hx, e => by
    rw [e, List.map_cons]
    obtain ⟨s, t, h1, h2⟩ := hx x (List.mem_cons_self ..)
    unfold asStr
    rw [List.map_cons]
    refine .cons ?_ rfl (tx_pairs (fun y hy => hx y (List.mem_cons_of_mem _ hy)) rfl)
    show (strKind P w).is _ x.2.1 = true
    rw [h1, h2]
    exact PySem.strKind_is P w s t
theorem tx_keys : ∀ {xs : List (NestedKey × Value × Value)}, (∀ x ∈ xs, IsTx x) → (xs.map (·.1)).Nodup → ((asStr xs).map (·.1)).Nodup := by
  intro xs hx hn
  unfold asStr
  rw [List.map_map]
  have : ∀ (l : List (NestedKey × Value × Value)), (∀ x ∈ l, IsTx x) → (l.map (·.1)).Nodup → (l.map ((fun x : Str × Value => x.1) ∘ fun x : NestedKey × Value × Value => (match x.1 with | .text s => s | _ => ⟨#[]⟩, x.2.2))).Nodup := by
    intro l
    induction l with
    | nil => intro _ _; exact List.nodup_nil
    | cons x l ih =>
      intro hx hn
      rw [List.map_cons, List.nodup_cons] at hn ⊢
      refine ⟨fun hm => hn.1 ?_, ih (fun y hy => hx y (List.mem_cons_of_mem _ hy)) hn.2⟩
      obtain ⟨y, hy, e⟩ := List.mem_map.mp hm
      obtain ⟨s, t, h1, _⟩ := hx x (List.mem_cons_self ..)
      obtain ⟨s', t', h1', _⟩ := hx y (List.mem_cons_of_mem _ hy)
      refine List.mem_map.mpr ⟨y, hy, ?_⟩
      dsimp only [Function.comp_apply] at e
      rw [h1, h1'] at e
      rw [h1, h1']
      exact congrArg _ e
  exact this xs hx hn
theorem tx_dict {xs : List (NestedKey × Value × Value)} {o : Obj} {ds : Array DictEntry} {ep : Nat} (hx : ∀ x ∈ xs, IsTx x) (hn : (xs.map (·.1)).Nodup) (h1 : h.get? a = some o) (h2 : o.ExactDict) (h3 : o.data = .dict ds ep) (h4 : ds.toList = xs.map (rawE w)) :
    h.DictOf (strKind P w) a (asStr xs) := by
  refine ⟨o, ds, ep, h1, h2, h3, fun e he => ?_, tx_pairs hx h4, tx_keys hx hn⟩
  have he' : e ∈ ds.toList := Array.mem_toList_iff.mpr he
  rw [h4] at he'
  obtain ⟨x, hm, rfl⟩ := List.mem_map.mp he'
  obtain ⟨s, t, e1, e2⟩ := hx x hm
  refine ⟨s, ?_, ?_⟩
  · show (strKind P w).is s x.2.1 = true
    rw [e2]
    exact PySem.strKind_is P w s t
  · show x.1.hash w = hashStr w s
    rw [e1]
    rfl
theorem tu_dict {xs : List (NestedKey × Value × Value)} {o : Obj} {ds : Array DictEntry} {ep : Nat} (hx : ∀ x ∈ xs, IsTu h x) (hn : (xs.map (·.1)).Nodup) (h1 : h.get? a = some o) (h2 : o.ExactDict) (h3 : o.data = .dict ds ep) (h4 : ds.toList = xs.map (rawE w)) :
    h.DictOfH (nestedKind P w) a (asTup xs) := by
  refine ⟨o, ds, ep, h1, h2, h3, ?_, fun x hm => ?_, ?_⟩
  · rw [h4]
    unfold asTup
    rw [List.map_map]
    refine List.map_congr_left fun x hm => ?_
    obtain ⟨b, e1, _, _⟩ := hx x hm
    unfold rawE entryOfKey
    dsimp only [Function.comp_apply]
    rw [e1]
    rfl
  · unfold asTup at hm
    obtain ⟨y, hy, rfl⟩ := List.mem_map.mp hm
    obtain ⟨b, e1, e2, e3⟩ := hx y hy
    refine ⟨?_, e3⟩
    show NestedIs h y.1 (.ref (keyAddr y.2.1))
    rw [e1]
    exact e2
  · unfold asTup
    rw [List.map_map]
    exact hn
end
theorem Rl.str_inv' {K : PySem.W.Frag} {mu rho : List Addr} {H : Hp} {w : W} {v : V} (r : Rl K mu rho H (.str w) v) : v = .str (toS w) := by cases r; rfl
section
variable {X : Cx} {mu rho : List Addr} {pins : List (Addr × Obj)} {σ : L2.St} {H : Hp} {s : Shared} {st : Store} {n : Nat} {a : Addr} {kvs : List (D × D)} {ks vs : List V} {d e f : D} {x y v : V} {u : Value} {Q : VK}
theorem ent_len : ∀ {kvs : List (D × D)} {ks vs : List V}, ks.length = kvs.length → vs.length = kvs.length → (ent kvs ks vs).map (·.1) = kvs.map fun p => nk p.1
  | [], _, _, _, _ => by simp [ent]
  | p :: kvs, [], _, h, _ => by simp at h
  | p :: kvs, _ :: _, [], _, h => by simp at h
  | p :: kvs, k :: ks, v :: vs, h1, h2 => by
    rw [ent, List.map_cons, List.map_cons, ent_len (by simpa using h1) (by simpa using h2)]
theorem par_keys : ∀ {es : List (NestedKey × V × V)} {xs : List (NestedKey × Value × Value)}, Paired EntR es xs → xs.map (·.1) = es.map (·.1)
  | _, _, .nil => rfl
  | _, _, .cons h t => by rw [List.map_cons, List.map_cons, par_keys t, h.1]
/-- looking up goes along -/
theorem look_ent {K : PySem.W.Frag} (hd : keyIt d = true) : ∀ {kvs : List (D × D)} {ks vs : List V} {xs : List (NestedKey × Value × Value)}, (∀ p ∈ kvs, keyIt p.1 = true) → ks.length = kvs.length → Rls K mu rho H (kvs.map (·.2)) vs → Paired EntR (ent kvs ks vs) xs →
    (lookD d kvs = none → xs.find? (fun z => decide (z.1 = nk d)) = none) ∧ ∀ f, lookD d kvs = some f → ∃ z v, xs.find? (fun z => decide (z.1 = nk d)) = some z ∧ RelV v z.2.2 ∧ Rl K mu rho H f v
  | [], ks, vs, xs, _, _, _, p => by
    rw [ent] at p
    cases p
    · exact ⟨fun _ => rfl, fun f h => by cases h⟩
    · intro p r k ks v vs h; cases h
  | q :: kvs, [], _, _, _, h, _, _ => by simp at h
  | q :: kvs, k :: ks, _, xs, hk, hl, .cons r rs, p => by
    rw [ent] at p
    cases p with
    | @cons _ z _ zs h t =>
      have ih := look_ent hd (fun y hy => hk y (List.mem_cons_of_mem _ hy)) (by simpa using hl) rs t
      have e1 : eqD q.1 d = decide (z.1 = nk d) := by rw [eqD_key (hk q (List.mem_cons_self ..)) hd, ← h.1]
      rw [lookD, e1]
      by_cases c : z.1 = nk d
      · rw [if_pos (decide_eq_true c), List.find?_cons_of_pos (by exact decide_eq_true c)]
        exact ⟨fun z => (by cases z), fun f hf => ⟨z, _, rfl, h.2.2, by cases hf; exact r⟩⟩
      · rw [if_neg (by rw [decide_eq_true_iff]; exact c), List.find?_cons_of_neg (by rw [decide_eq_true_iff]; exact c)]
        exact ih
theorem rls_nth {K : PySem.W.Frag} : ∀ {kvs : List (D × D)} {ks vs : List V} {xs : List (NestedKey × Value × Value)}, Rls K mu rho H (kvs.map (·.1)) ks → ks.length = kvs.length → vs.length = kvs.length → Paired EntR (ent kvs ks vs) xs →
    ∀ z ∈ xs, ∃ p k, p ∈ kvs ∧ z.1 = nk p.1 ∧ Rl K mu rho H p.1 k ∧ RelV k z.2.1
  | [], _, _, xs, _, _, _, p, z, hz => by
    rw [ent] at p
    · cases p; cases hz
    · intro p r k ks v vs h; cases h
  | q :: kvs, _, [], xs, _, _, h, _, z, hz => by simp at h
  | q :: kvs, _, v :: vs, xs, .cons (v := k) r rs, hl, hv, p, z, hz => by
    rw [ent] at p
    cases p with
    | @cons _ y _ ys h t =>
      rcases List.mem_cons.mp hz with e | hz
      · subst e
        exact ⟨q, k, List.mem_cons_self .., h.1.symm, r, h.2.1⟩
      · obtain ⟨p', k', h1, h2⟩ := rls_nth rs (by simpa using hl) (by simpa using hv) t z hz
        exact ⟨p', k', List.mem_cons_of_mem _ h1, h2⟩
/-- a dict's cell, opened -/
structure DctW (X : Cx) (mu rho : List Addr) (H : Hp) (s : Shared) (a : Addr) (kvs : List (D × D)) (ks vs : List V) (xs : List (NestedKey × Value × Value)) (o : Obj) (ds : Array DictEntry) (ep : Nat) : Prop where
  keys : ∀ p ∈ kvs, KvOk p
  kit : ∀ p ∈ kvs, keyIt p.1 = true
  len : kvs.length ≤ SZ
  rk : Rls X.K mu rho H (kvs.map (·.1)) ks
  rv : Rls X.K mu rho H (kvs.map (·.2)) vs
  lk : ks.length = kvs.length
  lv : vs.length = kvs.length
  par : Paired EntR (ent kvs ks vs) xs
  low : (a == sysModules) = false
  get : s.heap.get? a = some o
  ex : o.ExactDict
  dat : o.data = .dict ds ep
  ents : ds.toList = xs.map (rawE X.w)
  nd : (xs.map (·.1)).Nodup
  at_ : H a = some (DctO X.w a (ent kvs ks vs))
theorem kit_of {p : D × D} (h : KvOk p) : keyIt p.1 = true := (dk_inv h.2.2).1
theorem dct_open (I : Inv X pins σ H s) (S : Sim X.w X.K mu rho H st) (en : st[n]? = some (.dct kvs)) (ea : rho[n]? = some a) : ∃ ks vs xs o ds ep, DctW X mu rho H s a kvs ks vs xs o ds ep := by
  obtain ⟨h1, h2, h3, ks, vs, h4, h5, h6⟩ := S.cells _ _ _ en ea
  obtain ⟨⟨low, xs, hp, o, ds, ep, g1, g2, g3, g4⟩, _, _⟩ := (show ObjOk X.prog X.w H s.heap a (.ext (DctAt X.w a (ent kvs ks vs))) from I.hok a _ h4)
  have l1 : ks.length = kvs.length := by have := h5.length; rw [List.length_map] at this; exact this.symm
  have l2 : vs.length = kvs.length := by have := h6.length; rw [List.length_map] at this; exact this.symm
  exact ⟨ks, vs, xs, o, ds, ep, h1, fun p hp => kit_of (h1 p hp), h3, h5, h6, l1, l2, hp, low, g1, g2, g3, g4, by rw [par_keys hp, ent_len l1 l2]; exact h2, h4⟩
theorem nk_str {d : D} (h : isStr d = true) : ∃ w, d = .str w := by cases d <;> first | exact ⟨_, rfl⟩ | cases h
theorem nk_tup {d : D} (h : isTupD d = true) : ∃ w, d = .tup w := by cases d <;> first | exact ⟨_, rfl⟩ | cases h
section
variable {ks : List V} {xs : List (NestedKey × Value × Value)} {o : Obj} {ds : Array DictEntry} {ep : Nat}
theorem DctW.txt (W : DctW X mu rho H s a kvs ks vs xs o ds ep) (hs : ∀ p ∈ kvs, isStr p.1 = true) : ∀ z ∈ xs, IsTx z := fun z hz => by
  obtain ⟨p, k, h1, h2, h3, h4⟩ := rls_nth W.rk W.lk W.lv W.par z hz
  obtain ⟨w, hw⟩ := nk_str (hs p h1)
  rw [hw] at h2 h3
  have := h3.str_inv'
  subst this
  obtain ⟨t, ht⟩ := h4
  exact ⟨toS w, t, h2, ht⟩
theorem DctW.tup (I : Inv X pins σ H s) (W : DctW X mu rho H s a kvs ks vs xs o ds ep) (hs : ∀ p ∈ kvs, isTupD p.1 = true) : ∀ z ∈ xs, IsTu s.heap z := fun z hz => by
  obtain ⟨p, k, h1, h2, h3, h4⟩ := rls_nth W.rk W.lk W.lv W.par z hz
  obtain ⟨ys, hw⟩ := nk_tup (hs p h1)
  have kp := W.kit p h1
  obtain ⟨as, hr⟩ := Dp.reads I _ _ _ (h3.dp (key_noRef _ kp)) h4
  have hn := nested_of _ _ _ kp hr
  have h3' := h3
  rw [hw] at h3'
  obtain ⟨b, ws, rfl, _, _⟩ := h3'.tup_inv
  have e : z.2.1 = .ref b := h4
  rw [e] at hn
  refine ⟨b, e, by rw [h2]; exact hn, ?_⟩
  rw [h2, nk_depth _ kp]
  have := (W.keys p h1).2.2
  rcases (dk_inv this).2 with ⟨w, hw', _⟩ | ⟨_, _, hd, _⟩
  · rw [hw] at hw'; cases hw'
  · exact hd
theorem find_str {k : Str} : ∀ {xs : List (NestedKey × Value × Value)}, (∀ z ∈ xs, IsTx z) → valueAt (asStr xs) k = (xs.find? fun z => decide (z.1 = .text k)).map (·.2.2)
  | [], _ => rfl
  | z :: xs, h => by
    obtain ⟨s, t, h1, h2⟩ := h z (List.mem_cons_self ..)
    have ih := find_str (k := k) (xs := xs) fun y hy => h y (List.mem_cons_of_mem _ hy)
    unfold asStr valueAt at ih ⊢
    rw [List.map_cons, h1]
    by_cases c : s = k
    · subst c
      rw [List.find?_cons_of_pos (by simp), List.find?_cons_of_pos (by simp [h1])]
      rfl
    · rw [List.find?_cons_of_neg (by simpa using c), List.find?_cons_of_neg (by rw [h1]; simpa using c)]
      exact ih
theorem find_tup {k : NestedKey} : ∀ {xs : List (NestedKey × Value × Value)}, atKey (asTup xs) k = (xs.find? fun z => decide (z.1 = k)).map fun z => (keyAddr z.2.1, z.2.2)
  | [] => rfl
  | z :: xs => by
    have ih := find_tup (k := k) (xs := xs)
    unfold asTup atKey at ih ⊢
    rw [List.map_cons]
    by_cases c : z.1 = k
    · rw [List.find?_cons_of_pos (by simpa using c), List.find?_cons_of_pos (by simpa using c)]
      rfl
    · rw [List.find?_cons_of_neg (by simpa using c), List.find?_cons_of_neg (by simpa using c)]
      exact ih
/-- the key's value -/
theorem key_is (I : Inv X pins σ H s) (r : Rl X.K mu rho H d x) (rx : RelV x u) (hk : dkOk kvs d = true) :
    (∃ w, d = .str w ∧ (∀ p ∈ kvs, isStr p.1 = true) ∧ (strKind X.prog X.w).is (toS w) u = true) ∨ (∃ b, u = .ref b ∧ (∀ p ∈ kvs, isTupD p.1 = true) ∧ (nestedKind X.prog X.w).is s.heap (nk d) b) := by
  obtain ⟨h1, h2⟩ := dk_inv hk
  rcases h2 with ⟨w, rfl, h3⟩ | ⟨ys, rfl, h3, h4⟩
  · have := r.str_inv'
    subst this
    obtain ⟨t, rfl⟩ := rx
    exact .inl ⟨w, rfl, h3, PySem.strKind_is X.prog X.w _ t⟩
  · obtain ⟨as, hr⟩ := Dp.reads I _ _ _ (r.dp (key_noRef _ h1)) rx
    have hn := nested_of _ _ _ h1 hr
    obtain ⟨b, ws, rfl, _, _⟩ := r.tup_inv
    have e : u = .ref b := rx
    subst e
    exact .inr ⟨b, rfl, h4, hn, by rw [nk_depth _ h1]; exact h3⟩
theorem room_ok {A : Around} (hu : A.units + 80 < cLine) : (nestedKind X.prog X.w).room A.in1 := by
  show A.units + 1 + 8 < cLine
  omega
end
end
end Ow
/-! Dicts: what is asked of them. -/
namespace Ow
open PySem PySem.Spec PyProof.Rows L2
section
variable {X : Cx}
/-- k in d -/
def rDIn (wd : World) (K : PySem.W.Frag) (g : Bool → Bool) : R2 := fun x y H Q => ∃ mu rho st d e kvs, Sim wd K mu rho H st ∧ Rl K mu rho H d x ∧ Rl K mu rho H e y ∧ dctOf st e = some kvs ∧ dkOk kvs d = true ∧ Q (.bl (g (lookD d kvs).isSome)) H
theorem dctOf_ref {K : PySem.W.Frag} {mu rho : List Addr} {H : Hp} {st : Store} {e : D} {y : V} {kvs : List (D × D)} (h : dctOf st e = some kvs) (r : Rl K mu rho H e y) : ∃ n a, e = .ref n ∧ y = .ref a ∧ st[n]? = some (.dct kvs) ∧ rho[n]? = some a := by
  cases e with
  | ref n =>
    cases r with
    | ref ea =>
      unfold dctOf at h
      dsimp only at h
      split at h
      · rename_i kvs' hn
        cases h
        exact ⟨n, _, rfl, rfl, hn, ea⟩
      · cases h
  | _ => cases h
theorem find_some {K : PySem.W.Frag} {mu rho : List Addr} {H : Hp} {d : D} {kvs : List (D × D)} {xs : List (NestedKey × Value × Value)}
    (L : (lookD d kvs = none → xs.find? (fun z => decide (z.1 = nk d)) = none) ∧ ∀ f, lookD d kvs = some f → ∃ z v, xs.find? (fun z => decide (z.1 = nk d)) = some z ∧ RelV v z.2.2 ∧ Rl K mu rho H f v) :
    (xs.find? (fun z => decide (z.1 = nk d))).isSome = (lookD d kvs).isSome := by
  cases h : lookD d kvs with
  | none => rw [L.1 h]; rfl
  | some f =>
    obtain ⟨z, v, e, _⟩ := L.2 f h
    rw [e]
    rfl
theorem op_dIn (hu : X.A.units + 80 < cLine) : OpR X (compareOp .In) (rDIn X.w X.K id) := by
  intro pins s σ H x y v u Q I rx ry ⟨mu, rho, st, d, e, kvs, S, r1, r2, hd, hk, q⟩
  obtain ⟨n, a, rfl, rfl, en, ea⟩ := dctOf_ref hd r2
  obtain ⟨ks, vs, xs, o, ds, ep, W⟩ := dct_open I S en ea
  have L := look_ent (dk_inv hk).1 W.kit W.lk W.rv W.par
  have L2 := find_some L
  cases (show u = Value.ref a from ry)
  rcases key_is I r1 rx hk with ⟨w, rfl, hs, is⟩ | ⟨b, rfl, hs, is⟩
  · have dd := tx_dict (P := X.prog) (W.txt hs) W.nd W.get W.ex W.dat W.ents
    refine wpAny_in_of is W.low dd.mapOf ?_
    rw [find_str (W.txt hs), Option.isSome_map, show (.text (toS w) : NestedKey) = nk (.str w) from rfl, L2]
    exact ⟨.bl _, H, I.tok _, rfl, q⟩
  · have dd := tu_dict (P := X.prog) (W.tup I hs) W.nd W.get W.ex W.dat W.ents
    refine wpAny_in_heap (room_ok hu) is W.low dd ?_
    rw [find_tup, Option.isSome_map, L2]
    exact ⟨.bl _, H, I.tok _, rfl, q⟩
theorem op_dNotIn (hu : X.A.units + 80 < cLine) : OpR X (compareOp .NotIn) (rDIn X.w X.K (!·)) := by
  intro pins s σ H x y v u Q I rx ry ⟨mu, rho, st, d, e, kvs, S, r1, r2, hd, hk, q⟩
  obtain ⟨n, a, rfl, rfl, en, ea⟩ := dctOf_ref hd r2
  obtain ⟨ks, vs, xs, o, ds, ep, W⟩ := dct_open I S en ea
  have L := look_ent (dk_inv hk).1 W.kit W.lk W.rv W.par
  have L2 := find_some L
  cases (show u = Value.ref a from ry)
  rcases key_is I r1 rx hk with ⟨w, rfl, hs, is⟩ | ⟨b, rfl, hs, is⟩
  · have dd := tx_dict (P := X.prog) (W.txt hs) W.nd W.get W.ex W.dat W.ents
    refine wpAny_notIn_of is W.low dd.mapOf ?_
    rw [find_str (W.txt hs), Option.isSome_map, show (.text (toS w) : NestedKey) = nk (.str w) from rfl, L2]
    exact ⟨.bl _, H, I.tok _, rfl, q⟩
  · have dd := tu_dict (P := X.prog) (W.tup I hs) W.nd W.get W.ex W.dat W.ents
    refine wpAny_notIn_heap (room_ok hu) is W.low dd ?_
    rw [find_tup, Option.isSome_map, L2]
    exact ⟨.bl _, H, I.tok _, rfl, q⟩
/-- d[k], there -/
def rDIx (wd : World) (K : PySem.W.Frag) : R2 := fun x y H Q => ∃ mu rho st d e f kvs, Sim wd K mu rho H st ∧ Rl K mu rho H e x ∧ Rl K mu rho H d y ∧ dctOf st e = some kvs ∧ dkOk kvs d = true ∧ lookD d kvs = some f ∧ ∀ z, Rl K mu rho H f z → Q z H
theorem ix_dct (hu : X.A.units + 80 < cLine) : IxR X (rDIx X.w X.K) := by
  intro value slice pins s σ H x y v u Q I rx ry ⟨mu, rho, st, d, e, f, kvs, S, r2, r1, hd, hk, hf, q⟩ hs0
  obtain ⟨n, a, rfl, rfl, en, ea⟩ := dctOf_ref hd r2
  obtain ⟨ks, vs, xs, o, ds, ep, W⟩ := dct_open I S en ea
  obtain ⟨z, f', hz, hv, hr⟩ := (look_ent (dk_inv hk).1 W.kit W.lk W.rv W.par).2 f hf
  cases (show v = Value.ref a from rx)
  rcases key_is I r1 ry hk with ⟨w, rfl, hs, is⟩ | ⟨b, rfl, hs, is⟩
  · have dd := tx_dict (P := X.prog) (W.txt hs) W.nd W.get W.ex W.dat W.ents
    refine tail_any dd.typeIs slot_dict_getitem.lookup (wpAny_getItem_of (v := z.2.2) is dd.mapOf ?_ ⟨f', H, I.tok _, hv, q _ hr⟩) hs0
    rw [find_str (W.txt hs)]
    exact congrArg (Option.map _) hz
  · have dd := tu_dict (P := X.prog) (W.tup I hs) W.nd W.get W.ex W.dat W.ents
    refine tail_any dd.typeIs slot_dict_getitem.lookup (wpAny_getItem_heap (p := (keyAddr z.2.1, z.2.2)) (room_ok hu) is dd ?_ ⟨f', H, I.tok _, hv, q _ hr⟩) hs0
    rw [find_tup, hz]
    rfl
/-- d.get(k, x) -/
theorem d_get {pins : List (Addr × Obj)} {σ : L2.St} {H : Hp} {s : Shared} {mu rho : List Addr} {st : Store} {n : Nat} {a : Addr} {kvs : List (D × D)} {d f0 : D} {x y : V} {u r : Value} {E : Value → Shared → Prop} {Q : VK} (hu : X.A.units + 80 < cLine) (I : Inv X pins σ H s)
    (S : Sim X.w X.K mu rho H st) (en : st[n]? = some (.dct kvs)) (ea : rho[n]? = some a) (r1 : Rl X.K mu rho H d x) (rx : RelV x u) (r2 : Rl X.K mu rho H f0 y) (ry : RelV y r) (hk : dkOk kvs d = true) (q : ∀ z, Rl X.K mu rho H ((lookD d kvs).getD f0) z → Q z H) :
    wpAny (model X.prog X.w) X.A (PySem.call (.builtin "dict.get") [.ref a, u, r]) (EP X pins σ Q) E s := by
  obtain ⟨ks, vs, xs, o, ds, ep, W⟩ := dct_open I S en ea
  have L := look_ent (dk_inv hk).1 W.kit W.lk W.rv W.par
  have fin : ∀ t, EP X pins σ Q (((xs.find? fun z => decide (z.1 = nk d)).map (·.2.2)).getD r) { s with toks := t } := fun t => by
    cases h : lookD d kvs with
    | none =>
      rw [L.1 h]
      rw [h] at q
      exact ⟨y, H, I.tok _, ry, q _ r2⟩
    | some f =>
      obtain ⟨z, v, e, hv, hr⟩ := L.2 f h
      rw [e]
      rw [h] at q
      exact ⟨v, H, I.tok _, hv, q _ hr⟩
  rcases key_is I r1 rx hk with ⟨w, rfl, hs, is⟩ | ⟨b, rfl, hs, is⟩
  · have dd := tx_dict (P := X.prog) (W.txt hs) W.nd W.get W.ex W.dat W.ents
    refine call_meetsIn PySem.F.slot_dict_get dd.typeIs PySem.F.entry_dict_get (PySem.F.args_dict_get_3 _ _ _) (meets_dict_get_default (strKind X.prog X.w) a is W.low r) ⟨_, dd.mapOf, ?_⟩
    rw [find_str (W.txt hs)]
    exact fin _
  · have dd := tu_dict (P := X.prog) (W.tup I hs) W.nd W.get W.ex W.dat W.ents
    refine call_meetsIn PySem.F.slot_dict_get dd.typeIs PySem.F.entry_dict_get (PySem.F.args_dict_get_3 _ _ _) (meetsH_dict_get_default (nestedKind X.prog X.w) a b W.low r) ⟨room_ok hu, nk d, _, is, dd, ?_⟩
    have e : (atKey (asTup xs) (nk d)).map (·.2) = (xs.find? fun z => decide (z.1 = nk d)).map (·.2.2) := by rw [find_tup, Option.map_map]; rfl
    rw [e]
    exact fin _
end
end Ow
/-! Comparisons and truth, by value. -/
namespace Ow
open PySem PySem.Spec PyProof.Rows L2

def copOf : Cop → CmpOp
  | .eq => .Eq
  | .ne => .NotEq
  | .lt => .Lt
  | .le => .LtE
  | .gt => .Gt
  | .ge => .GtE
  | .is => .Is
  | .isnot => .IsNot
  | .isin => .In
  | .notin => .NotIn
def rIsNon : R2 := fun x y H Q => y = .non ∧ Q (.bl (decide (x = .non))) H
def rNotNon : R2 := fun x y H Q => y = .non ∧ Q (.bl (!decide (x = .non))) H
def rSignIn : R2 := fun x y H Q => ∃ (c : Nat) (z : Str), x = .str ⟨#[c]⟩ ∧ y = .str z ∧ Q (.bl (decide (c ∈ z.cps.toList))) H
def rSignOut : R2 := fun x y H Q => ∃ (c : Nat) (z : Str), x = .str ⟨#[c]⟩ ∧ y = .str z ∧ Q (.bl (!decide (c ∈ z.cps.toList))) H
def rCmp (wd : World) (K : PySem.W.Frag) : Cop → R2
  | .eq => rEqP K id
  | .ne => rEqP K (!·)
  | .lt => rOrdP K fun d e => PySem.W.dataLt d e
  | .le => rOrdP K fun d e => !PySem.W.dataLt e d
  | .gt => rOrdP K fun d e => PySem.W.dataLt e d
  | .ge => rOrdP K fun d e => !PySem.W.dataLt d e
  | .is => fun x y H Q => rIsNon x y H Q ∨ rIsB x y H Q
  | .isnot => fun x y H Q => rNotNon x y H Q ∨ rNotB x y H Q
  | .isin => fun x y H Q => (rInP K id x y H Q ∨ rSignIn x y H Q) ∨ rDIn wd K id x y H Q
  | .notin => fun x y H Q => (rInP K (!·) x y H Q ∨ rSignOut x y H Q) ∨ rDIn wd K (!·) x y H Q
theorem op_cmpK {X : Cx} (hu : X.A.units + 80 < cLine) : ∀ o : Cop, OpR X (compareOp (copOf o)) (rCmp X.w X.K o)
  | .eq => op_eqP hu
  | .ne => op_neP hu
  | .lt => op_ltP hu
  | .le => op_leP hu
  | .gt => op_gtP hu
  | .ge => op_geP hu
  | .is => op_isN.or op_isBl
  | .isnot => op_notN.or op_notBl
  | .isin => ((op_inP hu).or op_in_sign).or (op_dIn hu)
  | .notin => ((op_notinP hu).or op_notIn_sign).or (op_dNotIn hu)
theorem memN_mem (c : Nat) : ∀ w : W, memN c w = decide (c ∈ w)
  | [] => by simp [memN]
  | a :: w => by
    rw [memN, memN_mem c w, Bool.eq_iff_iff]
    simp only [Bool.or_eq_true, decide_eq_true_iff, List.mem_cons, Nat.beq_eq]
    exact or_congr eq_comm Iff.rfl
section
variable {wd : World} {K : PySem.W.Frag} {mu rho : List Addr} {H : Hp} {st st' : Store} {ds es : List D} {d e f : D} {v u : V} {vs ws : List V} {Q : VK} {c : Bool}
theorem inD0_rule {g : Bool → Bool} (S : Sim wd K mu rho H st) (rx : Rl K mu rho H d v) (ry : Rl K mu rho H e u) (h : inD0 st d e = some c) (q : Q (.bl (g c)) H) :
    rInP K g v u H Q ∨ ∃ (c' : Nat) (z : Str), v = .str ⟨#[c']⟩ ∧ u = .str z ∧ Q (.bl (g (decide (c' ∈ z.cps.toList)))) H := by
  have rows : (∀ w, e ≠ .str w) → (match valOf st d, rowOf st e with
      | some x, some ys => if noRefs ys = true ∧ dep x ≤ 60 ∧ deps ys ≤ 60 then some (memD x ys) else none
      | _, _ => none) = some c → rInP K g v u H Q := fun _ hh => by
    split at hh
    · rename_i x ys ex ey
      split at hh
      · rename_i hc
        cases hh
        obtain ⟨d1, n1⟩ := valOf_dp S rx ex
        have d2 := rowOf_dp S ry ey hc.1
        refine ⟨_, _, d1, d2, toPy_plain _, toPys_plain _, by rw [toPy_depth]; exact hc.2.1, ?_⟩
        rw [← memD_py n1 ys hc.1]
        exact q
      · cases hh
    · cases hh
  by_cases hs : ∀ w, e ≠ .str w
  · refine .inl (rows hs ?_)
    cases e with
    | str w => exact absurd rfl (hs w)
    | _ => exact h
  · cases e with
    | str w =>
      have e2 := ry.str_inv
      subst e2
      simp only [inD0] at h
      split at h
      · rename_i c'
        cases h
        have e1 := rx.str_inv
        subst e1
        refine .inr ⟨c', _, rfl, rfl, ?_⟩
        rw [toS_cps, ← memN_mem]
        exact q
      · cases h
    | _ => exact absurd (fun w z => by cases z) hs
theorem inD_rule {g : Bool → Bool} (S : Sim wd K mu rho H st) (rx : Rl K mu rho H d v) (ry : Rl K mu rho H e u) (h : inD st d e = some c) (q : Q (.bl (g c)) H) :
    (rInP K g v u H Q ∨ ∃ (c' : Nat) (z : Str), v = .str ⟨#[c']⟩ ∧ u = .str z ∧ Q (.bl (g (decide (c' ∈ z.cps.toList)))) H) ∨ rDIn wd K g v u H Q := by
  unfold inD at h
  split at h
  · rename_i kvs hd
    split at h
    · rename_i hk
      cases h
      exact .inr ⟨mu, rho, st, d, e, kvs, S, rx, ry, hd, hk, q⟩
    · cases h
  · exact .inl (inD0_rule S rx ry h q)
theorem rl_non (rx : Rl K mu rho H d v) : decide (v = .non) = isNon d := by
  cases rx <;> first | rfl | simp
theorem isD_inv (h : isD d e = some c) : (e = .non ∧ c = isNon d) ∨ ∃ a b, d = .bl a ∧ e = .bl b ∧ c = (a == b) := by
  cases e with
  | non => cases h; exact .inl ⟨rfl, rfl⟩
  | bl b =>
    cases d with
    | bl a => cases h; exact .inr ⟨_, _, rfl, rfl, rfl⟩
    | _ => cases h
  | _ => cases h
theorem beq_dec (a b : Bool) : decide (a = b) = (a == b) := by cases a <;> cases b <;> rfl
theorem map_not {o : Option Bool} (h : o.map (!·) = some c) : o = some (!c) := by
  cases o with
  | none => cases h
  | some x => cases h; simp
theorem cmp_ok {o : Cop} (S : Sim wd K mu rho H st) (rx : Rl K mu rho H d v) (ry : Rl K mu rho H e u) (h : cmpD o d e st = some c) (q : Q (.bl c) H) : rCmp wd K o v u H Q := by
  cases o with
  | eq => exact eqS_rule (f := id) S rx ry h q
  | ne => exact eqS_rule (f := (!·)) S rx ry (map_not h) (by simpa using q)
  | lt => exact ord_lt rx ry h q
  | le => exact ord_le rx ry h q
  | gt => exact ord_gt rx ry h q
  | ge => exact ord_ge rx ry h q
  | is =>
    rcases isD_inv h with ⟨rfl, rfl⟩ | ⟨a, b, rfl, rfl, rfl⟩
    · cases ry
      exact .inl ⟨rfl, by rw [rl_non rx]; exact q⟩
    · cases rx; cases ry
      exact .inr ⟨a, b, rfl, rfl, by rw [beq_dec]; exact q⟩
  | isnot =>
    have h := map_not h
    rcases isD_inv h with ⟨rfl, hc⟩ | ⟨a, b, rfl, rfl, hc⟩
    · cases ry
      refine .inl ⟨rfl, ?_⟩
      rw [rl_non rx, ← hc, Bool.not_not]
      exact q
    · cases rx; cases ry
      refine .inr ⟨a, b, rfl, rfl, ?_⟩
      rw [beq_dec, ← hc, Bool.not_not]
      exact q
  | isin => exact inD_rule (g := id) S rx ry h q
  | notin => exact inD_rule (g := (!·)) S rx ry (map_not h) (by simpa using q)
theorem tru_d (S : Sim wd K mu rho H st) (rx : Rl K mu rho H d v) (h : truthy st d = some c) : TruV K v H c := by
  cases rx with
  | non => cases h; rfl
  | bl b => cases h; rfl
  | int i => cases h; rfl
  | str w =>
    simp only [truthy] at h
    split at h
    · rename_i hl
      cases h
      refine ⟨by rw [toS_len, ← SZ_line]; exact hl, ?_⟩
      rw [toS_len]
      cases w with
      | nil => rfl
      | cons a b => simp; omega
    · cases h
  | tup ht _ r =>
    cases h
    refine .inr (.inl ⟨_, ht.seq, ?_⟩)
    cases r <;> rfl
  | lst ht r =>
    cases h
    refine .inl ⟨_, ht.seq, ?_⟩
    cases r <;> rfl
  | ref ea =>
    simp only [truthy] at h
    split at h
    · rename_i hn
      cases h
      obtain ⟨_, vs, h2, h3⟩ := S.cells _ _ _ hn ea
      refine .inl ⟨vs, .inl (.inl h2), ?_⟩
      cases h3 <;> rfl
    · cases h
end
end Ow
/-! Items, slices, the built-in functions, by value. -/
namespace Ow
open PySem PySem.Spec PyProof.Rows L2
section
variable {wd : World} {K : PySem.W.Frag} {mu rho : List Addr} {H : Hp} {st st' : Store} {ds es : List D} {d e f : D} {v u : V} {vs ws : List V} {Q : VK} {m : Bool}
theorem ixOf_eq (n : Nat) (i : Int) : ixOf n i = ixN n i := rfl
theorem ix_get {n k : Nat} {i : Int} (h : ixOf n i = some k) (hl : ds.length = n) (hv : vs.length = n) (r : Rls K mu rho H ds vs) (e : ds[k]? = some d) : ∃ v, atI vs i = some v ∧ Rl K mu rho H d v := by
  obtain ⟨v, h1, h2⟩ := r.get k e
  refine ⟨v, ?_, h2⟩
  unfold atI
  rw [hv, ← ixOf_eq, h]
  exact h1
theorem ix0_ok (S : Sim wd K mu rho H st) (rx : Rl K mu rho H d v) (ry : Rl K mu rho H e u) (h : ixD0 d e st = some f) (q : ∀ z, Rl K mu rho H f z → Q z H) : rIx K v u H Q := by
  have hi : ∃ i, e = .int i := by
    cases e <;> first | exact ⟨_, rfl⟩ | cases h
  obtain ⟨i, rfl⟩ := hi
  have e2 := ry.int_inv
  subst e2
  by_cases hs : ∀ w, d ≠ .str w
  · have h' : (match rowOf st d with
      | some xs => match ixOf xs.length i with
        | some k => xs[k]?
        | none => none
      | none => none) = some f := by
      cases d with
      | str w => exact absurd rfl (hs w)
      | _ => exact h
    split at h'
    · rename_i xs ex
      split at h'
      · rename_i k ek
        obtain ⟨a, ws, rfl, hq, hr⟩ := rx.row_inv S ex
        obtain ⟨z, hz, rz⟩ := ix_get ek rfl hr.length.symm hr h'
        rcases hq with hq | hq
        · exact .inl ⟨a, ws, i, z, rfl, rfl, hq, hz, q z rz⟩
        · exact .inr (.inl ⟨a, ws, i, z, rfl, rfl, hq, hz, q z rz⟩)
      · cases h'
    · cases h'
  · cases d with
    | str w =>
      have e1 := rx.str_inv
      subst e1
      simp only [ixD0] at h
      split at h
      · rename_i hl
        split at h
        · rename_i k ek
          split at h
          · rename_i c ec
            cases h
            refine .inr (.inr ⟨toS w, i, c, rfl, rfl, by rw [toS_len, ← SZ_line]; exact hl, ?_, q _ (.str [c])⟩)
            rw [toS_cps]
            unfold atI
            rw [← ixOf_eq, ek]
            exact ec
          · cases h
        · cases h
      · cases h
    | _ => exact absurd (fun w z => by cases z) hs

theorem ix_ok (S : Sim wd K mu rho H st) (rx : Rl K mu rho H d v) (ry : Rl K mu rho H e u) (h : ixD d e st = some f) (q : ∀ z, Rl K mu rho H f z → Q z H) : rIx K v u H Q ∨ rDIx wd K v u H Q := by
  unfold ixD at h
  split at h
  · rename_i kvs hd
    unfold getDk at h
    rw [hd] at h
    dsimp only at h
    split at h
    · rename_i o ho
      split at ho
      · rename_i hk
        cases ho
        exact .inr ⟨mu, rho, st, e, d, f, kvs, S, rx, ry, hd, hk, h, q⟩
      · cases ho
    · cases h
  · exact .inl (ix0_ok S rx ry h q)
theorem cutIx_eq (n d : Nat) : ∀ o, cutIx n d o = HT.sIx n d o
  | none => rfl
  | some _ => rfl
theorem Rls.cut (lo hi : Option Int) (r : Rls K mu rho H ds vs) : Rls K mu rho H (cutL ds lo hi) (cutV vs lo hi) := by
  unfold cutL cutV
  rw [cutIx_eq, cutIx_eq, r.length]
  exact Rls.take _ (Rls.drop _ r)
def rSl (K : PySem.W.Frag) : V → Option Int → Option Int → Hp → VK → Prop := fun x lo hi H Q => (rSlF K x lo hi H Q ∨ rSlL K x lo hi H Q) ∨ rSlS x lo hi H Q
theorem sl_any {X : Cx} : SlR X (rSl X.K) := (sl_tupF.or sl_list).or sl_str
theorem cut_whole {lo hi : Option Int} (h : HT.sIx ds.length 0 lo = 0 ∧ HT.sIx ds.length ds.length hi = ds.length) : cutL ds lo hi = ds := by
  unfold cutL
  rw [cutIx_eq, cutIx_eq, h.1, h.2]
  simp
theorem sl_ok {lo hi : Option Int} (S : Sim wd K mu rho H st) (rx : Rl K mu rho H d v) (h : slD m d lo hi st = some (f, st')) (q : Fin wd K mu rho H f st' Q) : rSl K v lo hi H Q := by
  have lists : (∀ xs, d ≠ .tup xs) → (match rowOf st d with
    | some xs => mkL m (cutL xs lo hi) st
    | none => none) = some (f, st') → rSl K v lo hi H Q := fun nt hh => by
    split at hh
    · rename_i xs ex
      obtain ⟨a, ws, rfl, ha, ra⟩ := rx.lst_inv S ex nt
      exact .inl (.inr ⟨a, ws, rfl, .inl ha, Fin.newLst S (ra.cut lo hi) hh q⟩)
    · cases hh
  cases d with
  | tup xs =>
    cases h
    obtain ⟨a, ws, rfl, ha, ra⟩ := rx.tup_inv
    refine .inl (.inl ⟨a, ws, rfl, ha.seq, fun z => ?_, fun _ => Fin.newTup S (ra.cut lo hi) q⟩)
    rw [← ra.length] at z
    rw [cut_whole z] at q
    exact q.here S rx
  | str w =>
    have e1 := rx.str_inv
    subst e1
    simp only [slD] at h
    split at h
    · rename_i hl
      cases h
      refine .inr ⟨toS w, rfl, by rw [toS_len, ← SZ_line]; exact hl, ?_⟩
      have e2 : cutS (toS w) lo hi = toS (cutL w lo hi) := by
        unfold cutS cutL toS
        rw [cutIx_eq, cutIx_eq]
        simp [PySem.Str.length]
      rw [e2]
      exact q.here S (.str _)
    · cases h
  | _ => exact lists (fun _ z => by cases z) h

/-! built-in functions -/
def biVal : Bi → Value
  | .len => .builtin "len"
  | .all => .builtin "all"
  | .any => .builtin "any"
  | .tuple => .type "tuple"
  | .list => .type "list"
  | .int => .type "int"
  | .max => .builtin "max"
  | .min => .builtin "min"
def rListOf (K : PySem.W.Frag) : List V → Hp → VK → Prop := fun xs H Q => ∃ p ys, xs = [.ref p] ∧ (SqL K H p ys ∨ SqT K H p ys) ∧ ∀ l, H l = none → Q (.ref l) (upd H l (.lst ys))
def rLen (K : PySem.W.Frag) : List V → Hp → VK → Prop := fun xs H Q => ∃ x n, xs = [x] ∧ LenV K x H n ∧ Q (.int n) H
def rMax2 : List V → Hp → VK → Prop := fun xs H Q => ∃ i j, xs = [.int i, .int j] ∧ Q (.int (if j > i then j else i)) H
def rMin2 : List V → Hp → VK → Prop := fun xs H Q => ∃ i j, xs = [.int i, .int j] ∧ Q (.int (if j < i then j else i)) H
def rInt1 : List V → Hp → VK → Prop := fun xs H Q => (∃ i, xs = [.int i] ∧ Q (.int i) H) ∨ ∃ k, xs = [.bl k] ∧ Q (.int (if k then 1 else 0)) H
def rBi (K : PySem.W.Frag) : Bi → List V → Hp → VK → Prop
  | .len => rLen K
  | .all => rAll K
  | .any => rAny K
  | .tuple => rTupF K
  | .list => rListOf K
  | .int => rInt1
  | .max => fun xs H Q => rMax2 xs H Q ∨ rMax K xs H Q
  | .min => fun xs H Q => rMin2 xs H Q ∨ rMin K xs H Q
theorem call_bi {X : Cx} (hc : X.calm = true) : ∀ b : Bi, CallR X (biVal b) (rBi X.K b)
  | .len => call_len
  | .all => cr_all hc
  | .any => cr_any hc
  | .tuple => call_tupF
  | .list => call_list_of
  | .int => call_int1
  | .max => (call_max2 hc).or (cr_max hc)
  | .min => (call_min2 hc).or (cr_min hc)
theorem allBl_map : ∀ {ds : List D} {bs : List Bool} {vs : List V}, allBl ds = some bs → Rls K mu rho H ds vs → vs = bs.map V.bl
  | [], _, _, h, r => by cases h; cases r; rfl
  | .bl b :: ds, bs, _, h, r => by
    rw [allBl] at h
    cases r with
    | cons r1 r2 =>
      cases hh : allBl ds with
      | none => rw [hh] at h; cases h
      | some l =>
        rw [hh] at h
        cases h
        cases r1
        rw [allBl_map hh r2, List.map_cons]
  | .non :: _, _, _, h, _ => by cases h
  | .int _ :: _, _, _, h, _ => by cases h
  | .str _ :: _, _, _, h, _ => by cases h
  | .tup _ :: _, _, _, h, _ => by cases h
  | .lst _ :: _, _, _, h, _ => by cases h
  | .ref _ :: _, _, _, h, _ => by cases h
theorem allInt_map : ∀ {ds : List D} {bs : List Int} {vs : List V}, allInt ds = some bs → Rls K mu rho H ds vs → vs = bs.map V.int
  | [], _, _, h, r => by cases h; cases r; rfl
  | .int b :: ds, bs, _, h, r => by
    rw [allInt] at h
    cases r with
    | cons r1 r2 =>
      cases hh : allInt ds with
      | none => rw [hh] at h; cases h
      | some l =>
        rw [hh] at h
        cases h
        cases r1
        rw [allInt_map hh r2, List.map_cons]
  | .non :: _, _, _, h, _ => by cases h
  | .bl _ :: _, _, _, h, _ => by cases h
  | .str _ :: _, _, _, h, _ => by cases h
  | .tup _ :: _, _, _, h, _ => by cases h
  | .lst _ :: _, _, _, h, _ => by cases h
  | .ref _ :: _, _, _, h, _ => by cases h
theorem maxI_spec : ∀ (l : List Int) (a : Int), maxI a l ∈ a :: l ∧ ∀ y ∈ a :: l, y ≤ maxI a l
  | [], a => by simp [maxI]
  | b :: r, a => by
    rw [maxI]
    obtain ⟨h1, h2⟩ := maxI_spec r (if b > a then b else a)
    constructor
    · rcases List.mem_cons.mp h1 with z | z
      · rw [z]
        split <;> simp
      · simp [z]
    · intro y hy
      have h0 := h2 _ (List.mem_cons_self ..)
      have h3 : a ≤ if b > a then b else a := by split <;> omega
      have h4 : b ≤ if b > a then b else a := by split <;> omega
      rcases List.mem_cons.mp hy with z | z
      · subst z; exact Int.le_trans h3 h0
      · rcases List.mem_cons.mp z with z | z
        · subst z; exact Int.le_trans h4 h0
        · exact h2 y (List.mem_cons_of_mem _ z)
theorem minI_spec : ∀ (l : List Int) (a : Int), minI a l ∈ a :: l ∧ ∀ y ∈ a :: l, minI a l ≤ y
  | [], a => by simp [minI]
  | b :: r, a => by
    rw [minI]
    obtain ⟨h1, h2⟩ := minI_spec r (if b < a then b else a)
    constructor
    · rcases List.mem_cons.mp h1 with z | z
      · rw [z]
        split <;> simp
      · simp [z]
    · intro y hy
      have h0 := h2 _ (List.mem_cons_self ..)
      have h3 : (if b < a then b else a) ≤ a := by split <;> omega
      have h4 : (if b < a then b else a) ≤ b := by split <;> omega
      rcases List.mem_cons.mp hy with z | z
      · subst z; exact Int.le_trans h0 h3
      · rcases List.mem_cons.mp z with z | z
        · subst z; exact Int.le_trans h0 h4
        · exact h2 y (List.mem_cons_of_mem _ z)
theorem bi_len (S : Sim wd K mu rho H st) (r : Rls K mu rho H ds vs) (h : biLen ds st = some (f, st')) (q : Fin wd K mu rho H f st' Q) : rLen K vs H Q := by
  cases r with
  | nil => cases h
  | cons rx rr =>
    cases rr with
    | cons _ _ => cases h
    | nil =>
      rename_i d v
      by_cases hs : ∀ w, d ≠ .str w
      · have h' : (match rowOf st d with
          | some xs => some (.int xs.length, st)
          | none => none) = some (f, st') := by
          cases d with
          | str w => exact absurd rfl (hs w)
          | _ => exact h
        split at h'
        · rename_i xs ex
          cases h'
          obtain ⟨a, ws, rfl, hq, hr⟩ := rx.row_inv S ex
          refine ⟨_, ws.length, rfl, ?_, ?_⟩
          · rcases hq with hq | hq
            · exact .inl ⟨ws, hq, rfl⟩
            · exact .inr ⟨ws, hq, rfl⟩
          · rw [← hr.length]
            exact q.here S (.int _)
        · cases h'
      · cases d with
        | str w =>
          have e1 := rx.str_inv
          subst e1
          simp only [biLen] at h
          split at h
          · rename_i hl
            cases h
            refine ⟨_, w.length, rfl, ⟨by rw [toS_len, ← SZ_line]; exact hl, (toS_len w).symm⟩, q.here S (.int _)⟩
          · cases h
        | _ => exact absurd (fun w z => by cases z) hs
theorem Rls.one_inv (r : Rls K mu rho H [d] vs) : ∃ v, vs = [v] ∧ Rl K mu rho H d v := by
  cases r with
  | cons a b => cases b; exact ⟨_, rfl, a⟩
theorem bi_lists {g : List Bool → Bool} (S : Sim wd K mu rho H st) (r : Rls K mu rho H ds vs) (h : biBls g ds st = some (f, st')) (q : Fin wd K mu rho H f st' Q) :
    ∃ (a : Addr) (bs : List Bool), vs = [.ref a] ∧ SqL K H a (bs.map V.bl) ∧ Q (.bl (g bs)) H := by
  match ds, h with
  | [d], h =>
    obtain ⟨v, rfl, rx⟩ := r.one_inv
    simp only [biBls] at h
    split at h
    · rename_i xs ex
      split at h
      · rename_i bs eb
        cases h
        obtain ⟨a, ws, rfl, ha, ra⟩ := rx.lstOf_inv S ex
        refine ⟨a, bs, rfl, .inl ?_, q.here S (.bl _)⟩
        rw [← allBl_map eb ra]
        exact ha
      · cases h
    · cases h
theorem bi_opt {g : Int → List Int → Int} (S : Sim wd K mu rho H st) (r : Rls K mu rho H ds vs) (h : biOpt g ds st = some (f, st')) (q : Fin wd K mu rho H f st' Q) :
    (∃ i j, vs = [.int i, .int j] ∧ Q (.int (g i [j])) H) ∨ ∃ (a : Addr) (i : Int) (t : List Int), vs = [.ref a] ∧ SqL K H a ((i :: t).map V.int) ∧ Q (.int (g i t)) H := by
  unfold biOpt at h
  split at h
  · cases h
    cases r with
    | cons r1 r2 =>
      cases r2 with
      | cons r2 r3 =>
        cases r3
        cases r1
        cases r2
        exact .inl ⟨_, _, rfl, q.here S (.int _)⟩
  · obtain ⟨v, rfl, rx⟩ := r.one_inv
    split at h
    · rename_i xs ex
      split at h
      · rename_i i t hg
        cases h
        obtain ⟨a, ws, rfl, ha, ra⟩ := rx.lstOf_inv S ex
        refine .inr ⟨a, i, t, rfl, .inl ?_, q.here S (.int _)⟩
        rw [← allInt_map hg ra]
        exact ha
      · cases h
    · cases h
  · cases h
theorem bi_ok {b : Bi} (S : Sim wd K mu rho H st) (r : Rls K mu rho H ds vs) (h : biD m b ds st = some (f, st')) (q : Fin wd K mu rho H f st' Q) : rBi K b vs H Q := by
  cases b with
  | len => exact bi_len S r h q
  | all => exact bi_lists S r h q
  | any => exact bi_lists S r h q
  | tuple =>
    simp only [biD, biTup] at h
    split at h
    · rename_i d
      obtain ⟨v, rfl, rx⟩ := r.one_inv
      split at h
      · rename_i xs hr
        cases h
        by_cases nt : ∀ ys, d ≠ .tup ys
        · obtain ⟨a, ws, rfl, ha, ra⟩ := rx.lst_inv S hr nt
          exact ⟨a, ws, rfl, .inl ⟨.inl ha, Fin.newTup S ra q⟩⟩
        · cases d with
          | tup ys =>
            cases hr
            obtain ⟨a, ws, rfl, ha, ra⟩ := rx.tup_inv
            exact ⟨a, ws, rfl, .inr ⟨ha.seq, q.here S rx⟩⟩
          | _ => exact absurd (fun ys z => by cases z) nt
      · cases h
    · cases h
  | list =>
    simp only [biD, biLst] at h
    split at h
    · rename_i d
      obtain ⟨v, rfl, rx⟩ := r.one_inv
      split at h
      · rename_i xs ex
        obtain ⟨a, ws, rfl, hq, hr⟩ := rx.row_inv S ex
        exact ⟨a, ws, rfl, hq, Fin.newLst S hr h q⟩
      · cases h
    · cases h
  | int =>
    simp only [biD, biInt] at h
    split at h
    · obtain ⟨v, rfl, rx⟩ := r.one_inv
      cases h
      cases rx
      exact .inl ⟨_, rfl, q.here S (.int _)⟩
    · obtain ⟨v, rfl, rx⟩ := r.one_inv
      cases h
      cases rx
      exact .inr ⟨_, rfl, q.here S (.int _)⟩
    · cases h
  | max =>
    rcases bi_opt S r h q with ⟨i, j, h1, h2⟩ | ⟨a, i, t, h1, h2, h3⟩
    · exact .inl ⟨i, j, h1, h2⟩
    · refine .inr ⟨a, i :: t, h1, h2, by simp, fun x k h4 => ?_⟩
      obtain ⟨k1, k2⟩ := maxI_spec t i
      have : x = maxI i t := by have a1 := k2 x k; have a2 := h4 _ k1; omega
      rw [this]
      exact h3
  | min =>
    rcases bi_opt S r h q with ⟨i, j, h1, h2⟩ | ⟨a, i, t, h1, h2, h3⟩
    · exact .inl ⟨i, j, h1, h2⟩
    · refine .inr ⟨a, i :: t, h1, h2, by simp, fun x k h4 => ?_⟩
      obtain ⟨k1, k2⟩ := minI_spec t i
      have : x = minI i t := by have a1 := k2 x k; have a2 := h4 _ k1; omega
      rw [this]
      exact h3
end
end Ow
/-! What an expression computes, as a rule about the run. -/
namespace Ow
open PySem PySem.Spec PyProof.Rows L2

abbrev EvF := Envr → Store → Option (D × Store)
abbrev EvB := Envr → Store → Option (Bool × Store)
abbrev EvL := Envr → Store → Option (List D × Store)
abbrev EvO := Envr → Store → Option (Option Int × Store)
def RE (wd : World) (K : PySem.W.Frag) (f : EvF) : TE := fun σ H Q => ∃ mu rho env st, Sim wd K mu rho H st ∧ EnvR K mu rho H env σ ∧ Post wd K mu rho H (f env st) Q
def RT (wd : World) (K : PySem.W.Frag) (f : EvB) : TT := fun σ H Q => ∃ mu rho env st b st', Sim wd K mu rho H st ∧ EnvR K mu rho H env σ ∧ f env st = some (b, st') ∧ ∀ rho' H', Le rho H rho' H' → Sim wd K mu rho' H' st' → Q b H'
def RA (wd : World) (K : PySem.W.Frag) (f : EvL) : TA := fun σ H Q => ∃ mu rho env st ds st', Sim wd K mu rho H st ∧ EnvR K mu rho H env σ ∧ f env st = some (ds, st') ∧ ∀ rho' H' vs, Le rho H rho' H' → Sim wd K mu rho' H' st' → Rls K mu rho' H' ds vs → Q vs H'
def RO (wd : World) (K : PySem.W.Frag) (f : EvO) : TO := fun σ H Q => ∃ mu rho env st o st', Sim wd K mu rho H st ∧ EnvR K mu rho H env σ ∧ f env st = some (o, st') ∧ ∀ rho' H', Le rho H rho' H' → Sim wd K mu rho' H' st' → Q o H'
def tst (f : EvF) : EvB := fun env st => match f env st with
  | some (x, s1) => match truthy s1 x with
    | some b => some (b, s1)
    | none => none
  | none => none

section
variable {X : Cx} {a b c : Expr} {es : List Expr} {pos : Pos} {fa fb fc : EvF} {fs : EvL} {ft fu : EvB}
theorem PE.imp {e : Expr} {t t' : TE} (h : PE X e t) (hi : ∀ σ H Q, t' σ H Q → t σ H Q) : PE X e t' := ⟨fun pins s σ H Q I q => h.run pins s σ H Q I (hi σ H Q q)⟩
theorem PT.imp {e : Expr} {t t' : TT} (h : PT X e t) (hi : ∀ σ H Q, t' σ H Q → t σ H Q) : PT X e t' := ⟨fun pins s σ H Q I q => h.run pins s σ H Q I (hi σ H Q q)⟩
theorem PW.imp {e : Expr} {t t' : TT} (h : PW X e t) (hi : ∀ σ H Q, t' σ H Q → t σ H Q) : PW X e t' := ⟨fun w pins s σ H Q I q => h.run w pins s σ H Q I (hi σ H Q q)⟩
theorem PA.imp {t t' : TA} (h : PA X es t) (hi : ∀ σ H Q, t' σ H Q → t σ H Q) : PA X es t' := ⟨fun p pins s σ H Q I q => h.run p pins s σ H Q I (hi σ H Q q)⟩
theorem PO.imp {e : Option Expr} {t t' : TO} (h : PO X e t) (hi : ∀ σ H Q, t' σ H Q → t σ H Q) : PO X e t' := ⟨fun pins s σ H Q I q => h.run pins s σ H Q I (hi σ H Q q)⟩

/-! leaves -/
theorem re_var {i : Nat} {x : Str} (hN : X.N[i]? = some x) (hv : Vis X.env.scope x) (hd : (x == ("__debug__" : Str)) = false) (hcd : (x == ("__classdict__" : Str)) = false) :
    PE X (.Name x pos) (RE X.w X.K fun env st => match env[i]? with
      | some (some d) => some (d, st)
      | _ => none) :=
  PE.imp (pe_var hN hv hd hcd) fun σ H Q ⟨mu, rho, env, st, S, E, d, s', e, q⟩ => by
    dsimp only at e
    split at e
    · rename_i d' hi
      cases e
      obtain ⟨v, h1, h2⟩ := E.2 i d hi
      exact ⟨v, h1, q.here S h2⟩
    · cases e
/-- a value that stands for d wherever it is -/
def Fixd (K : PySem.W.Frag) (d : D) (v : V) : Prop := ∀ mu rho H, Rl K mu rho H d v
theorem re_tC {e : Expr} {d : D} {v : V} (h : PE X e (tC v)) (f : Fixd X.K d v) : PE X e (RE X.w X.K fun _ st => some (d, st)) :=
  PE.imp h fun σ H Q ⟨mu, rho, env, st, S, E, d', s', e, q⟩ => by
    cases e
    exact q.here S (f mu rho H)

/-! operations -/
theorem re_bin {o : Bop} {m : Bool} (ha : PE X a (RE X.w X.K fa)) (hb : PE X b (RE X.w X.K fb)) :
    PE X (.BinOp a (bopOf o) b pos) (RE X.w X.K fun env st => match fa env st with
      | some (x, s1) => match fb env s1 with
        | some (y, s2) => binD m o x y s2
        | none => none
      | none => none) :=
  PE.imp (pe_op (op_bin o) ha hb) fun σ H Q ⟨mu, rho, env, st, S, E, d, s', e, q⟩ => by
    dsimp only at e
    split at e
    · rename_i x s1 ea
      split at e
      · rename_i y s2 eb
        exact ⟨mu, rho, env, st, S, E, x, s1, ea, fun r1 H1 v1 l1 S1 R1 => ⟨mu, r1, env, s1, S1, E.le l1, y, s2, eb, fun r2 H2 v2 l2 S2 R2 => bin_ok S2 (R1.le l2) R2 e (q.le (l1.trans l2))⟩⟩
      · cases e
    · cases e
theorem re_neg (ha : PE X a (RE X.w X.K fa)) : PE X (.UnaryOp .USub a pos) (RE X.w X.K fun env st => match fa env st with
      | some (.int i, s1) => some (.int (-i), s1)
      | _ => none) :=
  PE.imp (pe_un un_neg ha) fun σ H Q ⟨mu, rho, env, st, S, E, d, s', e, q⟩ => by
    dsimp only at e
    split at e
    · rename_i i s1 ea
      cases e
      exact ⟨mu, rho, env, st, S, E, .int i, _, ea, fun r1 H1 v1 l1 S1 R1 => ⟨i, R1.int_inv, (q.le l1).here S1 (.int _)⟩⟩
    · cases e
theorem re_cmp {o : Cop} (hu : X.A.units + 80 < cLine) (hm : behindInMarks (copOf o) b = false) (ha : PE X a (RE X.w X.K fa)) (hb : PE X b (RE X.w X.K fb)) :
    PE X (.Compare a [copOf o] [b] pos) (RE X.w X.K fun env st => match fa env st with
      | some (x, s1) => match fb env s1 with
        | some (y, s2) => match cmpD o x y s2 with
          | some c => some (.bl c, s2)
          | none => none
        | none => none
      | none => none) :=
  PE.imp (pe_cmpR (op_cmpK hu o) ha hb hm) fun σ H Q ⟨mu, rho, env, st, S, E, d, s', e, q⟩ => by
    dsimp only at e
    split at e
    · rename_i x s1 ea
      split at e
      · rename_i y s2 eb
        split at e
        · rename_i c ec
          cases e
          exact ⟨mu, rho, env, st, S, E, x, s1, ea, fun r1 H1 v1 l1 S1 R1 => ⟨mu, r1, env, s1, S1, E.le l1, y, _, eb, fun r2 H2 v2 l2 S2 R2 => cmp_ok S2 (R1.le l2) R2 ec ((q.le (l1.trans l2)).here S2 (.bl _))⟩⟩
        · cases e
      · cases e
    · cases e
theorem rt_cmp {o : Cop} (hu : X.A.units + 80 < cLine) (hm : behindInMarks (copOf o) b = false) (ha : PE X a (RE X.w X.K fa)) (hb : PE X b (RE X.w X.K fb)) :
    PT X (.Compare a [copOf o] [b] pos) (RT X.w X.K (tst fun env st => match fa env st with
      | some (x, s1) => match fb env s1 with
        | some (y, s2) => match cmpD o x y s2 with
          | some c => some (.bl c, s2)
          | none => none
        | none => none
      | none => none)) :=
  PT.imp (pt_cmpR (op_cmpK hu o) ha hb hm) fun σ H Q ⟨mu, rho, env, st, k, s', S, E, e, q⟩ => by
    unfold tst at e
    dsimp only at e
    split at e
    · rename_i z s0 ez
      split at ez
      · rename_i x s1 ea
        split at ez
        · rename_i y s2 eb
          split at ez
          · rename_i c ec
            cases ez
            cases e
            exact ⟨mu, rho, env, st, S, E, x, s1, ea, fun r1 H1 v1 l1 S1 R1 => ⟨mu, r1, env, s1, S1, E.le l1, y, _, eb, fun r2 H2 v2 l2 S2 R2 => cmp_ok S2 (R1.le l2) R2 ec ⟨k, rfl, q r2 H2 (l1.trans l2) S2⟩⟩⟩
          · cases ez
        · cases ez
      · cases ez
    · cases e
def chainF (o p : Cop) (fa fb fc : EvF) : EvF := fun env st => match fa env st with
      | some (x, s1) => match fb env s1 with
        | some (y, s2) => match cmpD o x y s2 with
          | some true => match fc env s2 with
            | some (z, s3) => match cmpD p y z s3 with
              | some k => some (.bl k, s3)
              | none => none
            | none => none
          | some false => some (.bl false, s2)
          | none => none
        | none => none
      | none => none
theorem chain_t {o p : Cop} {σ : L2.St} {H : Hp} {Q : VK} (h : RE X.w X.K (chainF o p fa fb fc) σ H Q) : tChain (rCmp X.w X.K o) (rCmp X.w X.K p) (RE X.w X.K fa) (RE X.w X.K fb) (RE X.w X.K fc) σ H Q := by
  obtain ⟨mu, rho, env, st, S, E, d, s', e, q⟩ := h
  unfold chainF at e
  split at e
  · rename_i x s1 ea
    split at e
    · rename_i y s2 eb
      refine ⟨mu, rho, env, st, S, E, x, s1, ea, fun r1 H1 v1 l1 S1 R1 => ⟨mu, r1, env, s1, S1, E.le l1, y, s2, eb, fun r2 H2 v2 l2 S2 R2 => ?_⟩⟩
      split at e
      · rename_i ec
        split at e
        · rename_i z s3 ez
          split at e
          · rename_i k ek
            cases e
            refine cmp_ok S2 (R1.le l2) R2 ec ⟨true, rfl, ?_⟩
            rw [if_pos rfl]
            refine ⟨mu, r2, env, s2, S2, (E.le l1).le l2, z, s', ez, fun r3 H3 v3 l3 S3 R3 => ?_⟩
            exact cmp_ok S3 (R2.le l3) R3 ek ((q.le ((l1.trans l2).trans l3)).here S3 (.bl _))
          · cases e
        · cases e
      · rename_i ec
        cases e
        refine cmp_ok S2 (R1.le l2) R2 ec ⟨false, rfl, ?_⟩
        rw [if_neg Bool.false_ne_true]
        exact (q.le (l1.trans l2)).here S2 (.bl _)
      · cases e
    · cases e
  · cases e
theorem chain_bl {o p : Cop} {env : Envr} {st s' : Store} {d : D} (h : chainF o p fa fb fc env st = some (d, s')) : ∃ k, d = .bl k := by
  unfold chainF at h
  split at h
  · split at h
    · split at h
      · split at h
        · split at h
          · cases h; exact ⟨_, rfl⟩
          · cases h
        · cases h
      · cases h; exact ⟨_, rfl⟩
      · cases h
    · cases h
  · cases h
theorem re_chain {o p : Cop} (hu : X.A.units + 80 < cLine) (hm : lastMarks [copOf o, copOf p] [b, c] = false) (ha : PE X a (RE X.w X.K fa)) (hb : PE X b (RE X.w X.K fb)) (hc : PE X c (RE X.w X.K fc)) :
    PE X (.Compare a [copOf o, copOf p] [b, c] pos) (RE X.w X.K (chainF o p fa fb fc)) :=
  PE.imp (pe_chain (op_cmpK hu o) (op_cmpK hu p) ha hb hc hm) fun σ H Q h => chain_t h
theorem rt_chain {o p : Cop} (hu : X.A.units + 80 < cLine) (hm : lastMarks [copOf o, copOf p] [b, c] = false) (ha : PE X a (RE X.w X.K fa)) (hb : PE X b (RE X.w X.K fb)) (hc : PE X c (RE X.w X.K fc)) :
    PT X (.Compare a [copOf o, copOf p] [b, c] pos) (RT X.w X.K (tst (chainF o p fa fb fc))) :=
  PT.imp (pt_chain (op_cmpK hu o) (op_cmpK hu p) ha hb hc hm) fun σ H Q ⟨mu, rho, env, st, k, s', S, E, e, q⟩ => by
    unfold tst at e
    split at e
    · rename_i d s1 ed
      obtain ⟨k', rfl⟩ := chain_bl ed
      split at e
      · rename_i b' eb
        cases eb
        cases e
        exact chain_t (Q := fun x H' => ∃ k, x = .bl k ∧ Q k H') ⟨mu, rho, env, st, S, E, _, _, ed, fun r1 H1 v l1 S1 R1 => ⟨_, R1.bl_inv, q r1 H1 l1 S1⟩⟩
      · cases e
    · cases e
end
end Ow
/-! Tests, rows, items, slices. -/
namespace Ow
open PySem PySem.Spec PyProof.Rows L2

section
variable {X : Cx} {a b c : Expr} {es rest : List Expr} {pos : Pos} {fa fb fc : EvF} {fs : EvL} {ft fu : EvB} {fo fp : EvO}
/-! and, or, not -/
theorem re_and (ha : PE X a (RE X.w X.K fa)) (hb : PE X (.BoolOp .And (b :: rest) pos) (RE X.w X.K fb)) :
    PE X (.BoolOp .And (a :: b :: rest) pos) (RE X.w X.K fun env st => match fa env st with
      | some (x, s1) => match truthy s1 x with
        | some true => fb env s1
        | some false => some (x, s1)
        | none => none
      | none => none) :=
  PE.imp (pe_andT ha hb) fun σ H Q ⟨mu, rho, env, st, S, E, d, s', e, q⟩ => by
    dsimp only at e
    split at e
    · rename_i x s1 ea
      refine ⟨mu, rho, env, st, S, E, x, s1, ea, fun r1 H1 v1 l1 S1 R1 => ?_⟩
      split at e
      · rename_i et
        exact ⟨true, tru_d S1 R1 et, by rw [if_pos rfl]; exact ⟨mu, r1, env, s1, S1, E.le l1, d, s', e, q.le l1⟩⟩
      · rename_i et
        cases e
        exact ⟨false, tru_d S1 R1 et, by rw [if_neg Bool.false_ne_true]; exact (q.le l1).here S1 R1⟩
      · cases e
    · cases e
theorem re_or (ha : PE X a (RE X.w X.K fa)) (hb : PE X (.BoolOp .Or (b :: rest) pos) (RE X.w X.K fb)) :
    PE X (.BoolOp .Or (a :: b :: rest) pos) (RE X.w X.K fun env st => match fa env st with
      | some (x, s1) => match truthy s1 x with
        | some false => fb env s1
        | some true => some (x, s1)
        | none => none
      | none => none) :=
  PE.imp (pe_orT ha hb) fun σ H Q ⟨mu, rho, env, st, S, E, d, s', e, q⟩ => by
    dsimp only at e
    split at e
    · rename_i x s1 ea
      refine ⟨mu, rho, env, st, S, E, x, s1, ea, fun r1 H1 v1 l1 S1 R1 => ?_⟩
      split at e
      · rename_i et
        exact ⟨false, tru_d S1 R1 et, by rw [if_neg Bool.false_ne_true]; exact ⟨mu, r1, env, s1, S1, E.le l1, d, s', e, q.le l1⟩⟩
      · rename_i et
        cases e
        exact ⟨true, tru_d S1 R1 et, by rw [if_pos rfl]; exact (q.le l1).here S1 R1⟩
      · cases e
    · cases e
theorem re_not (ha : PE X a (RE X.w X.K fa)) :
    PE X (.UnaryOp .Not a pos) (RE X.w X.K fun env st => match fa env st with
      | some (x, s1) => match truthy s1 x with
        | some b => some (.bl (!b), s1)
        | none => none
      | none => none) :=
  PE.imp (pe_notT ha) fun σ H Q ⟨mu, rho, env, st, S, E, d, s', e, q⟩ => by
    dsimp only at e
    split at e
    · rename_i x s1 ea
      refine ⟨mu, rho, env, st, S, E, x, s1, ea, fun r1 H1 v1 l1 S1 R1 => ?_⟩
      split at e
      · rename_i b et
        cases e
        exact ⟨b, tru_d S1 R1 et, (q.le l1).here S1 (.bl _)⟩
      · cases e
    · cases e
/-! the same as tests -/
theorem rt_val (he : ∀ whole, isTrue a X.env whole = (do let v ← whole; standAt a.pos; holding [v] (PySem.truthy v))) (ha : PE X a (RE X.w X.K fa)) : PT X a (RT X.w X.K (tst fa)) :=
  PT.imp (pt_truth ha he) fun σ H Q ⟨mu, rho, env, st, k, s', S, E, e, q⟩ => by
    unfold tst at e
    split at e
    · rename_i x s1 ea
      split at e
      · rename_i b et
        cases e
        exact ⟨mu, rho, env, st, S, E, x, _, ea, fun r1 H1 v1 l1 S1 R1 => ⟨k, tru_d S1 R1 et, q r1 H1 l1 S1⟩⟩
      · cases e
    · cases e
theorem rt_not (ha : PT X a (RT X.w X.K (tst fa))) : PT X (.UnaryOp .Not a pos) (RT X.w X.K (tst fun env st => match fa env st with
      | some (x, s1) => match truthy s1 x with
        | some b => some (.bl (!b), s1)
        | none => none
      | none => none)) :=
  PT.imp (pt_not ha) fun σ H Q ⟨mu, rho, env, st, k, s', S, E, e, q⟩ => by
    unfold tst at e
    dsimp only at e
    cases ea : fa env st with
    | none => rw [ea] at e; cases e
    | some p =>
      obtain ⟨x, s1⟩ := p
      simp only [ea] at e
      cases et : truthy s1 x with
      | none => simp only [et] at e; cases e
      | some b =>
        simp only [et] at e
        cases e
        refine ⟨mu, rho, env, st, b, _, S, E, ?_, q⟩
        simp only [tst, ea, et]
theorem rw_and1 (ha : PT X a (RT X.w X.K ft)) : PW X (.BoolOp .And [a] pos) (RT X.w X.K ft) := pw_and1 ha
theorem rw_or1 (ha : PT X a (RT X.w X.K ft)) : PW X (.BoolOp .Or [a] pos) (RT X.w X.K ft) := pw_or1 ha
theorem rw_and (ha : PT X a (RT X.w X.K (tst fa))) (hb : PW X (.BoolOp .And (b :: rest) pos) (RT X.w X.K (tst fb))) :
    PW X (.BoolOp .And (a :: b :: rest) pos) (RT X.w X.K (tst fun env st => match fa env st with
      | some (x, s1) => match truthy s1 x with
        | some true => fb env s1
        | some false => some (x, s1)
        | none => none
      | none => none)) :=
  PW.imp (pw_and ha hb) fun σ H Q ⟨mu, rho, env, st, k, s', S, E, e, q⟩ => by
    unfold tst at e
    dsimp only at e
    cases ea : fa env st with
    | none => rw [ea] at e; cases e
    | some p =>
      obtain ⟨x, s1⟩ := p
      simp only [ea] at e
      cases et : truthy s1 x with
      | none => simp only [et] at e; cases e
      | some b =>
        refine ⟨mu, rho, env, st, b, s1, S, E, by simp only [tst, ea, et], fun r1 H1 l1 S1 => ?_⟩
        cases b with
        | true =>
          simp only [et] at e
          rw [if_pos rfl]
          exact ⟨mu, r1, env, s1, k, s', S1, E.le l1, e, fun r2 H2 l2 S2 => q r2 H2 (l1.trans l2) S2⟩
        | false =>
          simp only [et] at e
          cases e
          rw [if_neg Bool.false_ne_true]
          exact q r1 H1 l1 S1
theorem rw_or (ha : PT X a (RT X.w X.K (tst fa))) (hb : PW X (.BoolOp .Or (b :: rest) pos) (RT X.w X.K (tst fb))) :
    PW X (.BoolOp .Or (a :: b :: rest) pos) (RT X.w X.K (tst fun env st => match fa env st with
      | some (x, s1) => match truthy s1 x with
        | some false => fb env s1
        | some true => some (x, s1)
        | none => none
      | none => none)) :=
  PW.imp (pw_or ha hb) fun σ H Q ⟨mu, rho, env, st, k, s', S, E, e, q⟩ => by
    unfold tst at e
    dsimp only at e
    cases ea : fa env st with
    | none => rw [ea] at e; cases e
    | some p =>
      obtain ⟨x, s1⟩ := p
      simp only [ea] at e
      cases et : truthy s1 x with
      | none => simp only [et] at e; cases e
      | some b =>
        refine ⟨mu, rho, env, st, b, s1, S, E, by simp only [tst, ea, et], fun r1 H1 l1 S1 => ?_⟩
        cases b with
        | false =>
          simp only [et] at e
          rw [if_neg Bool.false_ne_true]
          exact ⟨mu, r1, env, s1, k, s', S1, E.le l1, e, fun r2 H2 l2 S2 => q r2 H2 (l1.trans l2) S2⟩
        | true =>
          simp only [et] at e
          cases e
          rw [if_pos rfl]
          exact q r1 H1 l1 S1
theorem re_ite (ht : PT X c (RT X.w X.K (tst fc))) (ha : PE X a (RE X.w X.K fa)) (hb : PE X b (RE X.w X.K fb)) :
    PE X (.IfExp c a b pos) (RE X.w X.K fun env st => match fc env st with
      | some (x, s1) => match truthy s1 x with
        | some true => fa env s1
        | some false => fb env s1
        | none => none
      | none => none) :=
  PE.imp (pe_ifExp ht ha hb) fun σ H Q ⟨mu, rho, env, st, S, E, d, s', e, q⟩ => by
    dsimp only at e
    cases ea : fc env st with
    | none => rw [ea] at e; cases e
    | some p =>
      obtain ⟨x, s1⟩ := p
      simp only [ea] at e
      cases et : truthy s1 x with
      | none => simp only [et] at e; cases e
      | some k =>
        refine ⟨mu, rho, env, st, k, s1, S, E, by simp only [tst, ea, et], fun r1 H1 l1 S1 => ?_⟩
        simp only [et] at e
        cases k with
        | true =>
          rw [if_pos rfl]
          exact ⟨mu, r1, env, s1, S1, E.le l1, d, s', e, q.le l1⟩
        | false =>
          rw [if_neg Bool.false_ne_true]
          exact ⟨mu, r1, env, s1, S1, E.le l1, d, s', e, q.le l1⟩
/-! rows -/
theorem ra_nil : PA X [] (RA X.w X.K fun _ st => some ([], st)) :=
  PA.imp pa_nil fun σ H Q ⟨mu, rho, env, st, ds, s', S, E, e, q⟩ => by
    cases e
    exact q rho H [] (Le.refl _ _) S .nil
theorem ra_cons (ha : PE X a (RE X.w X.K fa)) (hr : PA X es (RA X.w X.K fs)) (hs : starEach (a :: es) X.env = (false, eval a X.env) :: starEach es X.env) :
    PA X (a :: es) (RA X.w X.K fun env st => match fa env st with
      | some (x, s1) => match fs env s1 with
        | some (ds, s2) => some (x :: ds, s2)
        | none => none
      | none => none) :=
  PA.imp (pa_cons ha hr hs) fun σ H Q ⟨mu, rho, env, st, ds, s', S, E, e, q⟩ => by
    dsimp only at e
    split at e
    · rename_i x s1 ea
      split at e
      · rename_i ds s2 eb
        cases e
        exact ⟨mu, rho, env, st, S, E, x, s1, ea, fun r1 H1 v1 l1 S1 R1 => ⟨mu, r1, env, s1, ds, _, S1, E.le l1, eb, fun r2 H2 vs l2 S2 R2 => q r2 H2 _ (l1.trans l2) S2 (.cons (R1.le l2) R2)⟩⟩
      · cases e
    · cases e
theorem ra_star {spos : Pos} (ha : PE X a (RE X.w X.K fa)) (hr : PA X es (RA X.w X.K fs)) (hs : starEach (.Starred a spos :: es) X.env = (true, eval a X.env) :: starEach es X.env) :
    PA X (.Starred a spos :: es) (RA X.w X.K fun env st => match fa env st with
      | some (x, s1) => match rowOf s1 x with
        | some xs => match fs env s1 with
          | some (ds, s2) => some (xs ++ ds, s2)
          | none => none
        | none => none
      | none => none) :=
  PA.imp (StX.pa_star ha hr hs) fun σ H Q ⟨mu, rho, env, st, ds, s', S, E, e, q⟩ => by
    dsimp only at e
    split at e
    · rename_i x s1 ea
      split at e
      · rename_i xs ex
        split at e
        · rename_i ds s2 eb
          cases e
          refine ⟨mu, rho, env, st, S, E, x, s1, ea, fun r1 H1 v1 l1 S1 R1 => ?_⟩
          obtain ⟨p, vs, rfl, hq, hr⟩ := R1.row_inv S1 ex
          exact ⟨p, vs, rfl, hq.symm, mu, r1, env, s1, ds, _, S1, E.le l1, eb, fun r2 H2 ws l2 S2 R2 => q r2 H2 _ (l1.trans l2) S2 ((hr.le l2).append R2)⟩
        · cases e
      · cases e
    · cases e
theorem re_tup {k : Nat} (h : PA X es (RA X.w X.K fs)) : PE X (.Tuple es k pos) (RE X.w X.K fun env st => match fs env st with
      | some (ds, s1) => if ds.length ≤ SZ then some (.tup ds, s1) else none
      | none => none) :=
  PE.imp (pe_tupF h) fun σ H Q ⟨mu, rho, env, st, S, E, d, s', e, q⟩ => by
    dsimp only at e
    split at e
    · rename_i ds s1 ea
      split at e
      · rename_i hl
        cases e
        refine ⟨mu, rho, env, st, ds, _, S, E, ea, fun r1 H1 vs l1 S1 R1 => ⟨?_, Fin.newTup S1 R1 (q.le l1)⟩⟩
        rw [← R1.length, ← SZ_line]
        exact hl
      · cases e
    · cases e
theorem re_lst {m : Bool} (h : PA X es (RA X.w X.K fs)) : PE X (.List es pos) (RE X.w X.K fun env st => match fs env st with
      | some (ds, s1) => mkL m ds s1
      | none => none) :=
  PE.imp (pe_lst h) fun σ H Q ⟨mu, rho, env, st, S, E, d, s', e, q⟩ => by
    dsimp only at e
    split at e
    · rename_i ds s1 ea
      refine ⟨mu, rho, env, st, ds, s1, S, E, ea, fun r1 H1 vs l1 S1 R1 => ⟨?_, Fin.newLst S1 R1 e (q.le l1)⟩⟩
      rw [← R1.length]
      exact mkL_len e
    · cases e
/-! items, slices -/
theorem re_ix (hu : X.A.units + 80 < cLine) (hp : PlainIx b) (ha : PE X a (RE X.w X.K fa)) (hb : PE X b (RE X.w X.K fb)) : PE X (.Subscript a b pos) (RE X.w X.K fun env st => match fa env st with
      | some (x, s1) => match fb env s1 with
        | some (y, s2) => match ixD x y s2 with
          | some d => some (d, s2)
          | none => none
        | none => none
      | none => none) :=
  PE.imp (pe_ix (ix_seq.or (ix_dct hu)) ha hb hp) fun σ H Q ⟨mu, rho, env, st, S, E, d, s', e, q⟩ => by
    dsimp only at e
    split at e
    · rename_i x s1 ea
      split at e
      · rename_i y s2 eb
        split at e
        · rename_i c ec
          cases e
          exact ⟨mu, rho, env, st, S, E, x, s1, ea, fun r1 H1 v1 l1 S1 R1 => ⟨mu, r1, env, s1, S1, E.le l1, y, _, eb, fun r2 H2 v2 l2 S2 R2 => ix_ok S2 (R1.le l2) R2 ec fun z rz => (q.le (l1.trans l2)).here S2 rz⟩⟩
        · cases e
      · cases e
    · cases e
theorem ro_none : PO X none (RO X.w X.K fun _ st => some (none, st)) :=
  PO.imp po_none fun σ H Q ⟨mu, rho, env, st, o, s', S, E, e, q⟩ => by
    cases e
    exact q rho H (Le.refl _ _) S
theorem ro_some (ha : PE X a (RE X.w X.K fa)) : PO X (some a) (RO X.w X.K fun env st => match fa env st with
      | some (x, s1) => match cutBd x with
        | some o => some (o, s1)
        | none => none
      | none => none) :=
  PO.imp (po_some ha) fun σ H Q ⟨mu, rho, env, st, o, s', S, E, e, q⟩ => by
    dsimp only at e
    split at e
    · rename_i x s1 ea
      split at e
      · rename_i o ec
        cases e
        refine ⟨mu, rho, env, st, S, E, x, _, ea, fun r1 H1 v1 l1 S1 R1 => ?_⟩
        unfold cutBd at ec
        split at ec
        · rename_i i
          split at ec
          · cases ec
            exact ⟨i, R1.int_inv, q r1 H1 l1 S1⟩
          · cases ec
        · cases ec
      · cases e
    · cases e
theorem re_sl {lo hi : Option Expr} {spos : Pos} {m : Bool} (ha : PE X a (RE X.w X.K fa)) (hl : PO X lo (RO X.w X.K fo)) (hh : PO X hi (RO X.w X.K fp)) : PE X (.Subscript a (.Slice lo hi none spos) pos) (RE X.w X.K fun env st => match fa env st with
      | some (x, s1) => match fo env s1 with
        | some (l, s2) => match fp env s2 with
          | some (h, s3) => slD m x l h s3
          | none => none
        | none => none
      | none => none) :=
  PE.imp (pe_slice sl_any ha hl hh) fun σ H Q ⟨mu, rho, env, st, S, E, d, s', e, q⟩ => by
    dsimp only at e
    split at e
    · rename_i x s1 ea
      split at e
      · rename_i l s2 eb
        split at e
        · rename_i h s3 ec
          exact ⟨mu, rho, env, st, S, E, x, s1, ea, fun r1 H1 v1 l1 S1 R1 => ⟨mu, r1, env, s1, l, s2, S1, E.le l1, eb, fun r2 H2 l2 S2 => ⟨mu, r2, env, s2, h, s3, S2, (E.le l1).le l2, ec, fun r3 H3 l3 S3 =>
            sl_ok S3 ((R1.le l2).le l3) e (q.le ((l1.trans l2).trans l3))⟩⟩⟩
        · cases e
      · cases e
    · cases e
end
end Ow
/-! sorted(set(xs)): the row that it is. -/
namespace Ow
open PySem PySem.Spec PyProof.Rows L2

abbrev Tok' := Int ⊕ List Nat
/-- how things of one kind stand in order -/
structure Kd where
  α : Type
  dec : DecidableEq α
  enc : α → D
  tok : α → List Tok'
  inj : ∀ x y, tok x = tok y → x = y
  lt : ∀ x y, ltD (enc x) (enc y) = lexLt itemOrd (tok x) (tok y)
  eq : ∀ x y, eqD (enc x) (enc y) = @decide (x = y) (dec x y)
namespace Kd
variable (k : Kd)
instance : DecidableEq k.α := k.dec
def le (x y : k.α) : Bool := !lexLt itemOrd (k.tok y) (k.tok x)
theorem le_total (x y : k.α) : k.le x y = true ∨ k.le y x = true := by
  unfold le
  cases h1 : lexLt itemOrd (k.tok y) (k.tok x) with
  | false => exact .inl rfl
  | true =>
    cases h2 : lexLt itemOrd (k.tok x) (k.tok y) with
    | false => exact .inr rfl
    | true =>
      have := lex_trans _ _ _ h1 h2
      rw [lex_irrefl] at this
      cases this
theorem le_trans {x y z : k.α} (h1 : k.le x y = true) (h2 : k.le y z = true) : k.le x z = true := by
  unfold le at *
  cases h : lexLt itemOrd (k.tok z) (k.tok x) with
  | false => rfl
  | true =>
    rcases lex_negTrans _ (k.tok y) _ h with h | h
    · rw [h] at h2; cases h2
    · rw [h] at h1; cases h1
theorem le_anti {x y : k.α} (h1 : k.le x y = true) (h2 : k.le y x = true) : x = y := by
  unfold le at *
  refine k.inj x y (lex_total (O := itemOrd) (k.tok x) (k.tok y) ?_ ?_)
  · cases h : lexLt itemOrd (k.tok x) (k.tok y) with
    | false => rfl
    | true => rw [h] at h2; cases h2
  · cases h : lexLt itemOrd (k.tok y) (k.tok x) with
    | false => rfl
    | true => rw [h] at h1; cases h1
def ins (x : k.α) : List k.α → List k.α
  | [] => [x]
  | y :: ys => if k.le x y = true then x :: y :: ys else y :: ins x ys
def srt : List k.α → List k.α
  | [] => []
  | x :: xs => k.ins x (srt xs)
def ddp : List k.α → List k.α
  | [] => []
  | x :: xs => if x ∈ xs then ddp xs else x :: ddp xs
theorem ins_perm (x : k.α) : ∀ ys, (k.ins x ys).Perm (x :: ys)
  | [] => .refl _
  | y :: ys => by
    unfold ins
    split
    · exact .refl _
    · exact ((ins_perm x ys).cons y).trans (.swap x y ys)
theorem srt_perm : ∀ xs, (k.srt xs).Perm xs
  | [] => .refl _
  | x :: xs => (k.ins_perm x _).trans ((srt_perm xs).cons x)
theorem ins_sorted (x : k.α) : ∀ ys, ys.Pairwise (fun a b => k.le a b = true) → (k.ins x ys).Pairwise (fun a b => k.le a b = true)
  | [], _ => by simp [ins]
  | y :: ys, h => by
    unfold ins
    obtain ⟨h1, h2⟩ := List.pairwise_cons.mp h
    split
    · rename_i hl
      refine List.pairwise_cons.mpr ⟨fun z hz => ?_, h⟩
      rcases List.mem_cons.mp hz with e | hz
      · subst e; exact hl
      · exact k.le_trans hl (h1 z hz)
    · rename_i hl
      refine List.pairwise_cons.mpr ⟨fun z hz => ?_, ins_sorted x ys h2⟩
      rcases List.mem_cons.mp ((k.ins_perm x ys).mem_iff.mp hz) with e | hz
      · subst e
        rcases k.le_total z y with q | q
        · exact absurd q hl
        · exact q
      · exact h1 z hz
theorem srt_sorted : ∀ xs, (k.srt xs).Pairwise (fun a b => k.le a b = true)
  | [] => .nil
  | x :: xs => k.ins_sorted x _ (srt_sorted xs)
theorem ddp_mem : ∀ (xs : List k.α) (z : k.α), z ∈ k.ddp xs ↔ z ∈ xs
  | [], _ => Iff.rfl
  | x :: xs, z => by
    unfold ddp
    split
    · rename_i hx
      rw [ddp_mem xs z, List.mem_cons]
      exact ⟨.inr, fun h => by rcases h with e | h; exact e ▸ hx; exact h⟩
    · rw [List.mem_cons, List.mem_cons, ddp_mem xs z]
theorem ddp_nodup : ∀ xs : List k.α, (k.ddp xs).Nodup
  | [] => .nil
  | x :: xs => by
    unfold ddp
    split
    · exact ddp_nodup xs
    · rename_i hx
      exact List.nodup_cons.mpr ⟨fun z => hx ((k.ddp_mem xs x).mp z), ddp_nodup xs⟩
def sset (xs : List k.α) : List k.α := k.srt (k.ddp xs)
/-- there is but one such row -/
theorem sset_only {xs ys : List k.α} (nd : ys.Nodup) (hm : ∀ z, z ∈ ys ↔ z ∈ xs) (hp : ys.Pairwise (fun a b => k.le a b = true)) : ys = k.sset xs := by
  have p : ys.Perm (k.sset xs) := by
    refine (List.perm_ext_iff_of_nodup nd ((k.srt_perm _).nodup_iff.mpr (k.ddp_nodup xs))).mpr fun z => ?_
    rw [hm z, (k.srt_perm _).mem_iff, k.ddp_mem]
  exact p.eq_of_pairwise (fun a b _ _ h1 h2 => k.le_anti h1 h2) hp (k.srt_sorted _)
/-! .. as data -/
theorem leD_enc (x y : k.α) : leD (k.enc x) (k.enc y) = k.le x y := by
  unfold leD le
  rw [k.lt]
theorem memD_enc (x : k.α) : ∀ ys : List k.α, memD (k.enc x) (ys.map k.enc) = decide (x ∈ ys)
  | [] => by simp [memD]
  | y :: ys => by
    rw [List.map_cons, memD, k.eq, memD_enc x ys, Bool.eq_iff_iff]
    simp only [Bool.or_eq_true, decide_eq_true_iff, List.mem_cons]
    exact or_congr eq_comm Iff.rfl
theorem ddp_enc : ∀ xs : List k.α, dedupD (xs.map k.enc) = (k.ddp xs).map k.enc
  | [] => rfl
  | x :: xs => by
    rw [List.map_cons, dedupD, k.memD_enc, ddp]
    by_cases h : x ∈ xs
    · rw [if_pos (by simpa using h), if_pos h, ddp_enc xs]
    · rw [if_neg (by simpa using h), if_neg h, ddp_enc xs, List.map_cons]
theorem ins_enc (x : k.α) : ∀ ys : List k.α, insD leD (k.enc x) (ys.map k.enc) = (k.ins x ys).map k.enc
  | [] => rfl
  | y :: ys => by
    rw [List.map_cons, insD, k.leD_enc, ins]
    split
    · rfl
    · rw [ins_enc x ys, List.map_cons]
theorem srt_enc : ∀ xs : List k.α, sortD leD (xs.map k.enc) = (k.srt xs).map k.enc
  | [] => rfl
  | x :: xs => by rw [List.map_cons, sortD, srt_enc xs, k.ins_enc, srt]
theorem sset_enc (xs : List k.α) : sortD leD (dedupD (xs.map k.enc)) = (k.sset xs).map k.enc := by
  rw [k.ddp_enc, k.srt_enc]
  rfl
end Kd

def kdW : Kd where
  α := W
  dec := inferInstance
  enc := .str
  tok w := [.inr w]
  inj x y h := by simpa using h
  lt x y := by
    rw [lt_py (.str x) (.str y) rfl rfl rfl]
    unfold PySem.W.dataLt
    simp only [toPy, PySem.W.keyToks, toS_cps]
  eq x y := by
    rw [eqD, Bool.eq_iff_iff, eqW_iff]
    simp
def pathD (k : List W) : D := .tup (k.map .str)
theorem noRefs_strs : ∀ k : List W, noRefs (k.map D.str) = true
  | [] => rfl
  | w :: k => by
    show (noRef (.str w) && noRefs (k.map D.str)) = true
    rw [noRefs_strs k]
    rfl
theorem alk_strs : ∀ k l : List W, alkDs (k.map D.str) (l.map D.str) = true
  | [], _ => rfl
  | _ :: _, [] => rfl
  | w :: k, v :: l => by
    show (alkD (.str w) (.str v) && alkDs (k.map D.str) (l.map D.str)) = true
    rw [alk_strs k l]
    rfl
def pathTok : List W → List Tok'
  | [] => [.inl 0]
  | w :: k => .inl 1 :: .inr w :: pathTok k
theorem pathTok_eq : ∀ k : List W, PySem.W.keyToksAll (toPys (k.map D.str)) = pathTok k
  | [] => rfl
  | w :: k => by
    rw [List.map_cons, toPys, PySem.W.toks_all_cons, pathTok_eq k]
    simp only [toPy, PySem.W.keyToks, toS_cps]
    rfl
theorem pathTok_inj : ∀ k l, pathTok k = pathTok l → k = l
  | [], [], _ => rfl
  | [], _ :: _, h => by cases h
  | _ :: _, [], h => by cases h
  | w :: k, v :: l, h => by
    injection h with _ h
    injection h with h1 h2
    injection h1 with h1
    rw [h1, pathTok_inj k l h2]
theorem eqDs_strs : ∀ k l : List W, eqDs (k.map D.str) (l.map D.str) = decide (k = l)
  | [], [] => by simp [eqDs]
  | [], _ :: _ => by simp [eqDs]
  | _ :: _, [] => by simp [eqDs]
  | w :: k, v :: l => by
    rw [List.map_cons, List.map_cons, eqDs, eqD, eqDs_strs k l, Bool.eq_iff_iff, Bool.and_eq_true, eqW_iff]
    simp
def kdP : Kd where
  α := List W
  dec := inferInstance
  enc := pathD
  tok := pathTok
  inj := pathTok_inj
  lt x y := by
    unfold pathD
    rw [lt_py (.tup (x.map .str)) (.tup (y.map .str)) (by simpa [noRef] using noRefs_strs x) (by simpa [noRef] using noRefs_strs y) (by simpa [alkD] using alk_strs x y)]
    rw [toPy, toPy, PySem.W.dataLt_tuple, pathTok_eq, pathTok_eq]
  eq x y := by
    unfold pathD
    rw [eqD, eqDs_strs]
theorem allStr_map : ∀ {xs : List D}, allStr xs = true → ∃ ws : List W, xs = ws.map D.str
  | [], _ => ⟨[], rfl⟩
  | x :: xs, h => by
    have h' : isStr x = true ∧ allStr xs = true := by simpa [allStr] using h
    obtain ⟨ws, e⟩ := allStr_map h'.2
    cases x with
    | str w => exact ⟨w :: ws, by rw [e]; rfl⟩
    | _ => exact absurd h'.1 Bool.false_ne_true
theorem allPath_map : ∀ {xs : List D}, xs.all isPathD = true → ∃ ks : List (List W), xs = ks.map pathD ∧ ∀ k ∈ ks, k ≠ []
  | [], _ => ⟨[], rfl, fun _ h => (by cases h)⟩
  | x :: xs, h => by
    have h' : isPathD x = true ∧ xs.all isPathD = true := by simpa using h
    obtain ⟨ks, e, ne⟩ := allPath_map h'.2
    cases x with
    | tup ys =>
      have h2 : ys.isEmpty = false ∧ allStr ys = true := by simpa [isPathD] using h'.1
      obtain ⟨ws, ew⟩ := allStr_map h2.2
      refine ⟨ws :: ks, by rw [e, ew]; rfl, fun k hk => ?_⟩
      rcases List.mem_cons.mp hk with z | z
      · subst z
        intro z
        rw [ew, z] at h2
        exact absurd h2.1 (by simp)
      · exact ne k z
    | _ => exact absurd h'.1 Bool.false_ne_true
end Ow
/-! sorted(set(xs)), as a rule. -/
namespace Ow
open PySem PySem.Spec PyProof.Rows L2

def ofS (s : Str) : W := s.cps.toList
theorem toS_ofS (s : Str) : toS (ofS s) = s := by
  cases s
  simp [toS, ofS]
theorem ofS_toS (w : W) : ofS (toS w) = w := toS_cps w
theorem leS_w (a b : Str) : OwS.leS a b = kdW.le (ofS a) (ofS b) := by
  show (!PySem.W.dataLt (.str b) (.str a)) = !lexLt itemOrd [.inr (ofS b)] [.inr (ofS a)]
  unfold PySem.W.dataLt
  simp only [PySem.W.keyToks]
  rfl
theorem strs_py (k : List Str) : k.map PyData.str = toPys ((k.map ofS).map D.str) := by
  rw [toPys_map, List.map_map, List.map_map]
  refine List.map_congr_left fun s _ => ?_
  show PyData.str s = .str (toS (ofS s))
  rw [toS_ofS]
theorem leT_w (a b : List Str) : OwS.leT a b = kdP.le (a.map ofS) (b.map ofS) := by
  show (!PySem.W.dataLt (.tuple (b.map .str)) (.tuple (a.map .str))) = !lexLt itemOrd (pathTok (b.map ofS)) (pathTok (a.map ofS))
  rw [PySem.W.dataLt_tuple, strs_py, strs_py, pathTok_eq, pathTok_eq]
section
variable {wd : World} {K : PySem.W.Frag} {mu rho : List Addr} {H : Hp} {vs : List V}
theorem rls_strs : ∀ {ws : List W} {vs : List V}, Rls K mu rho H (ws.map D.str) vs → vs = (ws.map toS).map V.str
  | [], _, .nil => rfl
  | w :: ws, _, .cons r t => by
    rw [r.str_inv, rls_strs t]
    rfl
theorem rls_of_strs : ∀ ws : List W, Rls K mu rho H (ws.map D.str) ((ws.map toS).map V.str)
  | [] => .nil
  | w :: ws => .cons (.str w) (rls_of_strs ws)
theorem rls_paths : ∀ {ks : List (List W)} {vs : List V}, (∀ k ∈ ks, k ≠ []) → Rls K mu rho H (ks.map pathD) vs → ∃ L : List (Addr × List Str), vs = L.map (fun q => V.ref q.1) ∧ L.map (fun q => q.2.map ofS) = ks ∧
    ∀ q ∈ L, SqT K H q.1 (q.2.map V.str) ∧ q.2 ≠ [] ∧ Rl K mu rho H (pathD (q.2.map ofS)) (.ref q.1)
  | [], _, _, .nil => ⟨[], rfl, rfl, fun _ h => (by cases h)⟩
  | k :: ks, _, ne, .cons r t => by
    obtain ⟨L, e1, e2, h⟩ := rls_paths (fun k hk => ne k (List.mem_cons_of_mem _ hk)) t
    obtain ⟨a, ws, ea, ht, hr⟩ := r.tup_inv
    have ek : (k.map toS).map ofS = k := by
      rw [List.map_map]
      conv => rhs; rw [← List.map_id k]
      exact List.map_congr_left fun w _ => ofS_toS w
    refine ⟨(a, k.map toS) :: L, by rw [ea, e1]; rfl, by rw [List.map_cons, e2, ek], fun q hq => ?_⟩
    rcases List.mem_cons.mp hq with z | z
    · subst z
      refine ⟨?_, ?_, ?_⟩
      · have := ht.seq (K := K)
        rw [rls_strs hr] at this
        exact this
      · intro z
        exact ne k (List.mem_cons_self ..) (List.map_eq_nil_iff.mp z)
      · show Rl K mu rho H (pathD ((k.map toS).map ofS)) (.ref a)
        rw [ek, ← ea]
        exact r
    · exact h q z
theorem rls_refs : ∀ (L : List (Addr × List Str)), (∀ q ∈ L, Rl K mu rho H (pathD (q.2.map ofS)) (.ref q.1)) → Rls K mu rho H ((L.map fun q => q.2.map ofS).map pathD) (L.map fun q => V.ref q.1)
  | [], _ => .nil
  | q :: L, h => .cons (h q (List.mem_cons_self ..)) (rls_refs L fun q hq => h q (List.mem_cons_of_mem _ hq))
theorem ofS_inj {a b : Str} (h : ofS a = ofS b) : a = b := by rw [← toS_ofS a, ← toS_ofS b, h]
theorem mapOf_inj : ∀ {a b : List Str}, a.map ofS = b.map ofS → a = b
  | [], [], _ => rfl
  | [], _ :: _, h => by cases h
  | _ :: _, [], h => by cases h
  | x :: a, y :: b, h => by
    rw [List.map_cons, List.map_cons] at h
    injection h with h1 h2
    rw [ofS_inj h1, mapOf_inj h2]
theorem nodup_map {α β : Type} {f : α → β} (hf : ∀ a b, f a = f b → a = b) : ∀ {l : List α}, l.Nodup → (l.map f).Nodup
  | [], _ => .nil
  | a :: l, h => by
    obtain ⟨h1, h2⟩ := List.nodup_cons.mp h
    rw [List.map_cons]
    refine List.nodup_cons.mpr ⟨fun z => ?_, nodup_map hf h2⟩
    obtain ⟨b, hb, e⟩ := List.mem_map.mp z
    exact h1 (hf b a e ▸ hb)
end
section
variable {X : Cx} {a : Expr} {pos p p2 q2 : Pos} {fa : EvF} {m : Bool}
theorem re_sset (hc : X.calm = true) (hu : X.A.units + 80 < cLine) (hg : Gl X "sorted") (hm : X.mg "sorted" = none) (hg2 : Gl X "set") (hm2 : X.mg "set" = none) (ha : PE X a (RE X.w X.K fa))
    (na : starEach [a] X.env = (false, eval a X.env) :: starEach [] X.env) : PE X (.Call (.Name "sorted" p) [.Call (.Name "set" p2) [a] [] q2] [] pos) (RE X.w X.K fun env st => match fa env st with
      | some (x, s1) => match lstOf s1 x with
        | some xs => match sortedSet xs with
          | some ys => mkL m ys s1
          | none => none
        | none => none
      | none => none) :=
  PE.imp (OwS.pe_sortedSet hc hu hg hm hg2 hm2 ha na) fun σ H Q ⟨mu, rho, env, st, S, E, d, s', e, q⟩ => by
    dsimp only at e
    split at e
    · rename_i x s1 ea
      split at e
      · rename_i xs ex
        split at e
        · rename_i zs ez
          refine ⟨mu, rho, env, st, S, E, x, s1, ea, fun r1 H1 v1 l1 S1 R1 => ?_⟩
          obtain ⟨l, vs, rfl, hl, hr⟩ := R1.lstOf_inv S1 ex
          refine ⟨l, vs, rfl, .inl hl, ?_⟩
          unfold sortedSet at ez
          split at ez
          · rename_i hs
            split at ez
            · rename_i hlen
              have ez := Option.some.inj ez
              obtain ⟨ws, rfl⟩ := allStr_map hs
              refine .inl ⟨ws.map toS, rls_strs hr, ?_, fun ys p nd hmem hp hn => ?_⟩
              · rw [List.length_map] at hlen ⊢
                show ws.length + 1 < 4096
                omega
              · have e2 : ys.map ofS = kdW.sset ws := by
                  refine kdW.sset_only (nodup_map (fun _ _ => ofS_inj) nd) (fun z => ?_) (List.pairwise_map.mpr (hp.imp fun h => by rw [← leS_w]; exact h))
                  refine Iff.trans (show z ∈ List.map ofS ys ↔ ∃ s, s ∈ ys ∧ ofS s = z from List.mem_map) ?_
                  constructor
                  · rintro ⟨s, h1, h2⟩
                    obtain ⟨w, h3, h4⟩ := List.mem_map.mp ((hmem s).mp h1)
                    rw [← h2, ← h4, ofS_toS]
                    exact h3
                  · intro h
                    exact ⟨toS z, (hmem _).mpr (List.mem_map.mpr ⟨z, h, rfl⟩), ofS_toS z⟩
                have e3 : zs = (ys.map ofS).map D.str := by
                  rw [← ez, e2]
                  exact kdW.sset_enc ws
                have r3 : Rls X.K mu r1 H1 zs (ys.map V.str) := by
                  have := rls_of_strs (K := X.K) (mu := mu) (rho := r1) (H := H1) (ys.map ofS)
                  rw [List.map_map (g := toS), show (toS ∘ ofS) = id from funext toS_ofS, List.map_id] at this
                  rw [e3]
                  exact this
                exact Fin.newLst S1 r3 e (q.le l1) p hn
            · cases ez
          · split at ez
            · rename_i hs
              split at ez
              · rename_i hlen
                have ez := Option.some.inj ez
                obtain ⟨ks, rfl, ne⟩ := allPath_map hs
                obtain ⟨L, e1, e2, h⟩ := rls_paths ne hr
                refine .inr ⟨L, e1, fun q hq => ⟨(h q hq).1, (h q hq).2.1⟩, ?_, fun ys p nd h1 h2 hp hn => ?_⟩
                · have : L.length = ks.length := by rw [← e2, List.length_map]
                  rw [List.length_map] at hlen
                  omega
                · have e4 : (ys.map fun q => q.2.map ofS) = kdP.sset ks := by
                    refine kdP.sset_only ?_ (fun z => ?_) (List.pairwise_map.mpr (hp.imp fun h => by rw [← leT_w]; exact h))
                    · have := nodup_map (f := fun k : List Str => k.map ofS) (fun _ _ => mapOf_inj) nd
                      rw [List.map_map] at this
                      exact this
                    · rw [← e2]
                      refine Iff.trans (show z ∈ List.map (fun q : Addr × List Str => q.2.map ofS) ys ↔ ∃ q, q ∈ ys ∧ q.2.map ofS = z from List.mem_map) (Iff.trans ?_ (show z ∈ List.map (fun q : Addr × List Str => q.2.map ofS) L ↔ ∃ q, q ∈ L ∧ q.2.map ofS = z from List.mem_map).symm)
                      constructor
                      · rintro ⟨q, hq, e⟩
                        exact ⟨q, h1 q hq, e⟩
                      · rintro ⟨q, hq, e⟩
                        obtain ⟨q', hq', e'⟩ := List.mem_map.mp (h2 q hq)
                        exact ⟨q', hq', by rw [← e, e']⟩
                  have e3 : zs = (ys.map fun q => q.2.map ofS).map pathD := by
                    rw [← ez, e4]
                    exact kdP.sset_enc ks
                  have r3 : Rls X.K mu r1 H1 zs (ys.map fun q => V.ref q.1) := by
                    rw [e3]
                    exact rls_refs ys fun q hq => (h q (h1 q hq)).2.2
                  exact Fin.newLst S1 r3 e (q.le l1) p hn
              · cases ez
            · cases ez
        · cases e
      · cases e
    · cases e
end
end Ow
/-! Calls of built-in functions. -/
namespace Ow
open PySem PySem.Spec PyProof.Rows L2

def biName : Bi → Str
  | .len => "len"
  | .all => "all"
  | .any => "any"
  | .tuple => "tuple"
  | .list => "list"
  | .int => "int"
  | .max => "max"
  | .min => "min"
def notStar : Expr → Bool
  | .Starred _ _ => false
  | _ => true
theorem star_no {e : Expr} {es : List Expr} {env : Env} (h : notStar e = true) : starEach (e :: es) env = (false, eval e env) :: starEach es env := by
  cases e <;> first | rfl | cases h
theorem plain_no {pos : Pos} {env : Env} : ∀ {es : List Expr}, es.all notStar = true → (backTo pos (starEach es env)).any (·.1) = false
  | [], _ => rfl
  | e :: es, h => by
    rw [List.all_cons, Bool.and_eq_true] at h
    rw [star_no h.1]
    show (false || (backTo pos (starEach es env)).any (·.1)) = false
    rw [plain_no h.2]
    rfl
section
variable {X : Cx} {a e : Expr} {es : List Expr} {pos p : Pos} {fa : EvF} {fs : EvL} {m : Bool}
theorem boot_bi : ∀ b : Bi, bootBuiltins (biName b) = some (biVal b)
  | .len => by decide +kernel
  | .all => by decide +kernel
  | .any => by decide +kernel
  | .tuple => by decide +kernel
  | .list => by decide +kernel
  | .int => by decide +kernel
  | .max => by decide +kernel
  | .min => by decide +kernel
theorem biName_ok : ∀ b : Bi, biName b ≠ "__name__" ∧ (biName b == ("__debug__" : Str)) = false
  | .len => by decide +kernel
  | .all => by decide +kernel
  | .any => by decide +kernel
  | .tuple => by decide +kernel
  | .list => by decide +kernel
  | .int => by decide +kernel
  | .max => by decide +kernel
  | .min => by decide +kernel
theorem pe_biR {r : List V → Hp → VK → Prop} {t : TA} (b : Bi) (hc : CallR X (biVal b) r) (hg : Gl X (biName b)) (hm : X.mg (biName b) = none) (ha : PA X (e :: es) t) (he : notStar e = true) (hs : es.all notStar = true) :
    PE X (.Call (.Name (biName b) p) (e :: es) [] pos) (tCB r t) := by
  have hv := boot_bi b
  have hn := biName_ok b
  have h1 := star_no (es := es) (env := X.env) he
  have h2 := plain_no (pos := pos) (env := X.env) hs
  cases b with
  | len => exact pe_callB hc hg hm hv ha hn.1 hn.2 h1 h2
  | all => exact pe_callB hc hg hm hv ha hn.1 hn.2 h1 h2
  | any => exact pe_callB hc hg hm hv ha hn.1 hn.2 h1 h2
  | tuple => exact pe_callTy hc hg hm hv ha hn.1 hn.2 h1 h2
  | list => exact pe_callTy hc hg hm hv ha hn.1 hn.2 h1 h2
  | int => exact pe_callTy hc hg hm hv ha hn.1 hn.2 h1 h2
  | max => exact pe_callB hc hg hm hv ha hn.1 hn.2 h1 h2
  | min => exact pe_callB hc hg hm hv ha hn.1 hn.2 h1 h2
theorem re_bi (b : Bi) (hc : X.calm = true) (hg : Gl X (biName b)) (hm : X.mg (biName b) = none) (ha : PA X (e :: es) (RA X.w X.K fs)) (he : notStar e = true) (hs : es.all notStar = true) :
    PE X (.Call (.Name (biName b) p) (e :: es) [] pos) (RE X.w X.K fun env st => match fs env st with
      | some (ds, s1) => biD m b ds s1
      | none => none) :=
  PE.imp (pe_biR b (call_bi hc b) hg hm ha he hs) fun σ H Q ⟨mu, rho, env, st, S, E, d, s', e, q⟩ => by
    dsimp only at e
    split at e
    · rename_i ds s1 ea
      exact ⟨mu, rho, env, st, ds, s1, S, E, ea, fun r1 H1 vs l1 S1 R1 => bi_ok S1 R1 e (q.le l1)⟩
    · cases e
/-! isinstance -/
def tyStr : Ty → String
  | .int => "int"
  | .bool => "bool"
  | .str => "str"
  | .list => "list"
  | .tuple => "tuple"
def tyName : Ty → Str
  | .int => "int"
  | .bool => "bool"
  | .str => "str"
  | .list => "list"
  | .tuple => "tuple"
def ofTy : D → String
  | .non => "NoneType"
  | .bl _ => "bool"
  | .int _ => "int"
  | .str _ => "str"
  | .tup _ => "tuple"
  | .lst _ => "list"
  | .ref _ => "list"
theorem rl_ty {wd : World} {K : PySem.W.Frag} {mu rho : List Addr} {H : Hp} {st : Store} {d : D} {v : V} {t : Ty} {b : Bool} (S : Sim wd K mu rho H st) (r : Rl K mu rho H d v) (h : isTy t d st = some b) : TyX K H v (.type (ofTy d)) := by
  cases r with
  | non => exact .base .non
  | bl x => exact .base (.bl x)
  | int i => exact .base (.int i)
  | str w => exact .base (.str _)
  | tup ht _ _ =>
    rcases ht.1 with ht | ⟨o, ht⟩
    · exact .base (.tup ht)
    · exact .fTuple ht
  | lst ht _ =>
    rcases ht.1 with ht | ⟨o, ht⟩
    · exact .base (.lst ht)
    · exact .base (.frz ht)
  | ref ea =>
    cases t <;> simp only [isTy] at h <;> (split at h <;> first | cases h | skip) <;>
      (rename_i hn; obtain ⟨_, vs, h2, _⟩ := S.cells _ _ _ hn ea; exact .base (.lst h2))
theorem isTy_kit {st : Store} {d : D} {t : Ty} {b : Bool} (h : isTy t d st = some b) : kitB (ofTy d) (tyStr t) = some b := by
  cases d with
  | ref n => cases t <;> simp only [isTy] at h <;> (split at h <;> first | cases h | skip) <;> dsimp only [ofTy, tyStr] <;> decide +kernel
  | _ => cases t <;> cases h <;> dsimp only [ofTy, tyStr] <;> decide +kernel
theorem isTys_kit {K : PySem.W.Frag} {st : Store} {d : D} : ∀ {ts : List Ty} {b : Bool}, isTys ts d st = some b → PySem.W.kitAny K (.type (ofTy d)) (ts.map fun t => .type (tyStr t)) = some b
  | [], _, h => by cases h; exact kitAny_nil
  | t :: ts, b, h => by
    rw [isTys] at h
    split at h
    · rename_i ht
      cases h
      rw [List.map_cons]
      exact kitAny_cons (kit_ty (isTy_kit ht)) (fun z => by cases z) fun _ => rfl
    · rename_i ht
      rw [List.map_cons]
      exact kitAny_cons (kit_ty (isTy_kit ht)) (fun _ => isTys_kit h) fun z => by cases z
    · cases h
theorem isTys_one {st : Store} {d : D} {t : Ty} {b : Bool} (h : isTys [t] d st = some b) : isTy t d st = some b := by
  rw [isTys] at h
  split at h
  · rename_i ht; cases h; exact ht
  · rename_i ht; cases h; exact ht
  · cases h
theorem tyNm : ∀ t : Ty, bootBuiltins (tyName t) = some (.type (tyStr t)) ∧ tyName t ≠ "__name__" ∧ (tyName t == ("__debug__" : Str)) = false
  | .int => by decide +kernel
  | .bool => by decide +kernel
  | .str => by decide +kernel
  | .list => by decide +kernel
  | .tuple => by decide +kernel
theorem pe_ty (t : Ty) (hg : Gl X (tyName t)) (hm : X.mg (tyName t) = none) : PE X (.Name (tyName t) p) (tC (.ty (tyStr t))) := pe_bltn hg hm (tyNm t).1 rfl (tyNm t).2.1 (tyNm t).2.2
def iName : Str := "isinstance"
theorem iName_ok : bootBuiltins iName = some (.builtin "isinstance") ∧ iName ≠ "__name__" ∧ (iName == ("__debug__" : Str)) = false := by decide +kernel
theorem re_isi1 (t : Ty) (hg : Gl X iName) (hm : X.mg iName = none) (ht : Gl X (tyName t)) (hmt : X.mg (tyName t) = none) (ha : PE X a (RE X.w X.K fa)) (hna : notStar a = true) {pt : Pos} :
    PE X (.Call (.Name iName p) [a, .Name (tyName t) pt] [] pos) (RE X.w X.K fun env st => match fa env st with
      | some (x, s1) => match isTys [t] x s1 with
        | some b => some (.bl b, s1)
        | none => none
      | none => none) :=
  PE.imp (pe_callB call_isi hg hm iName_ok.1 (pa_cons ha (pa_cons (pe_ty t ht hmt) pa_nil rfl) (star_no hna)) iName_ok.2.1 iName_ok.2.2 (star_no hna) rfl) fun σ H Q ⟨mu, rho, env, st, S, E, d, s', e, q⟩ => by
    dsimp only at e
    split at e
    · rename_i x s1 ea
      split at e
      · rename_i b eb
        cases e
        refine ⟨mu, rho, env, st, S, E, x, _, ea, fun r1 H1 v1 l1 S1 R1 => ?_⟩
        have h1 := isTys_one eb
        exact ⟨v1, .ty (tyStr t), .type (ofTy x), .type (tyStr t), b, rfl, .ty _, rl_ty S1 R1 h1, kit_ty (isTy_kit h1), (q.le l1).here S1 (.bl _)⟩
      · cases e
    · cases e
/-- the names of the types -/
def tyExprs (ts : List (Ty × Pos)) : List Expr := ts.map fun t => .Name (tyName t.1) t.2
def tTys : List Ty → TA := fun ts σ H Q => Q (ts.map fun t => V.ty (tyStr t)) H
theorem pa_tys : ∀ (ts : List (Ty × Pos)), (∀ t ∈ ts, Gl X (tyName t.1) ∧ X.mg (tyName t.1) = none) → PA X (tyExprs ts) (tTys (ts.map (·.1)))
  | [], _ => pa_nil
  | t :: ts, h => by
    have ih := pa_tys ts fun t ht => h t (List.mem_cons_of_mem _ ht)
    have h0 := h t (List.mem_cons_self ..)
    exact PA.imp (pa_cons (pe_ty t.1 h0.1 h0.2) ih rfl) fun σ H Q q => q
theorem clsv_tys : ∀ ts : List Ty, Paired ClsV (ts.map fun t => V.ty (tyStr t)) (ts.map fun t => Value.type (tyStr t))
  | [] => .nil
  | t :: ts => .cons (.ty _) (clsv_tys ts)
theorem re_isiT (ts : List (Ty × Pos)) (hg : Gl X iName) (hm : X.mg iName = none) (ht : ∀ t ∈ ts, Gl X (tyName t.1) ∧ X.mg (tyName t.1) = none) (hl : ts.length ≤ 100) (hne : ts ≠ []) (ha : PE X a (RE X.w X.K fa)) (hna : notStar a = true) {pt : Pos} {k : Nat} :
    PE X (.Call (.Name iName p) [a, .Tuple (tyExprs ts) k pt] [] pos) (RE X.w X.K fun env st => match fa env st with
      | some (x, s1) => match isTys (ts.map (·.1)) x s1 with
        | some b => some (.bl b, s1)
        | none => none
      | none => none) :=
  PE.imp (pe_callB call_isiT hg hm iName_ok.1 (pa_cons ha (pa_cons (pe_tup (pa_tys ts ht)) pa_nil rfl) (star_no hna)) iName_ok.2.1 iName_ok.2.2 (star_no hna) rfl) fun σ H Q ⟨mu, rho, env, st, S, E, d, s', e, q⟩ => by
    dsimp only at e
    split at e
    · rename_i x s1 ea
      split at e
      · rename_i b eb
        cases e
        refine ⟨mu, rho, env, st, S, E, x, _, ea, fun r1 H1 v1 l1 S1 R1 => ⟨?_, fun tp hn => ?_⟩⟩
        · rw [List.length_map, List.length_map, sizeLine_eq]
          omega
        · have l2 : Le r1 H1 r1 (upd H1 tp (.tup ((ts.map (·.1)).map fun t => V.ty (tyStr t)))) := Le.fresh hn
          have hty : ∃ t b', isTy t x s' = some b' := by
            cases ts with
            | nil => exact absurd rfl hne
            | cons t r =>
              rw [List.map_cons, isTys] at eb
              split at eb
              · rename_i hh; exact ⟨t.1, true, hh⟩
              · rename_i hh; exact ⟨t.1, false, hh⟩
              · cases eb
          obtain ⟨t, b', hty⟩ := hty
          exact ⟨v1, tp, _, .type (ofTy x), _, b, rfl, upd_same, clsv_tys _, rl_ty (S1.fresh hn) (R1.le l2) hty, isTys_kit eb, (q.le (l1.trans l2)).here (S1.fresh hn) (.bl _)⟩
      · cases e
    · cases e
end
end Ow
/-! enumerate of a tuple. -/
namespace Ow
open PySem PySem.Spec PyProof.Rows L2
open AutoSeq1 (wpAny_loadPart')

/-- the objects that enumerate(t) lays -/
def tupItObj (t : Addr) : Obj := { cls := .type "tuple_iterator", data := .fields #[.ref t, .int 0 0] }
def enumObj (it : Addr) : Obj := { cls := .type "enumerate", data := .fields #[.none, .bool false, .ref it, rawInt 0, .none, .none] }
theorem enumNewTup (t : Addr) (its : Array Value) (n : Nat) (dd : Option Addr) (sl : Array (Option Value)) :
    Meets (Builtin.«enumerate.__new__» ⟨[.type "enumerate", .ref t], []⟩) (fun _ R s => s.heap.get? t = some { cls := .type "tuple", dict := dd, data := .seq its n, slots := sl } ∧
      R (.ok (.ret (.ref (s.heap.push (tupItObj t)).objs.size))) { s with heap := (s.heap.push (tupItObj t)).push (enumObj s.heap.objs.size) }) := by
  refine .of_wp fun prog w A R s h => ?_
  obtain ⟨hp, g, d, tk, os⟩ := s
  obtain ⟨ht, h⟩ := h
  unfold tupItObj enumObj at h
  have sub := sub_enumerate
  have isT : Heap.IsTuple (Shared.heap ⟨hp, g, d, tk, os⟩) t its := ⟨_, ht, rfl, n, rfl⟩
  wp_walk using wpAny_loadPart' ht
  refine wpAny_stack_any fun stk => wpAny_pure ?_
  split
  · rename_i c _ _ _ _ _
    cases (c == Value.type "enumerate") <;> (wp_walk using wpAny_loadPart' ht, wpAny_pyIter_tuple isT; exact ⟨_, rfl, h⟩)
  · wp_walk using wpAny_loadPart' ht, wpAny_pyIter_tuple isT
    exact ⟨_, rfl, h⟩
section
variable {prog : Program} {w : World} {A : Around} {E : Value → Shared → Prop} {s : Shared}
theorem call_enumTup {t : Addr} {its : Array Value} {Q : Value → Shared → Prop} (ht : IsTup s.heap t its)
    (h : ∀ h', IsEnum h' (s.heap.objs.size + 1) s.heap.objs.size 0 .none → h'.IsTupleIter s.heap.objs.size t 0 → (∀ b o, s.heap.get? b = some o → h'.get? b = some o) → Q (.ref (s.heap.objs.size + 1)) { s with heap := h' }) :
    wpAny (model prog w) A (PySem.call (.type "enumerate") [.ref t]) Q E s := by
  obtain ⟨⟨cls, dd, data, sl⟩, ho, hc, n, hd⟩ := ht
  cases hc
  cases hd
  have sz : (s.heap.push (tupItObj t)).objs.size = s.heap.objs.size + 1 := Heap.size_push ..
  have he : IsEnum ((s.heap.push (tupItObj t)).push (enumObj s.heap.objs.size)) (s.heap.objs.size + 1) s.heap.objs.size 0 .none := by
    have z := Heap.get?_push_size (s.heap.push (tupItObj t)) (o := enumObj s.heap.objs.size) rfl
    rw [sz] at z
    exact z
  refine callType_new F.called_enumerate (by decide) (F.typeCall_enumerate_1 _) (F.newCall_enumerate_1 _) (fun obj => F.args_object_init_2 obj _) F.entry_enumerate_new
    (enumNewTup t its n dd sl) ⟨ho, ?_⟩
  show _ ∧ _
  rw [sz]
  exact ⟨⟨_, he, rfl⟩, h _ he ⟨_, Heap.get?_push_of_some _ (Heap.get?_push_size _ rfl), rfl, rfl⟩ fun b o x => Heap.get?_push_of_some _ (Heap.get?_push_of_some _ x)⟩
end
/-- the tuple at a, each item in a new pair -/
def IteT (K : PySem.W.Frag) (a : Addr) : L2.It where
  go i H := ∃ (xs : List V) (x : V), SqT K H a xs ∧ xs[i]? = some x
  yld i H v H' := ∃ T x, v = .ref T ∧ H T = none ∧ H' = upd H T (.tup [.int (i : Nat), x]) ∧ ∀ xs, SqT K H a xs → xs[i]? = some x
  stop i H := ∃ xs : List V, SqT K H a xs ∧ xs.length = i
theorem turn_enumT {P : Program} {w : World} {K : PySem.W.Frag} {elts : List Expr} {kk : Nat} {tpos : Pos} (a e it : Addr) :
    Turn P w K (.Tuple elts kk tpos) (IteT K a) [e, it] e (fun i h => (∃ old, IsEnum h e it ((i : Nat) : Int) old) ∧ h.IsTupleIter it a i ∧ e ≠ it ∧ e ≠ a ∧ a ≠ it) where
  mem := List.mem_cons_self ..
  obj i h st b hb := by
    obtain ⟨⟨old, he⟩, ⟨o, ho, hc, hd⟩, _⟩ := st
    rcases List.mem_cons.mp hb with z | z
    · subst z
      exact ⟨_, he, fun v q => (by cases q)⟩
    · rw [List.mem_singleton.mp z]
      exact ⟨o, ho, fun v q => by rw [hd] at q; cases q⟩
  keep i h h' st k := by
    obtain ⟨⟨old, he⟩, hi, ne⟩ := st
    exact ⟨⟨old, k e (List.mem_cons_self ..) _ he⟩, hi.at fun o q => k it (List.mem_cons_of_mem _ (List.mem_cons_self ..)) o q, ne⟩
  item := by
    intro X hP hw hK hc i pins s σ H E I hf st hg
    subst hP hw hK
    obtain ⟨⟨old, he⟩, hit, ne, ne2, ne3⟩ := st
    obtain ⟨xs, x, hq, hx⟩ := hg
    obtain ⟨its, rv, p, hz⟩ := I.tuple hq
    obtain ⟨u, hu, ru⟩ := rv.get hx
    have le : e < s.heap.objs.size := Heap.lt_size he
    have li : it < s.heap.objs.size := by obtain ⟨_, q, _⟩ := hit; exact Heap.lt_size q
    have nf : e ∉ [it, a] := by
      intro z
      rcases List.mem_cons.mp z with z | z
      · exact ne z
      · exact ne2 (List.mem_singleton.mp z)
    have isT : s.heap.IsTuple a its.toArray := p
    refine wpAny_pyNext_enum_itemD (Draws.tuple (show X.A.in1.handled = none from I.ok.hd hc) it a ne3 its.toArray) he ⟨hit, isT⟩ ?_ ne nf fun y h' tk hy ho hst hT hsz hk => ?_
    · rw [List.size_toArray]
      exact (List.getElem?_eq_some_iff.mp hu).1
    · have ey : y = u := by
        have hy' : its.toArray[i]? = some y := hy
        rw [List.getElem?_toArray, hu] at hy'
        exact (Option.some.inj hy').symm
      subst ey
      refine ⟨_, rfl, wpAny_letOwnedTupleGo_enum (s := { s with heap := h', toks := tk + 1 }) ho fun h'' he' sb => ?_⟩
      have hT2 := (sb.2 _ (Nat.ne_of_gt le)).trans hT
      have ks : ∀ b o, b ∉ [e, it] → s.heap.get? b = some o → h''.get? b = some o := fun b o hb q => by
        have b1 : b ≠ e := fun z => hb (by rw [z]; exact List.mem_cons_self ..)
        have b2 : b ≠ it := fun z => hb (by rw [z]; exact List.mem_cons_of_mem _ (List.mem_cons_self ..))
        exact (sb.2 b b1).trans (hk b o b1 b2 q)
      have I1 : Inv X pins σ (upd H s.heap.objs.size (.tup [.int (i : Nat), x])) { s with heap := h'', toks := tk + 1 } :=
        I.turnedNew (ch := [e, it]) ks hf (Nat.le_refl _) ⟨by show 2 ≤ sizeLine; decide, [.int i tk, y], .cons ⟨_, rfl⟩ (.cons ru .nil), ⟨_, hT2, rfl, _, rfl⟩⟩
      refine ⟨.ref s.heap.objs.size, _, I1, rfl, ⟨_, x, rfl, I.fresh, rfl, fun zs h => by rw [I.tuple_inj h hq]; exact hx⟩, ⟨⟨y, ?_⟩, hst.1.at fun o q => (sb.2 it (Ne.symm ne)).trans q, ne, ne2, ne3⟩, fun b hb => ?_⟩
      · rw [show ((i + 1 : Nat) : Int) = (i : Int) + 1 from by omega]
        exact he'
      · have lb : b < s.heap.objs.size := by
          rcases List.mem_cons.mp hb with z | z
          · rw [z]; exact le
          · rw [List.mem_singleton.mp z]; exact li
        rw [upd_ne (Nat.ne_of_lt lb)]
        exact (hf b hb).1
  done := by
    intro X hP hw hK hc i pins s σ H E I hf st hg
    subst hP hw hK
    obtain ⟨⟨old, he⟩, hit, ne, ne2, ne3⟩ := st
    obtain ⟨xs, hq, hx⟩ := hg
    obtain ⟨its, rv, p, hz⟩ := I.tuple hq
    obtain ⟨f0, f1, f2, f3, f4, f5⟩ := hf it (List.mem_cons_of_mem _ (List.mem_cons_self ..))
    have isT : s.heap.IsTuple a its.toArray := p
    have hn : its.toArray.size = i := by rw [List.size_toArray, ← rv.length, hx]
    refine wpAny_pyNext_enum_endD (Draws.tuple (show X.A.in1.handled = none from I.ok.hd hc) it a ne3 its.toArray) he ⟨by rw [hn]; exact hit, isT⟩ fun h' eb => ?_
    exact ⟨rfl, I.turned (t' := s.toks) eb f0 f1 f3 f4 f5⟩
  self A i s Q E st h := let ⟨⟨_, he⟩, _⟩ := st; wpAny_pyIter_enum he h
end Ow
/-! What a loop walks. -/
namespace Ow
open PySem PySem.Spec PyProof.Rows L2

def Src.len : Src → Nat
  | .st xs => xs.length
  | .live _ len => len
def Src.at : Src → Nat → Store → Option D
  | .st xs, i, _ => xs[i]?
  | .live n len, i, s => liveAt n len i s
def Src.fin : Src → Store → Bool
  | .st _, _ => true
  | .live n len, s => liveEnd n len s
section
variable (wd : World) (K : PySem.W.Frag) (mu rho : List Addr) (H : Hp)
inductive Walk : L2.It → Src → Prop where
  | lst {a : Addr} {vs : List V} {ds : List D} : LstAt mu rho H a vs → Rls K mu rho H ds vs → Walk (Itl K a) (.st ds)
  | tup {a : Addr} {vs : List V} {ds : List D} : TupAt mu rho H a vs → Rls K mu rho H ds vs → Walk (Itt K a) (.st ds)
  | live {a : Addr} {n : Nat} (len : Nat) : rho[n]? = some a → Walk (Itl K a) (.live n len)
  | rng (lo : Int) (n : Nat) : Walk (Itr lo n) (.st (rngL lo n))
  | wDown (lo : Int) (n : Nat) : Walk (Itc lo (-1) n) (.st (rngD lo n))
  | str (w : W) : Walk (Its (toS w)) (.st (w.map fun c => .str [c]))
  | wEnumL {a : Addr} {vs : List V} {ds : List D} : LstAt mu rho H a vs → Rls K mu rho H ds vs → Walk (Ite K a) (.st (enumL 0 ds))
  | wEnumT {a : Addr} {vs : List V} {ds : List D} : TupAt mu rho H a vs → Rls K mu rho H ds vs → Walk (IteT K a) (.st (enumL 0 ds))
  | wZipL {a b : Addr} {vs ws : List V} {ds es : List D} : LstAt mu rho H a vs → Rls K mu rho H ds vs → LstAt mu rho H b ws → Rls K mu rho H es ws → ds.all notPr = true → Walk (Itz K a b) (.st (zipL ds es))
  | wZipT {a b : Addr} {vs ws : List V} {ds es : List D} : TupAt mu rho H a vs → Rls K mu rho H ds vs → TupAt mu rho H b ws → Rls K mu rho H es ws → ds.all notPr = true → Walk (RZ.ItzT K a b) (.st (zipL ds es))
end
section
variable {wd : World} {K : PySem.W.Frag} {mu rho rho' : List Addr} {H H' : Hp} {st st' : Store} {a p : Addr} {vs ws : List V} {ds es : List D} {d e x : D} {v u : V} {Q : VK} {J : L2.It} {src : Src}
theorem Walk.lm (w : Walk K mu rho H J src) (l : Lm mu rho H rho' H') : Walk K mu rho' H' J src := by
  cases w with
  | lst h r => exact .lst (h.lm l) (r.lm l)
  | tup h r => exact .tup (h.lm l) (r.lm l)
  | live len h => exact .live len (pre_get l.pre h)
  | rng lo n => exact .rng lo n
  | wDown lo n => exact .wDown lo n
  | str w => exact .str w
  | wEnumL h r => exact .wEnumL (h.lm l) (r.lm l)
  | wEnumT h r => exact .wEnumT (h.lm l) (r.lm l)
  | wZipL h r h2 r2 n => exact .wZipL (h.lm l) (r.lm l) (h2.lm l) (r2.lm l) n
  | wZipT h r h2 r2 n => exact .wZipT (h.lm l) (r.lm l) (h2.lm l) (r2.lm l) n
theorem LstAt.pend {o : HO} (h : LstAt mu rho H a vs) (n : H p = none) : LstAt (p :: mu) rho (upd H p o) a vs :=
  ⟨(Rd.upd h.1 n).1, h.2.1, fun z => (List.mem_cons.mp z).elim (Rd.upd (o := o) h.1 n).2 h.2.2⟩
theorem TupAt.pend {o : HO} (h : TupAt mu rho H a vs) (n : H p = none) : TupAt (p :: mu) rho (upd H p o) a vs := by
  obtain ⟨h, k, m⟩ := h
  exact ⟨(Rd.upd h n).1, k, fun z => (List.mem_cons.mp z).elim (Rd.upd (o := o) h n).2 m⟩
theorem Walk.pend {o : HO} (w : Walk K mu rho H J src) (n : H p = none) : Walk K (p :: mu) rho (upd H p o) J src := by
  cases w with
  | lst h r => exact .lst (h.pend n) (r.pend n)
  | tup h r => exact .tup (h.pend n) (r.pend n)
  | live len h => exact .live len h
  | rng lo n => exact .rng lo n
  | wDown lo n => exact .wDown lo n
  | str w => exact .str w
  | wEnumL h r => exact .wEnumL (h.pend n) (r.pend n)
  | wEnumT h r => exact .wEnumT (h.pend n) (r.pend n)
  | wZipL h r h2 r2 z => exact .wZipL (h.pend n) (r.pend n) (h2.pend n) (r2.pend n) z
  | wZipT h r h2 r2 z => exact .wZipT (h.pend n) (r.pend n) (h2.pend n) (r2.pend n) z
theorem rngL_len : ∀ (n : Nat) (lo : Int), (rngL lo n).length = n
  | 0, _ => rfl
  | n + 1, lo => by rw [rngL, List.length_cons, rngL_len n]
theorem rngL_get : ∀ (n : Nat) (lo : Int) (i : Nat), (rngL lo n)[i]? = if i < n then some (.int (lo + i)) else none
  | 0, _, i => by simp [rngL]
  | n + 1, lo, 0 => by simp [rngL]
  | n + 1, lo, i + 1 => by
    rw [rngL, List.getElem?_cons_succ, rngL_get n (lo + 1) i]
    by_cases h : i < n
    · rw [if_pos h, if_pos (Nat.succ_lt_succ h), show lo + 1 + (i : Int) = lo + ((i + 1 : Nat) : Int) from by omega]
    · rw [if_neg h, if_neg (fun z => h (Nat.lt_of_succ_lt_succ z))]
theorem rngD_len : ∀ (n : Nat) (lo : Int), (rngD lo n).length = n
  | 0, _ => rfl
  | n + 1, lo => by rw [rngD, List.length_cons, rngD_len n]
theorem rngD_get : ∀ (n : Nat) (lo : Int) (i : Nat), (rngD lo n)[i]? = if i < n then some (.int (lo + (i : Nat) * (-1))) else none
  | 0, _, i => by simp [rngD]
  | n + 1, lo, 0 => by simp [rngD]
  | n + 1, lo, i + 1 => by
    rw [rngD, List.getElem?_cons_succ, rngD_get n (lo - 1) i]
    by_cases h : i < n
    · rw [if_pos h, if_pos (Nat.succ_lt_succ h), show lo - 1 + (i : Int) * (-1) = lo + ((i + 1 : Nat) : Int) * (-1) from by omega]
    · rw [if_neg h, if_neg (fun z => h (Nat.lt_of_succ_lt_succ z))]
theorem enumL_len : ∀ (ds : List D) (k : Int), (enumL k ds).length = ds.length
  | [], _ => rfl
  | d :: ds, k => by rw [enumL, List.length_cons, List.length_cons, enumL_len ds]
theorem enumL_get : ∀ (ds : List D) (k : Int) (i : Nat), (enumL k ds)[i]? = (ds[i]?).map fun x => .tup [.int (k + i), x]
  | [], _, _ => by simp [enumL]
  | d :: ds, k, 0 => by simp [enumL]
  | d :: ds, k, i + 1 => by
    rw [enumL, List.getElem?_cons_succ, List.getElem?_cons_succ, enumL_get ds (k + 1) i, show k + 1 + (i : Int) = k + ((i + 1 : Nat) : Int) from by omega]
theorem zipL_len : ∀ (ds es : List D), (zipL ds es).length = min ds.length es.length
  | [], _ => by simp [zipL]
  | _ :: _, [] => by simp [zipL]
  | d :: ds, e :: es => by
    rw [zipL, List.length_cons, List.length_cons, List.length_cons, zipL_len ds es]
    omega
theorem zipL_get : ∀ (ds es : List D) (i : Nat) (x : D), (zipL ds es)[i]? = some x → ∃ a b, ds[i]? = some a ∧ es[i]? = some b ∧ x = .tup [a, b]
  | [], _, _, _, h => by simp [zipL] at h
  | _ :: _, [], _, _, h => by simp [zipL] at h
  | d :: ds, e :: es, 0, x, h => by
    simp [zipL] at h
    exact ⟨d, e, rfl, rfl, h.symm⟩
  | d :: ds, e :: es, i + 1, x, h => by
    rw [zipL, List.getElem?_cons_succ] at h
    obtain ⟨a, b, h1, h2, h3⟩ := zipL_get ds es i x h
    exact ⟨a, b, h1, h2, h3⟩
/-- what the walk hands out at turn i -/
def Given (wd : World) (K : PySem.W.Frag) (mu rho : List Addr) (H : Hp) (s : Store) (J : L2.It) (i : Nat) (x : D) : Prop :=
  J.go i H ∧ ∀ v H2, J.yld i H v H2 → Le rho H rho H2 ∧ Sim wd K mu rho H2 s ∧ Rl K mu rho H2 x v
theorem live_at {n len i : Nat} (h : liveAt n len i st = some x) : ∃ xs, st[n]? = some (.lst xs) ∧ xs.length = len ∧ xs[i]? = some x := by
  unfold liveAt at h
  split at h
  · rename_i xs hn
    split at h
    · rename_i hl
      exact ⟨xs, hn, hl, h⟩
    · cases h
  · cases h
theorem live_end {n len : Nat} (h : liveEnd n len st = true) : ∃ xs, st[n]? = some (.lst xs) ∧ xs.length = len := by
  unfold liveEnd at h
  split at h
  · rename_i xs hn
    exact ⟨xs, hn, by simpa using h⟩
  · cases h
/-- a new pair -/
theorem pair_given {A : HO} (S : Sim wd K mu rho H st) {T : Addr} (hT : H T = none) (r1 : Rl K mu rho H d v) (r2 : Rl K mu rho H e u) (np : notPr d = true) :
    Le rho H rho (upd H T (.tup [v, u])) ∧ Sim wd K mu rho (upd H T (.tup [v, u])) st ∧ Rl K mu rho (upd H T (.tup [v, u])) (.tup [d, e]) (.ref T) :=
  ⟨Le.fresh hT, S.fresh hT, .tup ⟨.inl upd_same, S.notRho hT, S.notMu hT⟩ ⟨rfl, .inr ⟨d, e, rfl, np⟩⟩ (.cons (r1.le (Le.fresh hT)) (.cons (r2.le (Le.fresh hT)) .nil))⟩
theorem Walk.turn (w : Walk K mu rho H J src) (S : Sim wd K mu rho H st) {i : Nat} (h : src.at i st = some x) : Given wd K mu rho H st J i x := by
  cases w with
  | lst hl r =>
    obtain ⟨z, hz, rz⟩ := r.get i h
    refine ⟨⟨_, z, .inl hl.1, hz⟩, fun v H2 ⟨e, y⟩ => ?_⟩
    subst e
    have := y _ (.inl hl.1)
    rw [hz] at this
    cases this
    exact ⟨Le.refl _ _, S, rz⟩
  | tup hl r =>
    obtain ⟨z, hz, rz⟩ := r.get i h
    refine ⟨⟨_, z, hl.seq, hz⟩, fun v H2 ⟨e, y⟩ => ?_⟩
    subst e
    have := y _ hl.seq
    rw [hz] at this
    cases this
    exact ⟨Le.refl _ _, S, rz⟩
  | live len ea =>
    obtain ⟨xs, h1, h2, h3⟩ := live_at h
    obtain ⟨_, vs, k2, k3⟩ := S.cells _ _ _ h1 ea
    obtain ⟨z, hz, rz⟩ := k3.get i h3
    refine ⟨⟨_, z, .inl (.inl k2), hz⟩, fun v H2 ⟨e, y⟩ => ?_⟩
    subst e
    have := y _ (.inl (.inl k2))
    rw [hz] at this
    cases this
    exact ⟨Le.refl _ _, S, rz⟩
  | rng lo n =>
    have h' : (rngL lo n)[i]? = some x := h
    rw [rngL_get] at h'
    split at h'
    · rename_i hi
      cases h'
      refine ⟨hi, fun v H2 ⟨e, y⟩ => ?_⟩
      subst e y
      exact ⟨Le.refl _ _, S, .int _⟩
    · cases h'
  | wDown lo n =>
    have h' : (rngD lo n)[i]? = some x := h
    rw [rngD_get] at h'
    split at h'
    · rename_i hi
      cases h'
      refine ⟨hi, fun v H2 ⟨e, y⟩ => ?_⟩
      subst e y
      exact ⟨Le.refl _ _, S, .int _⟩
    · cases h'
  | str w =>
    have h' : (w.map fun c => D.str [c])[i]? = some x := h
    rw [List.getElem?_map] at h'
    cases hw : w[i]? with
    | none => rw [hw] at h'; cases h'
    | some c =>
      rw [hw] at h'
      cases h'
      have hi : i < w.length := (List.getElem?_eq_some_iff.mp hw).1
      refine ⟨show i < (toS w).cps.size from by simpa [toS] using hi, fun v H2 ⟨e, c', hc, y⟩ => ?_⟩
      subst e y
      have : c' = c := by
        have h2 : w[i]? = some c' := by simpa [toS] using hc
        rw [hw] at h2
        cases h2
        rfl
      subst this
      exact ⟨Le.refl _ _, S, .str [c']⟩
  | @wEnumL a vs ds hl r =>
    have h' : (enumL 0 ds)[i]? = some x := h
    rw [enumL_get] at h'
    cases hd : ds[i]? with
    | none => rw [hd] at h'; cases h'
    | some d =>
      rw [hd] at h'
      cases h'
      obtain ⟨z, hz, rz⟩ := r.get i hd
      refine ⟨⟨_, z, .inl hl.1, hz⟩, fun v H2 ⟨T, y, e1, hT, e2, e3⟩ => ?_⟩
      have := e3 _ (.inl hl.1)
      rw [hz] at this
      cases this
      subst e1 e2
      rw [show (0 : Int) + (i : Int) = (i : Int) from by omega]
      exact pair_given (A := .own 0) S hT (.int _) rz rfl
  | @wEnumT a vs ds hl r =>
    have h' : (enumL 0 ds)[i]? = some x := h
    rw [enumL_get] at h'
    cases hd : ds[i]? with
    | none => rw [hd] at h'; cases h'
    | some d =>
      rw [hd] at h'
      cases h'
      obtain ⟨z, hz, rz⟩ := r.get i hd
      refine ⟨⟨_, z, hl.seq, hz⟩, fun v H2 ⟨T, y, e1, hT, e2, e3⟩ => ?_⟩
      have := e3 _ hl.seq
      rw [hz] at this
      cases this
      subst e1 e2
      rw [show (0 : Int) + (i : Int) = (i : Int) from by omega]
      exact pair_given (A := .own 0) S hT (.int _) rz rfl
  | @wZipL a b vs ws ds es h1 r1 h2 r2 hnp =>
    obtain ⟨d, e, hd, he, rfl⟩ := zipL_get ds es i x h
    obtain ⟨z, hz, rz⟩ := r1.get i hd
    obtain ⟨y, hy, ry⟩ := r2.get i he
    refine ⟨⟨_, _, z, y, .inl h1.1, .inl h2.1, hz, hy⟩, fun v H2 ⟨T, z', y', e1, hT, e2, e3, e4⟩ => ?_⟩
    have q1 := e3 _ (.inl h1.1)
    have q2 := e4 _ (.inl h2.1)
    rw [hz] at q1
    rw [hy] at q2
    cases q1
    cases q2
    subst e1 e2
    exact pair_given (A := .own 0) S hT rz ry (List.all_eq_true.mp hnp _ (List.mem_of_getElem? hd))
  | @wZipT a b vs ws ds es h1 r1 h2 r2 hnp =>
    obtain ⟨d, e, hd, he, rfl⟩ := zipL_get ds es i x h
    obtain ⟨z, hz, rz⟩ := r1.get i hd
    obtain ⟨y, hy, ry⟩ := r2.get i he
    refine ⟨⟨_, _, z, y, h1.seq, h2.seq, hz, hy⟩, fun v H2 ⟨T, z', y', e1, hT, e2, e3, e4⟩ => ?_⟩
    have q1 := e3 _ h1.seq
    have q2 := e4 _ h2.seq
    rw [hz] at q1
    rw [hy] at q2
    cases q1
    cases q2
    subst e1 e2
    exact pair_given (A := .own 0) S hT rz ry (List.all_eq_true.mp hnp _ (List.mem_of_getElem? hd))
theorem Walk.done (w : Walk K mu rho H J src) (S : Sim wd K mu rho H st) (h : src.fin st = true) : J.stop src.len H := by
  cases w with
  | lst hl r => exact ⟨_, .inl hl.1, by rw [← r.length]; exact Nat.le_refl _⟩
  | tup hl r => exact ⟨_, hl.seq, by rw [← r.length]; exact Nat.le_refl _⟩
  | live len ea =>
    obtain ⟨xs, h1, h2⟩ := live_end h
    obtain ⟨_, vs, k2, k3⟩ := S.cells _ _ _ h1 ea
    exact ⟨vs, .inl (.inl k2), by rw [← k3.length, h2]; exact Nat.le_refl _⟩
  | rng lo n =>
    show n ≤ (rngL lo n).length
    rw [rngL_len]
    exact Nat.le_refl _
  | wDown lo n =>
    show n ≤ (rngD lo n).length
    rw [rngD_len]
    exact Nat.le_refl _
  | str w =>
    show (toS w).cps.size ≤ (w.map fun c => D.str [c]).length
    rw [List.length_map]
    simp [toS]
  | wEnumL hl r => exact ⟨_, .inl hl.1, by rw [← r.length]; show _ ≤ (enumL 0 _).length; rw [enumL_len]; exact Nat.le_refl _⟩
  | wEnumT hl r => exact ⟨_, hl.seq, by rw [← r.length]; show _ = (enumL 0 _).length; rw [enumL_len]⟩
  | wZipL h1 r1 h2 r2 =>
    refine ⟨_, _, .inl h1.1, .inl h2.1, ?_⟩
    show _ ≤ (zipL _ _).length ∨ _ ≤ (zipL _ _).length
    rw [zipL_len, ← r1.length, ← r2.length]
    omega
  | wZipT h1 r1 h2 r2 =>
    refine ⟨_, _, h1.seq, h2.seq, ?_⟩
    show _ ≤ (zipL _ _).length ∨ _ ≤ (zipL _ _).length
    rw [zipL_len, ← r1.length, ← r2.length]
    omega
end
end Ow
/-! Iterators. -/
namespace Ow
open PySem PySem.Spec PyProof.Rows L2

abbrev EvI := Envr → Store → Option (Src × Store)
def RI (wd : World) (K : PySem.W.Frag) (f : EvI) : TI := fun σ H R => ∃ mu rho env st src st', Sim wd K mu rho H st ∧ EnvR K mu rho H env σ ∧ f env st = some (src, st') ∧
  ∀ rho' H' J, Le rho H rho' H' → Sim wd K mu rho' H' st' → Walk K mu rho' H' J src → R J H'
section
variable {X : Cx} {tg a b c : Expr} {pos p tpos : Pos} {fa fb fc : EvF} {fs : EvL} {elts : List Expr} {kk : Nat}
theorem sqt_of_walk {K : PySem.W.Frag} {mu rho : List Addr} {H : Hp} {q : Addr} {vs : List V} (h : TupAt mu rho H q vs) : ∃ xs, SqT K H q xs := ⟨vs, h.seq⟩
/-- over a list, a tuple, a text -/
theorem ri_of (ha : PE X a (RE X.w X.K fa)) : PI X tg a (RI X.w X.K fun env st => match fa env st with
      | some (x, s1) => match srcOf s1 x with
        | some src => some (src, s1)
        | none => none
      | none => none) := by
  refine ⟨fun pins s σ H R I ⟨mu, rho, env, st, src, st', S, E, e, q⟩ => ?_⟩
  dsimp only at e
  split at e
  · rename_i x s1 ea
    split at e
    · rename_i src ex
      cases e
      cases x with
      | tup xs =>
        cases ex
        refine (pi_tup ha).run pins s σ H R I ⟨mu, rho, env, st, S, E, _, _, ea, fun r1 H1 v1 l1 S1 R1 => ?_⟩
        obtain ⟨a, vs, rfl, ht, hr⟩ := R1.tup_inv
        exact ⟨a, rfl, ⟨vs, ht.seq⟩, q r1 H1 _ l1 S1 (.tup ht hr)⟩
      | lst xs =>
        cases ex
        refine (pi_list ha).run pins s σ H R I ⟨mu, rho, env, st, S, E, _, _, ea, fun r1 H1 v1 l1 S1 R1 => ?_⟩
        cases R1 with
        | lst ht hr => exact ⟨_, rfl, ⟨_, ht.seq⟩, q r1 H1 _ l1 S1 (.lst ht hr)⟩
      | str w =>
        cases ex
        refine (pi_str ha).run pins s σ H R I ⟨mu, rho, env, st, S, E, _, _, ea, fun r1 H1 v1 l1 S1 R1 => ?_⟩
        exact ⟨toS w, R1.str_inv, q r1 H1 _ l1 S1 (.str w)⟩
      | ref n =>
        simp only [srcOf] at ex
        split at ex
        · rename_i xs hn
          cases ex
          refine (pi_list ha).run pins s σ H R I ⟨mu, rho, env, st, S, E, _, _, ea, fun r1 H1 v1 l1 S1 R1 => ?_⟩
          cases R1 with
          | ref hr =>
            obtain ⟨_, vs, h2, h3⟩ := S1.cells _ _ _ hn hr
            exact ⟨_, rfl, ⟨vs, .inl (.inl h2)⟩, q r1 H1 _ l1 S1 (.live _ hr)⟩
        · cases ex
      | non => cases ex
      | bl _ => cases ex
      | int _ => cases ex
    · cases e
  · cases e
theorem small_ok {j : Int} (h : small j = true) : -(2 ^ 62) ≤ j ∧ j < 2 ^ 62 := by
  unfold small at h
  rw [Bool.and_eq_true, decide_eq_true_iff, decide_eq_true_iff] at h
  exact h
theorem Rls.ints1 {K : PySem.W.Frag} {mu rho : List Addr} {H : Hp} {i : Int} {vs : List V} (r : Rls K mu rho H [.int i] vs) : vs = [.int i] := by
  obtain ⟨v, rfl, rx⟩ := r.one_inv
  rw [rx.int_inv]
theorem Rls.ints2 {K : PySem.W.Frag} {mu rho : List Addr} {H : Hp} {i j : Int} {vs : List V} (r : Rls K mu rho H [.int i, .int j] vs) : vs = [.int i, .int j] := by
  cases r with
  | cons r1 r2 => rw [r1.int_inv, r2.ints1]
theorem Rls.ints3 {K : PySem.W.Frag} {mu rho : List Addr} {H : Hp} {i j k : Int} {vs : List V} (r : Rls K mu rho H [.int i, .int j, .int k] vs) : vs = [.int i, .int j, .int k] := by
  cases r with
  | cons r1 r2 => rw [r1.int_inv, r2.ints2]
def rngF (fs : EvL) : EvI := fun env st => match fs env st with
    | some ([.int j], s1) => if small j = true then some (.st (rngL 0 j.toNat), s1) else none
    | some ([.int i, .int j], s1) => if small i = true ∧ small j = true then some (.st (rngL i (j - i).toNat), s1) else none
    | some ([.int i, .int j, .int k], s1) => if small i = true ∧ small j = true ∧ k = -1 then some (.st (rngD i (i - j).toNat), s1) else none
    | _ => none
theorem rngF_len {env : Envr} {st st' : Store} {src : Src} (h : rngF fs env st = some (src, st')) : ∃ ds s1, fs env st = some (ds, s1) ∧
    ((∃ j, ds = [.int j] ∧ small j = true ∧ src = .st (rngL 0 j.toNat) ∧ st' = s1) ∨
     (∃ i j, ds = [.int i, .int j] ∧ small i = true ∧ small j = true ∧ src = .st (rngL i (j - i).toNat) ∧ st' = s1) ∨
     (∃ i j, ds = [.int i, .int j, .int (-1)] ∧ small i = true ∧ small j = true ∧ src = .st (rngD i (i - j).toNat) ∧ st' = s1)) := by
  unfold rngF at h
  split at h
  · rename_i j s1 e
    split at h
    · rename_i hs
      cases h
      exact ⟨_, _, e, .inl ⟨j, rfl, hs, rfl, rfl⟩⟩
    · cases h
  · rename_i i j s1 e
    split at h
    · rename_i hs
      cases h
      exact ⟨_, _, e, .inr (.inl ⟨i, j, rfl, hs.1, hs.2, rfl, rfl⟩)⟩
    · cases h
  · rename_i i j k s1 e
    split at h
    · rename_i hs
      cases h
      obtain ⟨h1, h2, rfl⟩ := hs
      exact ⟨_, _, e, .inr (.inr ⟨i, j, rfl, h1, h2, rfl, rfl⟩)⟩
    · cases h
  · cases h
/-- range(a), range(a, b), range(a, b, -1): the number of arguments must fit -/
theorem ra_lenOk {es : List Expr} {f : EvL} (ha : PA X es (RA X.w X.K f)) (n : Nat) : True := trivial
theorem ri_rng1 (hg : Gl X "range") (hm : X.mg "range" = none) (ha : PA X [a] (RA X.w X.K fs)) (hl : ∀ env st ds s1, fs env st = some (ds, s1) → ds.length = 1) (na : notStar a = true) :
    PI X tg (.Call (.Name "range" p) [a] [] pos) (RI X.w X.K (rngF fs)) := by
  refine ⟨fun pins s σ H R I ⟨mu, rho, env, st, src, st', S, E, e, q⟩ => ?_⟩
  obtain ⟨ds, s1, ea, h⟩ := rngF_len e
  have hlen := hl _ _ _ _ ea
  rcases h with ⟨j, rfl, hj, rfl, rfl⟩ | ⟨i, j, rfl, _⟩ | ⟨i, j, rfl, _⟩
  · refine (pi_range1 hg hm ha (star_no na)).run pins s σ H R I ⟨mu, rho, env, st, _, _, S, E, ea, fun r1 H1 vs l1 S1 R1 => ?_⟩
    have hb := small_ok hj
    exact ⟨j, R1.ints1, hb.1, hb.2, q r1 H1 _ l1 S1 (.rng 0 _)⟩
  · simp at hlen
  · simp at hlen
theorem ri_rng2 (hg : Gl X "range") (hm : X.mg "range" = none) (ha : PA X [a, b] (RA X.w X.K fs)) (hl : ∀ env st ds s1, fs env st = some (ds, s1) → ds.length = 2) (na : notStar a = true) (nb : notStar b = true) :
    PI X tg (.Call (.Name "range" p) [a, b] [] pos) (RI X.w X.K (rngF fs)) := by
  refine ⟨fun pins s σ H R I ⟨mu, rho, env, st, src, st', S, E, e, q⟩ => ?_⟩
  obtain ⟨ds, s1, ea, h⟩ := rngF_len e
  have hlen := hl _ _ _ _ ea
  rcases h with ⟨j, rfl, _⟩ | ⟨i, j, rfl, hi, hj, rfl, rfl⟩ | ⟨i, j, rfl, _⟩
  · simp at hlen
  · refine (pi_range2 hg hm ha (by rw [star_no na, star_no nb]; rfl) (star_no nb)).run pins s σ H R I ⟨mu, rho, env, st, _, _, S, E, ea, fun r1 H1 vs l1 S1 R1 => ?_⟩
    have hb := small_ok hi
    have hb2 := small_ok hj
    exact ⟨i, j, R1.ints2, ⟨hb.1, hb.2, hb2.1, hb2.2⟩, q r1 H1 _ l1 S1 (.rng i _)⟩
  · simp at hlen
theorem ri_rng3 (hg : Gl X "range") (hm : X.mg "range" = none) (ha : PA X [a, b, c] (RA X.w X.K fs)) (hl : ∀ env st ds s1, fs env st = some (ds, s1) → ds.length = 3) (na : notStar a = true) (nb : [b, c].all notStar = true) :
    PI X tg (.Call (.Name "range" p) [a, b, c] [] pos) (RI X.w X.K (rngF fs)) := by
  refine ⟨fun pins s σ H R I ⟨mu, rho, env, st, src, st', S, E, e, q⟩ => ?_⟩
  obtain ⟨ds, s1, ea, h⟩ := rngF_len e
  have hlen := hl _ _ _ _ ea
  rcases h with ⟨j, rfl, _⟩ | ⟨i, j, rfl, _⟩ | ⟨i, j, rfl, hi, hj, rfl, rfl⟩
  · simp at hlen
  · simp at hlen
  · refine (pi_range3 hg hm ha (star_no na) (plain_no nb)).run pins s σ H R I ⟨mu, rho, env, st, _, _, S, E, ea, fun r1 H1 vs l1 S1 R1 => ?_⟩
    have hb := small_ok hi
    have hb2 := small_ok hj
    exact ⟨i, j, -1, _, R1.ints3, RgC.neg hb.1 hb.2 hb2.1 hb2.2, q r1 H1 _ l1 S1 (.wDown i _)⟩
/-- reversed(range(n)) -/
theorem ri_rrng {q2 : Pos} (hg : Gl X "reversed") (hm : X.mg "reversed" = none) (hg2 : Gl X "range") (hm2 : X.mg "range" = none) (ha : PE X a (RE X.w X.K fa)) (na : notStar a = true) :
    PI X tg (.Call (.Name "reversed" p) [.Call (.Name "range" q2) [a] [] pos] [] tpos) (RI X.w X.K fun env st => match fa env st with
      | some (.int j, s1) => if small j = true then some (.st (rngD (j - 1) j.toNat), s1) else none
      | _ => none) := by
  refine ⟨fun pins s σ H R I ⟨mu, rho, env, st, src, st', S, E, e, q⟩ => ?_⟩
  dsimp only at e
  split at e
  · rename_i j s1 ea
    split at e
    · rename_i hj
      cases e
      have hb := small_ok hj
      refine (pi_revR hg hm (prg_1 hg2 hm2 ha (star_no na)) rfl).run pins s σ H R I ⟨mu, rho, env, st, S, E, _, _, ea, fun r1 H1 v1 l1 S1 R1 => ?_⟩
      refine ⟨j, R1.int_inv, by decide, by decide, hb.1, hb.2, ?_⟩
      rw [show j - 0 = j from by omega]
      by_cases h0 : 0 ≤ j
      · rw [show (0 : Int) + ((j.toNat : Nat) : Int) - 1 = j - 1 from by omega]
        exact q r1 H1 _ l1 S1 (.wDown (j - 1) _)
      · have hz : j.toNat = 0 := by omega
        rw [hz] at q ⊢
        exact q r1 H1 _ l1 S1 (.wDown _ 0)
    · cases e
  · cases e
/-- enumerate -/
theorem boot_enumT : bootBuiltins "enumerate" = some (.type "enumerate") := by decide +kernel
def iEnumTup (K : PySem.W.Frag) (ta : TA) : TI := fun σ H R => ta σ H fun vs H1 => ∃ a xs, vs = [.ref a] ∧ SqT K H1 a xs ∧ R (IteT K a) H1
theorem pi_enumTup {e : Expr} {ta : TA} (hg : Gl X "enumerate") (hm : X.mg "enumerate" = none) (ha : PA X [e] ta) (hs : starEach [e] X.env = [(false, eval e X.env)]) :
    PI X (.Tuple elts kk tpos) (.Call (.Name "enumerate" p) [e] [] pos) (iEnumTup X.K ta) := by
  refine ⟨fun pins s σ H R I h => Call_ (ld_blt I hg hm boot_enumT (PyProof.Rows.callWith_type1 (thn (ha.run pos pins s σ H _ I h) fun us s1 ⟨vs, H1, I1, r1, q1⟩ => ?_) hs rfl))⟩
  obtain ⟨a, xs, ex, hq, q⟩ := q1
  subst ex
  cases r1 with
  | cons r rr =>
    cases rr
    cases r
    obtain ⟨its, rv, pt, hz⟩ := I1.tuple hq
    have la : a < s1.heap.objs.size := by obtain ⟨o, ho, _⟩ := id pt; exact Heap.lt_size ho
    refine call_enumTup pt fun h' he hit hk => wpAny_pyIter_enum he ?_
    have I2 : Inv X pins σ H1 { s1 with heap := h' } := I1.kept (t' := s1.toks) hk
    refine ⟨_, [s1.heap.objs.size + 1, s1.heap.objs.size], _, _, H1, rfl, I2, turn_enumT a (s1.heap.objs.size + 1) s1.heap.objs.size, ⟨⟨.none, he⟩, hit, Nat.succ_ne_self _, ?_, ?_⟩, fun b hb => ?_, q⟩
    · exact Nat.ne_of_gt (Nat.lt_succ_of_lt la)
    · exact Nat.ne_of_lt la
    · have hle : s1.heap.objs.size ≤ b := by
        rcases List.mem_cons.mp hb with z | z
        · rw [z]; exact Nat.le_succ _
        · rw [List.mem_singleton.mp z]; exact Nat.le_refl _
      exact I1.fpOk hle (I1.hok.fresh hle)
theorem ri_enum (hg : Gl X "enumerate") (hm : X.mg "enumerate" = none) (ha : PE X a (RE X.w X.K fa)) (na : notStar a = true) :
    PI X (.Tuple elts kk tpos) (.Call (.Name "enumerate" p) [a] [] pos) (RI X.w X.K fun env st => match fa env st with
      | some (x, s1) => match x with
        | .ref _ => none
        | x => match rowOf s1 x with
          | some xs => some (.st (enumL 0 xs), s1)
          | none => none
      | none => none) := by
  refine ⟨fun pins s σ H R I ⟨mu, rho, env, st, src, st', S, E, e, q⟩ => ?_⟩
  dsimp only at e
  split at e
  · rename_i x s1 ea
    cases x with
    | tup xs =>
      cases e
      refine (pi_enumTup hg hm (pa_cons ha pa_nil (star_no na)) (star_no na)).run pins s σ H R I ⟨mu, rho, env, st, S, E, _, _, ea, fun r1 H1 v1 l1 S1 R1 => ?_⟩
      obtain ⟨a, vs, rfl, ht, hr⟩ := R1.tup_inv
      exact ⟨a, vs, rfl, ht.seq, q r1 H1 _ l1 S1 (.wEnumT ht hr)⟩
    | lst xs =>
      cases e
      refine (pi_enum hg hm (pa_cons ha pa_nil (star_no na)) (star_no na)).run pins s σ H R I ⟨mu, rho, env, st, S, E, _, _, ea, fun r1 H1 v1 l1 S1 R1 => ?_⟩
      cases R1 with
      | lst ht hr => exact ⟨_, _, rfl, ht.seq, q r1 H1 _ l1 S1 (.wEnumL ht hr)⟩
    | _ => cases e
  · cases e
theorem ri_zip (hg : Gl X "zip") (hm : X.mg "zip" = none) (ha : PE X a (RE X.w X.K fa)) (hb : PE X b (RE X.w X.K fb)) (na : notStar a = true) (nb : notStar b = true) :
    PI X (.Tuple elts kk tpos) (.Call (.Name "zip" p) [a, b] [] pos) (RI X.w X.K fun env st => match fa env st with
      | some (x, s1) => match fb env s1 with
        | some (y, s2) => match x, y with
          | .tup xs, .tup ys => if xs.all notPr = true then some (.st (zipL xs ys), s2) else none
          | .lst xs, .lst ys => if xs.all notPr = true then some (.st (zipL xs ys), s2) else none
          | _, _ => none
        | none => none
      | none => none) := by
  refine ⟨fun pins s σ H R I ⟨mu, rho, env, st, src, st', S, E, e, q⟩ => ?_⟩
  dsimp only at e
  split at e
  · rename_i x s1 ea
    split at e
    · rename_i y s2 eb
      refine (RZ.pi_zipA hg hm (pa_cons ha (pa_cons hb pa_nil (star_no nb)) (star_no na)) (star_no na) (plain_no (by simp [nb]))).run pins s σ H R I ⟨mu, rho, env, st, S, E, _, _, ea, fun r1 H1 v1 l1 S1 R1 =>
        ⟨mu, r1, env, s1, S1, E.le l1, _, _, eb, fun r2 H2 v2 l2 S2 R2 => ?_⟩⟩
      split at e
      · split at e
        · rename_i hnp
          cases e
          obtain ⟨p1, vs, rfl, ht, hr⟩ := R1.tup_inv
          obtain ⟨p2, ws, rfl, ht2, hr2⟩ := R2.tup_inv
          have ht' := ht.lm (l2.lm mu)
          exact ⟨p1, p2, vs, ws, rfl, .inr ⟨ht'.seq, ht2.seq, q r2 H2 _ (l1.trans l2) S2 (.wZipT ht' (hr.le l2) ht2 hr2 hnp)⟩⟩
        · cases e
      · split at e
        · rename_i hnp
          cases e
          cases R1 with
          | lst ht hr =>
            cases R2 with
            | lst ht2 hr2 =>
              have ht' := ht.lm (l2.lm mu)
              exact ⟨_, _, _, _, rfl, .inl ⟨ht'.seq, ht2.seq, q r2 H2 _ (l1.trans l2) S2 (.wZipL ht' (hr.le l2) ht2 hr2 hnp)⟩⟩
        · cases e
      · cases e
    · cases e
  · cases e
end
end Ow
/-! Targets; a new list while it is made. -/
namespace Ow
open PySem PySem.Spec PyProof.Rows L2

/-! ### targets -/
def SameBut (js : List Nat) (σ σ' : L2.St) : Prop := σ'.length = σ.length ∧ ∀ i, i ∉ js → σ'[i]? = σ[i]?
def RG (wd : World) (K : PySem.W.Frag) (t : Tg) : TG := fun v σ H Q => ∃ mu rho st env x env', Sim wd K mu rho H st ∧ EnvR K mu rho H env σ ∧ Rl K mu rho H x v ∧ bindT t x env = some env' ∧
  ∀ σ', EnvR K mu rho H env' σ' → SameBut (tgS t) σ σ' → Q σ' H
theorem SameBut.refl (js : List Nat) (σ : L2.St) : SameBut js σ σ := ⟨rfl, fun _ _ => rfl⟩
theorem SameBut.set {js : List Nat} {σ : L2.St} {i : Nat} {v : Option V} (h : i ∈ js) : SameBut js σ (σ.set i v) :=
  ⟨List.length_set .., fun j hj => List.getElem?_set_ne (fun z => hj (by rw [← z]; exact h))⟩
theorem SameBut.trans {js : List Nat} {σ σ1 σ2 : L2.St} (a : SameBut js σ σ1) (b : SameBut js σ1 σ2) : SameBut js σ σ2 :=
  ⟨b.1.trans a.1, fun i hi => (b.2 i hi).trans (a.2 i hi)⟩
theorem SameBut.mono {js ks : List Nat} {σ σ1 : L2.St} (a : SameBut js σ σ1) (h : ∀ j ∈ js, j ∈ ks) : SameBut ks σ σ1 := ⟨a.1, fun i hi => a.2 i fun z => hi (h i z)⟩
theorem wipe_get (σ : L2.St) : ∀ (vs : List Nat) (i : Nat), (wipe σ vs)[i]? = if i ∈ vs ∧ i < σ.length then some none else σ[i]?
  | [], i => by simp [wipe]
  | v :: vs, i => by
    unfold wipe
    by_cases e : v = i
    · subst e
      by_cases hl : v < σ.length
      · rw [List.getElem?_set_self (by rw [wipe_length]; exact hl), if_pos ⟨List.mem_cons_self .., hl⟩]
      · rw [if_neg (fun z => hl z.2), List.getElem?_eq_none (by rw [List.length_set, wipe_length]; omega), List.getElem?_eq_none (by omega)]
    · rw [List.getElem?_set_ne e, wipe_get σ vs i]
      have : i ∈ v :: vs ↔ i ∈ vs := by
        rw [List.mem_cons]
        exact ⟨fun z => z.resolve_left fun q => e q.symm, .inr⟩
      simp only [this]
theorem SameBut.wipe {js vs : List Nat} {σ σ' : L2.St} (h : SameBut js σ σ') (hv : ∀ j ∈ js, j ∈ vs) : L2.wipe σ' vs = L2.wipe σ vs := by
  refine List.ext_getElem? fun i => ?_
  rw [wipe_get, wipe_get, h.1]
  by_cases hi : i ∈ vs
  · by_cases hl : i < σ.length
    · rw [if_pos ⟨hi, hl⟩, if_pos ⟨hi, hl⟩]
    · rw [if_neg (fun z => hl z.2), if_neg (fun z => hl z.2), List.getElem?_eq_none (by rw [h.1]; omega), List.getElem?_eq_none (by omega)]
  · rw [if_neg (fun z => hi z.1), if_neg (fun z => hi z.1)]
    exact h.2 i fun z => hi (hv i z)
section
variable {wd : World} {K : PySem.W.Frag} {mu rho : List Addr} {H : Hp} {env : Envr} {σ : L2.St} {d : D} {v : V}
theorem EnvR.set (E : EnvR K mu rho H env σ) (r : Rl K mu rho H d v) (i : Nat) : EnvR K mu rho H (env.set i (some d)) (σ.set i (some v)) := by
  refine ⟨by rw [List.length_set, List.length_set]; exact E.1, fun j e h => ?_⟩
  by_cases hij : i = j
  · subst hij
    by_cases hl : i < env.length
    · rw [List.getElem?_set_self hl] at h
      cases h
      exact ⟨v, List.getElem?_set_self (by rw [← E.1]; exact hl), r⟩
    · rw [List.getElem?_eq_none (by rw [List.length_set]; omega)] at h
      cases h
  · rw [List.getElem?_set_ne hij] at h ⊢
    exact E.2 j e h
theorem wipeE_get (env : Envr) : ∀ (vs : List Nat) (i : Nat) (d : D), (wipeE env vs)[i]? = some (some d) → env[i]? = some (some d) ∧ i ∉ vs
  | [], i, d, h => ⟨h, by simp⟩
  | v :: vs, i, d, h => by
    unfold wipeE at h
    by_cases e : v = i
    · subst e
      by_cases hl : v < (wipeE env vs).length
      · rw [List.getElem?_set_self hl] at h; cases h
      · rw [List.getElem?_eq_none (by rw [List.length_set]; omega)] at h; cases h
    · rw [List.getElem?_set_ne e] at h
      obtain ⟨h1, h2⟩ := wipeE_get env vs i d h
      exact ⟨h1, fun z => (List.mem_cons.mp z).elim (fun q => e q.symm) h2⟩
theorem wipeE_length (env : Envr) : ∀ vs : List Nat, (wipeE env vs).length = env.length
  | [] => rfl
  | v :: vs => by unfold wipeE; rw [List.length_set, wipeE_length env vs]
/-- less is known -/
theorem EnvR.wipeL (E : EnvR K mu rho H env σ) (vs : List Nat) : EnvR K mu rho H (wipeE env vs) σ :=
  ⟨by rw [wipeE_length]; exact E.1, fun i d h => E.2 i d (wipeE_get env vs i d h).1⟩
theorem EnvR.wipeB (E : EnvR K mu rho H env σ) (vs : List Nat) : EnvR K mu rho H (wipeE env vs) (L2.wipe σ vs) := by
  refine ⟨by rw [wipeE_length, wipe_length]; exact E.1, fun i d h => ?_⟩
  obtain ⟨h1, h2⟩ := wipeE_get env vs i d h
  obtain ⟨v, h3, h4⟩ := E.2 i d h1
  refine ⟨v, ?_, h4⟩
  rw [wipe_get, if_neg (fun z => h2 z.1)]
  exact h3
def tNames : List Nat → TGs
  | [] => gNil
  | i :: is => gCons (gName i) (tNames is)
theorem names_ok {Q : L2.St → Hp → Prop} : ∀ (js : List Nat) {ds : List D} {vs : List V} {env : Envr} {σ : L2.St}, Rls K mu rho H ds vs → ds.length = js.length → EnvR K mu rho H env σ →
    (∀ σ', EnvR K mu rho H (setEach js ds env) σ' → SameBut js σ σ' → Q σ' H) → tNames js vs σ H Q
  | [], _, _, _, σ, .nil, _, E, q => ⟨rfl, q σ E (SameBut.refl _ _)⟩
  | [], _ :: _, _, _, _, _, h, _, _ => by cases h
  | _ :: _, [], _, _, _, _, h, _, _ => by cases h
  | j :: js, d :: ds, _, env, σ, .cons r t, h, E, q => by
    refine ⟨_, _, rfl, ?_⟩
    exact names_ok js t (Nat.succ.inj h) (E.set r j) fun σ' E' s' => q σ' E' ((SameBut.set (List.mem_cons_self ..)).trans (s'.mono fun k hk => List.mem_cons_of_mem _ hk))
end
section
variable {X : Cx} {pos : Pos}
theorem PG.imp {e : Expr} {t t' : TG} (h : PG X e t) (hi : ∀ v σ H Q, t' v σ H Q → t v σ H Q) : PG X e t' := ⟨fun pins s σ H v u Q I r q => h.run pins s σ H v u Q I r (hi v σ H Q q)⟩
theorem rg_nm {i : Nat} {x : Str} (hN : X.N.Nodup) (hi : X.N[i]? = some x) (hx : Loc X.env.scope x) (hf : X.fn x = true ∨ X.env.scope.names.lookup x = some .local) : PG X (.Name x pos) (RG X.w X.K (.nm i)) :=
  PG.imp (pg_name hN hi hx hf) fun v σ H Q ⟨mu, rho, st, env, x, env', S, E, R, e, q⟩ => by
    cases e
    exact q _ (E.set R i) (SameBut.set (List.mem_singleton.mpr rfl))
/-- names of targets, with their slots -/
def tgExprs (ns : List (Str × Pos)) : List Expr := ns.map fun n => .Name n.1 n.2
theorem pgs_names (hN : X.N.Nodup) : ∀ (js : List Nat) (ns : List (Str × Pos)), js.length = ns.length → (∀ p ∈ js.zip ns, X.N[p.1]? = some p.2.1 ∧ Loc X.env.scope p.2.1 ∧ (X.fn p.2.1 = true ∨ X.env.scope.names.lookup p.2.1 = some .local)) →
    PGs X (tgExprs ns) (tNames js)
  | [], [], _, _ => pgs_nil
  | [], _ :: _, h, _ => by cases h
  | _ :: _, [], h, _ => by cases h
  | j :: js, n :: ns, h, hp => by
    have h0 := hp (j, n) (by simp)
    exact pgs_cons (pg_name hN h0.1 h0.2.1 h0.2.2) (pgs_names hN js ns (Nat.succ.inj h) fun p q => hp p (by rw [List.zip_cons_cons]; exact List.mem_cons_of_mem _ q)) rfl
theorem tg_len (env : Env) : ∀ ns : List (Str × Pos), (assignEach (tgExprs ns) env).length = ns.length
  | [] => rfl
  | n :: ns => by
    show (assignEach (tgExprs ns) env).length + 1 = ns.length + 1
    rw [tg_len env ns]
theorem tg_star (env : Env) : ∀ ns : List (Str × Pos), (assignEach (tgExprs ns) env).findIdx? (·.1) = none
  | [] => rfl
  | n :: ns => by
    show List.findIdx? (·.1) ((false, assign (.Name n.1 n.2) env) :: assignEach (tgExprs ns) env) = none
    rw [List.findIdx?_cons, tg_star env ns]
    rfl
theorem rg_tp {k : Nat} {js : List Nat} {ns : List (Str × Pos)} (hc : X.calm = true) (hN : X.N.Nodup) (hl : js.length = ns.length)
    (hp : ∀ p ∈ js.zip ns, X.N[p.1]? = some p.2.1 ∧ Loc X.env.scope p.2.1 ∧ (X.fn p.2.1 = true ∨ X.env.scope.names.lookup p.2.1 = some .local)) : PG X (.Tuple (tgExprs ns) k pos) (RG X.w X.K (.tp js)) :=
  PG.imp (pg_tup (n := js.length) hc (pgs_names hN js ns hl hp) (by rw [tg_len, hl]) (tg_star X.env ns)) fun v σ H Q ⟨mu, rho, st, env, x, env', S, E, R, e, q⟩ => by
    cases x with
    | tup xs =>
      simp only [bindT] at e
      split at e
      · rename_i hx
        cases e
        obtain ⟨a, vs, rfl, ht, hr⟩ := R.tup_inv
        exact ⟨a, vs, rfl, ht.seq, by rw [← hr.length]; exact hx, names_ok js hr hx E q⟩
      · cases e
    | _ => cases e
end

/-! ### a list while it is made -/
section
variable {wd : World} {K : PySem.W.Frag} {mu mu' rho rho' rho'' : List Addr} {H H' H'' : Hp} {st st' : Store} {a D' : Addr} {vs : List V} {ds : List D} {d : D} {v : V} {Q : VK}
theorem Lm.mono (h : Lm mu rho H rho' H') (hm : ∀ a ∈ mu, a ∈ mu') : Lm mu' rho H rho' H' := ⟨h.pre, fun a o e n m t => h.keep a o e n (fun z => m (hm a z)) t, h.new, h.still⟩
theorem Lm.wr {o : HO} (hD : a ∈ mu) : Lm mu rho H rho (upd H a o) :=
  ⟨⟨[], by simp⟩, fun b u e n m _ => by rw [upd_ne (fun z : b = a => m (z ▸ hD))]; exact e, fun b h k => absurd h k, upd_still⟩
theorem Sim.wr {w : List V} (S : Sim wd K mu rho H st) (hD : a ∈ mu) : Sim wd K mu rho (upd H a (.lst w)) st := by
  have ne : ∀ b, b ∈ rho → b ≠ a := fun b hb z => (S.mus a hD).2 (z ▸ hb)
  refine ⟨S.len, S.nd, fun i c b e eb => S.cellLm (Lm.wr hD) e eb (upd_ne (ne b (List.mem_of_getElem? eb))), fun b hb => ⟨?_, (S.mus b hb).2⟩⟩
  by_cases z : b = a
  · subst z; rw [upd_same]; simp
  · rw [upd_ne z]; exact (S.mus b hb).1
/-- it becomes a cell of its own -/
theorem TupAt.own (h : TupAt (a :: mu) rho H D' vs) : TupAt mu (rho ++ [a]) H D' vs := by
  obtain ⟨h, n, m⟩ := h
  refine ⟨h, fun z => ?_, fun z => m (List.mem_cons_of_mem _ z)⟩
  rcases List.mem_append.mp z with z | z
  · exact n z
  · exact m (by rw [List.mem_singleton.mp z]; exact List.mem_cons_self ..)
mutual
theorem Rl.own : ∀ {d : D} {v : V}, Rl K (a :: mu) rho H d v → Rl K mu (rho ++ [a]) H d v
  | _, _, .non => .non
  | _, _, .bl b => .bl b
  | _, _, .int i => .int i
  | _, _, .str w => .str w
  | _, _, .tup h p r => .tup h.own p (Rls.own r)
  | _, _, .lst ⟨h, n, m⟩ r => .lst ⟨h, fun z => (List.mem_append.mp z).elim n fun z => m (by rw [List.mem_singleton.mp z]; exact List.mem_cons_self ..), fun z => m (List.mem_cons_of_mem _ z)⟩ (Rls.own r)
  | _, _, .ref e => .ref (pre_get ⟨_, rfl⟩ e)
theorem Rls.own : ∀ {ds : List D} {vs : List V}, Rls K (a :: mu) rho H ds vs → Rls K mu (rho ++ [a]) H ds vs
  | _, _, .nil => .nil
  | _, _, .cons r s => .cons (Rl.own r) (Rls.own s)
end
theorem CellOk.own {c : Cell} (h : CellOk wd K (a :: mu) rho H c D') : CellOk wd K mu (rho ++ [a]) H c D' := by
  cases c with
  | lst ds =>
    obtain ⟨h1, vs, h2, h3⟩ := h
    exact ⟨h1, vs, h2, h3.own⟩
  | dct kvs =>
    obtain ⟨h1, h2, h3, ks, vs, h4, h5, h6⟩ := h
    exact ⟨h1, h2, h3, ks, vs, h4, h5.own, h6.own⟩
  | ins _ _ => exact h
  | tab P =>
    obtain ⟨h1, ps, h2, h3, h4⟩ := h
    refine ⟨h1, ps, h2, h3, fun pos cv hc => ?_⟩
    obtain ⟨c, e1, e2, e3, e4⟩ := h4 pos cv hc
    exact ⟨c, e1, e2, fun z => (List.mem_append.mp z).elim e3 fun z => e4 (by rw [List.mem_singleton.mp z]; exact List.mem_cons_self ..), fun z => e4 (List.mem_cons_of_mem _ z)⟩
theorem CellOk.muD {c : Cell} (h : CellOk wd K (a :: mu) rho H c D') : CellOk wd K mu rho H c D' := by
  cases c with
  | lst ds =>
    obtain ⟨h1, vs, h2, h3⟩ := h
    exact ⟨h1, vs, h2, h3.muD fun b hb => List.mem_cons_of_mem _ hb⟩
  | dct kvs =>
    obtain ⟨h1, h2, h3, ks, vs, h4, h5, h6⟩ := h
    exact ⟨h1, h2, h3, ks, vs, h4, h5.muD fun b hb => List.mem_cons_of_mem _ hb, h6.muD fun b hb => List.mem_cons_of_mem _ hb⟩
  | ins _ _ => exact h
  | tab P =>
    obtain ⟨h1, ps, h2, h3, h4⟩ := h
    refine ⟨h1, ps, h2, h3, fun pos cv hc => ?_⟩
    obtain ⟨c, e1, e2, e3, e4⟩ := h4 pos cv hc
    exact ⟨c, e1, e2, e3, fun z => e4 (List.mem_cons_of_mem _ z)⟩
theorem Sim.muD (S : Sim wd K (a :: mu) rho H st) : Sim wd K mu rho H st := ⟨S.len, S.nd, fun i c b e eb => (S.cells i c b e eb).muD, fun b hb => S.mus b (List.mem_cons_of_mem _ hb)⟩
theorem Sim.own (S : Sim wd K (a :: mu) rho H st) (hm : a ∉ mu) (e : H a = some (.lst vs)) (hr : noRefs ds = true) (r : Rls K (a :: mu) rho H ds vs) : Sim wd K mu (rho ++ [a]) H (st ++ [.lst ds]) := by
  have hn : a ∉ rho := (S.mus a (List.mem_cons_self ..)).2
  refine ⟨by simp [S.len], ?_, fun i c b ec eb => ?_, fun b hb => ⟨(S.mus b (List.mem_cons_of_mem _ hb)).1, fun z => ?_⟩⟩
  · refine List.nodup_append.mpr ⟨S.nd, by simp, fun x hx y hy z => ?_⟩
    rw [List.mem_singleton.mp hy] at z
    exact hn (z ▸ hx)
  · by_cases hi : i < rho.length
    · rw [List.getElem?_append_left hi] at eb
      rw [List.getElem?_append_left (by rw [← S.len]; exact hi)] at ec
      exact (S.cells i c b ec eb).own
    · rw [List.getElem?_append_right (by omega)] at eb
      rw [List.getElem?_append_right (by rw [← S.len]; omega), ← S.len] at ec
      have i0 : i - rho.length = 0 := by
        have := (List.getElem?_eq_some_iff.mp eb).1
        simp at this
        exact this
      rw [i0] at ec eb
      simp at ec eb
      subst ec eb
      exact ⟨hr, vs, e, r.own⟩
  · rcases List.mem_append.mp z with z | z
    · exact (S.mus b (List.mem_cons_of_mem _ hb)).2 z
    · exact hm (List.mem_singleton.mp z ▸ hb)
/-- the list is made: it is a value, or a cell -/
theorem Fin.endLst {m : Bool} {H1 : Hp} {rho1 : List Addr} {acc : List D} {accv : List V} {st2 : Store} (hmu : ∀ b ∈ mu, H1 b ≠ none) (hD : H1 a = none) (S : Sim wd K (a :: mu) rho' H' st') (l : Lm [a] rho1 (upd H1 a (.lst [])) rho' H') (hn1 : a ∉ rho1)
    (e : H' a = some (.lst accv)) (r : Rls K (a :: mu) rho' H' acc accv) (mk : mkL m acc st' = some (d, st2)) (f : Fin wd K mu rho1 H1 d st2 Q) : Q (.ref a) H' := by
  have hm : a ∉ mu := fun z => hmu a z hD
  have hn : a ∉ rho' := (S.mus a (List.mem_cons_self ..)).2
  have l1 : Le rho1 H1 rho' H' := by
    refine ⟨l.pre, fun b o eb nb t => ?_, fun b hb nb => ?_, fun b hb => l.still b (upd_still b hb)⟩
    · have ne : b ≠ a := fun z => by rw [z, hD] at eb; cases eb
      refine l.keep b o (by rw [upd_ne ne]; exact eb) nb (fun z => ne (List.mem_singleton.mp z)) t
    · have := l.new b hb nb
      have ne : b ≠ a := fun z => hn (z ▸ hb)
      rw [upd_ne ne] at this
      exact this
  unfold mkL at mk
  split at mk
  · cases m with
    | true =>
      rw [if_pos rfl] at mk
      split at mk
      · rename_i hr
        cases mk
        refine f (rho' ++ [a]) H' _ ?_ (S.own hm e hr r) (.ref ?_)
        · obtain ⟨t, q⟩ := l1.pre
          refine ⟨⟨t ++ [a], by rw [q, List.append_assoc]⟩, l1.keep, fun b hb nb => ?_, l1.still⟩
          rcases List.mem_append.mp hb with z | z
          · exact l1.new b z nb
          · rw [List.mem_singleton.mp z]; exact hD
        · rw [← S.len, List.getElem?_append_right (Nat.le_refl _), Nat.sub_self]
          rfl
      · cases mk
    | false =>
      rw [if_neg Bool.false_ne_true] at mk
      cases mk
      exact f rho' H' _ l1 S.muD (.lst ⟨.inl e, hn, hm⟩ (r.muD fun b hb => List.mem_cons_of_mem _ hb))
  · cases mk
end
end Ow
/-! Loops, list comprehensions. -/
namespace Ow
open PySem PySem.Spec PyProof.Rows L2

section
variable {α : Type}
/-- a loop, turn by turn: k turns are left, the next one is turn i -/
def loopG (src : Src) (f : D → α → Store → Option (α × Store)) : Nat → Nat → α → Store → Option (α × Store)
  | 0, _, a, s => if src.fin s = true then some (a, s) else none
  | k + 1, i, a, s => match src.at i s with
    | some x => match f x a s with
      | some (a', s') => loopG src f k (i + 1) a' s'
      | none => none
    | none => none
theorem loopL_gen (f : D → α → Store → Option (α × Store)) (xs : List D) : ∀ (k i : Nat) (a : α) (s : Store), xs.length = i + k → loopL f (xs.drop i) a s = loopG (.st xs) f k i a s
  | 0, i, a, s, h => by
    rw [List.drop_eq_nil_of_le (by omega)]
    rfl
  | k + 1, i, a, s, h => by
    have hi : i < xs.length := by omega
    rw [List.drop_eq_getElem_cons hi, loopL, loopG]
    show _ = match xs[i]? with
      | some x => _
      | none => none
    rw [List.getElem?_eq_getElem hi]
    dsimp only
    cases f xs[i] a s with
    | none => rfl
    | some p =>
      obtain ⟨a', s'⟩ := p
      exact loopL_gen f xs k (i + 1) a' s' (by omega)
theorem loopN_gen (f : D → α → Store → Option (α × Store)) (n len : Nat) : ∀ (k i : Nat) (a : α) (s : Store), loopN n len f k i a s = loopG (.live n len) f k i a s
  | 0, _, _, _ => rfl
  | k + 1, i, a, s => by
    rw [loopN, loopG]
    show _ = match liveAt n len i s with
      | some x => _
      | none => none
    cases liveAt n len i s with
    | none => rfl
    | some x =>
      dsimp only
      cases f x a s with
      | none => rfl
      | some p =>
        obtain ⟨a', s'⟩ := p
        exact loopN_gen f n len k (i + 1) a' s'
theorem loop_gen (src : Src) (f : D → α → Store → Option (α × Store)) (a : α) (s : Store) : loop src f a s = loopG src f src.len 0 a s := by
  cases src with
  | st xs => exact loopL_gen f xs xs.length 0 a s (by omega)
  | live n len => exact loopN_gen f n len len 0 a s
end

/-! the list at D' while it is made: acc so far -/
structure Mk (wd : World) (K : PySem.W.Frag) (p : Addr) (mu rho1 : List Addr) (Hs : Hp) (rho' : List Addr) (H : Hp) (st : Store) (acc : List D) : Prop where
  l : Lm [p] rho1 Hs rho' H
  S : Sim wd K mu rho' H st
  cur : ∃ accv, H p = some (.lst accv) ∧ Rls K mu rho' H acc accv
section
variable {wd : World} {K : PySem.W.Frag} {mu rho rho1 rho2 rho' rho'' : List Addr} {H H' H'' Hs Hs2 : Hp} {st st' st'' : Store} {p : Addr} {acc acc' : List D} {d x : D} {v y : V} {Q : VK} {J : L2.It} {src : Src}
theorem Mk.le (A : Mk wd K p mu rho1 Hs rho' H st acc) (hp : p ∈ mu) (l : Le rho' H rho'' H'') (S : Sim wd K mu rho'' H'' st'') : Mk wd K p mu rho1 Hs rho'' H'' st'' acc := by
  obtain ⟨accv, e, r⟩ := A.cur
  refine ⟨A.l.trans (l.lm _) fun a ha _ => ?_, S, accv, l.keep p _ e (A.S.mus p hp).2 (fun q z => nomatch z), r.le l⟩
  rw [List.mem_singleton.mp ha, e]
  simp
theorem Mk.push (A : Mk wd K p mu rho1 Hs rho' H st acc) (hp : p ∈ mu) (r : Rl K mu rho' H d y) : ∃ accv, H p = some (.lst accv) ∧ accv.length = acc.length ∧ Mk wd K p mu rho1 Hs rho' (upd H p (.lst (accv ++ [y]))) st (acc ++ [d]) := by
  obtain ⟨accv, e, ra⟩ := A.cur
  have w : Lm mu rho' H rho' (upd H p (.lst (accv ++ [y]))) := Lm.wr hp
  refine ⟨accv, e, ra.length.symm, A.l.trans (Lm.wr (List.mem_singleton.mpr rfl)) (fun a ha _ => ?_), A.S.wr hp, _, upd_same, (ra.lm w).append (.cons (r.lm w) .nil)⟩
  rw [List.mem_singleton.mp ha, e]
  simp
/-- seen from an earlier start -/
theorem Mk.base (A : Mk wd K p mu rho1 Hs rho2 Hs2 st' acc') (B : Mk wd K p mu rho2 Hs2 rho' H st acc) : Mk wd K p mu rho1 Hs rho' H st acc := by
  obtain ⟨accv, e, _⟩ := A.cur
  refine ⟨A.l.trans B.l fun a ha _ => ?_, B.S, B.cur⟩
  rw [List.mem_singleton.mp ha, e]
  simp
theorem comp_loop (hp : p ∈ mu) (w : Walk K mu rho1 Hs J src) {F : D → List D → Store → Option (List D × Store)} {End : Hp → Prop} {Body : V → Hp → (Hp → Prop) → Prop} {s1 sE : Store} {acc0 accE : List D}
    (A0 : Mk wd K p mu rho1 Hs rho1 Hs s1 acc0) (run : loop src F acc0 s1 = some (accE, sE)) (hEnd : ∀ rho' H, Mk wd K p mu rho1 Hs rho' H sE accE → End H)
    (hBody : ∀ x v rho' H st' acc acc' s' (Nx : Hp → Prop), Mk wd K p mu rho1 Hs rho' H st' acc → Rl K mu rho' H x v → F x acc st' = some (acc', s') → (∀ rho'' H'', Mk wd K p mu rho1 Hs rho'' H'' s' acc' → Nx H'') → Body v H Nx) :
    ∃ W : Nat → Nat → Hp → Prop, (∃ m, W 0 m Hs) ∧ ∀ i m H, W i m H → (J.stop i H ∧ End H) ∨
      (J.go i H ∧ ∃ Nx : Hp → Prop, (∀ H', Nx H' → ∃ m', m' < m ∧ W (i + 1) m' H') ∧ ∀ x H', J.yld i H x H' → Body x H' Nx) := by
  rw [loop_gen] at run
  have hmu : ∀ a ∈ [p], a ∈ mu := fun a ha => by rw [List.mem_singleton.mp ha]; exact hp
  refine ⟨fun i m H => i + m = src.len ∧ ∃ rho' st' acc, Mk wd K p mu rho1 Hs rho' H st' acc ∧ loopG src F m i acc st' = some (accE, sE), ⟨src.len, by omega, rho1, s1, acc0, A0, run⟩, ?_⟩
  rintro i m H ⟨hm, rho', st', acc, A, run⟩
  have w' := w.lm (A.l.mono hmu)
  cases m with
  | zero =>
    rw [loopG] at run
    split at run
    · rename_i hf
      cases run
      have hi : i = src.len := by omega
      subst hi
      exact .inl ⟨w'.done A.S hf, hEnd rho' H A⟩
    · cases run
  | succ k =>
    rw [loopG] at run
    split at run
    · rename_i x ex
      split at run
      · rename_i a' s' ef
        obtain ⟨g1, g2⟩ := w'.turn A.S ex
        refine .inr ⟨g1, fun H' => ∃ rho'', Mk wd K p mu rho1 Hs rho'' H' s' a', fun H' ⟨rho'', A'⟩ => ⟨k, Nat.lt_succ_self k, by omega, rho'', s', a', A', run⟩, fun v H2 hy => ?_⟩
        obtain ⟨l2, S2, r2⟩ := g2 v H2 hy
        exact hBody x v rho' H2 st' acc a' s' _ (A.le hp l2 S2) r2 ef fun rho'' H'' A'' => ⟨rho'', A''⟩
      · cases run
    · cases run
end

/-! ### one clause -/
def lastF (t : Tg) (fc : EvB) (fe : EvF) (env : Envr) (x : D) (acc : List D) (s : Store) : Option (List D × Store) :=
  match bindT t x (wipeE env (tgS t)) with
  | some env1 => match fc env1 s with
    | some (true, s2) => match fe env1 s2 with
      | some (d, s3) => if acc.length < SZ then some (acc ++ [d], s3) else none
      | none => none
    | some (false, s2) => some (acc, s2)
    | none => none
  | none => none
def moreF (t : Tg) (fc : EvB) (fr : Envr → List D → Store → Option (List D × Store)) (env : Envr) (x : D) (acc : List D) (s : Store) : Option (List D × Store) :=
  match bindT t x (wipeE env (tgS t)) with
  | some env1 => match fc env1 s with
    | some (true, s2) => fr env1 acc s2
    | some (false, s2) => some (acc, s2)
    | none => none
  | none => none
def clsF (fi : EvI) (F : Envr → D → List D → Store → Option (List D × Store)) (envI env : Envr) (acc : List D) (st : Store) : Option (List D × Store) :=
  match fi envI st with
  | some (src, s1) => loop src (F env) acc s1
  | none => none
theorem wipe_idem (σ : L2.St) (vs : List Nat) : wipe (wipe σ vs) vs = wipe σ vs := by
  refine List.ext_getElem? fun i => ?_
  rw [wipe_get, wipe_get, wipe_length]
  split <;> rfl
section
variable {wd : World} {K : PySem.W.Frag} {mu rho1 rho' : List Addr} {H Hs : Hp} {st s' : Store} {p : Addr} {acc acc' : List D} {x : D} {v : V} {t : Tg} {fc : EvB} {fe : EvF} {env : Envr} {σ : L2.St} {vs : List Nat}
theorem last_body (hp : p ∈ mu) (A : Mk wd K p mu rho1 Hs rho' H st acc) (r : Rl K mu rho' H x v) (E : EnvR K mu rho' H (wipeE env (tgS t)) (wipe σ vs)) (hv : ∀ j ∈ tgS t, j ∈ vs) (e : lastF t fc fe env x acc st = some (acc', s')) {Nx : Hp → Prop}
    (nx : ∀ rho'' H'', Mk wd K p mu rho1 Hs rho'' H'' s' acc' → Nx H'') :
    RG wd K t v (wipe σ vs) H fun σ2 H2 => wipe σ2 vs = wipe σ vs ∧ RT wd K fc σ2 H2 fun b H3 =>
      if b = true then RE wd K fe σ2 H3 fun y H4 => ∃ acc, H4 p = some (.lst acc) ∧ acc.length < sizeLine ∧ Nx (upd H4 p (.lst (acc ++ [y]))) else Nx H3 := by
  unfold lastF at e
  split at e
  · rename_i env1 eb
    refine ⟨mu, rho', st, wipeE env (tgS t), x, env1, A.S, E, r, eb, fun σ2 E2 sb => ⟨by rw [sb.wipe hv, wipe_idem], ?_⟩⟩
    split at e
    · rename_i s2 ec
      split at e
      · rename_i d s3 ee
        split at e
        · rename_i hl
          cases e
          refine ⟨mu, rho', env1, st, true, s2, A.S, E2, ec, fun r3 H3 l3 S3 => ?_⟩
          dsimp only
          rw [if_pos rfl]
          refine ⟨mu, r3, env1, s2, S3, E2.le l3, d, s', ee, fun r4 H4 y l4 S4 R4 => ?_⟩
          have A4 := A.le hp (l3.trans l4) S4
          obtain ⟨accv, h1, h2, h3⟩ := A4.push hp R4
          exact ⟨accv, h1, by rw [h2, ← SZ_line]; exact hl, nx _ _ h3⟩
        · cases e
      · cases e
    · rename_i s2 ec
      cases e
      refine ⟨mu, rho', env1, st, false, _, A.S, E2, ec, fun r3 H3 l3 S3 => ?_⟩
      dsimp only
      rw [if_neg Bool.false_ne_true]
      exact nx r3 H3 (A.le hp l3 S3)
    · cases e
  · cases e
end
def lc1F (m : Bool) (own : List Nat) (t : Tg) (fi : EvI) (fc : EvB) (fe : EvF) : EvF := fun env st => match clsF fi (lastF t fc fe) env (wipeE env own) [] st with
  | some (ds, s1) => mkL m ds s1
  | none => none
/-- the start of a comprehension -/
theorem mk_start {wd : World} {K : PySem.W.Frag} {mu rho : List Addr} {H : Hp} {st : Store} {p : Addr} (S : Sim wd K mu rho H st) (n : H p = none) : Mk wd K p (p :: mu) rho (upd H p (.lst [])) rho (upd H p (.lst [])) st [] :=
  ⟨Lm.refl _ _ _, S.pend n, [], upd_same, .nil⟩
theorem EnvR.pend {K : PySem.W.Frag} {mu rho : List Addr} {H : Hp} {p : Addr} {env : Envr} {σ : L2.St} {o : HO} (E : EnvR K mu rho H env σ) (n : H p = none) : EnvR K (p :: mu) rho (upd H p o) env σ :=
  ⟨E.1, fun i d h => let ⟨v, a, r⟩ := E.2 i d h; ⟨v, a, r.pend n⟩⟩
theorem lc1_t {wd : World} {K : PySem.W.Frag} {m : Bool} {own : List Nat} {t : Tg} {fi : EvI} {fc : EvB} {fe : EvF} (hv : ∀ j ∈ tgS t, j ∈ own) {σ : L2.St} {H : Hp} {Q : VK} (h : RE wd K (lc1F m own t fi fc fe) σ H Q) :
    tLc (RI wd K fi) (RG wd K t) (RT wd K fc) (RE wd K fe) own σ H Q := by
  obtain ⟨mu, rho, env, st, S, E, d, s2, e, q⟩ := h
  unfold lc1F at e
  split at e
  · rename_i ds sE ec
    unfold clsF at ec
    split at ec
    · rename_i src s1 ei
      refine ⟨mu, rho, env, st, src, s1, S, E, ei, fun rho1 H1 J l1 S1 w p n => ?_⟩
      have hmu : ∀ b ∈ mu, H1 b ≠ none := fun b hb => (S1.mus b hb).1
      have hn1 : p ∉ rho1 := S1.notRho n
      have hp : p ∈ p :: mu := List.mem_cons_self ..
      refine comp_loop (End := fun H => Q (.ref p) H) hp (w.pend n) (mk_start S1 n) ec (fun rho' H A => ?_) fun x v rho' H st' acc acc' s' Nx A r ef nx => ?_
      · obtain ⟨accv, h1, h2⟩ := A.cur
        exact Fin.endLst hmu n A.S A.l hn1 h1 h2 e (q.le l1)
      · have E1 : EnvR K (p :: mu) rho' H (wipeE env own) (wipe σ own) := ((((E.le l1).wipeB own).pend n).lm (A.l.mono fun a ha => by rw [List.mem_singleton.mp ha]; exact hp))
        exact last_body hp A r (E1.wipeL _) hv ef nx
    · cases ec
  · cases e
section
variable {X : Cx}
theorem re_lc1 {elt tg iter : Expr} {ifs : List Expr} {scope : Scope} {own : List (Str × Nat)} {pos : Pos} {m : Bool} {t : Tg} {fi : EvI} {fc : EvB} {fe : EvF} (hc : X.calm = true) (hN : X.N.Nodup) (hi : PI X tg iter (RI X.w X.K fi)) (ok : BlkOk X.N X.env.scope scope own)
    (hg : ∀ (s : Shared) (H : Hp) (C : Addr) (cl : List (Str × Addr)) (fp : List Addr), PG (X.blk s H scope (compEnvC scope cl C X.env) fp) tg (RG X.w X.K t))
    (ht : ∀ (s : Shared) (H : Hp) (C : Addr) (cl : List (Str × Addr)) (fp : List Addr), PTs (X.blk s H scope (compEnvC scope cl C X.env) fp) ifs (RT X.w X.K fc))
    (he : ∀ (s : Shared) (H : Hp) (C : Addr) (cl : List (Str × Addr)) (fp : List Addr), PE (X.blk s H scope (compEnvC scope cl C X.env) fp) elt (RE X.w X.K fe))
    (hs : ∀ x, foldedSetIterable iter X.env x = pure x) (hv : ∀ j ∈ tgS t, j ∈ own.map (·.2)) :
    PE X (.ListComp elt [⟨tg, iter, ifs, 0⟩] scope pos) (RE X.w X.K (lc1F m (own.map (·.2)) t fi fc fe)) :=
  PE.imp (pe_lc hc hN hi ok hg ht he hs) fun σ H Q h => lc1_t hv h
end
end Ow
/-! Two clauses; a comprehension that is stored. -/
namespace Ow
open PySem PySem.Spec PyProof.Rows L2

section
variable {wd : World} {K : PySem.W.Frag} {mu rho1 rho' : List Addr} {H Hs : Hp} {st s' : Store} {p : Addr} {acc acc' : List D} {x : D} {v : V} {t t1 : Tg} {fi1 : EvI} {fc fc1 : EvB} {fe : EvF} {env : Envr} {σ : L2.St} {vs : List Nat}
theorem Mk.fresh (A : Mk wd K p mu rho1 Hs rho' H st acc) : Mk wd K p mu rho' H rho' H st acc := ⟨Lm.refl _ _ _, A.S, A.cur⟩
theorem more_body (hp : p ∈ mu) (A : Mk wd K p mu rho1 Hs rho' H st acc) (r : Rl K mu rho' H x v) (E : EnvR K mu rho' H (wipeE env (tgS t)) (wipe σ vs)) (hv : ∀ j ∈ tgS t, j ∈ vs)
    (e : moreF t fc (fun env1 acc s => clsF fi1 (lastF t1 fc1 fe) env1 env1 acc s) env x acc st = some (acc', s')) {Nx : Hp → Prop} (nx : ∀ rho'' H'', Mk wd K p mu rho1 Hs rho'' H'' s' acc' → Nx H'') :
    RG wd K t v (wipe σ vs) H fun σ2 H2 => wipe σ2 vs = wipe σ vs ∧ RT wd K fc σ2 H2 fun b H3 =>
      if b = true then RI wd K fi1 σ2 H3 fun J1 H4 => ∃ W1 : Nat → Nat → Hp → Prop, (∃ m, W1 0 m H4) ∧ ∀ j k H, W1 j k H →
        (J1.stop j H ∧ Nx H) ∨ (J1.go j H ∧ ∃ Nx1 : Hp → Prop, (∀ H', Nx1 H' → ∃ k', k' < k ∧ W1 (j + 1) k' H') ∧ ∀ x H', J1.yld j H x H' → RG wd K t1 x (wipe σ2 (tgS t1)) H' fun σ3 H5 => wipe σ3 (tgS t1) = wipe σ2 (tgS t1) ∧ RT wd K fc1 σ3 H5 fun b H6 =>
          if b = true then RE wd K fe σ3 H6 fun y H7 => ∃ acc, H7 p = some (.lst acc) ∧ acc.length < sizeLine ∧ Nx1 (upd H7 p (.lst (acc ++ [y]))) else Nx1 H6)
      else Nx H3 := by
  unfold moreF at e
  split at e
  · rename_i env1 eb
    refine ⟨mu, rho', st, wipeE env (tgS t), x, env1, A.S, E, r, eb, fun σ2 E2 sb => ⟨by rw [sb.wipe hv, wipe_idem], ?_⟩⟩
    split at e
    · rename_i s2 ec
      refine ⟨mu, rho', env1, st, true, s2, A.S, E2, ec, fun r3 H3 l3 S3 => ?_⟩
      dsimp only
      rw [if_pos rfl]
      dsimp only [clsF] at e
      split at e
      · rename_i src s3 ei
        refine ⟨mu, r3, env1, s2, src, s3, S3, E2.le l3, ei, fun r4 H4 J1 l4 S4 w => ?_⟩
        have A4 := A.le hp (l3.trans l4) S4
        have E4 : EnvR K mu r4 H4 env1 σ2 := (E2.le l3).le l4
        refine comp_loop (End := Nx) hp w A4.fresh e (fun rho' H B => nx rho' H (A4.base B)) fun x1 v1 rho5 H5 st5 acc5 acc6 s6 Nx1 B r5 ef nx1 => ?_
        have E5 : EnvR K mu rho5 H5 (wipeE env1 (tgS t1)) (wipe σ2 (tgS t1)) := (E4.wipeB _).lm (B.l.mono fun a ha => by rw [List.mem_singleton.mp ha]; exact hp)
        exact last_body hp B r5 E5 (fun j hj => hj) ef nx1
      · cases e
    · rename_i s2 ec
      cases e
      refine ⟨mu, rho', env1, st, false, _, A.S, E2, ec, fun r3 H3 l3 S3 => ?_⟩
      dsimp only
      rw [if_neg Bool.false_ne_true]
      exact nx r3 H3 (A.le hp l3 S3)
    · cases e
  · cases e
end
def lc2F (m : Bool) (own : List Nat) (t : Tg) (fi : EvI) (fc : EvB) (t1 : Tg) (fi1 : EvI) (fc1 : EvB) (fe : EvF) : EvF := fun env st =>
  match clsF fi (moreF t fc (fun env1 acc s => clsF fi1 (lastF t1 fc1 fe) env1 env1 acc s)) env (wipeE env own) [] st with
  | some (ds, s1) => mkL m ds s1
  | none => none
theorem lc2_t {wd : World} {K : PySem.W.Frag} {m : Bool} {own : List Nat} {t t1 : Tg} {fi fi1 : EvI} {fc fc1 : EvB} {fe : EvF} (hv : ∀ j ∈ tgS t, j ∈ own) {σ : L2.St} {H : Hp} {Q : VK} (h : RE wd K (lc2F m own t fi fc t1 fi1 fc1 fe) σ H Q) :
    tLc2 (RI wd K fi) (RG wd K t) (RT wd K fc) (RI wd K fi1) (RG wd K t1) (RT wd K fc1) (RE wd K fe) own (tgS t1) σ H Q := by
  obtain ⟨mu, rho, env, st, S, E, d, s2, e, q⟩ := h
  unfold lc2F at e
  split at e
  · rename_i ds sE ec
    unfold clsF at ec
    split at ec
    · rename_i src s1 ei
      refine ⟨mu, rho, env, st, src, s1, S, E, ei, fun rho1 H1 J l1 S1 w p n => ?_⟩
      have hmu : ∀ b ∈ mu, H1 b ≠ none := fun b hb => (S1.mus b hb).1
      have hn1 : p ∉ rho1 := S1.notRho n
      have hp : p ∈ p :: mu := List.mem_cons_self ..
      refine comp_loop (End := fun H => Q (.ref p) H) hp (w.pend n) (mk_start S1 n) ec (fun rho' H A => ?_) fun x v rho' H st' acc acc' s' Nx A r ef nx => ?_
      · obtain ⟨accv, h1, h2⟩ := A.cur
        exact Fin.endLst hmu n A.S A.l hn1 h1 h2 e (q.le l1)
      · have E1 : EnvR K (p :: mu) rho' H (wipeE env own) (wipe σ own) := ((((E.le l1).wipeB own).pend n).lm (A.l.mono fun a ha => by rw [List.mem_singleton.mp ha]; exact hp))
        exact more_body hp A r (E1.wipeL _) hv ef nx
    · cases ec
  · cases e
/-- name = an expression's value -/
abbrev EvX := Envr → Store → Option Out
def EndO (wd : World) (K : PySem.W.Frag) (mu rho : List Addr) (H : Hp) (E : Ends) : Out → Prop
  | .nx env' st' => ∀ rho' H' σ', Le rho H rho' H' → Sim wd K mu rho' H' st' → EnvR K mu rho' H' env' σ' → E.nx σ' H'
  | .rt d st' => Fin wd K mu rho H d st' E.rt
def RS (wd : World) (K : PySem.W.Frag) (f : EvX) : TS := fun D σ H => ∃ mu rho env st o, Sim wd K mu rho H st ∧ EnvR K mu rho H env σ ∧ f env st = some o ∧ EndO wd K mu rho H D o
theorem EndO.le {wd : World} {K : PySem.W.Frag} {mu rho rho' : List Addr} {H H' : Hp} {E : Ends} {o : Out} (h : EndO wd K mu rho H E o) (l : Le rho H rho' H') : EndO wd K mu rho' H' E o := by
  cases o with
  | nx env' st' => exact fun r2 H2 σ' l2 S R => h r2 H2 σ' (l.trans l2) S R
  | rt d st' => exact Fin.le l h
/-- t = e, as a step -/
def asgF (t : Tg) (fe : EvF) : EvX := fun env st => match fe env st with
  | some (x, s1) => match bindT t x env with
    | some env1 => some (.nx env1 s1)
    | none => none
  | none => none
section
variable {X : Cx}
theorem PS.imp {st : Stmt} {t t' : TS} (h : PS X st t) (hi : ∀ D σ H, t' D σ H → t D σ H) : PS X st t' := ⟨fun pins s σ H D I q => h.run pins s σ H D I (hi D σ H q)⟩
theorem PSs.imp {st : List Stmt} {t t' : TS} (h : PSs X st t) (hi : ∀ D σ H, t' D σ H → t D σ H) : PSs X st t' := ⟨fun pins s σ H D I q => h.run pins s σ H D I (hi D σ H q)⟩
theorem asg_t {wd : World} {K : PySem.W.Frag} {t : Tg} {fe : EvF} {D : Ends} {σ : L2.St} {H : Hp} (h : RS wd K (asgF t fe) D σ H) : RE wd K fe σ H fun x H1 => RG wd K t x σ H1 D.nx := by
  obtain ⟨mu, rho, env, st, o, S, E, e, q⟩ := h
  unfold asgF at e
  split at e
  · rename_i x s1 ea
    split at e
    · rename_i env1 eb
      cases e
      exact ⟨mu, rho, env, st, S, E, x, s1, ea, fun r1 H1 v l1 S1 R1 => ⟨mu, r1, s1, env, x, env1, S1, E.le l1, R1, eb, fun σ' E' _ => q r1 H1 σ' l1 S1 E'⟩⟩
    · cases e
  · cases e
theorem asg_nm {wd : World} {K : PySem.W.Frag} {i : Nat} {fe : EvF} {D : Ends} {σ : L2.St} {H : Hp} (h : RS wd K (asgF (.nm i) fe) D σ H) : RE wd K fe σ H fun x H1 => gName i x σ H1 D.nx := by
  obtain ⟨mu, rho, env, st, o, S, E, e, q⟩ := h
  unfold asgF at e
  split at e
  · rename_i x s1 ea
    cases e
    exact ⟨mu, rho, env, st, S, E, x, s1, ea, fun r1 H1 v l1 S1 R1 => q r1 H1 _ l1 S1 ((E.le l1).set R1 i)⟩
  · cases e
theorem re_lc2 {elt tg iter tg1 iter1 : Expr} {ifs ifs1 : List Expr} {scope : Scope} {own : List (Str × Nat)} {pos : Pos} {m : Bool} {t t1 : Tg} {fi fi1 : EvI} {fc fc1 : EvB} {fe : EvF} (hc : X.calm = true) (hN : X.N.Nodup)
    (hi : PI X tg iter (RI X.w X.K fi)) (ok : BlkOk X.N X.env.scope scope own)
    (hg : ∀ (s : Shared) (H : Hp) (C : Addr) (cl : List (Str × Addr)) (fp : List Addr), PG (X.blk s H scope (compEnvC scope cl C X.env) fp) tg (RG X.w X.K t))
    (ht : ∀ (s : Shared) (H : Hp) (C : Addr) (cl : List (Str × Addr)) (fp : List Addr), PTs (X.blk s H scope (compEnvC scope cl C X.env) fp) ifs (RT X.w X.K fc))
    (hi1 : ∀ (s : Shared) (H : Hp) (C : Addr) (cl : List (Str × Addr)) (fp : List Addr), PI (X.blk s H scope (compEnvC scope cl C X.env) fp) tg1 iter1 (RI X.w X.K fi1))
    (hg1 : ∀ (s : Shared) (H : Hp) (C : Addr) (cl : List (Str × Addr)) (fp : List Addr), PG (X.blk s H scope (compEnvC scope cl C X.env) fp) tg1 (RG X.w X.K t1))
    (ht1 : ∀ (s : Shared) (H : Hp) (C : Addr) (cl : List (Str × Addr)) (fp : List Addr), PTs (X.blk s H scope (compEnvC scope cl C X.env) fp) ifs1 (RT X.w X.K fc1))
    (he : ∀ (s : Shared) (H : Hp) (C : Addr) (cl : List (Str × Addr)) (fp : List Addr), PE (X.blk s H scope (compEnvC scope cl C X.env) fp) elt (RE X.w X.K fe))
    (hs : ∀ x, foldedSetIterable iter X.env x = pure x) (hs1 : ∀ env x, foldedSetIterable iter1 env x = pure x) (hv : ∀ j ∈ tgS t, j ∈ own.map (·.2)) (hv1 : ∀ j ∈ tgS t1, j ∈ own.map (·.2)) :
    PE X (.ListComp elt [⟨tg, iter, ifs, 0⟩, ⟨tg1, iter1, ifs1, 0⟩] scope pos) (RE X.w X.K (lc2F m (own.map (·.2)) t fi fc t1 fi1 fc1 fe)) :=
  PE.imp (pe_lc2 hc hN hi ok hv1 hg ht hi1 hg1 ht1 he hs hs1) fun σ H Q h => lc2_t hv h
/-- name = [.. for ..], on one line, the name a local -/
theorem rs_setLc1 {i : Nat} {y : Str} {py : Pos} {elt tg iter : Expr} {ifs : List Expr} {scope : Scope} {own : List (Str × Nat)} {pos spos : Pos} {m : Bool} {t : Tg} {fi : EvI} {fc : EvB} {fe : EvF} (hc : X.calm = true) (hN : X.N.Nodup)
    (hy : X.N[i]? = some y) (hyl : X.env.scope.names.lookup y = some .local) (hsw : swapsWith (.ListComp elt [⟨tg, iter, ifs, 0⟩] scope pos) (some (.Name y py)) spos.line X.env = pure true)
    (hi : PI X tg iter (RI X.w X.K fi)) (ok : BlkOk X.N X.env.scope scope own)
    (hg : ∀ (s : Shared) (H : Hp) (C : Addr) (cl : List (Str × Addr)) (fp : List Addr), PG (X.blk s H scope (compEnvC scope cl C X.env) fp) tg (RG X.w X.K t))
    (ht : ∀ (s : Shared) (H : Hp) (C : Addr) (cl : List (Str × Addr)) (fp : List Addr), PTs (X.blk s H scope (compEnvC scope cl C X.env) fp) ifs (RT X.w X.K fc))
    (he : ∀ (s : Shared) (H : Hp) (C : Addr) (cl : List (Str × Addr)) (fp : List Addr), PE (X.blk s H scope (compEnvC scope cl C X.env) fp) elt (RE X.w X.K fe))
    (hs : ∀ x, foldedSetIterable iter X.env x = pure x) (hv : ∀ j ∈ tgS t, j ∈ own.map (·.2)) :
    PS X (.Assign [.Name y py] (.ListComp elt [⟨tg, iter, ifs, 0⟩] scope pos) spos) (RS X.w X.K (asgF (.nm i) (lc1F m (own.map (·.2)) t fi fc fe))) :=
  PS.imp (ps_setLc hc hN hy hyl hsw hi ok hg ht he hs) fun D σ H h => lc1_t hv (asg_nm h)
theorem rs_setLc2 {i : Nat} {y : Str} {py : Pos} {elt tg iter tg1 iter1 : Expr} {ifs ifs1 : List Expr} {scope : Scope} {own : List (Str × Nat)} {pos spos : Pos} {m : Bool} {t t1 : Tg} {fi fi1 : EvI} {fc fc1 : EvB} {fe : EvF} (hc : X.calm = true) (hN : X.N.Nodup)
    (hy : X.N[i]? = some y) (hyl : X.env.scope.names.lookup y = some .local) (hsw : swapsWith (.ListComp elt [⟨tg, iter, ifs, 0⟩, ⟨tg1, iter1, ifs1, 0⟩] scope pos) (some (.Name y py)) spos.line X.env = pure true)
    (hi : PI X tg iter (RI X.w X.K fi)) (ok : BlkOk X.N X.env.scope scope own)
    (hg : ∀ (s : Shared) (H : Hp) (C : Addr) (cl : List (Str × Addr)) (fp : List Addr), PG (X.blk s H scope (compEnvC scope cl C X.env) fp) tg (RG X.w X.K t))
    (ht : ∀ (s : Shared) (H : Hp) (C : Addr) (cl : List (Str × Addr)) (fp : List Addr), PTs (X.blk s H scope (compEnvC scope cl C X.env) fp) ifs (RT X.w X.K fc))
    (hi1 : ∀ (s : Shared) (H : Hp) (C : Addr) (cl : List (Str × Addr)) (fp : List Addr), PI (X.blk s H scope (compEnvC scope cl C X.env) fp) tg1 iter1 (RI X.w X.K fi1))
    (hg1 : ∀ (s : Shared) (H : Hp) (C : Addr) (cl : List (Str × Addr)) (fp : List Addr), PG (X.blk s H scope (compEnvC scope cl C X.env) fp) tg1 (RG X.w X.K t1))
    (ht1 : ∀ (s : Shared) (H : Hp) (C : Addr) (cl : List (Str × Addr)) (fp : List Addr), PTs (X.blk s H scope (compEnvC scope cl C X.env) fp) ifs1 (RT X.w X.K fc1))
    (he : ∀ (s : Shared) (H : Hp) (C : Addr) (cl : List (Str × Addr)) (fp : List Addr), PE (X.blk s H scope (compEnvC scope cl C X.env) fp) elt (RE X.w X.K fe))
    (hs : ∀ x, foldedSetIterable iter X.env x = pure x) (hs1 : ∀ env x, foldedSetIterable iter1 env x = pure x) (hv : ∀ j ∈ tgS t, j ∈ own.map (·.2)) (hv1 : ∀ j ∈ tgS t1, j ∈ own.map (·.2)) :
    PS X (.Assign [.Name y py] (.ListComp elt [⟨tg, iter, ifs, 0⟩, ⟨tg1, iter1, ifs1, 0⟩] scope pos) spos) (RS X.w X.K (asgF (.nm i) (lc2F m (own.map (·.2)) t fi fc t1 fi1 fc1 fe))) :=
  PS.imp (ps_setLc2 hc hN hy hyl hsw hi ok hv1 hg ht hi1 hg1 ht1 he hs hs1) fun D σ H h => lc2_t hv (asg_nm h)
end
end Ow
/-! Dicts: what is put into them. -/
namespace Ow
open PySem PySem.Spec PyProof.Rows L2

/-- the entries behind d[k] = v -/
def storeX (xs : List (NestedKey × Value × Value)) (k : NestedKey) (key v : Value) : List (NestedKey × Value × Value) :=
  if (xs.find? fun z => decide (z.1 = k)).isSome = true then xs.map (fun z => if z.1 = k then (z.1, z.2.1, v) else z) else xs ++ [(k, key, v)]
theorem storeX_nil (k : NestedKey) (key v : Value) : storeX [] k key v = [(k, key, v)] := rfl
theorem map_none {k : NestedKey} {v : Value} : ∀ {xs : List (NestedKey × Value × Value)}, k ∉ xs.map (·.1) → xs.map (fun z => if z.1 = k then (z.1, z.2.1, v) else z) = xs
  | [], _ => rfl
  | z :: xs, h => by
    rw [List.map_cons, List.mem_cons, not_or] at h
    rw [List.map_cons, if_neg (fun e => h.1 e.symm), map_none h.2]
theorem storeX_hit {xs : List (NestedKey × Value × Value)} {z : NestedKey × Value × Value} {k : NestedKey} {key v : Value} (e : z.1 = k) (hn : ((z :: xs).map (·.1)).Nodup) : storeX (z :: xs) k key v = (z.1, z.2.1, v) :: xs := by
  unfold storeX
  rw [List.find?_cons_of_pos (by simpa using e), if_pos (show (some z).isSome = true from rfl), List.map_cons, if_pos e, map_none]
  rw [List.map_cons, List.nodup_cons] at hn
  rw [← e]
  exact hn.1
theorem storeX_miss {xs : List (NestedKey × Value × Value)} {z : NestedKey × Value × Value} {k : NestedKey} {key v : Value} (e : ¬ z.1 = k) : storeX (z :: xs) k key v = z :: storeX xs k key v := by
  unfold storeX
  rw [List.find?_cons_of_neg (by simpa using e)]
  split
  · rw [List.map_cons, if_neg e]
  · rfl
theorem storeX_keys {k : NestedKey} {key v : Value} : ∀ {xs : List (NestedKey × Value × Value)}, (xs.map (·.1)).Nodup → (∀ z ∈ (storeX xs k key v).map (·.1), z ∈ xs.map (·.1) ∨ z = k) ∧ ((storeX xs k key v).map (·.1)).Nodup
  | [], _ => by rw [storeX_nil]; exact ⟨fun z h => .inr (by simpa using h), by simp⟩
  | z :: xs, hn => by
    by_cases e : z.1 = k
    · rw [storeX_hit e hn]
      exact ⟨fun y h => .inl h, hn⟩
    · rw [storeX_miss e]
      rw [List.map_cons, List.nodup_cons] at hn
      obtain ⟨h1, h2⟩ := storeX_keys (k := k) (key := key) (v := v) hn.2
      refine ⟨fun y h => ?_, ?_⟩
      · rw [List.map_cons] at h ⊢
        rcases List.mem_cons.mp h with h | h
        · exact .inl (h ▸ List.mem_cons_self ..)
        · exact (h1 y h).imp (List.mem_cons_of_mem _) id
      · rw [List.map_cons, List.nodup_cons]
        exact ⟨fun h => (h1 _ h).elim hn.1 e, h2⟩
theorem asStr_store {s : Str} {t : Tok} {v : Value} : ∀ {xs : List (NestedKey × Value × Value)}, (∀ z ∈ xs, IsTx z) → (xs.map (·.1)).Nodup → asStr (storeX xs (.text s) (.str s t) v) = stored (asStr xs) s v := by
  intro xs hx hn
  have hf := find_str (k := s) hx
  have any : (asStr xs).any (fun kv => decide (kv.1 = s)) = (xs.find? fun z => decide (z.1 = .text s)).isSome := by
    have h1 : (valueAt (asStr xs) s).isSome = (asStr xs).any (fun kv => decide (kv.1 = s)) := by
      unfold valueAt
      rw [Option.isSome_map, List.isSome_find?]
    rw [← h1, hf, Option.isSome_map]
  unfold storeX stored
  rw [any]
  split
  · unfold asStr
    rw [List.map_map, List.map_map]
    refine List.map_congr_left fun z hz => ?_
    obtain ⟨s', t', h1, h2⟩ := hx z hz
    dsimp only [Function.comp_apply]
    rw [h1]
    by_cases e : s' = s
    · subst e
      rw [if_pos rfl]
      simp
    · rw [if_neg (fun z => e (by injection z)), h1]
      simp [e]
  · unfold asStr
    rw [List.map_append]
    rfl
theorem asTup_store {k : NestedKey} {b : Addr} {v : Value} (xs : List (NestedKey × Value × Value)) : asTup (storeX xs k (.ref b) v) = storedH (asTup xs) k b v := by
  unfold storeX storedH
  rw [find_tup, Option.isSome_map]
  split
  · unfold asTup
    rw [List.map_map, List.map_map]
    refine List.map_congr_left fun z _ => ?_
    unfold putAt
    dsimp only [Function.comp_apply]
    by_cases e : z.1 = k
    · rw [if_pos e, if_pos e]
    · rw [if_neg e, if_neg e]
  · unfold asTup
    rw [List.map_append]
    rfl
theorem storeX_all {P : NestedKey × Value × Value → Prop} {k : NestedKey} {key v : Value} {xs : List (NestedKey × Value × Value)} (hx : ∀ z ∈ xs, P z) (h1 : ∀ z, P z → P (z.1, z.2.1, v)) (h2 : P (k, key, v)) : ∀ z ∈ storeX xs k key v, P z := by
  intro z hz
  unfold storeX at hz
  split at hz
  · obtain ⟨y, hy, rfl⟩ := List.mem_map.mp hz
    split
    · exact h1 y (hx y hy)
    · exact hx y hy
  · rcases List.mem_append.mp hz with hz | hz
    · exact hx z hz
    · rw [List.mem_singleton.mp hz]
      exact h2
/-- putting goes along -/
theorem put_ent {K : PySem.W.Frag} {mu rho : List Addr} {H : Hp} {d e : D} {x y : V} {key v : Value} (hd : keyIt d = true) (rd : Rl K mu rho H d x) (rx : RelV x key) (re : Rl K mu rho H e y) (ry : RelV y v) :
    ∀ {kvs : List (D × D)} {ks vs : List V} {xs : List (NestedKey × Value × Value)}, (∀ p ∈ kvs, keyIt p.1 = true) → Rls K mu rho H (kvs.map (·.1)) ks → Rls K mu rho H (kvs.map (·.2)) vs → Paired EntR (ent kvs ks vs) xs → (xs.map (·.1)).Nodup →
      ∃ ks' vs', Rls K mu rho H ((putD d e kvs).map (·.1)) ks' ∧ Rls K mu rho H ((putD d e kvs).map (·.2)) vs' ∧ Paired EntR (ent (putD d e kvs) ks' vs') (storeX xs (nk d) key v)
  | [], _, _, xs, _, .nil, .nil, p, _ => by
    rw [ent] at p
    · cases p
      rw [storeX_nil]
      exact ⟨[x], [y], .cons rd .nil, .cons re .nil, .cons ⟨rfl, rx, ry⟩ .nil⟩
    · intro p r k ks v vs h; cases h
  | q :: kvs, _, _, xs, hk, .cons (v := k) r rs, .cons (v := w) t ts, p, hn => by
    rw [ent] at p
    cases p with
    | @cons _ z _ zs h tt =>
      have e1 : eqD q.1 d = decide (z.1 = nk d) := by rw [eqD_key (hk q (List.mem_cons_self ..)) hd, ← h.1]
      rw [putD, e1]
      by_cases c : z.1 = nk d
      · rw [if_pos (decide_eq_true c), storeX_hit c hn]
        exact ⟨k :: _, y :: _, .cons r rs, .cons re ts, .cons ⟨h.1, h.2.1, ry⟩ tt⟩
      · rw [if_neg (by rw [decide_eq_true_iff]; exact c), storeX_miss c]
        rw [List.map_cons, List.nodup_cons] at hn
        obtain ⟨ks', vs', h1, h2, h3⟩ := put_ent hd rd rx re ry (fun p hp => hk p (List.mem_cons_of_mem _ hp)) rs ts tt hn.2
        exact ⟨k :: ks', w :: vs', .cons r h1, .cons t h2, .cons h h3⟩
theorem relStr {v : V} {s : Str} {t : Tok} (r : RelV v (.str s t)) (t' : Tok) : RelV v (.str s t') := by
  cases v with
  | str x =>
    obtain ⟨t2, e⟩ := r
    injection e with e1 e2
    subst e1
    exact ⟨t', rfl⟩
  | int i => obtain ⟨_, e⟩ := r; cases e
  | _ => first | (cases r; done) | (obtain ⟨_, e⟩ := r; cases e)
/-- other tokens of the keys -/
theorem par_str : ∀ {es : List (NestedKey × V × V)} {xs ys : List (NestedKey × Value × Value)}, Paired EntR es xs → (∀ z ∈ xs, IsTx z) → (∀ z ∈ ys, IsTx z) → asStr ys = asStr xs → Paired EntR es ys
  | _, [], ys, .nil, _, _, h => by
    cases ys with
    | nil => exact .nil
    | cons _ _ => cases h
  | _, x :: xs, ys, .cons h t, hx, hy, e => by
    cases ys with
    | nil => cases e
    | cons y ys =>
      obtain ⟨s, u, a1, a2⟩ := hx x (List.mem_cons_self ..)
      obtain ⟨s', u', b1, b2⟩ := hy y (List.mem_cons_self ..)
      unfold asStr at e
      rw [List.map_cons, List.map_cons, a1, b1] at e
      injection e with e1 e2
      injection e1 with e3 e4
      dsimp only at e3 e4
      subst e3
      refine .cons ⟨by rw [h.1, a1, b1], ?_, by rw [e4]; exact h.2.2⟩ (par_str t (fun z hz => hx z (List.mem_cons_of_mem _ hz)) (fun z hz => hy z (List.mem_cons_of_mem _ hz)) e2)
      have := h.2.1
      rw [a2] at this
      rw [b2]
      exact relStr this _
section
variable {P : Program} {w : World}
theorem raw_pairs : ∀ {ds : List DictEntry} {kvs : List (Str × Value)}, Pairs (strKind P w) ds kvs → (∀ e ∈ ds, ∃ k, (strKind P w).is k e.key = true ∧ e.hash = (strKind P w).hash k) → ∃ xs : List (NestedKey × Value × Value), ds = xs.map (rawE w) ∧ (∀ z ∈ xs, IsTx z) ∧ asStr xs = kvs
  | _, _, .nil, _ => ⟨[], rfl, (fun _ h => nomatch h), rfl⟩
  | _, _, .cons (e := e) (kv := kv) h1 h2 t, hk => by
    obtain ⟨xs, a1, a2, a3⟩ := raw_pairs t fun e he => hk e (List.mem_cons_of_mem _ he)
    obtain ⟨k, b1, b2⟩ := hk e (List.mem_cons_self ..)
    have ek : k = kv.1 := (strKind P w).inj _ _ _ b1 h1
    obtain ⟨tk, c⟩ := Value.isStrOf_shape (show Value.isStrOf k e.key = true from b1)
    refine ⟨(.text k, e.key, e.val) :: xs, ?_, fun z hz => ?_, ?_⟩
    · rw [List.map_cons, ← a1]
      congr 1
      obtain ⟨eh, ekk, ev⟩ := e
      unfold rawE
      show (⟨eh, ekk, ev⟩ : DictEntry) = ⟨NestedKey.hash w (.text k), ekk, ev⟩
      have : eh = hashStr w k := b2
      rw [this]
      rfl
    · rcases List.mem_cons.mp hz with z1 | z1
      · rw [z1]; exact ⟨k, tk, rfl, c⟩
      · exact a2 z z1
    · unfold asStr at a3 ⊢
      rw [List.map_cons, a3]
      dsimp only
      rw [ek, h2]
theorem raw_dict {h : Heap} {a : Addr} {kvs : List (Str × Value)} (x : h.DictOf (strKind P w) a kvs) : ∃ xs o ds ep, h.get? a = some o ∧ o.ExactDict ∧ o.data = .dict ds ep ∧ ds.toList = xs.map (rawE w) ∧ (∀ z ∈ xs, IsTx z) ∧ asStr xs = kvs := by
  obtain ⟨o, ds, ep, h1, h2, h3, h4, h5, _⟩ := x
  obtain ⟨xs, a1, a2, a3⟩ := raw_pairs h5 fun e he => h4 e (Array.mem_toList_iff.mp he)
  exact ⟨xs, o, ds, ep, h1, h2, h3, a1, a2, a3⟩
theorem raw_dictH {h : Heap} {a : Addr} {xs : List (NestedKey × Value × Value)} (hx : ∀ z ∈ xs, ∃ b, z.2.1 = .ref b) (x : h.DictOfH (nestedKind P w) a (asTup xs)) : ∃ o ds ep, h.get? a = some o ∧ o.ExactDict ∧ o.data = .dict ds ep ∧ ds.toList = xs.map (rawE w) := by
  obtain ⟨o, ds, ep, h1, h2, h3, h4, _⟩ := x
  refine ⟨o, ds, ep, h1, h2, h3, ?_⟩
  rw [h4]
  unfold asTup
  rw [List.map_map]
  refine List.map_congr_left fun z hz => ?_
  obtain ⟨b, e⟩ := hx z hz
  unfold rawE entryOfKey
  dsimp only [Function.comp_apply]
  rw [e]
  rfl
end
theorem putD_len (d e : D) : ∀ kvs : List (D × D), (putD d e kvs).length ≤ kvs.length + 1
  | [] => by rw [putD]; simp
  | p :: kvs => by
    rw [putD]
    split
    · simp
    · have := putD_len d e kvs
      simp
      omega
theorem putD_mem {d e : D} {p : D × D} : ∀ {kvs : List (D × D)}, p ∈ putD d e kvs → p ∈ kvs ∨ p = (d, e) ∨ ∃ q ∈ kvs, p = (q.1, e)
  | [], h => by rw [putD] at h; exact .inr (.inl (List.mem_singleton.mp h))
  | q :: kvs, h => by
    rw [putD] at h
    split at h
    · rcases List.mem_cons.mp h with h | h
      · exact .inr (.inr ⟨q, List.mem_cons_self .., h⟩)
      · exact .inl (List.mem_cons_of_mem _ h)
    · rcases List.mem_cons.mp h with h | h
      · exact .inl (h ▸ List.mem_cons_self ..)
      · rcases putD_mem h with h | h | ⟨q', hq, h⟩
        · exact .inl (List.mem_cons_of_mem _ h)
        · exact .inr (.inl h)
        · exact .inr (.inr ⟨q', List.mem_cons_of_mem _ hq, h⟩)
theorem dk_nil {kvs : List (D × D)} {d : D} (h : dkOk kvs d = true) : dkOk [] d = true := by
  cases d with
  | str w => rfl
  | tup xs =>
    unfold dkOk at h ⊢
    rw [Bool.and_eq_true] at h ⊢
    exact ⟨h.1, rfl⟩
  | _ => cases h
/-- o[i] = v of a dict's cell -/
def rSetDct (wd : World) (K : PySem.W.Frag) : TSet := fun x i v H Q => ∃ (mu rho : List Addr) (st : Store) (n : Nat) (a : Addr) (d e : D) (kvs : List (D × D)), Sim wd K mu rho H st ∧ x = .ref a ∧ rho[n]? = some a ∧ st[n]? = some (Cell.dct kvs) ∧ Rl K mu rho H d i ∧ Rl K mu rho H e v ∧ dkOk kvs d = true ∧ noRef e = true ∧ kvs.length < SZ ∧
  ∀ o, CellOk wd K mu rho (upd H a o) (Cell.dct (putD d e kvs)) a → Q (upd H a o)
theorem set_dct {X : Cx} (hu : X.A.units + 80 < cLine) : PSet X (rSetDct X.w X.K) := by
  intro pins s σ H x i v ov iv u Q I rx ri rv ⟨mu, rho, st, n, a, d, e, kvs, S, e1, ea, en, rd, re, hk, hn, hl, q⟩
  subst e1
  cases (show ov = Value.ref a from rx)
  obtain ⟨ks, vs, xs, o, ds, ep, W⟩ := dct_open I S en ea
  have hkey := (dk_inv hk).1
  obtain ⟨ks', vs', p1, p2, p3⟩ := put_ent hkey rd ri re rv W.kit W.rk W.rv W.par W.nd
  have sz : kvs.length ≤ sizeLine := by rw [← SZ_line]; omega
  have hm : Mut (H a) := by rw [W.at_]; exact True.intro
  have lx : xs.length = kvs.length := by
    have h1 := congrArg List.length (par_keys W.par)
    rw [ent_len W.lk W.lv, List.length_map, List.length_map] at h1
    exact h1
  have lks : ks'.length = (putD d e kvs).length := by have := p1.length; rw [List.length_map] at this; exact this.symm
  have lvs : vs'.length = (putD d e kvs).length := by have := p2.length; rw [List.length_map] at this; exact this.symm
  have fin : ∀ (h' : Heap) (t : Tok) (xs' : List (NestedKey × Value × Value)) (o' : Obj) (ds' : Array DictEntry) (ep' : Nat), Heap.SameBut a s.heap h' → Paired EntR (ent (putD d e kvs) ks' vs') xs' → h'.get? a = some o' → o'.ExactDict → o'.data = .dict ds' ep' → ds'.toList = xs'.map (rawE X.w) →
      ∃ H', Inv X pins σ H' { s with heap := h', toks := t } ∧ Q H' := by
    intro h' t xs' o' ds' ep' sb pp g1 g2 g3 g4
    have ho : ObjOk X.prog X.w (upd H a (DctO X.w a (ent (putD d e kvs) ks' vs'))) h' a (.ext (DctAt X.w a (ent (putD d e kvs) ks' vs'))) := by
      refine ⟨⟨W.low, xs', pp, o', ds', ep', g1, g2, g3, g4⟩, ⟨o', g1⟩, fun h1 h2 ⟨l, ys, y1, o2, d2, e2, y2, y3⟩ k => ⟨l, ys, y1, o2, d2, e2, k _ y2, y3⟩⟩
    refine ⟨_, d_write (t' := t) I hm sb ⟨o', g1⟩ ho, q _ ?_⟩
    have hrho : a ∈ rho := List.mem_of_getElem? ea
    have L : Lm mu rho H rho (upd H a (DctO X.w a (ent (putD d e kvs) ks' vs'))) := (Le.write hrho).lm mu
    refine ⟨fun p hp => ?_, ?_, ?_, ks', vs', upd_same, p1.lm L, p2.lm L⟩
    · rcases putD_mem hp with h | h | ⟨q', hq, h⟩
      · exact W.keys p h
      · subst h; exact ⟨key_noRef _ hkey, hn, dk_nil hk⟩
      · subst h; exact ⟨(W.keys q' hq).1, hn, (W.keys q' hq).2.2⟩
    · rw [← ent_len lks lvs, ← par_keys p3]
      exact (storeX_keys W.nd).2
    · have := putD_len d e kvs
      omega
  rcases key_is I rd ri hk with ⟨w, rfl, hs, is⟩ | ⟨b, rfl, hs, is⟩
  · have dd := tx_dict (P := X.prog) (W.txt hs) W.nd W.get W.ex W.dat W.ents
    obtain ⟨tk, rfl⟩ := Value.isStrOf_shape (show Value.isStrOf (toS w) iv = true from is)
    refine wpAny_setItem_pairs is dd (fun h' dd' sb => ?_) (by unfold asStr; rw [List.length_map, lx]; exact sz)
    obtain ⟨xs', o', ds', ep', g1, g2, g3, g4, g5, g6⟩ := raw_dict dd'
    refine fin h' _ xs' o' ds' ep' sb (par_str p3 (storeX_all (W.txt hs) (fun z ⟨s, t, z1, z2⟩ => ⟨s, t, z1, z2⟩) ⟨toS w, tk, rfl, rfl⟩) g5 ?_) g1 g2 g3 g4
    rw [g6]
    exact (asStr_store (W.txt hs) W.nd).symm
  · have ht := W.tup I hs
    have dd := tu_dict (P := X.prog) ht W.nd W.get W.ex W.dat W.ents
    refine wpAny_setItem_heap (room_ok hu) is dd (fun h' dd' sb => ?_) (by unfold asTup; rw [List.length_map, lx]; exact sz)
    rw [← asTup_store] at dd'
    obtain ⟨o', ds', ep', g1, g2, g3, g4⟩ := raw_dictH (storeX_all (P := fun z => ∃ b, z.2.1 = .ref b) (fun z hz => let ⟨b, e, _⟩ := ht z hz; ⟨b, e⟩) (fun z h => h) ⟨b, rfl⟩) dd'
    exact fin h' _ _ o' ds' ep' sb p3 g1 g2 g3 g4
end Ow
/-! Statements. -/
namespace Ow
open PySem PySem.Spec PyProof.Rows L2

section
variable {X : Cx} {e a b c o : Expr} {es : List Expr} {pos p : Pos} {fe fa fo fi' : EvF} {fs : EvL} {fx fy : EvX} {fc : EvB} {fi : EvI} {t : Tg}
theorem rs_asg {tg : Expr} (he : PE X e (RE X.w X.K fe)) (hg : PG X tg (RG X.w X.K t)) (hs : swapsWithSole [tg] e pos.line X.env = pure false) (hw : swappedStores [tg] e X.env = pure none) (h1 : (assignEach [tg] X.env).map (·.2) = [assign tg X.env]) :
    PS X (.Assign [tg] e pos) (RS X.w X.K (asgF t fe)) := PS.imp (ps_asg he hg hs hw h1) fun D σ H h => asg_t h
theorem rs_set {i : Nat} {x : Str} {pos' : Pos} (hN : X.N.Nodup) (hi : X.N[i]? = some x) (hx : Loc X.env.scope x) (he : PE X e (RE X.w X.K fe)) (hs : swapsWith e (some (.Name x pos')) pos.line X.env = pure false) (hf : X.fn x = true ∨ X.env.scope.names.lookup x = some .local) :
    PS X (.Assign [.Name x pos'] e pos) (RS X.w X.K (asgF (.nm i) fe)) := PS.imp (ps_set hN hi hx he hs hf) fun D σ H h => asg_nm h
def parF (js : List Nat) (fs : EvL) : EvX := fun env st => match fs env st with
  | some (ds, s1) => if ds.length = js.length then some (.nx (setEach js ds env) s1) else none
  | none => none
theorem parF_t {js : List Nat} {wd : World} {K : PySem.W.Frag} {D : Ends} {σ : L2.St} {H : Hp} (h : RS wd K (parF js fs) D σ H) : RA wd K fs σ H fun vs H1 => ∀ σ', (∀ mu rho ds env, Rls K mu rho H1 ds vs → ds.length = js.length → EnvR K mu rho H1 env σ → EnvR K mu rho H1 (setEach js ds env) σ') → vs.length = js.length → D.nx σ' H1 := by
  obtain ⟨mu, rho, env, st, o, S, E, e, q⟩ := h
  unfold parF at e
  split at e
  · rename_i ds s1 ea
    split at e
    · rename_i hl
      cases e
      exact ⟨mu, rho, env, st, ds, s1, S, E, ea, fun r1 H1 vs l1 S1 R1 σ' hσ _ => q r1 H1 σ' l1 S1 (hσ mu r1 ds env R1 hl (E.le l1))⟩
    · cases e
  · cases e
theorem parF_len {js : List Nat} {wd : World} {K : PySem.W.Frag} {D : Ends} {σ : L2.St} {H : Hp} (h : RS wd K (parF js fs) D σ H) : RA wd K fs σ H fun vs H1 => vs.length = js.length ∧ ∀ σ', (∀ mu rho ds env, Rls K mu rho H1 ds vs → ds.length = js.length → EnvR K mu rho H1 env σ → EnvR K mu rho H1 (setEach js ds env) σ') → D.nx σ' H1 := by
  obtain ⟨mu, rho, env, st, o, S, E, e, q⟩ := h
  unfold parF at e
  split at e
  · rename_i ds s1 ea
    split at e
    · rename_i hl
      cases e
      exact ⟨mu, rho, env, st, ds, s1, S, E, ea, fun r1 H1 vs l1 S1 R1 => ⟨by rw [← R1.length]; exact hl, fun σ' hσ => q r1 H1 σ' l1 S1 (hσ mu r1 ds env R1 hl (E.le l1))⟩⟩
    · cases e
  · cases e
theorem rs_par2 {i j : Nat} {x y : Str} {px py pt : Pos} {kt k2 pt2} (hc : X.calm = true) (hN : X.N.Nodup) (hi : X.N[i]? = some x) (hj : X.N[j]? = some y) (hij : i ≠ j) (hx : X.env.scope.names.lookup x = some .local) (hy : X.env.scope.names.lookup y = some .local)
    (ha : PA X [a, b] (RA X.w X.K fs)) (hw : swappedStores [.Tuple [.Name x px, .Name y py] kt pt] (.Tuple [a, b] k2 pt2) X.env = pure (some [x, y])) (hs : swapsWithSole [.Tuple [.Name x px, .Name y py] kt pt] (.Tuple [a, b] k2 pt2) pos.line X.env = pure false) :
    PS X (.Assign [.Tuple [.Name x px, .Name y py] kt pt] (.Tuple [a, b] k2 pt2) pos) (RS X.w X.K (parF [i, j] fs)) :=
  PS.imp (ps_par hc hN hi hj hij hx hy ha hw hs) fun D σ H h => by
    obtain ⟨mu, rho, env, st, ds, s1, S, E, ea, q⟩ := parF_len h
    refine ⟨mu, rho, env, st, ds, s1, S, E, ea, fun r1 H1 vs l1 S1 R1 => ?_⟩
    obtain ⟨hl, q⟩ := q r1 H1 vs l1 S1 R1
    match vs, hl with
    | [v, w], _ =>
      refine ⟨v, w, rfl, q _ fun mu rho ds env R hl E => ?_⟩
      match ds, R with
      | [d, e], .cons r1 (.cons r2 .nil) => exact (E.set r1 i).set r2 j
theorem rs_par3 {i j l : Nat} {x y z : Str} {px py pz pt : Pos} {kt k2 pt2} (hc : X.calm = true) (hN : X.N.Nodup) (hi : X.N[i]? = some x) (hj : X.N[j]? = some y) (hl : X.N[l]? = some z) (hij : i ≠ j) (hil : i ≠ l) (hjl : j ≠ l)
    (hx : X.env.scope.names.lookup x = some .local) (hy : X.env.scope.names.lookup y = some .local) (hz : X.env.scope.names.lookup z = some .local) (ha : PA X [a, b, c] (RA X.w X.K fs))
    (hw : swappedStores [.Tuple [.Name x px, .Name y py, .Name z pz] kt pt] (.Tuple [a, b, c] k2 pt2) X.env = pure (some [x, y, z])) (hs : swapsWithSole [.Tuple [.Name x px, .Name y py, .Name z pz] kt pt] (.Tuple [a, b, c] k2 pt2) pos.line X.env = pure false) :
    PS X (.Assign [.Tuple [.Name x px, .Name y py, .Name z pz] kt pt] (.Tuple [a, b, c] k2 pt2) pos) (RS X.w X.K (parF [i, j, l] fs)) :=
  PS.imp (ps_par3 hc hN hi hj hl hij hil hjl hx hy hz ha hw hs) fun D σ H h => by
    obtain ⟨mu, rho, env, st, ds, s1, S, E, ea, q⟩ := parF_len h
    refine ⟨mu, rho, env, st, ds, s1, S, E, ea, fun r1 H1 vs l1 S1 R1 => ?_⟩
    obtain ⟨hlen, q⟩ := q r1 H1 vs l1 S1 R1
    match vs, hlen with
    | [v, w, u], _ =>
      refine ⟨v, w, u, rfl, q _ fun mu rho ds env R hl E => ?_⟩
      match ds, R with
      | [d, e, f], .cons r1 (.cons r2 (.cons r3 .nil)) => exact ((E.set r1 i).set r2 j).set r3 l
/-! writes -/
theorem ref_cell {wd : World} {K : PySem.W.Frag} {mu rho : List Addr} {H : Hp} {st : Store} {n : Nat} {v : V} {xs : List D} (S : Sim wd K mu rho H st) (r : Rl K mu rho H (.ref n) v) (e : st[n]? = some (.lst xs)) :
    ∃ q vs, v = .ref q ∧ rho[n]? = some q ∧ H q = some (.lst vs) ∧ Rls K mu rho H xs vs ∧ noRefs xs = true := by
  cases r with
  | ref ea =>
    obtain ⟨h1, vs, h2, h3⟩ := S.cells _ _ _ e ea
    exact ⟨_, vs, rfl, ea, h2, h3, h1⟩
theorem write_fin {wd : World} {K : PySem.W.Frag} {mu rho : List Addr} {H : Hp} {st : Store} {n : Nat} {q : Addr} {xs : List D} {vs : List V} (S : Sim wd K mu rho H st) (ea : rho[n]? = some q) (r : Rls K mu rho H xs vs) (hr : noRefs xs = true) :
    Le rho H rho (upd H q (.lst vs)) ∧ Sim wd K mu rho (upd H q (.lst vs)) (st.set n (.lst xs)) := ⟨Le.write (List.mem_of_getElem? ea), S.write ea hr r⟩
theorem noRefs_set {d : D} (hd : noRef d = true) : ∀ (xs : List D) (k : Nat), noRefs xs = true → noRefs (xs.set k d) = true
  | [], _, _ => rfl
  | x :: xs, 0, h => by
    rw [noRefs, Bool.and_eq_true] at h
    rw [List.set_cons_zero, noRefs, hd, h.2]
    rfl
  | x :: xs, k + 1, h => by
    rw [noRefs, Bool.and_eq_true] at h
    rw [List.set_cons_succ, noRefs, h.1, noRefs_set hd xs k h.2]
    rfl
theorem noRefs_append : ∀ (xs ys : List D), noRefs xs = true → noRefs ys = true → noRefs (xs ++ ys) = true
  | [], _, _, h => h
  | x :: xs, ys, h, k => by
    rw [noRefs, Bool.and_eq_true] at h
    rw [List.cons_append, noRefs, h.1, noRefs_append xs ys h.2 k]
    rfl
theorem noRefs_erase : ∀ (xs : List D) (k : Nat), noRefs xs = true → noRefs (xs.eraseIdx k) = true
  | [], _, _ => rfl
  | x :: xs, 0, h => by
    rw [noRefs, Bool.and_eq_true] at h
    exact h.2
  | x :: xs, k + 1, h => by
    rw [noRefs, Bool.and_eq_true] at h
    rw [List.eraseIdx_cons_succ, noRefs, h.1, noRefs_erase xs k h.2]
    rfl
theorem noRefs_take : ∀ (n : Nat) (xs : List D), noRefs xs = true → noRefs (xs.take n) = true
  | 0, _, _ => rfl
  | _ + 1, [], _ => rfl
  | n + 1, x :: xs, h => by
    rw [noRefs, Bool.and_eq_true] at h
    rw [List.take_succ_cons, noRefs, h.1, noRefs_take n xs h.2]
    rfl
theorem noRefs_drop : ∀ (n : Nat) (xs : List D), noRefs xs = true → noRefs (xs.drop n) = true
  | 0, _, h => h
  | _ + 1, [], _ => rfl
  | n + 1, x :: xs, h => by
    rw [noRefs, Bool.and_eq_true] at h
    exact noRefs_drop n xs h.2
def setF (fo fi fe : EvF) : EvX := fun env st => match fe env st with
  | some (x, s1) => match fo env s1 with
    | some (y, s2) => match fi env s2 with
      | some (z, s3) => match setD y z x s3 with
        | some s4 => some (.nx env s4)
        | none => none
      | none => none
    | none => none
  | none => none
theorem set0_inv {d e x : D} {st st' : Store} (h : setD0 d e x st = some st') : ∃ n j xs k, d = .ref n ∧ e = .int j ∧ st[n]? = some (.lst xs) ∧ ixOf xs.length j = some k ∧ noRef x = true ∧ st' = st.set n (.lst (xs.set k x)) := by
  unfold setD0 at h
  split at h
  · split at h
    · rename_i xs hn
      split at h
      · rename_i k hk
        split at h
        · rename_i hr
          cases h
          exact ⟨_, _, xs, k, rfl, rfl, hn, hk, hr, rfl⟩
        · cases h
      · cases h
    · cases h
  · cases h
theorem set_inv {d e x : D} {st st' : Store} (h : setD d e x st = some st') : (∃ n j xs k, d = .ref n ∧ e = .int j ∧ st[n]? = some (.lst xs) ∧ ixOf xs.length j = some k ∧ noRef x = true ∧ st' = st.set n (.lst (xs.set k x))) ∨
    ∃ (n : Nat) (kvs : List (D × D)), d = .ref n ∧ st[n]? = some (Cell.dct kvs) ∧ dkOk kvs e = true ∧ noRef x = true ∧ kvs.length < SZ ∧ st' = st.set n (.dct (putD e x kvs)) := by
  unfold setD at h
  split at h
  · rename_i kvs hd
    split at h
    · rename_i n
      split at h
      · rename_i hc
        cases h
        unfold dctOf at hd
        dsimp only at hd
        split at hd
        · rename_i kvs' hn
          cases hd
          exact .inr ⟨n, _, rfl, hn, hc.1, hc.2.1, hc.2.2, rfl⟩
        · cases hd
      · cases h
    · cases h
  · exact .inl (set0_inv h)
theorem pset_or {X : Cx} {t t' : TSet} (h : PSet X t) (h' : PSet X t') : PSet X (fun o i v H Q => t o i v H Q ∨ t' o i v H Q) := by
  intro pins s σ H o i v ov iv u Q I ro ri rv q
  rcases q with q | q
  · exact h pins s σ H o i v ov iv u Q I ro ri rv q
  · exact h' pins s σ H o i v ov iv u Q I ro ri rv q
theorem rs_seti {i : Expr} {tpos : Pos} (hu : X.A.units + 80 < cLine) (he : PE X e (RE X.w X.K fe)) (ho : PE X o (RE X.w X.K fo)) (hi : PE X i (RE X.w X.K fi'))
    (ha : ∀ v, assign (.Subscript o i tpos) X.env v = (do
      let ov ← holding [v] (eval o X.env)
      let iv ← holding [v, ov] (eval i X.env)
      standAt tpos
      holding [v, ov, iv] (setItem ov iv v)
      release [v, ov, iv] [])) (hs : swapsWithSole [.Subscript o i tpos] e pos.line X.env = pure false) (hw : swappedStores [.Subscript o i tpos] e X.env = pure none) (h1 : (assignEach [.Subscript o i tpos] X.env).map (·.2) = [assign (.Subscript o i tpos) X.env]) :
    PS X (.Assign [.Subscript o i tpos] e pos) (RS X.w X.K (setF fo fi' fe)) :=
  PS.imp (ps_asg he (pg_sub ho hi (pset_or set_list (set_dct hu)) ha) hs hw h1) fun D σ H ⟨mu, rho, env, st, out, S, E, ev, q⟩ => by
    unfold setF at ev
    split at ev
    · rename_i x s1 ex
      split at ev
      · rename_i y s2 ey
        split at ev
        · rename_i z s3 ez
          split at ev
          · rename_i s4 es
            cases ev
            refine ⟨mu, rho, env, st, S, E, x, s1, ex, fun r1 H1 v1 l1 S1 R1 => ⟨mu, r1, env, s1, S1, E.le l1, y, s2, ey, fun r2 H2 v2 l2 S2 R2 => ⟨mu, r2, env, s2, S2, (E.le l1).le l2, z, s3, ez, fun r3 H3 v3 l3 S3 R3 => ?_⟩⟩⟩
            have R1' := (R1.le l2).le l3
            rcases set_inv es with ⟨n, j, xs, k, rfl, rfl, hn, hk, hr, rfl⟩ | ⟨n, kvs, rfl, hn, hk, hr, hl, rfl⟩
            · obtain ⟨p, vs, rfl, ea, hp, rr, hx⟩ := ref_cell S3 (R2.le l3) hn
              obtain ⟨w1, w2⟩ := write_fin S3 ea (Rls.set R1' k rr) (noRefs_set hr xs k hx)
              refine .inl ⟨p, vs, j, k, rfl, R3.int_inv, hp, ?_, ?_⟩
              · rw [← rr.length]; exact hk
              · exact q _ _ σ (((l1.trans l2).trans l3).trans w1) w2 ((((E.le l1).le l2).le l3).le w1)
            · have R2' := R2.le l3
              cases R2' with
              | @ref _ p ea =>
                refine .inr ⟨mu, r3, s3, n, p, z, x, kvs, S3, rfl, ea, hn, R3, R1', hk, hr, hl, fun o ok => ?_⟩
                have w1 : Le r3 H3 r3 (upd H3 p o) := Le.write (List.mem_of_getElem? ea)
                exact q _ _ σ (((l1.trans l2).trans l3).trans w1) (S3.writeC ea ok) ((((E.le l1).le l2).le l3).le w1)
          · cases ev
        · cases ev
      · cases ev
    · cases ev
def appF (fo fe : EvF) : EvX := fun env st => match fo env st with
  | some (y, s1) => if isLref s1 y = true then (match fe env s1 with
    | some (x, s2) => match appD y x s2 with
      | some s3 => some (.nx env s3)
      | none => none
    | none => none) else none
  | none => none
theorem app_inv {d x : D} {st st' : Store} (h : appD d x st = some st') : ∃ n xs, d = .ref n ∧ st[n]? = some (.lst xs) ∧ noRef x = true ∧ xs.length < SZ ∧ st' = st.set n (.lst (xs ++ [x])) := by
  unfold appD at h
  split at h
  · split at h
    · rename_i xs hn
      split at h
      · rename_i hr
        cases h
        exact ⟨_, xs, rfl, hn, hr.1, hr.2, rfl⟩
      · cases h
    · cases h
  · cases h
theorem tyV_lst {K : PySem.W.Frag} {H : Hp} {q : Addr} {vs : List V} (h : H q = some (.lst vs)) : tyV K "list" (.ref q) H := .inl ⟨rfl, vs, .inl (.inl h)⟩
end
end Ow
/-! Methods of lists; blocks, loops. -/
namespace Ow
open PySem PySem.Spec PyProof.Rows L2

section
variable {X : Cx} {e a b c o : Expr} {es : List Expr} {pos p : Pos} {fe fa fo fi' : EvF} {fs : EvL} {fx fy : EvX} {fc : EvB} {fi : EvI} {t : Tg}
theorem base_name {x : Str} {np : Pos} {nm : Str} {env : Env} : attributeBase (.Name x np) nm env (eval (.Name x np) env) = eval (.Name x np) env := rfl
theorem few1 {cpos : Pos} (he : notStar e = true) : ((backTo cpos (starEach [e] X.env)).all (fun x => !x.1) && (backToKw cpos (keywordEach [] X.env)).all (fun x => x.1.isSome) && decide ([e].length + ([] : List Keyword).length + (if ([] : List Keyword).isEmpty then 0 else 1) < 30)) = true := by
  rw [star_no he]
  rfl
theorem few2 {f : Expr} {cpos : Pos} (he : notStar e = true) (hf : notStar f = true) : ((backTo cpos (starEach [e, f] X.env)).all (fun x => !x.1) && (backToKw cpos (keywordEach [] X.env)).all (fun x => x.1.isSome) && decide ([e, f].length + ([] : List Keyword).length + (if ([] : List Keyword).isEmpty then 0 else 1) < 30)) = true := by
  rw [star_no he, star_no hf]
  rfl
theorem isLref_inv {st : Store} {n : Nat} (h : isLref st (.ref n) = true) : ∃ xs, st[n]? = some (Cell.lst xs) := by
  unfold isLref at h
  dsimp only at h
  split at h
  · rename_i xs hn
    exact ⟨xs, hn⟩
  · cases h
theorem rs_app {x : Str} {np apos cpos : Pos} (ho : PE X (.Name x np) (RE X.w X.K fo)) (he : PE X e (RE X.w X.K fe)) (hl : (apos.endLine == cpos.line) = true) (hn : notStar e = true) :
    PS X (.Expr (.Call (.Attribute (.Name x np) "append" apos) [e] [] cpos) pos) (RS X.w X.K (appF fo fe)) :=
  PS.imp (ps_expr (pe_bm PySem.F.plainAttrs_list PySem.F.slot_list_append PySem.F.type_list_append mt_append ho (pa_cons he pa_nil (star_no hn)) base_name (few1 hn) hl (star_no hn) rfl) rfl)
    fun D σ H ⟨mu, rho, env, st, out, S, E, ev, q⟩ => by
    unfold appF at ev
    split at ev
    · rename_i y s1 ey
      by_cases hlr : isLref s1 y = true
      case neg => rw [if_neg hlr] at ev; cases ev
      rw [if_pos hlr] at ev
      split at ev
      · rename_i x s2 ex
        split at ev
        · rename_i s3 es
          cases ev
          obtain ⟨n, xs, rfl, hn2, hr, hlen, rfl⟩ := app_inv es
          refine ⟨mu, rho, env, st, S, E, _, s1, ey, fun r1 H1 v1 l1 S1 R1 => ?_⟩
          have hv : ∃ q, v1 = .ref q ∧ r1[n]? = some q := by cases R1 with | ref ea => exact ⟨_, rfl, ea⟩
          obtain ⟨qa, rfl, ea⟩ := hv
          refine ⟨?_, mu, r1, env, s1, S1, E.le l1, x, s2, ex, fun r2 H2 v2 l2 S2 R2 => ?_⟩
          · obtain ⟨ds, hc1⟩ := isLref_inv hlr
            obtain ⟨_, vs, h2, _⟩ := S1.cells _ _ _ hc1 ea
            exact tyV_lst h2
          · obtain ⟨p', vs, e1, ea2, hp, rr, hx⟩ := ref_cell S2 (R1.le l2) hn2
            have e2 : p' = qa := by
              have := pre_get l2.pre ea
              rw [ea2] at this
              exact Option.some.inj this
            subst e2
            obtain ⟨w1, w2⟩ := write_fin S2 ea2 (rr.append (.cons R2 .nil)) (noRefs_append xs [x] hx (by rw [noRefs, hr]; rfl))
            refine ⟨p', vs, v2, rfl, rfl, hp, by rw [← rr.length, ← SZ_line]; exact hlen, ?_⟩
            exact q _ _ σ ((l1.trans l2).trans w1) w2 (((E.le l1).le l2).le w1)
        · cases ev
      · cases ev
    · cases ev
/-! o.pop(i) -/
def popF (fo fi : EvF) : EvX := fun env st => match fo env st with
  | some (y, s1) => if isLref s1 y = true then (match fi env s1 with
    | some (z, s2) => match popD y z s2 with
      | some s3 => some (.nx env s3)
      | none => none
    | none => none) else none
  | none => none
theorem pop_inv {d x : D} {st st' : Store} (h : popD d x st = some st') : ∃ n j xs k, d = .ref n ∧ x = .int j ∧ st[n]? = some (.lst xs) ∧ ixOf xs.length j = some k ∧ small j = true ∧ st' = st.set n (.lst (xs.eraseIdx k)) := by
  unfold popD at h
  split at h
  · split at h
    · rename_i xs hn
      split at h
      · rename_i k hk
        split at h
        · rename_i hs
          cases h
          exact ⟨_, _, xs, k, rfl, rfl, hn, hk, hs, rfl⟩
        · cases h
      · cases h
    · cases h
  · cases h
theorem ty_ref {wd : World} {K : PySem.W.Frag} {mu rho : List Addr} {H : Hp} {st : Store} {n : Nat} {v : V} (S : Sim wd K mu rho H st) (r : Rl K mu rho H (.ref n) v) (hl : isLref st (.ref n) = true) : ∃ q, v = .ref q ∧ rho[n]? = some q ∧ tyV K "list" v H := by
  cases r with
  | ref ea =>
    obtain ⟨ds, hc1⟩ := isLref_inv hl
    obtain ⟨_, vs, h2, _⟩ := S.cells _ _ _ hc1 ea
    exact ⟨_, rfl, ea, tyV_lst h2⟩
theorem same_ref {rho rho' : List Addr} {n : Nat} {q q' : Addr} (h : ∃ e, rho' = rho ++ e) (e : rho[n]? = some q) (e' : rho'[n]? = some q') : q' = q := by
  have := pre_get h e
  rw [e'] at this
  exact Option.some.inj this
theorem rs_popi {x : Str} {np apos cpos : Pos} (ho : PE X (.Name x np) (RE X.w X.K fo)) (he : PE X e (RE X.w X.K fe)) (hl : (apos.endLine == cpos.line) = true) (hn : notStar e = true) :
    PS X (.Expr (.Call (.Attribute (.Name x np) "pop" apos) [e] [] cpos) pos) (RS X.w X.K (popF fo fe)) :=
  PS.imp (ps_expr (pe_bm PySem.F.plainAttrs_list PySem.F.slot_list_pop PySem.F.type_list_pop mt_popAt ho (pa_cons he pa_nil (star_no hn)) base_name (few1 hn) hl (star_no hn) rfl) rfl)
    fun D σ H ⟨mu, rho, env, st, out, S, E, ev, q⟩ => by
    unfold popF at ev
    split at ev
    · rename_i y s1 ey
      by_cases hlr : isLref s1 y = true
      case neg => rw [if_neg hlr] at ev; cases ev
      rw [if_pos hlr] at ev
      split at ev
      · rename_i x s2 ex
        split at ev
        · rename_i s3 es
          cases ev
          obtain ⟨n, j, xs, k, rfl, rfl, hn2, hk, hs, rfl⟩ := pop_inv es
          refine ⟨mu, rho, env, st, S, E, _, s1, ey, fun r1 H1 v1 l1 S1 R1 => ?_⟩
          obtain ⟨qa, rfl, ea, ty⟩ := ty_ref S1 R1 hlr
          refine ⟨ty, mu, r1, env, s1, S1, E.le l1, _, s2, ex, fun r2 H2 v2 l2 S2 R2 => ?_⟩
          obtain ⟨p', vs, e1, ea2, hp, rr, hx⟩ := ref_cell S2 (R1.le l2) hn2
          have e2 := same_ref l2.pre ea ea2
          subst e2
          obtain ⟨w1, w2⟩ := write_fin S2 ea2 (Rls.eraseIdx k rr) (noRefs_erase xs k hx)
          have hb := small_ok hs
          obtain ⟨g1, g2, g3, g4⟩ := ixN_seq (n := xs.length) (i := j) hk
          obtain ⟨d, hd⟩ : ∃ d, xs[k]? = some d := ⟨_, List.getElem?_eq_getElem g2⟩
          obtain ⟨z, hz, rz⟩ := rr.get k hd
          refine ⟨p', vs, j, k, z, rfl, by rw [R2.int_inv], hp, by omega, by omega, by rw [← rr.length]; exact g1, hz, ?_⟩
          exact q _ _ σ ((l1.trans l2).trans w1) w2 (((E.le l1).le l2).le w1)
        · cases ev
      · cases ev
    · cases ev
/-! o.insert(i, e) -/
def insF (fo fi fe : EvF) : EvX := fun env st => match fo env st with
  | some (y, s1) => if isLref s1 y = true then (match fi env s1 with
    | some (z, s2) => match fe env s2 with
      | some (x, s3) => match insDl y z x s3 with
        | some s4 => some (.nx env s4)
        | none => none
      | none => none
    | none => none) else none
  | none => none
theorem ins_inv {d i x : D} {st st' : Store} (h : insDl d i x st = some st') : ∃ n j xs, d = .ref n ∧ i = .int j ∧ st[n]? = some (.lst xs) ∧ noRef x = true ∧ xs.length < SZ ∧ 0 ≤ j ∧ j < 2 ^ 62 ∧ st' = st.set n (.lst (xs.take j.toNat ++ [x] ++ xs.drop j.toNat)) := by
  unfold insDl at h
  split at h
  · split at h
    · rename_i xs hn
      split at h
      · rename_i hs
        cases h
        exact ⟨_, _, xs, rfl, rfl, hn, hs.1, hs.2.1, hs.2.2.1, hs.2.2.2, rfl⟩
      · cases h
    · cases h
  · cases h
theorem rs_insi {x : Str} {np apos cpos : Pos} {i : Expr} (ho : PE X (.Name x np) (RE X.w X.K fo)) (hi : PE X i (RE X.w X.K fi')) (he : PE X e (RE X.w X.K fe)) (hl : (apos.endLine == cpos.line) = true) (ni : notStar i = true) (hn : notStar e = true) :
    PS X (.Expr (.Call (.Attribute (.Name x np) "insert" apos) [i, e] [] cpos) pos) (RS X.w X.K (insF fo fi' fe)) :=
  PS.imp (ps_expr (pe_bm PySem.F.plainAttrs_list PySem.F.slot_list_insert PySem.F.type_list_insert mt_insert ho (pa_cons hi (pa_cons he pa_nil (star_no hn)) (star_no ni)) base_name (few2 ni hn) hl (star_no ni) (plain_no (by simp [hn]))) rfl)
    fun D σ H ⟨mu, rho, env, st, out, S, E, ev, q⟩ => by
    unfold insF at ev
    split at ev
    · rename_i y s1 ey
      by_cases hlr : isLref s1 y = true
      case neg => rw [if_neg hlr] at ev; cases ev
      rw [if_pos hlr] at ev
      split at ev
      · rename_i z s2 ez
        split at ev
        · rename_i x s3 ex
          split at ev
          · rename_i s4 es
            cases ev
            obtain ⟨n, j, xs, rfl, rfl, hn2, hr, hlen, h0, h1, rfl⟩ := ins_inv es
            refine ⟨mu, rho, env, st, S, E, _, s1, ey, fun r1 H1 v1 l1 S1 R1 => ?_⟩
            obtain ⟨qa, rfl, ea, ty⟩ := ty_ref S1 R1 hlr
            refine ⟨ty, mu, r1, env, s1, S1, E.le l1, _, s2, ez, fun r2 H2 v2 l2 S2 R2 => ⟨mu, r2, env, s2, S2, (E.le l1).le l2, x, s3, ex, fun r3 H3 v3 l3 S3 R3 => ?_⟩⟩
            obtain ⟨p', vs, e1, ea2, hp, rr, hx⟩ := ref_cell S3 ((R1.le l2).le l3) hn2
            have e2 := same_ref (l2.trans l3).pre ea ea2
            subst e2
            obtain ⟨w1, w2⟩ := write_fin S3 ea2 (((Rls.take j.toNat rr).append (.cons R3 .nil)).append (Rls.drop j.toNat rr))
              (noRefs_append _ _ (noRefs_append _ _ (noRefs_take _ xs hx) (by rw [noRefs, hr]; rfl)) (noRefs_drop _ xs hx))
            refine ⟨p', vs, j, v3, rfl, by rw [R2.int_inv], hp, by rw [← rr.length, ← SZ_line]; exact hlen, h0, by omega, ?_⟩
            exact q _ _ σ (((l1.trans l2).trans l3).trans w1) w2 ((((E.le l1).le l2).le l3).le w1)
          · cases ev
        · cases ev
      · cases ev
    · cases ev
/-! return, if, blocks -/
def retF (fe : EvF) : EvX := fun env st => match fe env st with
  | some (x, s1) => some (.rt x s1)
  | none => none
theorem rs_ret (he : PE X e (RE X.w X.K fe)) : PS X (.Return (some e) pos) (RS X.w X.K (retF fe)) :=
  PS.imp (ps_ret he) fun D σ H ⟨mu, rho, env, st, out, S, E, ev, q⟩ => by
    unfold retF at ev
    split at ev
    · rename_i x s1 ex
      cases ev
      exact ⟨mu, rho, env, st, S, E, x, s1, ex, fun r1 H1 v l1 S1 R1 => q r1 H1 v l1 S1 R1⟩
    · cases ev
def ifF (fc : EvB) (fx fy : EvX) : EvX := fun env st => match fc env st with
  | some (true, s1) => fx env s1
  | some (false, s1) => fy env s1
  | none => none
theorem rs_if {ss tt : List Stmt} (hc : PT X c (RT X.w X.K fc)) (ha : PSs X ss (RS X.w X.K fx)) (hb : PSs X tt (RS X.w X.K fy)) : PS X (.If c ss tt pos) (RS X.w X.K (ifF fc fx fy)) :=
  PS.imp (ps_if hc ha hb) fun D σ H ⟨mu, rho, env, st, out, S, E, ev, q⟩ => by
    unfold ifF at ev
    split at ev
    · rename_i s1 ec
      refine ⟨mu, rho, env, st, true, s1, S, E, ec, fun r1 H1 l1 S1 => ?_⟩
      dsimp only
      rw [if_pos rfl]
      exact ⟨mu, r1, env, s1, out, S1, E.le l1, ev, q.le l1⟩
    · rename_i s1 ec
      refine ⟨mu, rho, env, st, false, s1, S, E, ec, fun r1 H1 l1 S1 => ?_⟩
      dsimp only
      rw [if_neg Bool.false_ne_true]
      exact ⟨mu, r1, env, s1, out, S1, E.le l1, ev, q.le l1⟩
    · cases ev
theorem rs_pass : PS X (.Pass pos) (RS X.w X.K fun env st => some (.nx env st)) :=
  PS.imp ps_pass fun D σ H ⟨mu, rho, env, st, out, S, E, ev, q⟩ => by
    cases ev
    exact q rho H σ (Le.refl _ _) S E
theorem rss_nil : PSs X [] (RS X.w X.K fun env st => some (.nx env st)) :=
  PSs.imp pss_nil fun D σ H ⟨mu, rho, env, st, out, S, E, ev, q⟩ => by
    cases ev
    exact q rho H σ (Le.refl _ _) S E
def seqF (fx fy : EvX) : EvX := fun env st => match fx env st with
  | some (.nx env1 s1) => fy env1 s1
  | r => r
theorem rss_cons {s : Stmt} {ss : List Stmt} (h1 : PS X s (RS X.w X.K fx)) (h2 : PSs X ss (RS X.w X.K fy)) : PSs X (s :: ss) (RS X.w X.K (seqF fx fy)) :=
  PSs.imp (pss_cons h1 h2) fun D σ H ⟨mu, rho, env, st, out, S, E, ev, q⟩ => by
    unfold seqF at ev
    cases hx : fx env st with
    | none => rw [hx] at ev; cases ev
    | some o =>
      rw [hx] at ev
      cases o with
      | nx env1 s1 => exact ⟨mu, rho, env, st, _, S, E, hx, fun r1 H1 σ' l1 S1 E1 => ⟨mu, r1, env1, s1, out, S1, E1, ev, q.le l1⟩⟩
      | rt d s1 =>
        cases ev
        exact ⟨mu, rho, env, st, _, S, E, hx, q⟩
/-! for -/
def loopSG (src : Src) (f : D → Envr → Store → Option Out) : Nat → Nat → Envr → Store → Option Out
  | 0, _, env, s => if src.fin s = true then some (.nx env s) else none
  | k + 1, i, env, s => match src.at i s with
    | some x => match f x env s with
      | some (.nx env' s') => loopSG src f k (i + 1) env' s'
      | r => r
    | none => none
theorem loopLS_gen (f : D → Envr → Store → Option Out) (xs : List D) : ∀ (k i : Nat) (a : Envr) (s : Store), xs.length = i + k → loopLS f (xs.drop i) a s = loopSG (.st xs) f k i a s
  | 0, i, a, s, h => by
    rw [List.drop_eq_nil_of_le (by omega)]
    rfl
  | k + 1, i, a, s, h => by
    have hi : i < xs.length := by omega
    rw [List.drop_eq_getElem_cons hi, loopLS, loopSG]
    show _ = match xs[i]? with
      | some x => _
      | none => none
    rw [List.getElem?_eq_getElem hi]
    dsimp only
    cases f xs[i] a s with
    | none => rfl
    | some o =>
      cases o with
      | nx a' s' => exact loopLS_gen f xs k (i + 1) a' s' (by omega)
      | rt d s' => rfl
theorem loopNS_gen (f : D → Envr → Store → Option Out) (n len : Nat) : ∀ (k i : Nat) (a : Envr) (s : Store), loopNS n len f k i a s = loopSG (.live n len) f k i a s
  | 0, _, _, _ => rfl
  | k + 1, i, a, s => by
    rw [loopNS, loopSG]
    show _ = match liveAt n len i s with
      | some x => _
      | none => none
    cases liveAt n len i s with
    | none => rfl
    | some x =>
      dsimp only
      cases f x a s with
      | none => rfl
      | some o =>
        cases o with
        | nx a' s' => exact loopNS_gen f n len k (i + 1) a' s'
        | rt d s' => rfl
theorem loopS_gen (src : Src) (f : D → Envr → Store → Option Out) (a : Envr) (s : Store) : loopS src f a s = loopSG src f src.len 0 a s := by
  cases src with
  | st xs => exact loopLS_gen f xs xs.length 0 a s (by omega)
  | live n len => exact loopNS_gen f n len len 0 a s
def forF (t : Tg) (fi : EvI) (fx : EvX) : EvX := fun env st => match fi env st with
  | some (src, s1) => loopS src (fun x env s => match bindT t x env with
      | some env1 => fx env1 s
      | none => none) env s1
  | none => none
theorem rs_for {tg iter : Expr} {body : List Stmt} (hp : PassesOwn (model X.prog X.w) X.A X.env X.xe) (hc : X.calm = true) (hi : PI X tg iter (RI X.w X.K fi)) (hg : PG X tg (RG X.w X.K t)) (hb : PSs X body (RS X.w X.K fx)) (hs : ∀ x, foldedSetIterable iter X.env x = pure x) :
    PS X (.For tg iter body [] pos) (RS X.w X.K (forF t fi fx)) :=
  PS.imp (ps_for hp hc hi hg hb hs) fun D σ H ⟨mu, rho, env, st, out, S, E, ev, q⟩ => by
    unfold forF at ev
    split at ev
    · rename_i src s1 ei
      refine ⟨mu, rho, env, st, src, s1, S, E, ei, fun rho1 H1 J l1 S1 w => ?_⟩
      rw [loopS_gen] at ev
      refine ⟨fun i m σ H => i + m = src.len ∧ ∃ rho' env' st', Le rho1 H1 rho' H ∧ Sim X.w X.K mu rho' H st' ∧ EnvR X.K mu rho' H env' σ ∧ loopSG src (fun x env s => match bindT t x env with
        | some env1 => fx env1 s
        | none => none) m i env' st' = some out, ⟨src.len, by omega, rho1, env, s1, Le.refl _ _, S1, E.le l1, ev⟩, ?_⟩
      rintro i m σ H ⟨hm, rho', env', st', l', S', E', run⟩
      have w' := w.lm (l'.lm mu)
      cases m with
      | zero =>
        rw [loopSG] at run
        split at run
        · rename_i hf
          cases run
          have hi : i = src.len := by omega
          subst hi
          exact .inl ⟨w'.done S' hf, q rho' H σ (l1.trans l') S' E'⟩
        · cases run
      | succ k =>
        rw [loopSG] at run
        split at run
        · rename_i x ex
          obtain ⟨g1, g2⟩ := w'.turn S' ex
          refine .inr ⟨g1, fun σ' H' => ∃ rho'' env'' st'', Le rho1 H1 rho'' H' ∧ Sim X.w X.K mu rho'' H' st'' ∧ EnvR X.K mu rho'' H' env'' σ' ∧ loopSG src (fun x env s => match bindT t x env with
            | some env1 => fx env1 s
            | none => none) k (i + 1) env'' st'' = some out, fun σ' H' ⟨r2, e2, s2, a1, a2, a3, a4⟩ => ⟨k, Nat.lt_succ_self k, by omega, r2, e2, s2, a1, a2, a3, a4⟩, fun v H2 hy => ?_⟩
          obtain ⟨l2, S2, R2⟩ := g2 v H2 hy
          cases hb : bindT t x env' with
          | none => rw [hb] at run; cases run
          | some env1 =>
            rw [hb] at run
            have run : (match fx env1 st' with
              | some (.nx env' s') => loopSG src (fun x env s => match bindT t x env with
                | some env1 => fx env1 s
                | none => none) k (i + 1) env' s'
              | r => r) = some out := run
            refine ⟨mu, rho', st', env', x, env1, S2, E'.le l2, R2, hb, fun σ2 E2 _ => ?_⟩
            cases hx : fx env1 st' with
            | none => rw [hx] at run; cases run
            | some o =>
              rw [hx] at run
              refine ⟨mu, rho', env1, st', o, S2, E2, hx, ?_⟩
              cases o with
              | nx env2 s2 => exact fun r3 H3 σ3 l3 S3 E3 => ⟨r3, env2, s2, (l'.trans l2).trans l3, S3, E3, run⟩
              | rt d s2 =>
                cases run
                exact Fin.le ((l1.trans l').trans l2) q
        · cases run
    · cases ev
/-! while -/
theorem rs_while {n : Nat} {body : List Stmt} (hp : PassesOwn (model X.prog X.w) X.A X.env X.xe) (hc : PT X c (RT X.w X.K fc)) (hb : PSs X body (RS X.w X.K fx)) : PS X (.While c body [] pos) (RS X.w X.K fun env st => whileF fc fx n env st) :=
  PS.imp (ps_while hp hc hb) fun D σ H ⟨mu, rho, env, st, out, S, E, ev, q⟩ => by
    refine ⟨fun m σ H' => ∃ rho' env' st', Le rho H rho' H' ∧ Sim X.w X.K mu rho' H' st' ∧ EnvR X.K mu rho' H' env' σ ∧ whileF fc fx m env' st' = some out, ⟨n, rho, env, st, Le.refl _ _, S, E, ev⟩, ?_⟩
    rintro m σ H' ⟨rho', env', st', l', S', E', run⟩
    cases m with
    | zero => cases run
    | succ k =>
      rw [whileF] at run
      split at run
      · rename_i s1 ec
        refine ⟨mu, rho', env', st', true, s1, S', E', ec, fun r1 H1 l1 S1 => ?_⟩
        dsimp only
        rw [if_pos rfl]
        refine ⟨fun σ'' H'' => ∃ rho'' env'' st'', Le rho H rho'' H'' ∧ Sim X.w X.K mu rho'' H'' st'' ∧ EnvR X.K mu rho'' H'' env'' σ'' ∧ whileF fc fx k env'' st'' = some out, fun σ'' H'' h => ⟨k, Nat.lt_succ_self k, h⟩, ?_⟩
        cases hx : fx env' s1 with
        | none => rw [hx] at run; cases run
        | some o =>
          rw [hx] at run
          refine ⟨mu, r1, env', s1, o, S1, E'.le l1, hx, ?_⟩
          cases o with
          | nx env2 s2 => exact fun r3 H3 σ3 l3 S3 E3 => ⟨r3, env2, s2, (l'.trans l1).trans l3, S3, E3, run⟩
          | rt d s2 =>
            cases run
            exact Fin.le (l'.trans l1) q
      · rename_i s1 ec
        cases run
        refine ⟨mu, rho', env', st', false, _, S', E', ec, fun r1 H1 l1 S1 => ?_⟩
        dsimp only
        rw [if_neg Bool.false_ne_true]
        exact q r1 H1 σ (l'.trans l1) S1 (E'.le l1)
      · cases run
end
end Ow
/-! dict(pairs), {}, d.get(k, x). -/
namespace Ow
open PySem PySem.Spec PyProof.Rows L2

/-- what the pairs of a row are, at each level -/
inductive PrR (K : PySem.W.Frag) (mu rho : List Addr) (H : Hp) (h : Heap) : List D → List V → List Value → List (Value × Value) → List (Str × Value) → Prop where
  | nil : PrR K mu rho H h [] [] [] [] []
  | cons {w : W} {v : List D} {T : Addr} {y : V} {t : Tok} {u : Value} {ds : List D} {vs : List V} {us : List Value} {ps : List (Value × Value)} {kv : List (Str × Value)} : h.IsTuple T #[.str (toS w) t, u] → Rl K mu rho H (.tup v) y → RelV y u → PrR K mu rho H h ds vs us ps kv →
      PrR K mu rho H h (.tup [.str w, .tup v] :: ds) (.ref T :: vs) (.ref T :: us) ((.str (toS w) t, u) :: ps) ((toS w, u) :: kv)
section
variable {X : Cx} {mu rho : List Addr} {pins : List (Addr × Obj)} {σ : L2.St} {H : Hp} {s : Shared}
theorem prr_of (I : Inv X pins σ H s) : ∀ {ds : List D} {vs : List V} {us : List Value} {acc kvs : List (D × D)}, pairsD ds acc = some kvs → Rls X.K mu rho H ds vs → Vals vs us → ∃ ps kv, PrR X.K mu rho H s.heap ds vs us ps kv
  | [], _, _, _, _, _, .nil, .nil => ⟨[], [], .nil⟩
  | d :: ds, _, _, acc, kvs, h, .cons r rs, .cons e es => by
    unfold pairsD at h
    split at h
    · rename_i heq
      cases heq
    · rename_i w v ds' acc' heq
      cases heq
      split at h
      · obtain ⟨ps, kv, t⟩ := prr_of I h rs es
        obtain ⟨T, ws, rfl, hT, hr⟩ := r.tup_inv
        cases hr with
        | cons r1 r2 =>
          cases r2 with
          | cons r3 r4 =>
            cases r4
            obtain ⟨its, rv, p, _⟩ := I.tuple (hT.seq (K := X.K))
            cases rv with
            | cons a1 a2 =>
              cases a2 with
              | cons a3 a4 =>
                cases a4
                have := r1.str_inv'
                subst this
                obtain ⟨tk, rfl⟩ := a1
                cases (show _ = Value.ref T from e)
                exact ⟨_, _, .cons p r3 a3 t⟩
      · cases h
    · cases h
theorem PrR.items {K : PySem.W.Frag} {h : Heap} : ∀ {ds : List D} {vs : List V} {us : List Value} {ps : List (Value × Value)} {kv : List (Str × Value)}, PrR K mu rho H h ds vs us ps kv →
    us.length = ps.length ∧ kv.length = ps.length ∧ ds.length = ps.length ∧ ∀ (j : Nat) (k v : Value), ps[j]? = some (k, v) → ∃ T, us[j]? = some (.ref T) ∧ h.IsTuple T #[k, v] ∧ ∃ x t, k = .str x t ∧ kv[j]? = some (x, v)
  | _, _, _, _, _, .nil => ⟨rfl, rfl, rfl, fun j k v e => by simp at e⟩
  | _, _, _, _, _, .cons a b c d => by
    obtain ⟨h1, h2, h3, h4⟩ := d.items
    refine ⟨by simp [h1], by simp [h2], by simp [h3], fun j k v e => ?_⟩
    cases j with
    | zero =>
      simp at e
      obtain ⟨rfl, rfl⟩ := e
      exact ⟨_, rfl, a, _, _, rfl, rfl⟩
    | succ j =>
      simp at e
      obtain ⟨T, g1, g2, g3⟩ := h4 j k v e
      exact ⟨T, by simpa using g1, g2, by simpa using g3⟩
theorem pairs_ent {K : PySem.W.Frag} {h : Heap} : ∀ {ds : List D} {ws : List V} {us : List Value} {ps : List (Value × Value)} {kv : List (Str × Value)} {acc kvs : List (D × D)} {ks vs : List V} {xs : List (NestedKey × Value × Value)}, PrR K mu rho H h ds ws us ps kv → pairsD ds acc = some kvs →
    (∀ p ∈ acc, KvOk p ∧ isStr p.1 = true) → Rls K mu rho H (acc.map (·.1)) ks → Rls K mu rho H (acc.map (·.2)) vs → Paired EntR (ent acc ks vs) xs → (∀ z ∈ xs, IsTx z) → (xs.map (·.1)).Nodup →
    ∃ ks' vs' xs', (∀ p ∈ kvs, KvOk p) ∧ kvs.length ≤ acc.length + ds.length ∧ Rls K mu rho H (kvs.map (·.1)) ks' ∧ Rls K mu rho H (kvs.map (·.2)) vs' ∧ Paired EntR (ent kvs ks' vs') xs' ∧ (∀ z ∈ xs', IsTx z) ∧ (xs'.map (·.1)).Nodup ∧ asStr xs' = merged (asStr xs) kv
  | _, _, _, _, _, acc, kvs, ks, vs, xs, .nil, e, ha, r1, r2, p, hx, hn => by
    unfold pairsD at e
    cases e
    exact ⟨ks, vs, xs, fun p hp => (ha p hp).1, by simp, r1, r2, p, hx, hn, rfl⟩
  | _, _, _, _, _, acc, kvs, ks, vs, xs, .cons (w := w) (v := v) (t := t) (u := u) a b c d, e, ha, r1, r2, p, hx, hn => by
    unfold pairsD at e
    split at e
    · rename_i hnr
      have kit : ∀ p ∈ acc, keyIt p.1 = true := fun p hp => kit_of (ha p hp).1
      obtain ⟨ks', vs', q1, q2, q3⟩ := put_ent (d := .str w) (e := .tup v) (x := .str (toS w)) (key := .str (toS w) t) (v := u) rfl (.str w) ⟨t, rfl⟩ b c kit r1 r2 p hn
      have hx' := storeX_all (k := nk (.str w)) (key := .str (toS w) t) (v := u) hx (fun z ⟨s, t, z1, z2⟩ => ⟨s, t, z1, z2⟩) ⟨toS w, t, rfl, rfl⟩
      have hn' := (storeX_keys (k := nk (.str w)) (key := .str (toS w) t) (v := u) hn).2
      have ha' : ∀ p ∈ putD (.str w) (.tup v) acc, KvOk p ∧ isStr p.1 = true := fun p hp => by
        rcases putD_mem hp with h | h | ⟨q', hq, h⟩
        · exact ha p h
        · subst h; exact ⟨⟨rfl, by rw [noRef]; exact hnr, rfl⟩, rfl⟩
        · subst h; exact ⟨⟨(ha q' hq).1.1, by rw [noRef]; exact hnr, (ha q' hq).1.2.2⟩, (ha q' hq).2⟩
      obtain ⟨ks2, vs2, xs2, g0, gl, g1, g2, g3, g4, g5, g6⟩ := pairs_ent d e ha' q1 q2 q3 hx' hn'
      refine ⟨ks2, vs2, xs2, g0, ?_, g1, g2, g3, g4, g5, ?_⟩
      · have := putD_len (.str w) (.tup v) acc
        rw [List.length_cons]
        omega
      · rw [g6, show storeX xs (nk (.str w)) (.str (toS w) t) u = storeX xs (.text (toS w)) (.str (toS w) t) u from rfl, asStr_store hx hn]
        rfl
    · cases e
end
/-- dict(pairs) -/
def rDof (wd : World) (K : PySem.W.Frag) : List V → Hp → VK → Prop := fun xs H Q => ∃ (mu rho : List Addr) (st : Store) (ds : List D) (v : V) (kvs : List (D × D)), xs = [v] ∧ Sim wd K mu rho H st ∧ Rl K mu rho H (.tup ds) v ∧ pairsD ds [] = some kvs ∧ ds.length ≤ SZ ∧
  ∀ p o, H p = none → CellOk wd K mu (rho ++ [p]) (upd H p o) (Cell.dct kvs) p → Q (.ref p) (upd H p o)
theorem call_dof {X : Cx} (hc : X.calm = true) : CallR X (.type "dict") (rDof X.w X.K) := by
  intro pins s σ H xs us Q I rv ⟨mu, rho, st, ds, v, kvs, e, S, r, hp, hl, q⟩
  subst e
  obtain ⟨u, e, rx⟩ := vals1 rv
  subst e
  cases r with
  | @tup a vs _ ht pl rr =>
    cases (show u = Value.ref a from rx)
    have npl : ∃ (o : Obj) (its : List Value) (n : Nat), s.heap.get? a = some o ∧ o.cls = .type "tuple" ∧ o.dict = none ∧ o.data = .seq its.toArray n ∧ Vals vs its ∧ vs.length ≤ sizeLine := by
      rcases pl.2 with ⟨o, ws, e1, e2⟩ | ⟨d, e, e1, e2⟩
      · have hws : ws = vs := by
          rcases ht.1 with h | ⟨o', h⟩
          · rw [e1] at h; cases h
          · rw [e1] at h; cases h; rfl
        subst hws
        obtain ⟨g1, g2, its, g3, o2, g4, g5, n, g6⟩ := (show ObjOk X.prog X.w H s.heap a (.frz o (.tup ws)) from I.hok a _ e1)
        rw [g1] at g4
        cases g4
        exact ⟨o, its, n, g1, g5, e2, g6, g3, g2⟩
      · exfalso
        subst e1
        unfold pairsD at hp
        split at hp
        · rename_i heq; cases heq
        · rename_i heq; cases heq; cases e2
        · cases hp
    obtain ⟨o, its, n, g1, g2, g3, g4, g5, g6⟩ := npl
    obtain ⟨ps, kv, pr⟩ := prr_of I hp rr g5
    obtain ⟨l1, l2, l3, hit⟩ := pr.items
    have hT : ∀ j, j < ps.length → ∃ T, its[j]? = some (Value.ref T) := fun j hj => by
      obtain ⟨⟨k, v⟩, e⟩ : ∃ p, ps[j]? = some p := ⟨_, List.getElem?_eq_getElem hj⟩
      obtain ⟨T, h1, _⟩ := hit j k v e
      exact ⟨T, h1⟩
    let Ts : Nat → Addr := fun j => match its[j]? with
      | some (.ref T) => T
      | _ => 0
    have hps : PairItems s.heap its.toArray Ts ps := by
      refine ⟨by rw [List.size_toArray]; exact l1, fun j k v e => ?_⟩
      obtain ⟨T, h1, h2, _⟩ := hit j k v e
      have eT : Ts j = T := by show (match its[j]? with | some (.ref T) => T | _ => 0) = T; rw [h1]
      rw [eT]
      exact ⟨by rw [List.getElem?_toArray]; exact h1, .inl h2⟩
    have have_ : PairsHave (strKind X.prog X.w) ps.length (PairRel ps) kv := by
      refine ⟨l2, fun i key v e => ?_⟩
      obtain ⟨T, _, _, x, t, rfl, h3⟩ := hit i key v e
      exact ⟨x, h3, PySem.strKind_is X.prog X.w x t⟩
    have hsz : ps.length ≤ sizeLine := by rw [← l3, ← SZ_line]; exact hl
    refine call_dict_pairs (knd := strKind X.prog X.w) (PairArg.tuple a its.toArray Ts ps) (I.ok.hd hc) ⟨⟨o, n, g1, g2, g3, g4⟩, hps⟩ have_ hsz fun h' tk dd hk => ?_
    obtain ⟨ks', vs', xs', k0, kl, k1, k2, k3, k4, k5, k6⟩ := pairs_ent (acc := []) (ks := []) (vs := []) (xs := []) pr hp (fun _ h => nomatch h) .nil .nil (by rw [ent]; exact .nil; intro p r k ks v vs h; cases h) (fun _ h => nomatch h) List.nodup_nil
    obtain ⟨xs2, o2, ds2, ep2, m1, m2, m3, m4, m5, m6⟩ := raw_dict dd
    have p2 := par_str k3 k4 m5 (by rw [m6, k6]; rfl)
    have low : (s.heap.objs.size == sysModules) = false := beq_eq_false_iff_ne.mpr (Nat.ne_of_gt I.big)
    have hnew := I.hok.fresh (Nat.le_refl s.heap.objs.size)
    have ho : ObjOk X.prog X.w (upd H s.heap.objs.size (DctO X.w s.heap.objs.size (ent kvs ks' vs'))) h' s.heap.objs.size (.ext (DctAt X.w s.heap.objs.size (ent kvs ks' vs'))) :=
      ⟨⟨low, xs2, p2, o2, ds2, ep2, m1, m2, m3, m4⟩, ⟨o2, m1⟩, fun h1 h2 ⟨l, ys, y1, o3, d3, e3, y2, y3⟩ k => ⟨l, ys, y1, o3, d3, e3, k _ y2, y3⟩⟩
    have L : Lm mu rho H (rho ++ [s.heap.objs.size]) (upd H s.heap.objs.size (DctO X.w s.heap.objs.size (ent kvs ks' vs'))) := (Le.cell hnew).lm mu
    have lks : ks'.length = kvs.length := by have := k1.length; rw [List.length_map] at this; exact this.symm
    have lvs : vs'.length = kvs.length := by have := k2.length; rw [List.length_map] at this; exact this.symm
    refine ⟨.ref s.heap.objs.size, _, I.laid (t' := tk) (fun b o e => hk b o (by simp) e) (Nat.le_refl _) ho, rfl, q _ _ hnew ⟨k0, ?_, ?_, ks', vs', upd_same, k1.lm L, k2.lm L⟩⟩
    · rw [← ent_len lks lvs, ← par_keys k3]
      exact k5
    · have : kvs.length ≤ 0 + ds.length := kl
      omega
end Ow
/-! Dicts as expressions. -/
namespace Ow
open PySem PySem.Spec PyProof.Rows L2
section
variable {X : Cx} {a b d : Expr} {pos p apos cpos np : Pos} {fa fb fd : EvF}
def tDNew (w : World) : TE := fun _ H Q => ∀ p, H p = none → Q (.ref p) (upd H p (DctO w p []))
theorem pe_dnew : PE X (.Dict [] [] pos) (tDNew X.w) := ⟨fun pins s σ H Q I h => wpAny_Dict_empty (by
  have low : (s.heap.objs.size == sysModules) = false := beq_eq_false_iff_ne.mpr (Nat.ne_of_gt I.big)
  have new : (s.heap.push { cls := .type "dict", data := .dict #[] }).get? s.heap.objs.size = some { cls := .type "dict", data := .dict #[] } := Heap.get?_push_size _ rfl
  refine ⟨.ref s.heap.objs.size, _, I.laid (a := s.heap.objs.size) (o := DctO X.w s.heap.objs.size []) (t' := s.toks) (fun _ _ e => Heap.get?_push_of_some _ e) (Nat.le_refl _) ?_, rfl, h _ (I.hok.fresh (Nat.le_refl _))⟩
  exact ⟨⟨low, [], .nil, _, #[], 0, new, ⟨rfl, rfl, rfl⟩, rfl, rfl⟩, ⟨_, new⟩, fun h1 h2 ⟨l, ys, y1, o3, d3, e3, y2, y3⟩ k => ⟨l, ys, y1, o3, d3, e3, k _ y2, y3⟩⟩)⟩
theorem re_dnew : PE X (.Dict [] [] pos) (RE X.w X.K fun _ st => mkDct [] st) :=
  PE.imp pe_dnew fun σ H Q ⟨mu, rho, env, st, S, E, d, s', e, q⟩ p n => by
    cases e
    refine q _ _ _ (Le.cell n) (S.cellC n ⟨(fun _ h => nomatch h), List.nodup_nil, Nat.zero_le _, [], [], ?_, .nil, .nil⟩) (.ref ?_)
    · rw [upd_same, ent]
      intro p r k ks v vs h
      cases h
    · rw [← S.len, List.getElem?_append_right (Nat.le_refl _), Nat.sub_self]
      rfl
theorem re_dof (hc : X.calm = true) (hg : Gl X "dict") (hm : X.mg "dict" = none) (ha : PE X a (RE X.w X.K fa)) (na : notStar a = true) :
    PE X (.Call (.Name "dict" p) [a] [] pos) (RE X.w X.K fun env st => match fa env st with
      | some (.tup xs, s1) => match pairsD xs [] with
        | some kvs => if xs.length ≤ SZ then mkDct kvs s1 else none
        | none => none
      | _ => none) :=
  PE.imp (pe_callTy (call_dof hc) hg hm (show bootBuiltins ("dict" : Str) = some (.type "dict") by decide +kernel) (pa_cons ha pa_nil (star_no na)) (by decide +kernel) (by decide +kernel) (star_no na) rfl) fun σ H Q ⟨mu, rho, env, st, S, E, d, s', e, q⟩ => by
    dsimp only at e
    split at e
    · rename_i xs s1 ea
      split at e
      · rename_i kvs ek
        split at e
        · rename_i hl
          cases e
          refine ⟨mu, rho, env, st, S, E, _, s1, ea, fun r1 H1 v1 l1 S1 R1 => ⟨mu, r1, s1, xs, v1, kvs, rfl, S1, R1, ek, hl, fun p o n ok => ?_⟩⟩
          refine q _ _ _ (l1.trans (Le.cell n)) (S1.cellC n ok) (.ref ?_)
          rw [← S1.len, List.getElem?_append_right (Nat.le_refl _), Nat.sub_self]
          rfl
        · cases e
      · cases e
    · cases e
/-- the dict at a, by type -/
theorem dct_type {pins : List (Addr × Obj)} {σ : L2.St} {H : Hp} {s : Shared} {mu rho : List Addr} {st : Store} {n : Nat} {a : Addr} {kvs : List (D × D)} (I : Inv X pins σ H s) (S : Sim X.w X.K mu rho H st) (en : st[n]? = some (Cell.dct kvs)) (ea : rho[n]? = some a) :
    s.TypeIs (.ref a) "dict" ∧ ∀ b, Value.ref a = .ref b → ∃ ob, s.heap.get? b = some ob ∧ ob.dict = none := by
  obtain ⟨ks, vs, xs, o, ds, ep, W⟩ := dct_open I S en ea
  refine ⟨⟨o, W.get, W.ex.1⟩, fun b e => ?_⟩
  cases e
  exact ⟨o, W.get, W.ex.2.1⟩
def dgtF (fa fb fd : EvF) : EvF := fun env st => match fa env st with
  | some (x, s1) => if (dctOf s1 x).isSome = true then (match fb env s1 with
    | some (y, s2) => match fd env s2 with
      | some (z, s3) => match getDk s3 x y with
        | some o => some (o.getD z, s3)
        | none => none
      | none => none
    | none => none) else none
  | none => none
theorem re_dgt {x : Str} (hu : X.A.units + 80 < cLine) (ha : PE X (.Name x np) (RE X.w X.K fa)) (hb : PE X b (RE X.w X.K fb)) (hd : PE X d (RE X.w X.K fd)) (hl : (apos.endLine == cpos.line) = true) (nb : notStar b = true) (nd : notStar d = true) :
    PE X (.Call (.Attribute (.Name x np) "get" apos) [b, d] [] cpos) (RE X.w X.K (dgtF fa fb fd)) := by
  refine ⟨fun pins s σ H Q I ⟨mu, rho, env, st, S, E, r, s', e, q⟩ => ?_⟩
  unfold dgtF at e
  split at e
  · rename_i x1 s1 ea
    split at e
    · rename_i hdc
      split at e
      · rename_i y s2 eb
        split at e
        · rename_i z s3 ed
          split at e
          · rename_i o eo
            cases e
            obtain ⟨kvs0, hk0⟩ := Option.isSome_iff_exists.mp hdc
            refine wpAny_Call_method base_name (few2 nb nd) hl PySem.F.plainAttrs_dict PySem.F.slot_dict_get PySem.F.type_dict_get
              (thn (ha.run pins s σ H (fun v1 H1 => ∃ r1, Le rho H r1 H1 ∧ Sim X.w X.K mu r1 H1 s1 ∧ Rl X.K mu r1 H1 x1 v1) I ⟨mu, rho, env, st, S, E, x1, s1, ea, fun r1 H1 v1 l1 S1 R1 => ⟨r1, l1, S1, R1⟩⟩) fun u t1 ⟨v1, H1, I1, rx, r1, l1, S1, R1⟩ => ?_)
            obtain ⟨n, a, rfl, rfl, en, er⟩ := dctOf_ref hk0 R1
            cases (show u = Value.ref a from rx)
            obtain ⟨ty1, ty2⟩ := dct_type I1 S1 en er
            refine ⟨ty1, ty2, ?_⟩
            have trees : backTo cpos (starEach [b, d] X.env) = [(false, eval b X.env), (false, eval d X.env)] := by rw [star_no nb, star_no nd]; rfl
            rw [trees]
            refine Calls.callWith_builtin rfl (Calls.evalArgs_plain (Calls.spliced_cons (thn (hb.run pins t1 σ H1 (fun v2 H2 => ∃ r2, Le r1 H1 r2 H2 ∧ Sim X.w X.K mu r2 H2 s2 ∧ Rl X.K mu r2 H2 y v2) I1 ⟨mu, r1, env, s1, S1, E.le l1, y, s2, eb, fun r2 H2 v2 l2 S2 R2 => ⟨r2, l2, S2, R2⟩⟩)
              fun u2 t2 ⟨v2, H2, I2, rx2, r2, l2, S2, R2⟩ => Calls.spliced_cons (thn (hd.run pins t2 σ H2 (fun v3 H3 => ∃ r3, Le r2 H2 r3 H3 ∧ Sim X.w X.K mu r3 H3 s' ∧ Rl X.K mu r3 H3 z v3) I2 ⟨mu, r2, env, s2, S2, (E.le l1).le l2, z, s', ed, fun r3 H3 v3 l3 S3 R3 => ⟨r3, l3, S3, R3⟩⟩)
              fun u3 t3 ⟨v3, H3, I3, rx3, r3, l3, S3, R3⟩ => Calls.spliced_nil ?_))))
            unfold getDk at eo
            split at eo
            · rename_i kvs hk
              split at eo
              · rename_i hok
                cases eo
                have R1' := (R1.le l2).le l3
                obtain ⟨n', a', e1, e2, en', er'⟩ := dctOf_ref hk R1'
                cases e1
                cases e2
                exact d_get hu I3 S3 en' er' (R2.le l3) rx2 R3 rx3 hok fun w rw => q r3 H3 w ((l1.trans l2).trans l3) S3 rw
              · cases eo
            · cases eo
          · cases e
        · cases e
      · cases e
    · cases e
  · cases e
end
end Ow
/-! The sort key (len(row), row), over the heap alone. -/
namespace Ow
open PySem PySem.Spec PyProof.Rows L2
section
variable {prog : Program} {w : PySem.World} {A : Around} {E : Value → Shared → Prop} {s : Shared} {env : Env}
/-- (len(x), x) where x is a local: a new pair, nothing else -/
theorem eval_lenPair {x : Str} {a : Addr} {items : Array Value} {mg mb m : Str → Option Value} {p1 p2 p3 p4 p5 : Pos} {j : Nat} {Q : Value → Shared → Prop} (hk : env.scope.kind = .function) (hx : env.kindOf x = some .local) (hn : s.heap.Ns env.locals m) (hm : m x = some (.ref a))
    (hl : env.kindOf "len" = some .globalImplicit) (hG : s.heap.Ns env.globals mg) (hg : mg "len" = none) (hB : s.heap.Ns env.builtins mb) (hb : mb "len" = some (.builtin "len")) (ho : IsTup s.heap a items) (hz : items.size ≤ sizeLine) (hd : (x == ("__debug__" : Str)) = false)
    (h : ∀ t tk, Q (.ref s.heap.objs.size) { s with heap := s.heap.push { cls := .type "tuple", data := .seq ([.int items.size t, .ref a] : List Value).toArray }, toks := tk }) :
    wpAny (model prog w) A (eval (.Tuple [.Call (.Name "len" p1) [.Name x p2] [] p3, .Name x p4] j p5) env) Q E s := by
  have hz2 : (items.size : Int) < 2 ^ 63 := by
    have : sizeLine = 16777216 := rfl
    omega
  refine wpAny_Tuple_spliced (args_cons (Call_ (Calls.Name_function_global hk hl (Calls.loadGlobal_builtin hG hg hB hb ?_)) rfl) rfl)
  refine PyProof.Rows.callWith_builtin1 (args_cons (wpAny_Name (wpAny_loadName_local hk hx hn hm (args_nil ?_)) hd) rfl) rfl rfl
  refine len_tuple ho hz2 ?_
  refine args_cons (wpAny_Name (wpAny_loadName_local hk hx (hn : ({ s with toks := s.toks + 1 + 1 } : Shared).heap.Ns env.locals m) hm (args_nil ⟨by show 2 ≤ sizeLine; decide, h _ _⟩)) hd) rfl
abbrev lamArgs (x : Str) (q : Pos) : Arguments := ⟨[], [⟨x, none, q⟩], none, [], [], none, []⟩
abbrev pairE (x : Str) (p1 p2 p3 p4 p5 : Pos) (j : Nat) : Expr := .Tuple [.Call (.Name "len" p1) [.Name x p2] [] p3, .Name x p4] j p5
abbrev pairSc (x : Str) : List (Str × NameKind) := [(x, .local), ("len", .globalImplicit)]
theorem bind_lam (q : Pos) (n : Str) (body : Expr) (sc : Scope) (cl : List (Str × Addr)) (pm cv ct v : Value) : bindArgs (PySem.W.kla_fn "<lambda>" n (lamArgs "row" q) body sc cl pm cv ct) ⟨[v], []⟩ = pure [(("row" : Str), v)] := by rfl
/-- the key of a row, from the lambda -/
theorem call_lam {f c' a : Addr} {q : Str} {pp p1 p2 p3 p4 p5 : Pos} {j : Nat} {sc : Scope} {pm ctv : Value} {mg mb : Str → Option Value} {items : Array Value} {d : PyData} (hroom : A.depth < recursionLimit)
    (hf : s.heap.get? f = some (PySem.W.kla_obj "<lambda>" q (lamArgs "row" pp) (pairE "row" p1 p2 p3 p4 p5 j) sc [] pm c' ctv)) (hcode : s.heap.CodeRec (.ref c') q) (hk : sc.kind = .function) (hco : sc.isCoroutine = false) (hgen : sc.isGenerator = false) (hN : sc.names = pairSc "row")
    (G : s.heap.Ns mainGlobals mg) (hg : mg "len" = none) (B : s.heap.Ns builtinsNs mb) (hb : mb "len" = some (.builtin "len")) (lim : s.heap.NoLimit) (ho : IsTup s.heap a items) (hz : items.size ≤ sizeLine) (hr : Reads s.heap (.ref a) d []) :
    wpAny (model prog w) A (PySem.call (.ref f) [.ref a]) (PySem.W.KeyPure (.tuple [.int items.size, d]) s) (fun _ _ => False) s := by
  refine wpAny_call (PySem.W.kla_callFunE hroom hf rfl hco hgen rfl hcode ?_)
  rw [bind_lam]
  have hloc : ∀ y ∈ [(("row" : Str), Value.ref a)], sc.names.lookup y.1 = some .local := fun y hy => by
    rw [List.mem_singleton.mp hy, hN]
    rfl
  have hcell : ∀ y ∈ sc.names, y.2 ≠ .cell := fun y hy => by
    rw [hN] at hy
    rcases List.mem_cons.mp hy with rfl | hy
    · exact fun z => nomatch z
    · rw [List.mem_singleton.mp hy]
      exact fun z => nomatch z
  refine wpAny_pure (wpAny_newFunctionEnv hcell hloc (fun h1 hns hsb => ⟨lim.fresh _ hsb, ?_⟩) hk)
  have kp : ∀ b o, s.heap.get? b = some o → h1.get? b = some o := fun b o e => hsb.extBut b o (Nat.ne_of_lt (Heap.lt_size e)) (Heap.get?_push_of_some _ e)
  refine PySem.W.kla_codeExpr ?_
  refine eval_lenPair (mg := mg) (mb := mb) hk ?_ hns rfl ?_ (G.keeps kp) hg (B.keeps kp) hb (ho.keeps kp) hz rfl fun t tk => ?_
  · show sc.names.lookup ("row" : Str) = some .local
    rw [hN]
    rfl
  · show sc.names.lookup ("len" : Str) = some .globalImplicit
    rw [hN]
    rfl
  · have kp2 : ∀ b o, s.heap.get? b = some o → (h1.push { cls := .type "tuple", data := .seq ([.int items.size t, .ref a] : List Value).toArray }).get? b = some o := fun b o e => Heap.get?_push_of_some _ (kp b o e)
    exact ⟨_, _, rfl, kp2, .tuple (Heap.get?_push_size _ rfl) rfl rfl (.cons (.int _ _) (.cons (PyProof.Rows.Reads.keeps kp2 hr) .nil))⟩
end
end Ow
namespace Ow
open PySem PySem.Spec PyProof.Rows L2
section
variable {prog : Program} {w : PySem.World} {A : Around} {E : Value → Shared → Prop} {s : Shared} {env : Env}
/-- the key of a row, from a def that gives (len(x), x) -/
theorem call_def {x : Str} {f a : Addr} {o : Obj} {fd : FuncData} {p1 p2 p3 p4 p5 p6 : Pos} {j : Nat} {mg mb : Str → Option Value} {items : Array Value} {d : PyData} (hroom : A.depth < recursionLimit)
    (hf : s.heap.get? f = some o) (hfd : o.data = .func fd) (hbody : fd.body = .stmts [.Return (some (pairE x p1 p2 p3 p4 p5 j)) p6]) (hg0 : fd.globals = mainGlobals) (hc0 : fd.closure = []) (hb0 : fd.builtins = builtinsNs) (hcode : s.heap.CodeRec fd.code fd.qualname) (hbind : BindsTo s fd ⟨[.ref a], []⟩ [(x, .ref a)])
    (hk : fd.scope.kind = .function) (hco : fd.scope.isCoroutine = false) (hgen : fd.scope.isGenerator = false) (hcell : ∀ y ∈ fd.scope.names, y.2 ≠ .cell) (hx : fd.scope.names.lookup x = some .local) (hlen : fd.scope.names.lookup ("len" : Str) = some .globalImplicit)
    (hd : (x == ("__debug__" : Str)) = false) (G : s.heap.Ns mainGlobals mg) (hg : mg "len" = none) (B : s.heap.Ns builtinsNs mb) (hb : mb "len" = some (.builtin "len")) (lim : s.heap.NoLimit) (ho : IsTup s.heap a items) (hz : items.size ≤ sizeLine) (hr : Reads s.heap (.ref a) d []) :
    wpAny (model prog w) A (PySem.call (.ref f) [.ref a]) (PySem.W.KeyPure (.tuple [.int items.size, d]) s) (fun _ _ => False) s := by
  refine wpAny_call (codeAny_call_function hroom hf hfd hco hgen hbody hcode (hbind _ _ _ _ ?_))
  have hloc : ∀ y ∈ [(x, Value.ref a)], fd.scope.names.lookup y.1 = some .local := fun y hy => by
    rw [List.mem_singleton.mp hy]
    exact hx
  refine wpAny_newFunctionEnv hcell hloc (fun h1 hns hsb => ⟨lim.fresh _ hsb, ?_⟩) hk
  have kp : ∀ b o, s.heap.get? b = some o → h1.get? b = some o := fun b o e => hsb.extBut b o (Nat.ne_of_lt (Heap.lt_size e)) (Heap.get?_push_of_some _ e)
  rw [hg0, hc0, hb0]
  refine codeAny_func (wpAny_execs_cons (wpAny_Return_some ?_))
  have hm : (fun z => ([(x, Value.ref a)] : List (Str × Value)).reverse.lookup z) x = some (.ref a) := by
    show (List.lookup x [(x, Value.ref a)]) = _
    rw [List.lookup_cons, beq_self_eq_true]
  refine eval_lenPair (mg := mg) (mb := mb) hk hx hns hm hlen (G.keeps kp) hg (B.keeps kp) hb (ho.keeps kp) hz hd fun t tk => ?_
  have kp2 : ∀ b o, s.heap.get? b = some o → (h1.push { cls := .type "tuple", data := .seq ([.int items.size t, .ref a] : List Value).toArray }).get? b = some o := fun b o e => Heap.get?_push_of_some _ (kp b o e)
  exact ⟨_, _, rfl, kp2, .tuple (Heap.get?_push_size _ rfl) rfl rfl (.cons (.int _ _) (.cons (PyProof.Rows.Reads.keeps kp2 hr) .nil))⟩
end
end Ow
/-! sorted(rows, key=..): rows of texts, by (len(row), row). -/
namespace Ow
open PySem PySem.Spec PyProof.Rows L2 OwS
abbrev kR (k : List Str) : PyData := .tuple [.int k.length, .tuple (k.map .str)]
def leR (a b : List Str) : Bool := PySem.W.dataLe false kR a b
theorem alike_rows (xs ys : List Str) : PySem.W.alike (kR xs) (kR ys) = true := by
  show (PySem.W.alike (.int xs.length) (.int ys.length) && (PySem.W.alike (.tuple (xs.map .str)) (.tuple (ys.map .str)) && true)) = true
  rw [show PySem.W.alike (.tuple (xs.map .str)) (.tuple (ys.map .str)) = PySem.W.alikeAll (xs.map .str) (ys.map .str) from rfl, alikeAll_strs]
  rfl
theorem depth_rows (k : List Str) : (kR k).depth ≤ 10 := by
  show PyData.depth (.tuple [.int k.length, .tuple (k.map .str)]) ≤ 10
  simp [PyData.depth, PyData.depthAll, depth_strs]
section
variable {X : Cx} {pins : List (Addr × Obj)} {σ : L2.St} {H : Hp} {s : Shared}
theorem sorted_rows {l f : Addr} {L : List (Addr × List Str)} {Q : VK} (I : Inv X pins σ H s) (hl : SqL X.K H l (L.map fun q => V.ref q.1)) (hq : ∀ q ∈ L, SqT X.K H q.1 (q.2.map V.str)) (hu : X.A.units + 80 < cLine)
    (key : ∀ q ∈ L, ∀ (h : Heap) (tk : Nat), (∀ b o, s.heap.get? b = some o → h.get? b = some o) → wpAny (model X.prog X.w) X.A.in1.in1 (PySem.call (.ref f) [.ref q.1]) (PySem.W.KeyPure (kR q.2) { s with heap := h, toks := tk }) (fun _ _ => False) { s with heap := h, toks := tk })
    (q : ∀ p, H p = none → Q (.ref p) (upd H p (.lst ((L.mergeSort fun x y => leR x.2 y.2).map fun q => V.ref q.1)))) :
    wpAny (model X.prog X.w) X.A (PySem.call (.builtin "sorted") [.ref l] [(Str.ofString "key", .ref f)]) (EP X pins σ Q) X.xe s := by
  obtain ⟨its, rv, pl, hz⟩ := I.list hl
  have hus : its = L.map fun q => Value.ref q.1 := refs_tx rv
  have hlen : L.length ≤ sizeLine := by
    rw [List.length_map] at hz
    exact hz
  have e : PySem.W.EachIs (fun (v : Value) (q : Addr × List Str) => v = .ref q.1) its L := by
    rw [hus]
    clear rv hl hq key q hz hus hlen pl
    induction L with
    | nil => exact .nil
    | cons a L ih => exact .cons rfl ih
  refine PySem.W.sorted_key_data (f := .ref f) (kw := [(Str.ofString "key", .ref f)]) (b := false) (R := fun (v : Value) (q : Addr × List Str) => v = .ref q.1) (fun q : Addr × List Str => kR q.2) pl.isList e ?_ ?_ hlen ?_ (PyProof.Rows.ksk_s1 _ _) (fun x => PyProof.Rows.ksk_l1 _ _) (fun x => PyProof.Rows.ksk_t1 _ _) (fun v x hR hx h tk kp => ?_) fun out c h' tk kp n hD ho eo => ?_
  · intro d hd d' hd'
    obtain ⟨b, _, rfl⟩ := List.mem_map.mp hd
    obtain ⟨b', _, rfl⟩ := List.mem_map.mp hd'
    exact alike_rows _ _
  · refine .inl fun d hd => ?_
    obtain ⟨b, _, rfl⟩ := List.mem_map.mp hd
    exact ⟨_, _, rfl⟩
  · intro x _
    have := depth_rows x.2
    omega
  · rw [hR]
    exact key x hx h tk kp
  · have hout : out = (L.mergeSort fun x y => leR x.2 y.2).map fun q => Value.ref q.1 := by
      have : ∀ (out : List Value) (M : List (Addr × List Str)), PySem.W.EachIs (fun (v : Value) (q : Addr × List Str) => v = .ref q.1) out M → out = M.map fun q => Value.ref q.1 := by
        intro out M h
        induction h with
        | nil => rfl
        | cons h _ ih => rw [h, ih]; rfl
      exact this _ _ eo
    refine after_list (vs := (L.mergeSort fun x y => leR x.2 y.2).map fun q => V.ref q.1) I kp rfl rfl (Nat.le_succ _) hD ?_ ?_ fun hn => q _ hn
    · rw [hout]
      simpa using vals_of_addr (L.mergeSort fun x y => leR x.2 y.2)
    · rw [List.length_map, List.length_mergeSort]
      exact hlen
end
end Ow
/-! Rows by (len(row), row): the evaluator's sort is the list's. -/
namespace Ow
open PySem PySem.Spec PyProof.Rows L2 OwS
def keyD (k : List W) : D := .tup [.int k.length, pathD k]
theorem toPy_path (k : List W) : PySem.W.keyToks (toPy (pathD k)) = pathTok k := by
  unfold pathD
  rw [toPy]
  exact pathTok_eq k
def keyTok (k : List W) : List Tok' := .inl 1 :: .inl (k.length : Int) :: .inl 1 :: (pathTok k ++ [.inl 0])
theorem keyTok_eq (k : List W) : PySem.W.keyToksAll (toPys [.int k.length, pathD k]) = keyTok k := by
  rw [toPys, toPys, toPys, PySem.W.toks_all_cons, PySem.W.toks_all_cons, toPy_path]
  rfl
def kdR : Kd where
  α := List W
  dec := inferInstance
  enc := keyD
  tok := keyTok
  inj x y h := by
    unfold keyTok at h
    injection h with _ h
    injection h with _ h
    injection h with _ h
    exact pathTok_inj x y (List.append_cancel_right h)
  lt x y := by
    unfold keyD
    rw [lt_py (.tup [.int x.length, pathD x]) (.tup [.int y.length, pathD y]) (by simpa [noRef, noRefs, pathD] using noRefs_strs x) (by simpa [noRef, noRefs, pathD] using noRefs_strs y) (by simpa [alkD, alkDs, pathD] using alk_strs x y)]
    rw [toPy, toPy, PySem.W.dataLt_tuple, keyTok_eq, keyTok_eq]
  eq x y := by
    unfold keyD pathD
    rw [Bool.eq_iff_iff]
    simp [eqD, eqDs, eqDs_strs]
    intro h
    rw [h]
theorem leR_w (a b : List Str) : leR a b = kdR.le (a.map ofS) (b.map ofS) := by
  show (!PySem.W.dataLt (kR b) (kR a)) = !lexLt itemOrd (keyTok (b.map ofS)) (keyTok (a.map ofS))
  have e : ∀ k : List Str, kR k = .tuple (toPys [.int ((k.map ofS).length), pathD (k.map ofS)]) := fun k => by
    unfold kR
    rw [toPys, toPys, toPys, toPy, pathD, toPy, ← strs_py, List.length_map]
  rw [e, e, PySem.W.dataLt_tuple, keyTok_eq, keyTok_eq]
theorem merge_srt {β : Type} (g : β → List W) (le : β → β → Bool) (hle : ∀ a b, le a b = kdR.le (g a) (g b)) (L : List β) : (L.mergeSort le).map g = kdR.srt (L.map g) := by
  have p : ((L.mergeSort le).map g).Perm (kdR.srt (L.map g)) := ((List.mergeSort_perm L le).map g).trans (kdR.srt_perm _).symm
  refine p.eq_of_pairwise (fun a b _ _ h1 h2 => kdR.le_anti h1 h2) ?_ (kdR.srt_sorted _)
  have hp : (L.mergeSort le).Pairwise (fun a b => le a b = true) := List.pairwise_mergeSort (fun a b c h1 h2 => by
    rw [hle] at h1 h2 ⊢
    exact kdR.le_trans h1 h2) (fun a b => by
    rw [hle, hle, Bool.or_eq_true]
    exact kdR.le_total ..) L
  refine List.pairwise_map.mpr (hp.imp fun h => ?_)
  rw [← hle]
  exact h
def insR (x : List W) (ys : List (List W)) : List (List W) := kdR.ins x ys
/-- rows, by length and then by their texts -/
def srtR (xs : List (List W)) : List (List W) := kdR.srt xs
def leW (x y : List W) : Bool := kdR.le x y
theorem insR_nil (x : List W) : insR x [] = [x] := rfl
theorem insR_cons (x y : List W) (ys : List (List W)) : insR x (y :: ys) = if leW x y = true then x :: y :: ys else y :: insR x ys := rfl
theorem srtR_nil : srtR [] = [] := rfl
theorem srtR_cons (x : List W) (xs : List (List W)) : srtR (x :: xs) = insR x (srtR xs) := rfl
theorem insP_enc (x : List W) : ∀ ys : List (List W), insP (keyD x, pathD x) (ys.map fun r => (keyD r, pathD r)) = (insR x ys).map fun r => (keyD r, pathD r)
  | [] => rfl
  | y :: ys => by
    rw [List.map_cons, insP, insR_cons]
    have e : leP (keyD x, pathD x) (keyD y, pathD y) = leW x y := kdR.leD_enc x y
    rw [e]
    split
    · rfl
    · rw [List.map_cons, insP_enc x ys]
theorem sortP_enc : ∀ xs : List (List W), sortP (xs.map fun r => (keyD r, pathD r)) = (srtR xs).map fun r => (keyD r, pathD r)
  | [] => rfl
  | x :: xs => by rw [List.map_cons, sortP, sortP_enc xs, insP_enc, srtR_cons]
theorem skey_enc (xs : List (List W)) : (sortP ((xs.map pathD).map fun x => (lenKey x, x))).map (·.2) = (srtR xs).map pathD := by
  have e : (xs.map pathD).map (fun x => (lenKey x, x)) = xs.map fun r => (keyD r, pathD r) := by
    rw [List.map_map]
    refine List.map_congr_left fun r _ => ?_
    show (D.tup [.int (r.map D.str).length, .tup (r.map D.str)], pathD r) = (keyD r, pathD r)
    rw [List.length_map]
    rfl
  rw [e, sortP_enc, List.map_map]
  rfl
theorem allRow_map : ∀ {xs : List D}, xs.all isRow = true → ∃ ks : List (List W), xs = ks.map pathD
  | [], _ => ⟨[], rfl⟩
  | x :: xs, h => by
    have h' : isRow x = true ∧ xs.all isRow = true := by simpa using h
    obtain ⟨ks, e⟩ := allRow_map h'.2
    cases x with
    | tup ys =>
      obtain ⟨ws, ew⟩ := allStr_map (xs := ys) h'.1
      exact ⟨ws :: ks, by rw [e, ew]; rfl⟩
    | _ => exact absurd h'.1 Bool.false_ne_true
section
variable {wd : PySem.World} {K : PySem.W.Frag} {mu rho : List Addr} {H : Hp}
theorem rls_rows : ∀ {ks : List (List W)} {vs : List V}, Rls K mu rho H (ks.map pathD) vs → ∃ L : List (Addr × List Str), vs = L.map (fun q => V.ref q.1) ∧ L.map (fun q => q.2.map ofS) = ks ∧ ∀ q ∈ L, SqT K H q.1 (q.2.map V.str) ∧ Rl K mu rho H (pathD (q.2.map ofS)) (.ref q.1)
  | [], _, .nil => ⟨[], rfl, rfl, fun _ h => (by cases h)⟩
  | k :: ks, _, .cons r t => by
    obtain ⟨L, e1, e2, h⟩ := rls_rows t
    obtain ⟨a, ws, ea, ht, hr⟩ := r.tup_inv
    have ek : (k.map toS).map ofS = k := by
      rw [List.map_map]
      conv => rhs; rw [← List.map_id k]
      exact List.map_congr_left fun w _ => ofS_toS w
    refine ⟨(a, k.map toS) :: L, by rw [ea, e1]; rfl, by rw [List.map_cons, e2, ek], fun q hq => ?_⟩
    rcases List.mem_cons.mp hq with z | z
    · subst z
      refine ⟨?_, ?_⟩
      · have := ht.seq (K := K)
        rw [rls_strs hr] at this
        exact this
      · show Rl K mu rho H (pathD ((k.map toS).map ofS)) (.ref a)
        rw [ek, ← ea]
        exact r
    · exact h q z
end
end Ow
/-! sorted(rows, key=..) as a rule. -/
namespace Ow
open PySem PySem.Spec PyProof.Rows L2 OwS
/-- f gives rows their keys, from this state on -/
def KeyOk (X : Cx) (s : Shared) (f : Addr) : Prop := ∀ (a : Addr) (k : List Str) (items : Array Value) (h : Heap) (tk : Nat), (∀ b o, s.heap.get? b = some o → h.get? b = some o) → IsTup h a items → items.size = k.length → items.size ≤ sizeLine → Reads h (.ref a) (.tuple (k.map .str)) [] →
  wpAny (model X.prog X.w) X.A.in1.in1 (PySem.call (.ref f) [.ref a]) (PySem.W.KeyPure (kR k) { s with heap := h, toks := tk }) (fun _ _ => False) { s with heap := h, toks := tk }
/-- what the key's expression gives -/
def KeyX (X : Cx) (b : Bool) (tabD : D) (kx : Expr) : Prop := ∀ (pins : List (Addr × Obj)) (s : Shared) (σ : L2.St) (H : Hp) (mu rho : List Addr) (st : Store) (R : Value → Shared → Prop), Inv X pins σ H s → Sim X.w X.K mu rho H st → (b = true → hasTab tabD st = true) →
  (∀ f s2 H2, Inv X pins σ H2 s2 → Le rho H rho H2 → Sim X.w X.K mu rho H2 st → KeyOk X s2 f → R (.ref f) s2) → wpAny (model X.prog X.w) X.A (eval kx X.env) R X.xe s
def skF (b : Bool) (tabD : D) (m : Bool) (fa : EvF) : EvF := fun env st => match fa env st with
  | some (x, s1) => match lstOf s1 x with
    | some xs => if xs.all isRow = true ∧ (b = true → hasTab tabD s1 = true) then mkL m ((sortP (xs.map fun x => (lenKey x, x))).map (·.2)) s1 else none
    | none => none
  | none => none
section
variable {X : Cx}
theorem re_skey {b m : Bool} {tabD : D} {a kx : Expr} {fa : EvF} {p pos kp : Pos} (hu : X.A.units + 80 < cLine) (hg : Gl X "sorted") (hm : X.mg "sorted" = none) (hk : KeyX X b tabD kx) (ha : PE X a (RE X.w X.K fa)) (na : starEach [a] X.env = (false, eval a X.env) :: starEach [] X.env) :
    PE X (.Call (.Name "sorted" p) [a] [⟨some "key", kx, kp⟩] pos) (RE X.w X.K (skF b tabD m fa)) := by
  constructor
  intro pins s σ H Q I ⟨mu, rho, env, st, S, E, d, s', e, q⟩
  unfold skF at e
  split at e
  · rename_i x s1 ea
    split at e
    · rename_i xs ex
      split at e
      · rename_i hc
        obtain ⟨hr, hb⟩ := hc
        refine wpAny_Call_Name_kw (ld_blt I hg hm (show bootBuiltins "sorted" = some (.builtin "sorted") by decide +kernel) ?_)
        refine PyProof.Rows.callWith_kw (PyProof.Rows.args_cons (thn (ha.run pins s σ H _ I ⟨mu, rho, env, st, S, E, x, s1, ea, fun r1 H1 v1 l1 S1 R1 => (⟨r1, l1, S1, R1⟩ : ∃ r1, Le rho H r1 H1 ∧ Sim X.w X.K mu r1 H1 s1 ∧ Rl X.K mu r1 H1 x v1)⟩) fun u s2 ⟨v1, H1, I1, ru, r1, l1, S1, R1⟩ => PyProof.Rows.args_nil ?_) na) (by rw [na]; rfl) (by rw [na]; rfl) rfl rfl
        show wpAny _ _ (evalAll [do let v ← eval kx X.env; standAt pos; pure v]) _ _ s2
        refine wpAny_evalAll_cons (wpAny_bind (hk pins s2 σ H1 mu r1 s1 _ I1 S1 hb fun f s3 H2 I2 l2 S2 kf => wpAny_bind (wpAny_standAt (wpAny_pure (wpAny_evalAll_nil ?_)))))
        show wpAny (model X.prog X.w) X.A (PySem.call (.builtin "sorted") [u] [(Str.ofString "key", .ref f)]) (EP X pins σ Q) X.xe s3
        have R2 := R1.le l2
        obtain ⟨l, vs, rfl, hl, hrs⟩ := R2.lstOf_inv S2 ex
        obtain ⟨ks, rfl⟩ := allRow_map hr
        obtain ⟨L, e1, e2, hL⟩ := rls_rows hrs
        rw [e1] at hl
        obtain rfl : u = Value.ref l := ru
        refine sorted_rows I2 (.inl hl) (fun q hq => (hL q hq).1) hu (fun q hq h tk kp => ?_) fun p hn => ?_
        · obtain ⟨its, rv, ⟨o, ho, hcl, n, hd⟩, hz⟩ := I2.tuple (hL q hq).1
          have hlen : its.length = q.2.length := by
            have := rv.length
            rw [List.length_map] at this
            exact this.symm
          have hsz : its.toArray.size = q.2.length := by rw [List.size_toArray, hlen]
          have hz2 : its.toArray.size ≤ sizeLine := by
            rw [hsz]
            rw [List.length_map] at hz
            exact hz
          exact kf q.1 q.2 its.toArray h tk kp ⟨o, kp _ _ ho, hcl, n, hd⟩ hsz hz2 (PyProof.Rows.Reads.keeps kp (tup_reads I2 (hL q hq).1))
        · have e3 : (sortP ((ks.map pathD).map fun x => (lenKey x, x))).map (·.2) = ((L.mergeSort fun x y => leR x.2 y.2).map fun q => q.2.map ofS).map pathD := by
            rw [skey_enc, ← e2]
            exact congrArg (List.map pathD) (merge_srt (fun q : Addr × List Str => q.2.map ofS) _ (fun a b => leR_w a.2 b.2) L).symm
          have r3 : Rls X.K mu r1 H2 ((sortP ((ks.map pathD).map fun x => (lenKey x, x))).map (·.2)) ((L.mergeSort fun x y => leR x.2 y.2).map fun q => V.ref q.1) := by
            rw [e3]
            exact rls_refs _ fun q hq => (hL q (List.mem_mergeSort.mp hq)).2
          exact Fin.newLst S2 r3 e (q.le (l1.trans l2)) p hn
      · cases e
    · cases e
  · cases e
end
end Ow
/-! The key: a def, or a lambda. -/
namespace Ow
open PySem PySem.Spec PyProof.Rows L2 OwS LamX
/-- a def that gives (len(x), x) -/
def KeyDef (K : PySem.W.Frag) (f : Addr) : Prop := ∃ (oc : Value) (od : Option Addr) (fd : FuncData) (sl : Array (Option Value)) (x : Str) (p1 p2 p3 p4 p5 p6 : Pos) (j : Nat), K.lookup f = some ⟨oc, od, .func fd, sl⟩ ∧ fd.body = .stmts [.Return (some (pairE x p1 p2 p3 p4 p5 j)) p6] ∧ fd.globals = mainGlobals ∧ fd.closure = [] ∧
  fd.builtins = builtinsNs ∧ PySem.W.codeIn K fd.code fd.qualname = true ∧ (∀ (s : Shared) (a : Addr), K.In s.heap → BindsTo s fd ⟨[.ref a], []⟩ [(x, .ref a)]) ∧ fd.scope.kind = .function ∧ fd.scope.isCoroutine = false ∧ fd.scope.isGenerator = false ∧ (∀ y ∈ fd.scope.names, y.2 ≠ .cell) ∧
  fd.scope.names.lookup x = some .local ∧ fd.scope.names.lookup ("len" : Str) = some .globalImplicit ∧ (x == ("__debug__" : Str)) = false
section
variable {X : Cx} {pins : List (Addr × Obj)} {σ : L2.St} {H : Hp} {s : Shared}
theorem keyOk_def {f : Addr} (I : Inv X pins σ H s) (hr : X.A.depth < recursionLimit) (hl : X.mg "len" = none) (kd : KeyDef X.K f) : KeyOk X s f := by
  obtain ⟨oc, od, fd, sl, x, p1, p2, p3, p4, p5, p6, j, k1, k2, k3, k4, k5, k6, k7, k8, k9, k10, k11, k12, k13, k14⟩ := kd
  intro a k items h tk kp ht he hz hrd
  have KX : X.K.In h := fun b o e => kp b o (I.kIn b o e)
  obtain ⟨mb, b1, b2⟩ := I.mod.blt
  have r := call_def (prog := X.prog) (w := X.w) (A := X.A.in1.in1) (s := { s with heap := h, toks := tk }) (f := f) (a := a) (items := items) (d := .tuple (k.map .str)) hr (KX _ _ k1) rfl k2 k3 k4 k5 (PySem.W.codeRec_of KX k6) (k7 _ a KX) k8 k9 k10 k11 k12 k13 k14
    ((I.mod.glob.keeps I.bk).keeps kp) hl ((b1.keeps I.bk).keeps kp) ((b2 "len" (by decide)).trans (by decide +kernel)) (I.nolimit.keeps kp) ht hz hrd
  rw [he] at r
  exact r
theorem keyX_def {g : Str} {gp : Pos} {f : Addr} {tabD : D} (gg : Gl X g) (hm : X.mg g = some (.ref f)) (hd : (g == ("__debug__" : Str)) = false) (hr : X.A.depth < recursionLimit) (hl : X.mg "len" = none) (kd : KeyDef X.K f) : KeyX X false tabD (.Name g gp) :=
  fun pins s σ H mu rho st R I S _ q => ld_glob I gg hm (q f s H I (Le.refl _ _) S (keyOk_def I hr hl kd)) hd
/-- a lambda without captured names is made: what its table then tells -/
theorem lam_make {c P : Addr} {q : Str} {ps : Array Value} {params : Arguments} {body : Expr} {scope : Scope} {pos : Pos} {E : Value → Shared → Prop} {Q : Value → Shared → Prop} (I : Inv X pins σ H s) (TB : TabB X.base X.mg c P) (hcode : X.env.code = .ref c) (hq : X.env.qual ++ "<lambda>" = q)
    (hP : H P = some (.tbl ps)) (ht : TriplesOk ps.toList) (ha : ∀ (p : Pos) (cv : Value), codeAmong p ps.toList = some cv → ∃ c, cv = .ref c ∧ H c = some (CodeO c q)) (hdef : defaultsOf params X.env = ([], [])) (hcl : closureFor scope X.env = pure [])
    (h : ∀ (f c' : Addr) (pm ctv : Value) (H1 : Hp) (z : Shared), Inv X pins σ H1 z → (H1 = H ∨ (H c' = none ∧ ∃ more : Array Value, H1 = upd (upd H P (.tbl (ps ++ more))) c' (CodeO c' q) ∧ TriplesOk (ps ++ more).toList ∧ ∀ p cv, codeAmong p (ps ++ more).toList = some cv → codeAmong p ps.toList = some cv ∨ cv = .ref c')) →
      z.heap.get? f = some (PySem.W.kla_obj "<lambda>" q params body scope [] pm c' ctv) → H1 c' = some (CodeO c' q) → Q (.ref f) z) :
    wpAny (model X.prog X.w) X.A (eval (.Lambda params body scope pos) X.env) Q E s := by
  subst hq
  refine PySem.W.kla_eval hdef ?_
  have tP : s.heap.get? P = some { cls := .none, data := .fields ps } := I.hok P _ hP
  have bP := TB.bm.keeps I.bk
  cases hc : codeAmong pos ps.toList with
  | some cv =>
    obtain ⟨c', rfl, hco⟩ := ha pos cv hc
    exact PySem.W.kla_makeFunctionHit (mg := X.mg) (c := c) (P := P) (ps := ps) hcl I.ok.glob (I.mod.glob.keeps I.bk) hcode (TB.code.keeps I.bk) tP ht hc bP fun ctv g tk hx _ =>
      h _ c' _ ctv H { s with heap := g.push _, toks := tk } (I.kept fun b o e => Heap.get?_push_of_some _ (hx b o e)) (.inl rfl) (Heap.get?_push_size _ rfl) hco
  | none =>
    refine PySem.W.kla_makeFunction (mg := X.mg) (c := c) (P := P) (ps := ps) hcl I.ok.glob (I.mod.glob.keeps I.bk) hcode (TB.code.keeps I.bk) tP ht hc TB.gP bP fun c' ctv g tk hx hge hlt hrec htb => ?_
    obtain ⟨c2, oc, vs, t, e2, hoc, hd, hv⟩ := hrec
    cases e2
    have J := inv_table (t' := tk) (more := #[rawInt pos.line, rawInt pos.col, .ref c']) (h' := g.push (PySem.W.kla_obj "<lambda>" (X.env.qual ++ "<lambda>") params body scope [] ((X.mg "__name__").getD .none) c' ctv)) I hP (fun b o hb e => Heap.get?_push_of_some _ (hx b o hb e)) (Heap.get?_push_of_some _ htb) hge ⟨oc, vs, t, Heap.get?_push_of_some _ hoc, hd, hv⟩
    have eL : (ps ++ #[rawInt pos.line, rawInt pos.col, .ref c']).toList = ps.toList ++ [rawInt pos.line, rawInt pos.col, .ref c'] := by simp
    exact h _ c' _ ctv _ _ J (.inr ⟨I.hok.fresh hge, _, rfl, by rw [eL]; exact PySem.TriplesOk_snoc _ _ _ _ ht, fun p cv hcv => by
      rw [eL] at hcv
      exact among_app _ ht hcv⟩) (Heap.get?_push_size _ rfl) upd_same
theorem has_tab {P : Nat} {st : Store} (h : hasTab (.int P) st = true) : ∃ n : Nat, st[n]? = some (.tab P) := by
  obtain ⟨c, hc, e⟩ := List.any_eq_true.mp (show (st.any fun c => match c with | .tab P' => decide ((P' : Int) = (P : Int)) | _ => false) = true from h)
  obtain ⟨n, hn, e2⟩ := List.getElem_of_mem hc
  cases c with
  | tab P' =>
    have : P' = P := by
      have e' : (P' : Int) = (P : Int) := of_decide_eq_true e
      omega
    subst this
    exact ⟨n, by rw [List.getElem?_eq_getElem hn, e2]⟩
  | lst _ => cases e
  | dct _ => cases e
  | ins _ _ => cases e
theorem keyX_lam {c : Addr} {P : Nat} {pp p1 p2 p3 p4 p5 lp : Pos} {j : Nat} {sc : Scope} {tabD : D} (hr : X.A.depth < recursionLimit) (hl : X.mg "len" = none) (TB : TabB X.base X.mg c P) (hcode : X.env.code = .ref c) (hq : X.env.qual ++ "<lambda>" = lamQ) (htab : tabD = .int P)
    (hk : sc.kind = .function) (hco : sc.isCoroutine = false) (hgen : sc.isGenerator = false) (hN : sc.names = pairSc "row") : KeyX X true tabD (.Lambda (lamArgs "row" pp) (pairE "row" p1 p2 p3 p4 p5 j) sc lp) := by
  intro pins s σ H mu rho st R I S ht q
  subst htab
  obtain ⟨n, hn⟩ := has_tab (ht rfl)
  have hlt : n < rho.length := by rw [S.len]; exact (List.getElem?_eq_some_iff.mp hn).1
  have ea : rho[n]? = some rho[n] := List.getElem?_eq_getElem hlt
  obtain ⟨eP, ps, hP, htr, hcs⟩ := S.cells n _ _ hn ea
  rw [eP] at ea hP
  have hcl : closureFor sc X.env = pure [] := by
    have := closure_ok (scope := sc) (env := X.env) (fun y hy e => by
      rw [hN] at hy
      rcases List.mem_cons.mp hy with rfl | hy
      · cases e
      · rw [List.mem_singleton.mp hy] at e
        cases e)
    rw [this, hN]
    rfl
  refine lam_make (ps := ps) I TB hcode hq hP htr (fun p cv hc => ?_) rfl hcl fun f c' pm ctv H1 z J hH hf hc' => ?_
  · obtain ⟨c, e1, e2, _, _⟩ := hcs p cv hc
    exact ⟨c, e1, e2⟩
  · have key : KeyOk X z f := by
      obtain ⟨⟨oc, vs, t, hoc, hdc, hvc⟩, _, _⟩ := J.hok c' _ hc'
      intro a k items h tk kp hta he hz hrd
      obtain ⟨mb, b1, b2⟩ := J.mod.blt
      have r := call_lam (prog := X.prog) (w := X.w) (A := X.A.in1.in1) (s := { z with heap := h, toks := tk }) (f := f) (a := a) (items := items) (d := .tuple (k.map .str)) hr (kp _ _ hf) ⟨c', oc, vs, t, rfl, kp _ _ hoc, hdc, hvc⟩ hk hco hgen hN
        ((J.mod.glob.keeps J.bk).keeps kp) hl ((b1.keeps J.bk).keeps kp) ((b2 "len" (by decide)).trans (by decide +kernel)) (J.nolimit.keeps kp) hta hz hrd
      rw [he] at r
      exact r
    rcases hH with rfl | ⟨nC, more, rfl, htr2, hcs2⟩
    · exact q f z _ J (Le.refl _ _) S key
    · have nP : P ≠ c' := fun e => by rw [← e, hP] at nC; cases nC
      have at1 : ∀ b, b ≠ P → b ≠ c' → upd (upd H P (.tbl (ps ++ more))) c' (CodeO c' lamQ) b = H b := fun b h1 h2 => by rw [upd_ne h2, upd_ne h1]
      have l : Le rho H rho (upd (upd H P (.tbl (ps ++ more))) c' (CodeO c' lamQ)) := by
        refine ⟨⟨[], by simp⟩, fun a o e _ t => ?_, fun a h k => absurd h k, fun a h => upd_still a (upd_still a h)⟩
        rw [at1 a (fun e2 => by rw [e2, hP] at e; exact t ps (Option.some.inj e).symm) fun e2 => by rw [e2, nC] at e; cases e]
        exact e
      refine q f z _ J l ⟨S.len, S.nd, fun i cl a ei eai => ?_, fun a h => ⟨upd_still a (upd_still a (S.mus a h).1), (S.mus a h).2⟩⟩ key
      by_cases hi : i = n
      · subst hi
        rw [hn] at ei
        rw [ea] at eai
        cases ei
        cases eai
        refine ⟨rfl, ps ++ more, by rw [upd_ne nP, upd_same], htr2, fun p cv hcv => ?_⟩
        rcases hcs2 p cv hcv with h | h
        · obtain ⟨c, e1, e2, e3, e4⟩ := hcs p cv h
          exact ⟨c, e1, by rw [at1 c (fun e => by rw [e, hP] at e2; exact codeO_ne ps (Option.some.inj e2).symm) fun e => by rw [e, nC] at e2; cases e2]; exact e2, e3, e4⟩
        · exact ⟨c', h, upd_same, S.notRho nC, S.notMu nC⟩
      · refine S.cellLm (l.lm mu) ei eai (at1 a (fun e => hi ?_) fun e => S.isSome eai (by rw [e]; exact nC))
        obtain ⟨h1, e1⟩ := List.getElem?_eq_some_iff.mp ea
        obtain ⟨h2, e2⟩ := List.getElem?_eq_some_iff.mp eai
        exact (List.getElem_inj S.nd).mp (e2.trans (e.trans e1.symm))
end
end Ow
/-! What is known where code runs; calls of defs. -/
namespace Ow
open PySem PySem.Spec PyProof.Rows L2

structure Ctx where
  N : List Str
  sc : Scope
  wr : Scope
  top : Bool
  fnm : Nat → Option Str
  gnm : Nat → Option Str
  kfn : Nat → Option Str
  lamb : Bool
def bltNames : List Str := ["len", "all", "any", "tuple", "list", "int", "max", "min", "isinstance", "bool", "str", "sorted", "set", "range", "enumerate", "zip", "reversed", "dict"]
def slotB (c : Ctx) (i : Nat) (x : Str) : Bool := match c.N[i]? with
  | some y => decide (y = x)
  | none => false
def kindB (c : Ctx) (x : Str) : Option NameKind := c.sc.names.lookup x
def visB : Option NameKind → Bool
  | some .local => true
  | some .cell => true
  | some .free => true
  | _ => false
def varB (c : Ctx) (i : Nat) (x : Str) : Bool := slotB c i x && visB (kindB c x) && !(x == ("__debug__" : Str)) && !(x == ("__classdict__" : Str))
def globB (c : Ctx) (x : Str) : Bool := match kindB c x with
  | some .globalImplicit => true
  | _ => false
def locB (c : Ctx) (x : Str) : Bool := match kindB c x with
  | some .local => true
  | _ => false
def stoB (c : Ctx) (i : Nat) (x : Str) : Bool := slotB c i x && match kindB c x with
  | some .local => true
  | some .cell => c.top || (match c.wr.names.lookup x with | some .cell => true | _ => false)
  | _ => false
def isFun (k : ScopeKind) : Bool := match k with
  | .function => true
  | _ => false

/-- a def's spec: what its evaluation says -/
def spC (wd : World) (K : PySem.W.Frag) (f : List D → Store → Option (D × Store)) : Sp := fun vs H Q _ => ∃ mu rho st ds, Sim wd K mu rho H st ∧ Rls K mu rho H ds vs ∧ Post wd K mu rho H (f ds st) Q
structure FnC (X : Cx) (x : Str) (f : List D → Store → Option (D × Store)) : Prop where
  ex : ∃ (CX : CXT) (k : Nat) (fa : Addr) (fd : FuncData) (ps : List Str) (E : XK), FnOk X.prog X.w X.K X.mg X.base CX k fa fd ps (spC X.w X.K f) ∧ Room k X.A ∧ X.mg x = some (.ref fa) ∧ PySem.W.keepIn X.K (.ref fa) = true ∧
    Binds X.K fd ps [] ∧ ∀ (Y : Cx), Y.xe = (fun _ _ => False) → Passes CX Y E
variable (gls : Nat → D) (cal : Cal) in
structure Gd (X : Cx) (c : Ctx) : Prop where
  N : X.N = c.N
  nd : c.N.Nodup
  sc : X.env.scope = c.sc
  kind : c.sc.kind = .function
  fn : ∀ x, c.top = true ∨ c.wr.names.lookup x = some .cell → X.fn x = true
  calm : X.calm = true
  un : X.A.units + 80 < cLine
  xe : X.xe = fun _ _ => False
  blt : ∀ x ∈ bltNames, X.mg x = none
  fns : ∀ f x, c.fnm f = some x → (x == ("__debug__" : Str)) = false ∧ FnC X x (cal f)
  gl : ∀ g x, c.gnm g = some x → (x == ("__debug__" : Str)) = false ∧ ∃ u v, X.mg x = some u ∧ RelV v u ∧ Fixd X.K (gls g) v
  dp : X.A.depth < recursionLimit
  kfs : ∀ f x, c.kfn f = some x → (x == ("__debug__" : Str)) = false ∧ ∃ fa, X.mg x = some (.ref fa) ∧ KeyDef X.K fa
  lam : c.lamb = true → ∃ (P : Nat) (cd : Addr), gls 999 = .int P ∧ LamX.TabB X.base X.mg cd P ∧ X.env.code = .ref cd ∧ X.env.qual ++ "<lambda>" = lamQ
def Ctx.blk (c : Ctx) (scope : Scope) : Ctx := { c with sc := relS scope c.sc, wr := scope, top := false, lamb := false }
section
variable {gls : Nat → D} {cal : Cal} {X : Cx} {c : Ctx} {x : Str} {i : Nat} {pos : Pos}
theorem Gd.blk (g : Gd gls cal X c) {s : Shared} {H : Hp} {scope : Scope} {C : Addr} {cl : List (Str × Addr)} {fp : List Addr} (hk : scope.kind = .function) : Gd gls cal (X.blk s H scope (compEnvC scope cl C X.env) fp) (c.blk scope) where
  N := g.N
  nd := g.nd
  sc := by
    show relS scope X.env.scope = relS scope c.sc
    rw [g.sc]
  kind := hk
  fn y h := by
    rcases h with h | h
    · cases h
    · show (scope.names.lookup y == some .cell) = true
      have h' : scope.names.lookup y = some .cell := h
      rw [h']
      rfl
  calm := g.calm
  un := g.un
  xe := rfl
  blt := g.blt
  fns f y h := ⟨(g.fns f y h).1, by
    obtain ⟨CX, k, fa, fd, ps, E, h1, h2, h3, h4, h5, h6⟩ := (g.fns f y h).2.ex
    exact ⟨CX, k, fa, fd, ps, E, h1, h2, h3, h4, h5, h6⟩⟩
  gl := g.gl
  dp := g.dp
  kfs := g.kfs
  lam h := by cases h
theorem Gd.slot (g : Gd gls cal X c) (h : slotB c i x = true) : X.N[i]? = some x := by
  unfold slotB at h
  split at h
  · rename_i y e
    rw [g.N, e, of_decide_eq_true h]
  · cases h
theorem Gd.vis (g : Gd gls cal X c) (h : visB (kindB c x) = true) : Vis X.env.scope x := by
  unfold Vis
  rw [g.sc]
  unfold kindB at h
  cases e : c.sc.names.lookup x with
  | none => rw [e] at h; cases h
  | some k =>
    rw [e] at h
    cases k <;> first | exact .inl rfl | exact .inr (.inl rfl) | exact .inr (.inr rfl) | cases h
theorem Gd.glob (g : Gd gls cal X c) (h : globB c x = true) : Gl X x := by
  unfold Gl
  show X.env.scope.names.lookup x = _
  rw [g.sc]
  unfold globB kindB at h
  cases e : c.sc.names.lookup x with
  | none => rw [e] at h; cases h
  | some k => rw [e] at h; cases k <;> first | rfl | cases h
theorem Gd.loc (g : Gd gls cal X c) (h : locB c x = true) : X.env.scope.names.lookup x = some .local := by
  rw [g.sc]
  unfold locB kindB at h
  cases e : c.sc.names.lookup x with
  | none => rw [e] at h; cases h
  | some k => rw [e] at h; cases k <;> first | rfl | cases h
theorem Gd.sto (g : Gd gls cal X c) (h : stoB c i x = true) : X.N[i]? = some x ∧ Loc X.env.scope x ∧ (X.fn x = true ∨ X.env.scope.names.lookup x = some .local) := by
  unfold stoB at h
  rw [Bool.and_eq_true] at h
  refine ⟨g.slot h.1, ?_⟩
  unfold L2.Loc
  rw [g.sc]
  have h2 := h.2
  unfold kindB at h2
  cases e : c.sc.names.lookup x with
  | none => rw [e] at h2; cases h2
  | some k =>
    rw [e] at h2
    cases k with
    | «local» => exact ⟨.inl rfl, .inr rfl⟩
    | cell =>
      refine ⟨.inr rfl, .inl (g.fn x ?_)⟩
      dsimp only at h2
      rw [Bool.or_eq_true] at h2
      rcases h2 with h2 | h2
      · exact .inl h2
      · refine .inr ?_
        cases e2 : c.wr.names.lookup x with
        | none => rw [e2] at h2; cases h2
        | some k2 => rw [e2] at h2; cases k2 <;> first | rfl | cases h2
    | _ => cases h2
theorem Gd.ndX (g : Gd gls cal X c) : X.N.Nodup := by rw [g.N]; exact g.nd
theorem PE.cong {e : Expr} {f f' : EvF} (h : PE X e (RE X.w X.K f)) (hf : ∀ env st, f' env st = f env st) : PE X e (RE X.w X.K f') := by
  have : f' = f := funext fun env => funext fun st => hf env st
  rw [this]
  exact h
theorem PT.cong {e : Expr} {f f' : EvB} (h : PT X e (RT X.w X.K f)) (hf : ∀ env st, f' env st = f env st) : PT X e (RT X.w X.K f') := by
  have : f' = f := funext fun env => funext fun st => hf env st
  rw [this]
  exact h
theorem PA.cong {es : List Expr} {f f' : EvL} (h : PA X es (RA X.w X.K f)) (hf : ∀ env st, f' env st = f env st) : PA X es (RA X.w X.K f') := by
  have : f' = f := funext fun env => funext fun st => hf env st
  rw [this]
  exact h
theorem PO.cong {e : Option Expr} {f f' : EvO} (h : PO X e (RO X.w X.K f)) (hf : ∀ env st, f' env st = f env st) : PO X e (RO X.w X.K f') := by
  have : f' = f := funext fun env => funext fun st => hf env st
  rw [this]
  exact h
theorem PI.cong {tg e : Expr} {f f' : EvI} (h : PI X tg e (RI X.w X.K f)) (hf : ∀ env st, f' env st = f env st) : PI X tg e (RI X.w X.K f') := by
  have : f' = f := funext fun env => funext fun st => hf env st
  rw [this]
  exact h
theorem PS.cong {e : Stmt} {f f' : EvX} (h : PS X e (RS X.w X.K f)) (hf : ∀ env st, f' env st = f env st) : PS X e (RS X.w X.K f') := by
  have : f' = f := funext fun env => funext fun st => hf env st
  rw [this]
  exact h
theorem PSs.cong {e : List Stmt} {f f' : EvX} (h : PSs X e (RS X.w X.K f)) (hf : ∀ env st, f' env st = f env st) : PSs X e (RS X.w X.K f') := by
  have : f' = f := funext fun env => funext fun st => hf env st
  rw [this]
  exact h
/-- a call -/
theorem re_call {f : Nat} {es : List Expr} {fs : EvL} {p : Pos} (g : Gd gls cal X c) (hf : c.fnm f = some x) (hg : globB c x = true) (ha : PA X es (RA X.w X.K fs)) (hs : es.all notStar = true) (h0 : es = [] → ∀ env st, fs env st = some ([], st)) :
    PE X (.Call (.Name x p) es [] pos) (RE X.w X.K fun env st => match fs env st with
      | some (ds, s1) => cal f ds s1
      | none => none) := by
  obtain ⟨hd, hF⟩ := g.fns f x hf
  obtain ⟨CX, k, fa, fd, ps, E, h1, h2, h3, h4, h5, h6⟩ := hF.ex
  have hx := h6 X g.xe
  cases es with
  | nil =>
    refine PE.imp (pe_call0 h1 h2 (g.glob hg) h3 h4 h5 .nil hx hd) fun σ H Q ⟨mu, rho, env, st, S, E0, d, s', e, q⟩ => ?_
    dsimp only at e
    rw [h0 rfl] at e
    exact ⟨mu, rho, st, [], S, .nil, d, s', e, q⟩
  | cons a es =>
    rw [List.all_cons, Bool.and_eq_true] at hs
    refine PE.imp (pe_call h1 h2 (g.glob hg) h3 h4 h5 .nil hx ha hd (star_no hs.1) (plain_no hs.2)) fun σ H Q ⟨mu, rho, env, st, S, E0, d, s', e, q⟩ => ?_
    dsimp only at e
    split at e
    · rename_i ds s1 ea
      refine ⟨mu, rho, env, st, ds, s1, S, E0, ea, fun r1 H1 vs l1 S1 R1 => ?_⟩
      dsimp only
      rw [List.append_nil]
      exact ⟨mu, r1, s1, ds, S1, R1, d, s', e, q.le l1⟩
    · cases e
end
end Ow
/-! Does an expression's text fit the tree it is said to be? -/
namespace Ow
open PySem PySem.Spec PyProof.Rows L2

def opB (o : Bop) (op : Operator) : Bool := match o, op with
  | .add, .Add => true
  | .sub, .Sub => true
  | .mul, .Mult => true
  | .fdiv, .FloorDiv => true
  | .mod, .Mod => true
  | .pow, .Pow => true
  | _, _ => false
theorem opB_eq {o : Bop} {op : Operator} (h : opB o op = true) : op = bopOf o := by cases o <;> cases op <;> first | rfl | cases h
def copB (o : Cop) (op : CmpOp) : Bool := match o, op with
  | .eq, .Eq => true
  | .ne, .NotEq => true
  | .lt, .Lt => true
  | .le, .LtE => true
  | .gt, .Gt => true
  | .ge, .GtE => true
  | .is, .Is => true
  | .isnot, .IsNot => true
  | .isin, .In => true
  | .notin, .NotIn => true
  | _, _ => false
theorem copB_eq {o : Cop} {op : CmpOp} (h : copB o op = true) : op = copOf o := by cases o <;> cases op <;> first | rfl | cases h
def setB : Expr → Bool
  | .Set _ _ _ => true
  | _ => false
theorem set_no {e : Expr} {op : CmpOp} (h : setB e = false) : behindInMarks op e = false := by cases e <;> first | rfl | cases h
theorem fold_no {e : Expr} {env : Env} (h : setB e = false) : ∀ x, foldedSetIterable e env x = pure x := by intro x; cases e <;> first | rfl | cases h
def sliceB : Expr → Bool
  | .Slice _ _ _ _ => true
  | _ => false
theorem ix_no {e : Expr} (h : sliceB e = false) : PlainIx e := by intro o i; cases e <;> first | rfl | cases h
def revB : Expr → Bool
  | .Slice none none (some (.UnaryOp .USub (.Constant (.int i) _ _) _)) _ => decide (i = 1)
  | _ => false
theorem revB_eq {e : Expr} (h : revB e = true) : ∃ k p1 p2 p3, e = .Slice none none (some (.UnaryOp .USub (.Constant (.int 1) k p1) p2)) p3 := by
  unfold revB at h
  split at h
  · rw [of_decide_eq_true h]
    exact ⟨_, _, _, _, rfl⟩
  · cases h
def cstB (d : D) (k : Const) : Bool := match k, d with
  | .none, .non => true
  | .bool b, .bl b' => b == b'
  | .int i, .int j => decide (i = j)
  | .str s, .str w => eqW s.cps.toList w
  | _, _ => false
def tupB : Expr → Bool
  | .Tuple _ _ _ => true
  | _ => false
def tyListB (c : Ctx) : List Ty → List Expr → Bool
  | [], vs => vs.isEmpty
  | t :: ts, vs => match vs with
    | .Name x _ :: r => decide (x = tyName t) && globB c x && tyListB c ts r
    | _ => false
def tysB (c : Ctx) (ts : List Ty) (w : Expr) : Bool := match w with
  | .Name x _ => match ts with
    | [t] => decide (x = tyName t) && globB c x
    | _ => false
  | .Tuple vs _ _ => tyListB c ts vs && !ts.isEmpty && decide (ts.length ≤ 100)
  | _ => false
def tgsB (c : Ctx) : List Nat → List Expr → Bool
  | [], vs => vs.isEmpty
  | j :: js, vs => match vs with
    | .Name x _ :: r => stoB c j x && tgsB c js r
    | _ => false
def tgB (c : Ctx) (t : Tg) (e : Expr) : Bool := match t with
  | .nm i => match e with
    | .Name x _ => stoB c i x
    | _ => false
  | .tp js => match e with
    | .Tuple vs _ _ => tgsB c js vs
    | _ => false
def subB (js ks : List Nat) : Bool := js.all fun j => ks.any fun k => Nat.beq j k
def ownP (c : Ctx) (own : List Nat) : List (Str × Nat) := own.map fun i => ((c.N[i]?).getD ⟨#[]⟩, i)
def nameIs (o : Option Str) (x : Str) : Bool := match o with
  | some y => decide (y = x)
  | none => false
def disB (js ks : List Nat) : Bool := js.all fun j => !(ks.any fun k => Nat.beq j k)
/-- two clauses or three -/
def lastB (t : Tg) : Cls → Bool
  | .last _ _ _ => true
  | .more t1 _ _ (.last t2 _ _) => disB (tgS t1) (tgS t) && disB (tgS t2) (tgS t) && disB (tgS t2) (tgS t1)
  | .more _ _ _ (.more _ _ _ _) => false
/-- the sort key (len(row), row): a lambda, or a def that gives it -/
def keyB (c : Ctx) (f : Nat) (kx : Expr) : Bool := match f with
  | 0 => c.lamb && (match kx with
    | .Lambda ⟨[], [⟨r, none, _⟩], none, [], [], none, []⟩ (.Tuple [.Call (.Name l _) [.Name r2 _] [] _, .Name r3 _] _ _) sc _ =>
      decide (r = "row") && decide (l = "len") && decide (r2 = "row") && decide (r3 = "row") && isFun sc.kind && !sc.isCoroutine && !sc.isGenerator && decide (sc.names = pairSc "row")
    | _ => false)
  | f + 1 => match kx with
    | .Name g _ => nameIs (c.kfn (f + 1)) g && globB c g
    | _ => false
mutual
def chk (t : Bool) (c : Ctx) : Ex → Expr → Bool
  | .var i, e => match e with
    | .Name x _ => varB c i x
    | _ => false
  | .cst d, e => match e with
    | .Constant k _ _ => cstB d k
    | _ => false
  | .gl g, e => match e with
    | .Name x _ => nameIs (c.gnm g) x && globB c x
    | _ => false
  | .bin _ o a b, e => match e with
    | .BinOp l op r _ => opB o op && chk false c a l && chk false c b r
    | _ => false
  | .neg a, e => match e with
    | .UnaryOp .USub l _ => chk false c a l
    | _ => false
  | .cmp o a b, e => match e with
    | .Compare l [op] [r] _ => copB o op && !setB r && chk false c a l && chk false c b r
    | _ => false
  | .chain o p a b d, e => match e with
    | .Compare l [op, op2] [r, r2] _ => copB o op && copB p op2 && !setB r2 && chk false c a l && chk false c b r && chk false c d r2
    | _ => false
  | .and es, e => match e with
    | .BoolOp .And vs _ => chkB t c es vs
    | _ => false
  | .or es, e => match e with
    | .BoolOp .Or vs _ => chkB t c es vs
    | _ => false
  | .not a, e => match e with
    | .UnaryOp .Not l _ => chk t c a l
    | _ => false
  | .ite a b d, e => match e with
    | .IfExp x y z _ => !t && chk true c a x && chk false c b y && chk false c d z
    | _ => false
  | .tup es, e => match e with
    | .Tuple vs _ _ => chkL c es vs
    | _ => false
  | .lst _ es, e => match e with
    | .List vs _ => chkL c es vs
    | _ => false
  | .ix a b, e => match e with
    | .Subscript l r _ => !sliceB r && chk false c a l && chk false c b r
    | _ => false
  | .sl _ a lo hi, e => match e with
    | .Subscript l (.Slice x y none _) _ => chk false c a l && chkO c lo x && chkO c hi y
    | _ => false
  | .rev _ a, e => match e with
    | .Subscript l s _ => revB s && chk false c a l
    | _ => false
  | .call f es, e => match e with
    | .Call (.Name x _) vs [] _ => nameIs (c.fnm f) x && globB c x && vs.all notStar && chkL c es vs
    | _ => false
  | .bi _ b es, e => match e with
    | .Call (.Name x _) vs [] _ => decide (x = biName b) && globB c x && !vs.isEmpty && vs.all notStar && chkL c es vs
    | _ => false
  | .isi a ts, e => match e with
    | .Call (.Name x _) [v, w] [] _ => decide (x = iName) && globB c x && notStar v && chk false c a v && tysB c ts w
    | _ => false
  | .sset _ a, e => match e with
    | .Call (.Name x _) [.Call (.Name y _) [v] [] _] [] _ => decide (x = "sorted") && decide (y = "set") && globB c x && globB c y && notStar v && chk false c a v
    | _ => false
  | .dnew, e => match e with
    | .Dict [] [] _ => true
    | _ => false
  | .done _ _, _ => false
  | .dof a, e => match e with
    | .Call (.Name x _) [v] [] _ => decide (x = "dict") && globB c x && notStar v && chk false c a v
    | _ => false
  | .dgt a b d, e => match e with
    | .Call (.Attribute (.Name x np) nm apos) [w, v] [] cpos => decide (nm = "get") && (apos.endLine == cpos.line) && notStar w && notStar v && chk false c a (.Name x np) && chk false c b w && chk false c d v
    | _ => false
  | .skey _ f a, e => match e with
    | .Call (.Name x _) [v] [⟨some y, kx, _⟩] _ => decide (x = "sorted") && decide (y = "key") && globB c x && notStar v && keyB c f kx && chk false c a v
    | _ => false
  | .lc _ own a cls, e => match e with
    | .ListComp elt gs scope _ => isFun scope.kind && blkC c.N c.sc scope (ownP c own) && chkK own c (c.blk scope) cls gs && chk false (c.blk scope) a elt
    | _ => false
def chkO (c : Ctx) : Exo → Option Expr → Bool
  | .none, o => o.isNone
  | .some e, o => match o with
    | some v => chk false c e v
    | none => false
def chkT (c : Ctx) : Exo → List Expr → Bool
  | .none, vs => vs.isEmpty
  | .some e, vs => match vs with
    | [v] => chk true c e v
    | _ => false
def chkB (t : Bool) (c : Ctx) : Exs → List Expr → Bool
  | .nil, _ => false
  | .cons _ e r, vs => match vs with
    | [] => false
    | v :: vs' => chk t c e v && (match r with
      | .nil => vs'.isEmpty
      | .cons _ _ _ => chkB t c r vs')
def chkL (c : Ctx) : Exs → List Expr → Bool
  | .nil, vs => vs.isEmpty
  | .cons s e r, vs => match vs with
    | [] => false
    | v :: vs' => (match s with
      | false => notStar v && chk false c e v
      | true => match v with
        | .Starred w _ => chk false c e w
        | _ => false) && chkL c r vs'
def chkI (c : Ctx) : It → Expr → Expr → Bool
  | .of e, _, v => !setB v && chk false c e v
  | .rng es, _, v => match v with
    | .Call (.Name x _) vs [] _ => decide (x = "range") && globB c x && vs.all notStar && decide (1 ≤ vs.length) && decide (vs.length ≤ 3) && chkL c es vs
    | _ => false
  | .enum e, tg, v => match v with
    | .Call (.Name x _) [w] [] _ => decide (x = "enumerate") && globB c x && notStar w && tupB tg && chk false c e w
    | _ => false
  | .zip a b, tg, v => match v with
    | .Call (.Name x _) [w, u] [] _ => decide (x = "zip") && globB c x && notStar w && notStar u && tupB tg && chk false c a w && chk false c b u
    | _ => false
  | .rrng e, _, v => match v with
    | .Call (.Name x _) [.Call (.Name y _) [w] [] _] [] _ => decide (x = "reversed") && decide (y = "range") && globB c x && globB c y && notStar w && chk false c e w
    | _ => false
def chkK (own : List Nat) (cI c : Ctx) : Cls → List Comprehension → Bool
  | .last t it cd, gs => match gs with
    | [⟨tg, iter, ifs, a⟩] => decide (a = 0) && tgB c t tg && subB (tgS t) own && !setB iter && chkI cI it tg iter && chkT c cd ifs
    | _ => false
  | .more t it cd r, gs => match gs with
    | ⟨tg, iter, ifs, a⟩ :: gs' => decide (a = 0) && tgB c t tg && subB (tgS t) own && !setB iter && chkI cI it tg iter && chkT c cd ifs && lastB t r && chkK own c c r gs'
    | _ => false
end
end Ow
/-! The tree that fits is what the expression computes. -/
namespace Ow
open PySem PySem.Spec PyProof.Rows L2

theorem toS_of_eqW {s : Str} {w : W} (h : eqW s.cps.toList w = true) : s = toS w := by
  rw [← (eqW_iff _ _).mp h]
  exact (toS_ofS s).symm
theorem nameIs_eq {o : Option Str} {x : Str} (h : nameIs o x = true) : o = some x := by
  unfold nameIs at h
  split at h
  · rw [of_decide_eq_true h]
  · cases h
theorem and_l {a b : Bool} (h : (a && b) = true) : a = true ∧ b = true := by simpa using h
section
variable {gls : Nat → D} {cal : Cal} {X : Cx} {c : Ctx} {e : Expr} {f : EvF} {t : Bool}
theorem both (he : ∀ whole, isTrue e X.env whole = (do let v ← whole; standAt e.pos; holding [v] (PySem.truthy v))) (h : PE X e (RE X.w X.K f)) :
    (t = false → PE X e (RE X.w X.K f)) ∧ (t = true → PT X e (RT X.w X.K (tst f))) := ⟨fun _ => h, fun _ => rt_val he h⟩
theorem both2 {g : EvF} (hg : ∀ env st, g env st = f env st) (h : (t = false → PE X e (RE X.w X.K f)) ∧ (t = true → PT X e (RT X.w X.K (tst f)))) : (t = false → PE X e (RE X.w X.K g)) ∧ (t = true → PT X e (RT X.w X.K (tst g))) := by
  have : g = f := funext fun env => funext fun st => hg env st
  rw [this]
  exact h
theorem cst_ok {d : D} {k : Const} {j : Nat} {pos : Pos} (h : cstB d k = true) : PE X (.Constant k j pos) (RE X.w X.K fun _ st => some (d, st)) := by
  unfold cstB at h
  split at h
  · exact re_tC pe_non fun _ _ _ => .non
  · rw [← eq_of_beq h]
    exact re_tC pe_bl fun _ _ _ => .bl _
  · rw [← of_decide_eq_true h]
    exact re_tC pe_int fun _ _ _ => .int _
  · rename_i s w
    rw [toS_of_eqW h]
    exact re_tC pe_str fun _ _ _ => .str _
  · cases h
theorem var_ok {i : Nat} {x : Str} {pos : Pos} (g : Gd gls cal X c) (h : varB c i x = true) : PE X (.Name x pos) (RE X.w X.K fun env st => match env[i]? with
      | some (some d) => some (d, st)
      | _ => none) := by
  unfold varB at h
  obtain ⟨h, h4⟩ := and_l h
  obtain ⟨h, h3⟩ := and_l h
  obtain ⟨h1, h2⟩ := and_l h
  exact re_var (g.slot h1) (g.vis h2) (by simpa using h3) (by simpa using h4)
theorem gl_ok {k : Nat} {x : Str} {pos : Pos} (g : Gd gls cal X c) (h : (nameIs (c.gnm k) x && globB c x) = true) : PE X (.Name x pos) (RE X.w X.K fun _ st => some (gls k, st)) := by
  obtain ⟨h1, h2⟩ := and_l h
  obtain ⟨hd, u, v, hm, hr, hf⟩ := g.gl k x (nameIs_eq h1)
  exact re_tC (pe_glob (g.glob h2) hm hr hd) hf
theorem tgs_ok (g : Gd gls cal X c) : ∀ {js : List Nat} {vs : List Expr}, tgsB c js vs = true → ∃ ns : List (Str × Pos), vs = tgExprs ns ∧ js.length = ns.length ∧
    ∀ p ∈ js.zip ns, X.N[p.1]? = some p.2.1 ∧ L2.Loc X.env.scope p.2.1 ∧ (X.fn p.2.1 = true ∨ X.env.scope.names.lookup p.2.1 = some .local)
  | [], vs, h => by
    cases vs with
    | nil => exact ⟨[], rfl, rfl, fun p hp => (by cases hp)⟩
    | cons _ _ => cases h
  | j :: js, vs, h => by
    unfold tgsB at h
    split at h
    · rename_i x pos r
      obtain ⟨h1, h2⟩ := and_l h
      obtain ⟨ns, e1, e2, e3⟩ := tgs_ok g h2
      refine ⟨(x, pos) :: ns, by rw [e1]; rfl, by rw [List.length_cons, List.length_cons, e2], fun p hp => ?_⟩
      rw [List.zip_cons_cons] at hp
      rcases List.mem_cons.mp hp with z | z
      · rw [z]; exact g.sto h1
      · exact e3 p z
    · cases h
theorem tg_ok {tt : Tg} (g : Gd gls cal X c) (h : tgB c tt e = true) : PG X e (RG X.w X.K tt) := by
  unfold tgB at h
  split at h
  · split at h
    · obtain ⟨h1, h2, h3⟩ := g.sto h
      exact rg_nm g.ndX h1 h2 h3
    · cases h
  · split at h
    · obtain ⟨ns, rfl, h2, h3⟩ := tgs_ok g h
      exact rg_tp g.calm g.ndX h2 h3
    · cases h
theorem tyList_ok (g : Gd gls cal X c) : ∀ {ts : List Ty} {vs : List Expr}, tyListB c ts vs = true → ∃ ps : List (Ty × Pos), vs = tyExprs ps ∧ ts = ps.map (·.1) ∧ ∀ p ∈ ps, Gl X (tyName p.1)
  | [], vs, h => by
    cases vs with
    | nil => exact ⟨[], rfl, rfl, fun p hp => (by cases hp)⟩
    | cons _ _ => cases h
  | t :: ts, vs, h => by
    unfold tyListB at h
    split at h
    · rename_i x pos r
      obtain ⟨h, h2⟩ := and_l h
      obtain ⟨h0, h1⟩ := and_l h
      obtain ⟨ps, e1, e2, e3⟩ := tyList_ok g h2
      have ex := of_decide_eq_true h0
      subst ex
      refine ⟨(t, pos) :: ps, by rw [e1]; rfl, by rw [e2]; rfl, fun p hp => ?_⟩
      rcases List.mem_cons.mp hp with z | z
      · rw [z]; exact g.glob h1
      · exact e3 p z
    · cases h
theorem ty_blt (g : Gd gls cal X c) : ∀ ty : Ty, X.mg (tyName ty) = none
  | .int => g.blt _ (by decide +kernel)
  | .bool => g.blt _ (by decide +kernel)
  | .str => g.blt _ (by decide +kernel)
  | .list => g.blt _ (by decide +kernel)
  | .tuple => g.blt _ (by decide +kernel)
theorem bi_blt (g : Gd gls cal X c) : ∀ b : Bi, X.mg (biName b) = none
  | .len => g.blt _ (by decide +kernel)
  | .all => g.blt _ (by decide +kernel)
  | .any => g.blt _ (by decide +kernel)
  | .tuple => g.blt _ (by decide +kernel)
  | .list => g.blt _ (by decide +kernel)
  | .int => g.blt _ (by decide +kernel)
  | .max => g.blt _ (by decide +kernel)
  | .min => g.blt _ (by decide +kernel)
theorem i_blt (g : Gd gls cal X c) : X.mg iName = none := g.blt _ (by decide +kernel)
theorem dis_ok {js ks : List Nat} (h : disB js ks = true) : ∀ j ∈ js, j ∉ ks := fun j hj hk => by
  have := List.all_eq_true.mp h j hj
  have e : (ks.any fun k => Nat.beq j k) = true := List.any_eq_true.mpr ⟨j, hk, Nat.beq_refl j⟩
  rw [e] at this
  cases this
theorem sub_ok {js ks : List Nat} (h : subB js ks = true) : ∀ j ∈ js, j ∈ ks := fun j hj => by
  have := List.all_eq_true.mp h j hj
  obtain ⟨k, hk, e⟩ := List.any_eq_true.mp this
  rw [Nat.beq_eq] at e
  exact e ▸ hk
theorem ownP_map (c : Ctx) : ∀ own : List Nat, (ownP c own).map (·.2) = own
  | [] => rfl
  | i :: own => by
    show i :: (ownP c own).map (·.2) = _
    rw [ownP_map c own]
theorem star_len (c : Ctx) : ∀ (es : Exs) {vs : List Expr} {env : Envr} {st st' : Store} {ds : List D}, chkL c es vs = true → vs.all notStar = true → evs gls cal es env st = some (ds, st') → ds.length = vs.length
  | .nil, vs, env, st, st', ds, h, _, e => by
    cases vs with
    | nil => rw [evs] at e; cases e; rfl
    | cons _ _ => unfold chkL at h; cases h
  | .cons s x r, vs, env, st, st', ds, h, hs, e => by
    unfold chkL at h
    cases vs with
    | nil => cases h
    | cons v vs =>
      dsimp only at h
      obtain ⟨h1, h2⟩ := and_l h
      rw [List.all_cons] at hs
      obtain ⟨h3, h4⟩ := and_l hs
      rw [evs] at e
      cases s with
      | true =>
        dsimp only at h1
        split at h1
        · cases h3
        · cases h1
      | false =>
        cases e1 : ev gls cal x env st with
        | none => rw [e1] at e; cases e
        | some p =>
          obtain ⟨y, s1⟩ := p
          rw [e1] at e
          dsimp only at e
          cases e2 : evs gls cal r env s1 with
          | none => rw [e2] at e; cases e
          | some q =>
            obtain ⟨ds', s2⟩ := q
            rw [e2] at e
            cases e
            rw [List.length_cons, List.length_cons, star_len c r h2 h4 e2]
end
end Ow
set_option maxHeartbeats 4000000
/-! x[::-1] of a list or a tuple. -/
namespace Ow
open PySem PySem.Spec PyProof.Rows L2 HT
section
variable {prog : Program} {w : World} {A : Around} {E : Value → Shared → Prop} {s : Shared}
theorem sliceApplied_rev {sl : Addr} {vs : Value} {n : Nat} {Q : Int × Int × Nat → Shared → Prop} (hs : s.heap.IsSliceOf sl .none .none vs) (ps : IsPart vs (some (-1)))
    (h : Q ((n : Int) - 1, -1, n) s) : wpAny (model prog w) A (Builtin.Slice.sliceApplied (.ref sl) (pure (n : Int))) Q E s := by
  obtain ⟨os, hos, hcs, hds⟩ := id hs
  unfold Builtin.Slice.sliceApplied Builtin.Slice.sliceFields
  refine wpAny_bind (wpAny_bind (wpAny_field hos hds (x := .none) rfl (wpAny_bind (wpAny_field hos hds (x := .none) rfl (wpAny_bind (wpAny_field hos hds (x := vs) rfl (wpAny_pure ?_)))))))
  refine wpAny_bind (slicePart_ ps ?_)
  show wpAny _ _ (if ((-1 : Int) == 0) = true then _ else _) _ _ s
  rw [if_neg (by decide)]
  refine wpAny_bind (slicePart_none (wpAny_bind (slicePart_none (wpAny_bind (wpAny_pure ?_)))))
  show wpAny _ _ (pure ((n : Int) - 1, (-1 : Int), Builtin.Slice.slicePlaces ((n : Int) - 1) (-1) (-1))) _ _ s
  have e : Builtin.Slice.slicePlaces ((n : Int) - 1) (-1) (-1) = n := by
    unfold Builtin.Slice.slicePlaces
    rw [if_neg (by decide)]
    by_cases hn : (n : Int) - 1 > -1
    · rw [if_pos hn, show (- -1 : Int) = 1 by decide, Int.ediv_one]
      omega
    · rw [if_neg hn]
      omega
  rw [e]
  exact wpAny_pure h
theorem fm_congr {α β : Type} {f g : α → Option β} : ∀ {l : List α}, (∀ x ∈ l, f x = g x) → l.filterMap f = l.filterMap g
  | [], _ => rfl
  | x :: l, h => by rw [List.filterMap_cons, List.filterMap_cons, h x (List.mem_cons_self ..), fm_congr fun y hy => h y (List.mem_cons_of_mem _ hy)]
theorem pick_rev (xs : Array Value) : ((List.range xs.size).filterMap fun (m : Nat) => xs[((xs.size : Int) - 1 + (m : Int) * -1).toNat]?).toArray = xs.toList.reverse.toArray := by
  have h : (List.range xs.size).filterMap (fun (m : Nat) => xs[((xs.size : Int) - 1 + (m : Int) * -1).toNat]?) = ((List.range xs.size).map fun k => xs.size - 1 - k).filterMap (xs[·]?) := by
    rw [List.filterMap_map]
    refine fm_congr fun m hm => ?_
    have := List.mem_range.mp hm
    show _ = xs[xs.size - 1 - m]?
    congr 1
    omega
  rw [h, PySem.W.krv_range, List.filterMap_reverse, PySem.W.krv_all]
theorem getItem_tuple_rev {t sl : Addr} {items : Array Value} {vs : Value} {Q : Value → Shared → Prop} (ht : IsTup s.heap t items) (hs : s.heap.IsSliceOf sl .none .none vs) (ps : IsPart vs (some (-1)))
    (h : Q (.ref s.heap.objs.size) { s with heap := s.heap.push { cls := .type "tuple", data := .seq items.toList.reverse.toArray } })
    (hsz : items.size ≤ sizeLine) : wpAny (model prog w) A (getItem (.ref t) (.ref sl)) Q E s := by
  have htake : sizeOk (.seq items.toList.reverse.toArray) := by
    show (items.toList.reverse.toArray).size ≤ sizeLine
    rw [List.size_toArray, List.length_reverse, Array.length_toList]
    exact hsz
  obtain ⟨os, hos, hcs, hds⟩ := id hs
  have hTs : s.TypeIs (.ref sl) "slice" := ⟨os, hos, hcs⟩
  unfold getItem
  try with_reducible refine wpAny_holding ?_
  first | refine wpAny_bind (wpAny_pure ?_) | skip
  refine wpAny_bind (wpAny_sequenceKey ht.typeIs (by decide) ?_)
  refine wpAny_bind (wpAny_callSpecial?_slot (name := Str.ofString "__getitem__") ht.typeIs PyProof.Rows.slot_tuple_getitem
    (wpAny_call_entry PyProof.Rows.slot_tuple_getitem ht.typeIs entry_tuple_getitem ?_ (args_tuple_getitem _ _)))
  show wpAny _ _ (Builtin.Tuple.tupleItemsOf (.ref t) >>= _) _ _ s
  refine wpAny_bind (tupleItemsOf_ ht ?_)
  refine wpAny_bind (wpAny_typeOf hTs ?_)
  rw [if_pos (by decide)]
  refine wpAny_bind (sliceApplied_rev hs ps ?_)
  have hno : ¬ ((((items.size : Int) - 1) == 0 && (-1 : Int) == 1 && items.size == items.size) = true) := by
    intro q
    rw [Bool.and_eq_true, Bool.and_eq_true] at q
    exact absurd q.1.2 (by decide)
  show wpAny _ _ (if (((items.size : Int) - 1) == 0 && (-1 : Int) == 1 && items.size == items.size) = true then _ else _) _ _ s
  rw [if_neg hno, pick_rev]
  first
    | exact wpAny_bind (m := Builtin.Tuple.tupleExact _) (wpAny_newObj_type (wpAny_pure ⟨_, rfl, wpAny_pure h⟩) htake)
    | exact wpAny_bind (m := Builtin.Tuple.tupleExact _) (wpAny_newObj_type (wpAny_bind (wpAny_pure (wpAny_pure ⟨_, rfl, wpAny_pure h⟩))) htake)
    | exact wpAny_bind (wpAny_bind (m := Builtin.Tuple.tupleExact _) (wpAny_newObj_type (wpAny_pure (wpAny_pure ⟨_, rfl, wpAny_pure h⟩)) htake))
    | exact wpAny_bind (wpAny_bind (m := Builtin.Tuple.tupleExact _) (wpAny_newObj_type (wpAny_pure ⟨_, rfl, wpAny_pure h⟩) htake))
end
section
variable {X : Cx}
/-- xs[::-1] -/
def tRevA (K : PySem.W.Frag) (te : TE) : TE := fun σ H Q => te σ H fun x H1 => ∃ a xs, x = .ref a ∧
  ((SqL K H1 a xs ∧ ∀ p, H1 p = none → Q (.ref p) (upd H1 p (.lst xs.reverse))) ∨ (SqT K H1 a xs ∧ ∀ p o, H1 p = none → o.dict = none → Q (.ref p) (upd H1 p (.frz o (.tup xs.reverse)))))
theorem pe_revA {e : Expr} {te : TE} {k : Nat} {p1 p2 p3 pos : Pos} (he : PE X e te) : PE X (.Subscript e (.Slice none none (some (.UnaryOp .USub (.Constant (.int 1) k p1) p2)) p3) pos) (tRevA X.K te) := by
  refine ⟨fun pins s σ H Q I h => ?_⟩
  refine Subscript_ (thn (he.run pins s σ H _ I h) fun v s1 ⟨x, H1, I1, r1, q1⟩ => ?_)
  obtain ⟨a, xs, ex, hx⟩ := q1
  subst ex
  cases r1
  have hst : PO X (some (.UnaryOp .USub (.Constant (.int 1) k p1) p2)) (tPart (tUn (rU fun i => .int (-i)) (tC (.int 1)))) := po_some (pe_un un_neg pe_int)
  refine wpAny_Slice (thn (po_none.run pins s1 σ H1 (fun o H2 => o = none ∧ H2 = H1) I1 ⟨rfl, rfl⟩) fun vl s2 ⟨l, H2, I2, pl, el, e2⟩ => ?_)
  subst el e2
  refine thn (po_none.run pins s2 σ H2 (fun o H3 => o = none ∧ H3 = H2) I2 ⟨rfl, rfl⟩) fun vu s3 ⟨u, H3, I3, pu, eu, e3⟩ => ?_
  subst eu e3
  refine thn (hst.run pins s3 σ H3 (fun o H4 => o = some (-1) ∧ H4 = H3) I3 ⟨1, rfl, -1, rfl, rfl, rfl⟩) fun vs s4 ⟨o, H4, I4, ps, eo, e4⟩ => ?_
  subst eo e4
  have I5 : Inv X pins σ H4 { s4 with heap := s4.heap.push { cls := .type "slice", data := .fields #[vl, vu, vs] } } := I4.kept (t' := s4.toks) fun b ob q => Heap.get?_push_of_some _ q
  cases pl
  cases pu
  rcases hx with ⟨hx, q⟩ | ⟨hx, q⟩
  · obtain ⟨its, r, ht, hz⟩ := I5.list hx
    have hlen := r.length
    show wpAny (model X.prog X.w) X.A (subscriptTail e (.Slice none none (some (.UnaryOp .USub (.Constant (.int 1) k p1) p2)) p3) (.ref a) (.ref s4.heap.objs.size)) (EP X pins σ Q) X.xe { s4 with heap := s4.heap.push { cls := .type "slice", data := .fields #[.none, .none, vs] } }
    refine tail_any (ops := [.ref a, .ref s4.heap.objs.size]) ht.isList.typeIs (PySem.slot_list_getitem.lookup) ?_ (by with_unfolding_all rfl)
    refine wpAny_getItem_list_slice ht.isList (Heap.IsSliceOf.new _ .none .none vs) .none .none ps (by decide) ?_ (by rw [List.size_toArray]; omega)
    rw [PySem.W.krv_pick]
    refine ⟨.ref _, _, I5.laid (t' := s4.toks) (o := .lst xs.reverse) (fun b ob q => Heap.get?_push_of_some _ q) (Nat.le_refl _) ?_, rfl, q _ (I5.hok.fresh (Nat.le_refl _))⟩
    exact ⟨by rw [List.length_reverse]; exact hz, _, 0, r.reverse, Heap.get?_push_size _ rfl⟩
  · obtain ⟨its, r, ht, hz⟩ := I5.tuple hx
    have hlen := r.length
    show wpAny (model X.prog X.w) X.A (subscriptTail e (.Slice none none (some (.UnaryOp .USub (.Constant (.int 1) k p1) p2)) p3) (.ref a) (.ref s4.heap.objs.size)) (EP X pins σ Q) X.xe { s4 with heap := s4.heap.push { cls := .type "slice", data := .fields #[.none, .none, vs] } }
    refine tail_any (ops := [.ref a, .ref s4.heap.objs.size]) ht.typeIs (PyProof.Rows.slot_tuple_getitem.lookup) ?_ (by with_unfolding_all rfl)
    refine getItem_tuple_rev ht (Heap.IsSliceOf.new _ .none .none vs) ps ?_ (by rw [List.size_toArray]; omega)
    exact tup_laid I5 r.reverse (by rw [List.length_reverse]; exact hz) q
end
end Ow
/-! Comprehensions of three clauses: each clause's loop by one rule. -/
namespace Ow
open PySem PySem.Spec PyProof.Rows L2

/-- a turn of clause k: when the tests hold, W -/
def turnG (t i : Expr) (conds : List Expr) (W : Sem PySem.Fin) (lc : Expr) (k : Nat) (itv acc : Value) (ce : Env) : Sem PySem.Fin :=
  standAt i.pos >>= fun _ => pyNext itv >>= fun r => match r with
    | none => pure (.done .next)
    | some u => letOwnedTupleGo t itv u >>= fun _ => assign t ce u >>= fun _ =>
      (forIn conds true fun q b => if b = true then (do let b' ← isTrue q ce (eval q ce); pure (ForInStep.yield b')) else pure (ForInStep.yield b)) >>= fun go => if go = true then W else again (.compLoop lc k itv acc ce)
/-- the next clause's own loop -/
def deepG (i : Expr) (lc : Expr) (k : Nat) (acc : Value) (ce : Env) : Sem Flow :=
  eval i ce >>= fun x => standAt i.pos >>= fun _ => foldedSetIterable i ce x >>= fun y => holding [y] (pyIter y) >>= fun itv => runOwn (.compStart lc k itv acc ce) ce
def pushG (elt : Expr) (acc : Value) (ce : Env) : Sem Unit := eval elt ce >>= fun x => PySem.call (.builtin "list.append") [acc, x] >>= fun _ => pure ()
abbrev three (elt t0 i0 t1 i1 t2 i2 : Expr) (c0 c1 c2 : List Expr) (sc : Scope) (p : Pos) : Expr := .ListComp elt [⟨t0, i0, c0, 0⟩, ⟨t1, i1, c1, 0⟩, ⟨t2, i2, c2, 0⟩] sc p
section
variable (elt t0 i0 t1 i1 t2 i2 : Expr) (c0 c1 c2 : List Expr) (sc : Scope) (p : Pos) (itv acc : Value) (ce : Env)
theorem turn3_0 : compTurn (three elt t0 i0 t1 i1 t2 i2 c0 c1 c2 sc p) 0 itv acc ce = turnG t0 i0 c0 (deepG i1 (three elt t0 i0 t1 i1 t2 i2 c0 c1 c2 sc p) 1 acc ce >>= fun _ => again (.compLoop (three elt t0 i0 t1 i1 t2 i2 c0 c1 c2 sc p) 0 itv acc ce)) (three elt t0 i0 t1 i1 t2 i2 c0 c1 c2 sc p) 0 itv acc ce := by
  unfold turnG deepG
  simp only [bind_assoc]
  rfl
theorem turn3_1 : compTurn (three elt t0 i0 t1 i1 t2 i2 c0 c1 c2 sc p) 1 itv acc ce = turnG t1 i1 c1 (deepG i2 (three elt t0 i0 t1 i1 t2 i2 c0 c1 c2 sc p) 2 acc ce >>= fun _ => again (.compLoop (three elt t0 i0 t1 i1 t2 i2 c0 c1 c2 sc p) 1 itv acc ce)) (three elt t0 i0 t1 i1 t2 i2 c0 c1 c2 sc p) 1 itv acc ce := by
  unfold turnG deepG
  simp only [bind_assoc]
  rfl
theorem turn3_2 : compTurn (three elt t0 i0 t1 i1 t2 i2 c0 c1 c2 sc p) 2 itv acc ce = turnG t2 i2 c2 (pushG elt acc ce >>= fun _ => again (.compLoop (three elt t0 i0 t1 i1 t2 i2 c0 c1 c2 sc p) 2 itv acc ce)) (three elt t0 i0 t1 i1 t2 i2 c0 c1 c2 sc p) 2 itv acc ce := by
  unfold turnG pushG
  rfl
end
section
variable {prog : Program} {w : PySem.World} {A : Around} {R : Result → Shared → Prop} {s : Shared}
/-- a clause's loop: I by a measure -/
theorem loop_clause {t i : Expr} {conds : List Expr} {W : Value → Sem PySem.Fin} {elt : Expr} {gs : List Comprehension} {sc : Scope} {p : Pos} {k : Nat} {itv acc : Value} {ce : Env} (hT : compTurn (.ListComp elt gs sc p) k itv acc ce = turnG t i conds (W itv) (.ListComp elt gs sc p) k itv acc ce) (I : Nat → Shared → Prop)
    (step : ∀ n s, I n s → wpAny (model prog w) A (pyNext itv) (fun r s1 => match r with
      | none => R (.ok .next) s1
      | some u => wpAny (model prog w) A (letOwnedTupleGo t itv u) (fun _ s2 => wpAny (model prog w) A (assign t ce u) (fun _ s3 =>
          wpAny (model prog w) A (forIn conds true fun q b => if b = true then (do let b' ← PySem.isTrue q ce (eval q ce); pure (ForInStep.yield b')) else pure (ForInStep.yield b)) (fun go s4 =>
            if go = true then wpAny (model prog w) A (W itv) (fun f s5 => f = .again (.compLoop (.ListComp elt gs sc p) k itv acc ce) ∧ ∃ m, m < n ∧ I m s5) (fun _ _ => False) s4 else ∃ m, m < n ∧ I m s4) (fun _ _ => False) s3) (fun _ _ => False) s2) (fun _ _ => False) s1) (fun _ _ => False) s)
    (n : Nat) (h : I n s) : codeAny (model prog w) A (.compLoop (.ListComp elt gs sc p) k itv acc ce) R s := by
  have up : ∀ {α : Type} {x : Sem α} {Q Q' : α → Shared → Prop} {s : Shared} {E : Value → Shared → Prop}, wpAny (model prog w) A x Q (fun _ _ => False) s → (∀ a s, Q a s → Q' a s) → wpAny (model prog w) A x Q' E s := fun h hq => wpAny_mono h hq fun _ _ z => z.elim
  refine codeAny_loop (c := .compLoop (.ListComp elt gs sc p) k itv acc ce) rfl I (fun n s hI => ?_) n h
  show wpAny (model prog w) A ((compTurn (.ListComp elt gs sc p) k itv acc ce).onRaise (fun e => do noteFrame e ce; theTreesLotGoes e)) _ _ s
  rw [hT]
  refine wpAny_noted (wpAny_bind (wpAny_standAt (wpAny_bind (up (step n s hI) fun r s1 h1 => ?_))))
  cases r with
  | none => exact wpAny_pure h1
  | some u =>
    refine wpAny_bind (up h1 fun _ s2 h2 => wpAny_bind (up h2 fun _ s3 h3 => wpAny_bind (up h3 fun go s4 h4 => ?_)))
    cases go with
    | false => exact wpAny_pure ⟨rfl, h4⟩
    | true =>
      refine up h4 fun f s5 h5 => ?_
      obtain ⟨hf, h6⟩ := h5
      subst hf
      exact ⟨rfl, h6⟩
/-- a later clause begins -/
theorem start_clause {elt : Expr} {gs : List Comprehension} {sc : Scope} {p : Pos} {k : Nat} {itv acc : Value} {ce : Env} {g : Comprehension} (hk : gs[k]? = some g) (ha : (g.is_async != 0) = false) (h0 : codeAny (model prog w) A (.compLoop (.ListComp elt gs sc p) k itv acc ce) R s)
    (h : wpAny (model prog w) A (pyIter itv) (fun it2 s2 => codeAny (model prog w) A (.compLoop (.ListComp elt gs sc p) k it2 acc ce) R s2) (notedBy (model prog w) A ce fun x s2 => R (.error x) s2) s) : codeAny (model prog w) A (.compStart (.ListComp elt gs sc p) k itv acc ce) R s := by
  refine codeAny_of_tree ?_
  show wpAny (model prog w) _ ((compStart (.ListComp elt gs sc p) k itv acc ce).onRaise (fun x => do noteFrame x ce; standAt theWindowsPlace)) _ _ s
  refine wpAny_notedAt ?_
  have hq : (((clausesOf (.ListComp elt gs sc p))[k]?).elim false fun g => g.is_async != 0) = false := by
    show ((gs[k]?).elim false fun g => g.is_async != 0) = false
    rw [hk]
    exact ha
  unfold compStart
  rw [hq]
  show wpAny (model prog w) _ (ask >>= _) _ _ s
  refine wpAny_bind (wpAny_askSetting (wpAny_ite ?_))
  split
  · exact wpAny_bind (wpAny_pure (wpAny_pure ⟨rfl, h0⟩))
  · refine wpAny_bind (wpAny_rule ?_)
    have hk2 : (clausesOf (.ListComp elt gs sc p))[k]? = some g := hk
    rw [hk2]
    exact wpAny_bind (wpAny_standAt (wpAny_bind (thn h fun it2 s2 q => wpAny_pure ⟨rfl, q⟩)))
end
/-! ### what a turn does behind its tests, in the block -/
abbrev BT := L2.St → Hp → (Hp → Prop) → Prop
structure PB (Z : Cx) {β : Type} (m : Sem β) (vs : List Nat) (bd : BT) : Prop where
  run : ∀ (pn : List (Addr × Obj)) (s : Shared) (σ : L2.St) (H : Hp) (Nx : Hp → Prop), Inv Z pn σ H s → bd σ H Nx → wpAny (model Z.prog Z.w) Z.A m (fun _ z => ∃ Hz, Inv Z pn (wipe σ vs) Hz z ∧ Nx Hz) (fun _ _ => False) s
def tPush (te : TE) (D : Addr) : BT := fun σ H Nx => te σ H fun y H1 => ∃ acc, H1 D = some (.lst acc) ∧ acc.length < sizeLine ∧ Nx (upd H1 D (.lst (acc ++ [y])))
def tDeep (wi : TI) (g : TG) (tt : TT) (bd : BT) (vv : List Nat) : BT := fun σ H Nx => wi σ H fun J H1 => ∃ W : Nat → Nat → Hp → Prop, (∃ m, W 0 m H1) ∧ ∀ i m H, W i m H →
  (J.stop i H ∧ Nx H) ∨ (J.go i H ∧ ∃ N1 : Hp → Prop, (∀ Hz, N1 Hz → ∃ m', m' < m ∧ W (i + 1) m' Hz) ∧ ∀ x Hz, J.yld i H x Hz → g x (wipe σ vv) Hz fun σ2 H2 => wipe σ2 vv = wipe σ vv ∧ tt σ2 H2 fun b H3 => if b = true then bd σ2 H3 N1 else N1 H3)
def tTop (wi : TI) (g : TG) (tt : TT) (bd : Addr → BT) (vv : List Nat) : TE := fun σ H Q => wi σ H fun J H1 => ∀ D, H1 D = none → ∃ W : Nat → Nat → Hp → Prop, (∃ m, W 0 m (upd H1 D (.lst []))) ∧ ∀ i m H, W i m H →
  (J.stop i H ∧ Q (.ref D) H) ∨ (J.go i H ∧ ∃ N1 : Hp → Prop, (∀ Hz, N1 Hz → ∃ m', m' < m ∧ W (i + 1) m' Hz) ∧ ∀ x Hz, J.yld i H x Hz → g x (wipe σ vv) Hz fun σ2 H2 => wipe σ2 vv = wipe σ vv ∧ tt σ2 H2 fun b H3 => if b = true then bd D σ2 H3 N1 else N1 H3)
theorem wipe_sub {σ : L2.St} {i : Nat} {x : V} {us vs : List Nat} (h : ∀ j ∈ us, j ∈ vs) (e : (wipe σ vs)[i]? = some (some x)) : (wipe σ us)[i]? = some (some x) := by
  obtain ⟨e1, e2⟩ := wipe_some e
  rw [wipe_out fun z => e2 (h i z)]
  exact e1
section
variable {X : Cx} {s3 : Shared} {H3 : Hp} {scope : Scope} {ce : Env} {fp : List Addr} {D : Addr}
theorem pb_push {elt : Expr} {te : TE} (pe : PE (X.blk s3 H3 scope ce fp) elt te) : PB (X.blk s3 H3 scope ce fp) (pushG elt (.ref D) ce) [] (tPush te D) := by
  constructor
  intro pn s σ H Nx I q
  unfold pushG
  refine wpAny_bind (thnF (pe.run pn s σ H _ I q) fun z s1 ⟨y, H1, I1, r1, acc, e1, l1, nx⟩ => wpAny_bind ?_)
  exact app_ok (X := X.blk s3 H3 scope ce fp) I1 e1 l1 r1 fun s2 I2 => wpAny_pure ⟨_, I2, nx⟩
theorem pb_deep {elt tg iter : Expr} {ifs : List Expr} {gs : List Comprehension} {sc : Scope} {p : Pos} {k : Nat} {β : Type} {m2 : Sem β} {v1 v2 : List Nat} {wi : TI} {g : TG} {tt : TT} {bd : BT} (hc : X.calm = true)
    (pi : PI (X.blk s3 H3 scope ce fp) tg iter wi) (pg : PG (X.blk s3 H3 scope ce fp) tg g) (pt : PTs (X.blk s3 H3 scope ce fp) ifs tt) (pb : PB (X.blk s3 H3 scope ce fp) m2 v2 bd) (hs : ∀ e x, foldedSetIterable iter e x = pure x) (hk : gs[k]? = some ⟨tg, iter, ifs, 0⟩)
    (hT : ∀ itv, compTurn (.ListComp elt gs sc p) k itv (.ref D) ce = turnG tg iter ifs (m2 >>= fun _ => again (.compLoop (.ListComp elt gs sc p) k itv (.ref D) ce)) (.ListComp elt gs sc p) k itv (.ref D) ce) :
    PB (X.blk s3 H3 scope ce fp) (deepG iter (.ListComp elt gs sc p) k (.ref D) ce) (v1 ++ v2) (tDeep wi g tt bd (v1 ++ v2)) := by
  constructor
  intro pn s σ H Nx I q
  generalize hvv : v1 ++ v2 = vv at q ⊢
  have hv2 : ∀ j ∈ v2, j ∈ vv := fun j hj => by rw [← hvv]; exact List.mem_append_right _ hj
  unfold deepG
  refine wpAny_bind (thnF (pi.run pn s σ H _ I q) fun xv s1 hx => wpAny_bind (wpAny_standAt (wpAny_bind (wpAny_of_eq (hs _ _) (wpAny_bind (wpAny_holding (thnF hx fun itv s2 h2 => ?_)))))))
  obtain ⟨it, fq, tn, J, H2, eit, I2, T, st2, f2, W, ⟨m0, w0⟩, turn⟩ := h2
  subst eit
  refine wpAny_runOwn ?_
  rw [Around.mark_none]
  have ok2 : ∀ {Hz : Hp}, (∀ b ∈ fq, Hz b = none) → ∀ b ∈ fq, FpOk (X.blk s3 H3 scope ce fp) pn Hz b := fun hn b hb => ⟨hn b hb, (f2 b hb).2⟩
  have lp : codeAny (model X.prog X.w) X.A (.compLoop (.ListComp elt gs sc p) k (.ref it) (.ref D) ce) (fun r z => match r with
      | .ok _ => ∃ Hz, Inv (X.blk s3 H3 scope ce fp) pn (wipe σ vv) Hz z ∧ Nx Hz
      | .error _ => False) s2 := by
    refine loop_clause (W := fun itv => m2 >>= fun _ => again (.compLoop (.ListComp elt gs sc p) k itv (.ref D) ce)) (hT _) (fun n z => ∃ i Hz, Inv (X.blk s3 H3 scope ce fp) pn (wipe σ vv) Hz z ∧ tn i z.heap ∧ (∀ b ∈ fq, Hz b = none) ∧ W i n Hz) ?_ m0
      ⟨0, H2, I2.weak (wipe_length _ _) (fun j v e => (wipe_some e).1), st2, fun b hb => (f2 b hb).1, w0⟩
    rintro n s4 ⟨i, H4, I4, st4, n4, w4⟩
    rcases turn i n H4 w4 with ⟨stop, nx⟩ | ⟨go, N1, hN1, step⟩
    · refine thnF (T.done (X.blk s3 H3 scope ce fp) rfl rfl rfl hc i pn s4 (wipe σ vv) H4 (fun _ _ => False) I4 (ok2 n4) st4 stop) fun r s5 ⟨hr, I5⟩ => ?_
      subst hr
      exact ⟨H4, I5, nx⟩
    · refine thnF (T.item (X.blk s3 H3 scope ce fp) rfl rfl rfl hc i pn s4 (wipe σ vv) H4 (fun _ _ => False) I4 (ok2 n4) st4 go) fun r s5 ⟨u, hr, h5⟩ => ?_
      subst hr
      refine thnF h5 fun _ s6 ⟨x, H6, I6, r6, y6, st6, n6⟩ => ?_
      have I6' := I6.pinned (ok2 n6) (T.obj _ _ st6)
      refine thnF (pg.run _ s6 (wipe σ vv) H6 x u _ I6' r6 (step x H6 y6)) fun _ s7 ⟨σ7, H7, I7, hw7, q7⟩ => ?_
      refine thnF (pt.run _ s7 σ7 H7 _ I7 q7) fun b s8 ⟨H8, I8, q8⟩ => ?_
      have back : ∀ {us : List Nat} {z : Shared} {Hz : Hp}, (∀ j ∈ us, j ∈ vv) → Inv (X.blk s3 H3 scope ce fp) (pn ++ pinsAt fq s6.heap) (wipe σ7 us) Hz z → N1 Hz → ∃ m, m < n ∧ ∃ i Hz, Inv (X.blk s3 H3 scope ce fp) pn (wipe σ vv) Hz z ∧ tn i z.heap ∧ (∀ b ∈ fq, Hz b = none) ∧ W i m Hz := by
        intro us z Hz hus Iz nx
        obtain ⟨m', hm, w'⟩ := hN1 Hz nx
        have still : ∀ b ∈ fq, ∀ o, s6.heap.get? b = some o → z.heap.get? b = some o ∧ Hz b = none := fun b hb o e =>
          have y := Iz.pin (b, o) (List.mem_append_right _ (List.mem_append_right _ (mem_pinsAt hb e)))
          ⟨y.1, y.2.1⟩
        refine ⟨m', hm, i + 1, Hz, Iz.unpinned.weak (by rw [← hw7, wipe_length, wipe_length]) (fun j v e => by rw [← hw7] at e; exact wipe_sub hus e), T.keep _ _ _ st6 fun b hb o e => (still b hb o e).1, fun b hb => ?_, w'⟩
        obtain ⟨o, e, _⟩ := T.obj _ _ st6 b hb
        exact (still b hb o e).2
      cases b with
      | false =>
        rw [if_neg Bool.false_ne_true] at q8 ⊢
        exact back (us := []) (fun j hj => nomatch hj) I8 q8
      | true =>
        rw [if_pos rfl] at q8 ⊢
        exact wpAny_bind (thnF (pb.run _ s8 σ7 H8 N1 I8 q8) fun _ s9 ⟨H9, I9, nx9⟩ => wpAny_pure ⟨rfl, back hv2 I9 nx9⟩)
  refine codeAny_mono (start_clause hk rfl lp (T.self X.A 0 _ _ _ st2 lp)) fun r z hr => ?_
  cases r with
  | ok f => exact hr
  | error e => exact hr.elim
end
section
variable {X : Cx}
/-- the whole comprehension: its first clause's loop about `m` -/
theorem pe_top {elt tg iter : Expr} {ifs : List Expr} {gs : List Comprehension} {scope : Scope} {own : List (Str × Nat)} {pos : Pos} {wi : TI} {g : TG} {tt : TT} {β : Type} {m : Addr → Env → Sem β} {vb : List Nat} {bd : Addr → BT} (hc : X.calm = true) (hN : X.N.Nodup) (hi : PI X tg iter wi)
    (ok : BlkOk X.N X.env.scope scope own) (hv : ∀ j ∈ vb, j ∈ own.map (·.2))
    (hg : ∀ (s : Shared) (H : Hp) (C : Addr) (cl : List (Str × Addr)) (fp : List Addr), PG (X.blk s H scope (compEnvC scope cl C X.env) fp) tg g) (ht : ∀ (s : Shared) (H : Hp) (C : Addr) (cl : List (Str × Addr)) (fp : List Addr), PTs (X.blk s H scope (compEnvC scope cl C X.env) fp) ifs tt)
    (hb : ∀ (s : Shared) (H : Hp) (C : Addr) (cl : List (Str × Addr)) (fp : List Addr) (D : Addr), PB (X.blk s H scope (compEnvC scope cl C X.env) fp) (m D (compEnvC scope cl C X.env)) vb (bd D)) (hs : ∀ x, foldedSetIterable iter X.env x = pure x)
    (hT : ∀ D ce itv, compTurn (.ListComp elt (⟨tg, iter, ifs, 0⟩ :: gs) scope pos) 0 itv (.ref D) ce = turnG tg iter ifs (m D ce >>= fun _ => again (.compLoop (.ListComp elt (⟨tg, iter, ifs, 0⟩ :: gs) scope pos) 0 itv (.ref D) ce)) (.ListComp elt (⟨tg, iter, ifs, 0⟩ :: gs) scope pos) 0 itv (.ref D) ce) :
    PE X (.ListComp elt (⟨tg, iter, ifs, 0⟩ :: gs) scope pos) (tTop wi g tt bd (own.map (·.2))) := by
  constructor
  intro pn s σ H Q I h
  rw [eval_ListComp]
  have hfr : ∀ y ∈ scope.names, y.2 = .free → ∃ c, X.env.cells.lookup y.1 = some c := fun y hy e => (ok.free y hy e).elim (fun k => I.ok.has _ (.inl k)) fun k => I.ok.has _ (.inr k)
  refine wpAny_comprehension_free rfl hs (closure_ok hfr) ok.kind (fun y hy e => by rw [ok.uniq y hy, e]) (thn (hi.run pn s σ H _ I h) fun xv s1 hx => thn hx fun itv s2 h2 => ?_)
  obtain ⟨it, fp, tn, J, H2, eit, I2, T, st2, f2, q⟩ := h2
  subst eit
  refine wpAny_newObj_type (newEnv_comp ?_) (by show 0 ≤ sizeLine; decide)
  generalize hD : s2.heap.objs.size = D
  obtain ⟨W, ⟨m0, w0⟩, turn⟩ := q D (I2.hok.fresh (Nat.le_of_eq hD))
  generalize hs3 : ({ s2 with heap := s2.heap.push { cls := .type "list", data := .seq ([] : List Value).toArray } } : Shared) = s3
  have e3 : s3.heap = s2.heap.push { cls := .type "list", data := .seq ([] : List Value).toArray } := by rw [← hs3]
  have I3 : Inv X pn σ (upd H2 D (.lst [])) s3 := by
    subst hs3
    exact I2.laid (t' := s2.toks) (fun b o e => Heap.get?_push_of_some _ e) (Nat.le_of_eq hD) ⟨Nat.zero_le _, [], 0, .nil, by rw [← hD]; exact Heap.get?_push_size _ rfl⟩
  have f3 : ∀ b ∈ fp, FpOk X pn (upd H2 D (.lst [])) b ∧ b < s3.heap.objs.size := fun b hb => by
    obtain ⟨o, e, _⟩ := T.obj _ _ st2 b hb
    have hlt := Heap.lt_size e
    refine ⟨⟨?_, (f2 b hb).2⟩, by rw [e3, Heap.size_push]; exact Nat.lt_succ_of_lt hlt⟩
    rw [upd_ne (by rw [← hD]; exact Nat.ne_of_lt hlt)]
    exact (f2 b hb).1
  have st3 : tn 0 s3.heap := T.keep _ _ _ st2 fun b _ o e => by rw [e3]; exact Heap.get?_push_of_some _ e
  have I4 := block_start I3 ok hN f3
  generalize hC : s3.heap.objs.size = C at I4 ⊢
  generalize hcl : cellsFrom (C + 1) scope.names (cloFrom X.env.cells scope.names []) = cl at I4 ⊢
  have pg := hg s3 (upd H2 D (.lst [])) C cl fp
  have pt := ht s3 (upd H2 D (.lst [])) C cl fp
  have pb := hb s3 (upd H2 D (.lst [])) C cl fp D
  have nfp : ∀ b ∈ fp, (upd H2 D (.lst [])) b = none := fun b hb => (f3 b hb).1.1
  have cL : (compEnvC scope cl C X.env).locals = C := rfl
  show codeAny _ _ (.compStart (.ListComp elt (⟨tg, iter, ifs, 0⟩ :: gs) scope pos) 0 (.ref it) (.ref D) (compEnvC scope cl C X.env)) (compPost (model X.prog X.w) X.A X.xe none _ (.ref D) C) _
  generalize compEnvC scope cl C X.env = ce at I4 pg pt pb cL ⊢
  generalize hH3 : upd H2 D (.lst []) = H3 at I3 I4 pg pt pb w0 nfp f3
  generalize hs4 : ({ s3 with heap := pushCells (s3.heap.push { cls := .type "dict", data := .dict #[] }) scope.names } : Shared) = s4 at I4 ⊢
  have st4 : tn 0 s4.heap := T.keep _ _ _ st3 fun b _ o e => by rw [← hs4]; exact pushCells_keeps _ _ _ _ (Heap.get?_push_of_some _ e)
  have ok5 : ∀ {σz : L2.St} {Hz : Hp} {z : Shared}, Inv (X.blk s3 H3 scope ce fp) [] σz Hz z → (∀ b ∈ fp, Hz b = none) → ∀ b ∈ fp, FpOk (X.blk s3 H3 scope ce fp) [] Hz b := fun Iz hn b hb =>
    ⟨hn b hb, (Iz.ok.exf b hb).1, Iz.ok.exfs b hb, .inl hb, fun x c e => (Iz.ok.exf b hb).2 x c e, fun p hp => absurd (show p ∈ ([] : List (Addr × Obj)) ++ [] from hp) (by simp)⟩
  have lp : codeAny (model X.prog X.w) X.A (.compLoop (.ListComp elt (⟨tg, iter, ifs, 0⟩ :: gs) scope pos) 0 (.ref it) (.ref D) ce) (compPost (model X.prog X.w) X.A X.xe none (fun v z => ∃ y Hz, Inv X pn σ Hz z ∧ RelV y v ∧ Q y Hz) (.ref D) C) s4 := by
    refine loop_clause (W := fun itv => m D ce >>= fun _ => again (.compLoop (.ListComp elt (⟨tg, iter, ifs, 0⟩ :: gs) scope pos) 0 itv (.ref D) ce)) (hT D ce _) (fun n z => ∃ i Hz, Inv (X.blk s3 H3 scope ce fp) [] (wipe σ (own.map (·.2))) Hz z ∧ tn i z.heap ∧ (∀ b ∈ fp, Hz b = none) ∧ W i n Hz) ?_ m0 ⟨0, H3, I4, st4, nfp, w0⟩
    rintro n s5 ⟨i, H5, I5, st5, n5, w5⟩
    rcases turn i n H5 w5 with ⟨stop, qq⟩ | ⟨go, N1, hN1, step⟩
    · refine thnF (T.done (X.blk s3 H3 scope ce fp) rfl rfl rfl hc i [] s5 _ H5 (fun _ _ => False) I5 (ok5 I5 n5) st5 stop) fun r s6 ⟨hr, I6⟩ => ?_
      subst hr
      have I7 : Inv X pn σ H5 s6 := I3.call' (ch := fp) I6.os I6.base I6.hok I6.bare fun b hb => ⟨(f3 b hb).1.2.2.2.1, (f3 b hb).1.2.1, (f3 b hb).1.2.2.2.2.1, (f3 b hb).1.2.2.2.2.2⟩
      have nC : H5 C = none := by
        have z : H5 ce.locals = none := I6.free
        rw [cL] at z
        exact z
      obtain ⟨mm, hn, _⟩ := I6.loc
      have hn : s6.heap.Ns ce.locals mm := hn
      rw [cL] at hn
      refine ⟨mm, hn, fun hh sb => ?_⟩
      obtain ⟨g0, g1, g2, g3, g4, g5⟩ := I3.fpOk (Nat.le_of_eq hC) nC
      exact ⟨.ref D, H5, I7.turned (t' := s6.toks) (fun b o hb e => (sb.2 b hb).trans e) g0 g1 g3 g4 g5, rfl, qq⟩
    · refine thnF (T.item (X.blk s3 H3 scope ce fp) rfl rfl rfl hc i [] s5 _ H5 (fun _ _ => False) I5 (ok5 I5 n5) st5 go) fun r s6 ⟨u, hr, h6⟩ => ?_
      subst hr
      refine thnF h6 fun _ s7 ⟨x, H7, I7, r7, y7, st7, n7⟩ => ?_
      have I7' := I7.pinned (ok5 I7 n7) (T.obj _ _ st7)
      refine thnF (pg.run _ s7 _ H7 x u _ I7' r7 (step x H7 y7)) fun _ s8 ⟨σ8, H8, I8, hw8, q8⟩ => ?_
      refine thnF (pt.run _ s8 σ8 H8 _ I8 q8) fun b s9 ⟨H9, I9, q9⟩ => ?_
      have back : ∀ {us : List Nat} {z : Shared} {Hz : Hp}, (∀ j ∈ us, j ∈ own.map (·.2)) → Inv (X.blk s3 H3 scope ce fp) ([] ++ pinsAt fp s7.heap) (wipe σ8 us) Hz z → N1 Hz → ∃ m, m < n ∧ ∃ i Hz, Inv (X.blk s3 H3 scope ce fp) [] (wipe σ (own.map (·.2))) Hz z ∧ tn i z.heap ∧ (∀ b ∈ fp, Hz b = none) ∧ W i m Hz := by
        intro us z Hz hus Iz nx
        obtain ⟨m', hm, w'⟩ := hN1 Hz nx
        have still : ∀ b ∈ fp, ∀ o, s7.heap.get? b = some o → z.heap.get? b = some o ∧ Hz b = none := fun b hb o e =>
          have y := Iz.pin (b, o) (List.mem_append_right _ (List.mem_append_right _ (mem_pinsAt hb e)))
          ⟨y.1, y.2.1⟩
        refine ⟨m', hm, i + 1, Hz, (Iz.unpinned (pins := [])).weak (by rw [← hw8, wipe_length, wipe_length]) (fun j v e => by rw [← hw8] at e; exact wipe_sub hus e), T.keep _ _ _ st7 fun b hb o e => (still b hb o e).1, fun b hb => ?_, w'⟩
        obtain ⟨o, e, _⟩ := T.obj _ _ st7 b hb
        exact (still b hb o e).2
      cases b with
      | false =>
        rw [if_neg Bool.false_ne_true] at q9 ⊢
        exact back (us := []) (fun j hj => nomatch hj) I9 q9
      | true =>
        rw [if_pos rfl] at q9 ⊢
        exact wpAny_bind (thnF (pb.run _ s9 σ8 H9 N1 I9 q9) fun _ s10 ⟨H10, I10, nx⟩ => wpAny_pure ⟨rfl, back hv I10 nx⟩)
  exact codeAny_compStart_list lp (T.self X.A 0 _ _ _ st4 lp)
end
end Ow
/-! Three clauses, by values. -/
namespace Ow
open PySem PySem.Spec PyProof.Rows L2
/-- the evaluator's turn behind the tests -/
abbrev FrF := Envr → List D → Store → Option (List D × Store)
def BdOk (wd : World) (K : PySem.W.Frag) (p : Addr) (mu : List Addr) (fr : FrF) (vs : List Nat) (bd : BT) : Prop :=
  ∀ (rho1 : List Addr) (Hs : Hp) (rho' : List Addr) (H : Hp) (st : Store) (acc acc' : List D) (s' : Store) (env : Envr) (σ : L2.St) (Nx : Hp → Prop), Mk wd K p mu rho1 Hs rho' H st acc → EnvR K mu rho' H env (wipe σ vs) → EnvR K mu rho' H env σ → fr env acc st = some (acc', s') →
    (∀ rho'' H'', Mk wd K p mu rho1 Hs rho'' H'' s' acc' → Nx H'') → bd σ H Nx
def pushF (fe : EvF) : FrF := fun env acc s => match fe env s with
  | some (d, s3) => if acc.length < SZ then some (acc ++ [d], s3) else none
  | none => none
def deepF (t : Tg) (fi : EvI) (fc : EvB) (fr : FrF) : FrF := fun env acc s => clsF fi (moreF t fc fr) env env acc s
section
variable {wd : World} {K : PySem.W.Frag} {p : Addr} {mu : List Addr}
theorem bd_push (hp : p ∈ mu) {fe : EvF} : BdOk wd K p mu (pushF fe) [] (tPush (RE wd K fe) p) := by
  intro rho1 Hs rho' H st acc acc' s' env σ Nx A _ E e nx
  unfold pushF at e
  split at e
  · rename_i d s3 ee
    split at e
    · rename_i hl
      cases e
      refine ⟨mu, rho', env, st, A.S, E, d, _, ee, fun r4 H4 y l4 S4 R4 => ?_⟩
      obtain ⟨accv, h1, h2, h3⟩ := (A.le hp l4 S4).push hp R4
      exact ⟨accv, h1, by rw [h2, ← SZ_line]; exact hl, nx _ _ h3⟩
    · cases e
  · cases e
/-- one clause about another's work: from the state that its start leaves -/
theorem turn_body (hp : p ∈ mu) {t : Tg} {fc : EvB} {fr : FrF} {v2 vv : List Nat} {bd : BT} (hb : BdOk wd K p mu fr v2 bd) (h1 : ∀ j ∈ tgS t, j ∈ vv) (h2 : ∀ j ∈ v2, j ∈ vv) (hd : ∀ j ∈ v2, j ∉ tgS t)
    {rho1 rho' : List Addr} {Hs H : Hp} {st s' : Store} {acc acc' : List D} {x : D} {v : V} {env : Envr} {σ : L2.St} (A : Mk wd K p mu rho1 Hs rho' H st acc) (r : Rl K mu rho' H x v) (E : EnvR K mu rho' H env (wipe σ vv)) (e : moreF t fc fr env x acc st = some (acc', s')) {Nx : Hp → Prop}
    (nx : ∀ rho'' H'', Mk wd K p mu rho1 Hs rho'' H'' s' acc' → Nx H'') :
    RG wd K t v (wipe σ vv) H fun σ2 H2 => wipe σ2 vv = wipe σ vv ∧ RT wd K fc σ2 H2 fun b H3 => if b = true then bd σ2 H3 Nx else Nx H3 := by
  unfold moreF at e
  split at e
  · rename_i env1 eb
    refine ⟨mu, rho', st, wipeE env (tgS t), x, env1, A.S, E.wipeL _, r, eb, fun σ2 E2 sb => ⟨by rw [sb.wipe h1, wipe_idem], ?_⟩⟩
    have E3 : EnvR K mu rho' H env1 (wipe σ2 v2) := by
      refine ⟨E2.1.trans (wipe_length _ _).symm, fun i d hi => ?_⟩
      obtain ⟨y, e1, e2⟩ := E2.2 i d hi
      by_cases hm : i ∈ v2
      · have z := sb.2 i (hd i hm)
        rw [e1, wipe_get] at z
        split at z
        · cases z
        · rename_i hn
          exact absurd ⟨h2 i hm, by
            have hlt : i < σ2.length := by
              rcases Nat.lt_or_ge i σ2.length with q | q
              · exact q
              · rw [List.getElem?_eq_none q] at e1; cases e1
            rw [sb.1, wipe_length] at hlt
            exact hlt⟩ hn
      · exact ⟨y, by rw [wipe_out hm]; exact e1, e2⟩
    split at e
    · rename_i s2 ec
      refine ⟨mu, rho', env1, st, true, s2, A.S, E2, ec, fun r3 H3 l3 S3 => ?_⟩
      dsimp only
      rw [if_pos rfl]
      exact hb _ _ _ _ _ _ _ _ _ _ _ (A.le hp l3 S3) (E3.le l3) (E2.le l3) e nx
    · rename_i s2 ec
      cases e
      refine ⟨mu, rho', env1, st, false, _, A.S, E2, ec, fun r3 H3 l3 S3 => ?_⟩
      dsimp only
      rw [if_neg Bool.false_ne_true]
      exact nx r3 H3 (A.le hp l3 S3)
    · cases e
  · cases e
theorem bd_deep (hp : p ∈ mu) {t : Tg} {fi : EvI} {fc : EvB} {fr : FrF} {v2 vv : List Nat} {bd : BT} (hb : BdOk wd K p mu fr v2 bd) (h1 : ∀ j ∈ tgS t, j ∈ vv) (h2 : ∀ j ∈ v2, j ∈ vv) (hd : ∀ j ∈ v2, j ∉ tgS t) :
    BdOk wd K p mu (deepF t fi fc fr) vv (tDeep (RI wd K fi) (RG wd K t) (RT wd K fc) bd vv) := by
  intro rho1 Hs rho' H st acc acc' s' env σ Nx A E0 E e nx
  unfold deepF clsF at e
  split at e
  · rename_i src s3 ei
    refine ⟨mu, rho', env, st, src, s3, A.S, E, ei, fun r4 H4 J l4 S4 w => ?_⟩
    have A4 := A.le hp l4 S4
    refine comp_loop (End := Nx) hp w A4.fresh e (fun rho' H B => nx rho' H (A4.base B)) fun x v rho5 H5 st5 acc5 acc6 s6 N1 B r5 ef nx1 => ?_
    have E5 : EnvR K mu rho5 H5 env (wipe σ vv) := (E0.le l4).lm (B.l.mono fun a ha => by rw [List.mem_singleton.mp ha]; exact hp)
    exact turn_body hp hb h1 h2 hd B r5 E5 ef nx1
  · cases e
end
def lcNF (m : Bool) (own : List Nat) (t : Tg) (fi : EvI) (fc : EvB) (fr : FrF) : EvF := fun env st =>
  match clsF fi (moreF t fc fr) env (wipeE env own) [] st with
  | some (ds, s1) => mkL m ds s1
  | none => none
theorem lcN_t {wd : World} {K : PySem.W.Frag} {m : Bool} {own : List Nat} {t : Tg} {fi : EvI} {fc : EvB} {fr : FrF} {v2 : List Nat} {bd : Addr → BT} (hb : ∀ p mu, p ∈ mu → BdOk wd K p mu fr v2 (bd p)) (hv : ∀ j ∈ tgS t, j ∈ own) (h2 : ∀ j ∈ v2, j ∈ own) (hd : ∀ j ∈ v2, j ∉ tgS t)
    {σ : L2.St} {H : Hp} {Q : VK} (h : RE wd K (lcNF m own t fi fc fr) σ H Q) : tTop (RI wd K fi) (RG wd K t) (RT wd K fc) bd own σ H Q := by
  obtain ⟨mu, rho, env, st, S, E, d, s2, e, q⟩ := h
  unfold lcNF at e
  split at e
  · rename_i ds sE ec
    unfold clsF at ec
    split at ec
    · rename_i src s1 ei
      refine ⟨mu, rho, env, st, src, s1, S, E, ei, fun rho1 H1 J l1 S1 w p n => ?_⟩
      have hmu : ∀ b ∈ mu, H1 b ≠ none := fun b hb => (S1.mus b hb).1
      have hp : p ∈ p :: mu := List.mem_cons_self ..
      refine comp_loop (End := fun H => Q (.ref p) H) hp (w.pend n) (mk_start S1 n) ec (fun rho' H A => ?_) fun x v rho' H st' acc acc' s' Nx A r ef nx => ?_
      · obtain ⟨accv, k1, k2⟩ := A.cur
        exact Fin.endLst hmu n A.S A.l (S1.notRho n) k1 k2 e (q.le l1)
      · have E1 : EnvR K (p :: mu) rho' H (wipeE env own) (wipe σ own) := ((((E.le l1).wipeB own).pend n).lm (A.l.mono fun a ha => by rw [List.mem_singleton.mp ha]; exact hp))
        exact turn_body hp (hb p _ hp) hv h2 hd A r E1 ef nx
    · cases ec
  · cases e
section
variable {X : Cx}
theorem re_lc3 {elt tg iter tg1 iter1 tg2 iter2 : Expr} {ifs ifs1 ifs2 : List Expr} {scope : Scope} {own : List (Str × Nat)} {pos : Pos} {m : Bool} {t t1 t2 : Tg} {fi fi1 fi2 : EvI} {fc fc1 fc2 : EvB} {fe : EvF} (hc : X.calm = true) (hN : X.N.Nodup)
    (hi : PI X tg iter (RI X.w X.K fi)) (ok : BlkOk X.N X.env.scope scope own)
    (hg : ∀ (s : Shared) (H : Hp) (C : Addr) (cl : List (Str × Addr)) (fp : List Addr), PG (X.blk s H scope (compEnvC scope cl C X.env) fp) tg (RG X.w X.K t))
    (ht : ∀ (s : Shared) (H : Hp) (C : Addr) (cl : List (Str × Addr)) (fp : List Addr), PTs (X.blk s H scope (compEnvC scope cl C X.env) fp) ifs (RT X.w X.K fc))
    (hi1 : ∀ (s : Shared) (H : Hp) (C : Addr) (cl : List (Str × Addr)) (fp : List Addr), PI (X.blk s H scope (compEnvC scope cl C X.env) fp) tg1 iter1 (RI X.w X.K fi1))
    (hg1 : ∀ (s : Shared) (H : Hp) (C : Addr) (cl : List (Str × Addr)) (fp : List Addr), PG (X.blk s H scope (compEnvC scope cl C X.env) fp) tg1 (RG X.w X.K t1))
    (ht1 : ∀ (s : Shared) (H : Hp) (C : Addr) (cl : List (Str × Addr)) (fp : List Addr), PTs (X.blk s H scope (compEnvC scope cl C X.env) fp) ifs1 (RT X.w X.K fc1))
    (hi2 : ∀ (s : Shared) (H : Hp) (C : Addr) (cl : List (Str × Addr)) (fp : List Addr), PI (X.blk s H scope (compEnvC scope cl C X.env) fp) tg2 iter2 (RI X.w X.K fi2))
    (hg2 : ∀ (s : Shared) (H : Hp) (C : Addr) (cl : List (Str × Addr)) (fp : List Addr), PG (X.blk s H scope (compEnvC scope cl C X.env) fp) tg2 (RG X.w X.K t2))
    (ht2 : ∀ (s : Shared) (H : Hp) (C : Addr) (cl : List (Str × Addr)) (fp : List Addr), PTs (X.blk s H scope (compEnvC scope cl C X.env) fp) ifs2 (RT X.w X.K fc2))
    (he : ∀ (s : Shared) (H : Hp) (C : Addr) (cl : List (Str × Addr)) (fp : List Addr), PE (X.blk s H scope (compEnvC scope cl C X.env) fp) elt (RE X.w X.K fe))
    (hs : ∀ x, foldedSetIterable iter X.env x = pure x) (hs1 : ∀ env x, foldedSetIterable iter1 env x = pure x) (hs2 : ∀ env x, foldedSetIterable iter2 env x = pure x) (hv : ∀ j ∈ tgS t, j ∈ own.map (·.2)) (hv1 : ∀ j ∈ tgS t1, j ∈ own.map (·.2)) (hv2 : ∀ j ∈ tgS t2, j ∈ own.map (·.2))
    (d1 : ∀ j ∈ tgS t1, j ∉ tgS t) (d2 : ∀ j ∈ tgS t2, j ∉ tgS t) (d3 : ∀ j ∈ tgS t2, j ∉ tgS t1) :
    PE X (.ListComp elt [⟨tg, iter, ifs, 0⟩, ⟨tg1, iter1, ifs1, 0⟩, ⟨tg2, iter2, ifs2, 0⟩] scope pos) (RE X.w X.K (lcNF m (own.map (·.2)) t fi fc (deepF t1 fi1 fc1 (deepF t2 fi2 fc2 (pushF fe))))) := by
  have hm : ∀ j ∈ tgS t1 ++ (tgS t2 ++ []), j ∈ own.map (·.2) := fun j hj => by
    rcases List.mem_append.mp hj with h | h
    · exact hv1 j h
    · exact hv2 j (by simpa using h)
  refine PE.imp (pe_top (m := fun D ce => deepG iter1 (three elt tg iter tg1 iter1 tg2 iter2 ifs ifs1 ifs2 scope pos) 1 (.ref D) ce) (vb := tgS t1 ++ (tgS t2 ++ []))
    (bd := fun D => tDeep (RI X.w X.K fi1) (RG X.w X.K t1) (RT X.w X.K fc1) (tDeep (RI X.w X.K fi2) (RG X.w X.K t2) (RT X.w X.K fc2) (tPush (RE X.w X.K fe) D) (tgS t2 ++ [])) (tgS t1 ++ (tgS t2 ++ [])))
    hc hN hi ok hm hg ht (fun s H C cl fp D => ?_) hs (fun D ce itv => turn3_0 ..)) fun σ H Q h => ?_
  · exact pb_deep hc (hi1 s H C cl fp) (hg1 s H C cl fp) (ht1 s H C cl fp) (pb_deep hc (hi2 s H C cl fp) (hg2 s H C cl fp) (ht2 s H C cl fp) (pb_push (he s H C cl fp)) hs2 rfl (fun itv => turn3_2 ..)) hs1 rfl (fun itv => turn3_1 ..)
  · refine lcN_t (v2 := tgS t1 ++ (tgS t2 ++ [])) (fun p mu hp => bd_deep hp (bd_deep hp (bd_push hp) (fun j hj => by simp [hj]) (fun j hj => nomatch hj) (fun j hj => nomatch hj)) (fun j hj => by simp [hj]) (fun j hj => by simp at hj; simp [hj]) (fun j hj => d3 j (by simpa using hj))) hv hm (fun j hj => ?_) h
    rcases List.mem_append.mp hj with z | z
    · exact d1 j z
    · exact d2 j (by simpa using z)
end
end Ow
/-! The tree that fits is what the expression computes: the proof. -/
namespace Ow
open PySem PySem.Spec PyProof.Rows L2

def evcF (gls : Nat → D) (cal : Cal) (o : Exo) : EvB := fun env st => evc gls cal o env st
section
variable {gls : Nat → D} {cal : Cal}
abbrev OkE (gls : Nat → D) (cal : Cal) (x : Ex) : Prop := ∀ (t : Bool) (c : Ctx) (X : Cx) (e : Expr), Gd gls cal X c → chk t c x e = true → (t = false → PE X e (RE X.w X.K (ev gls cal x))) ∧ (t = true → PT X e (RT X.w X.K (tst (ev gls cal x))))
abbrev OkO (gls : Nat → D) (cal : Cal) (x : Exo) : Prop := ∀ (c : Ctx) (X : Cx), Gd gls cal X c → (∀ o, chkO c x o = true → PO X o (RO X.w X.K (evo gls cal x))) ∧ (∀ vs, chkT c x vs = true → PTs X vs (RT X.w X.K (evc gls cal x)))
abbrev OkL (gls : Nat → D) (cal : Cal) (x : Exs) : Prop := ∀ (c : Ctx) (X : Cx) (vs : List Expr), Gd gls cal X c → chkL c x vs = true → PA X vs (RA X.w X.K (evs gls cal x))
abbrev OkB (gls : Nat → D) (cal : Cal) (x : Exs) : Prop := ∀ (t : Bool) (c : Ctx) (X : Cx) (vs : List Expr) (pos : Pos), Gd gls cal X c → chkB t c x vs = true → vs ≠ [] ∧
  (t = false → PE X (.BoolOp .And vs pos) (RE X.w X.K (evAnd gls cal x)) ∧ PE X (.BoolOp .Or vs pos) (RE X.w X.K (evOr gls cal x))) ∧
  (t = true → PW X (.BoolOp .And vs pos) (RT X.w X.K (tst (evAnd gls cal x))) ∧ PW X (.BoolOp .Or vs pos) (RT X.w X.K (tst (evOr gls cal x))))
abbrev OkI (gls : Nat → D) (cal : Cal) (x : It) : Prop := ∀ (c : Ctx) (X : Cx) (tg e : Expr), Gd gls cal X c → chkI c x tg e = true → PI X tg e (RI X.w X.K (evIt gls cal x))
def OkK (gls : Nat → D) (cal : Cal) : Cls → Prop
  | .last t it cd => OkI gls cal it ∧ OkO gls cal cd
  | .more t it cd r => OkI gls cal it ∧ OkO gls cal cd ∧ OkK gls cal r
theorem PE.one {X : Cx} {a : Expr} {op : BoolOp} {pos : Pos} {f : EvF} (h : PE X a (RE X.w X.K f)) : PE X (.BoolOp op [a] pos) (RE X.w X.K f) := pe_one h
theorem re_rev {X : Cx} {a : Expr} {k : Nat} {p1 p2 p3 pos : Pos} {m : Bool} {fa : EvF} (ha : PE X a (RE X.w X.K fa)) :
    PE X (.Subscript a (.Slice none none (some (.UnaryOp .USub (.Constant (.int 1) k p1) p2)) p3) pos) (RE X.w X.K fun env st => match fa env st with
      | some (x, s1) => revD m x s1
      | none => none) :=
  PE.imp (pe_revA ha) fun σ H Q ⟨mu, rho, env, st, S, E, d, s', e, q⟩ => by
    dsimp only at e
    split at e
    · rename_i x s1 ea
      refine ⟨mu, rho, env, st, S, E, x, s1, ea, fun r1 H1 v1 l1 S1 R1 => ?_⟩
      unfold revD at e
      split at e
      · cases e
        obtain ⟨a, vs, rfl, hp, hr⟩ := R1.tup_inv
        exact ⟨a, vs, rfl, .inr ⟨hp.seq, Fin.newTup S1 hr.reverse (q.le l1)⟩⟩
      · split at e
        · rename_i xs ex
          obtain ⟨p, vs, rfl, hp, hr⟩ := R1.lstOf_inv S1 ex
          exact ⟨p, vs, rfl, .inl ⟨.inl hp, Fin.newLst S1 hr.reverse e (q.le l1)⟩⟩
        · cases e
    · cases e
theorem evCls_last (fe : EvF) (t : Tg) (it : It) (cd : Exo) (envI env : Envr) (acc : List D) (st : Store) :
    evCls gls cal fe (.last t it cd) envI env acc st = clsF (evIt gls cal it) (lastF t (evc gls cal cd) fe) envI env acc st := by
  rw [evCls] <;> rfl
theorem evCls_more (fe : EvF) (t : Tg) (it : It) (cd : Exo) (r : Cls) (envI env : Envr) (acc : List D) (st : Store) :
    evCls gls cal fe (.more t it cd r) envI env acc st = clsF (evIt gls cal it) (moreF t (evc gls cal cd) (fun env1 acc s => evCls gls cal fe r env1 env1 acc s)) envI env acc st := by
  rw [evCls] <;> rfl
theorem evAnd_one (s : Bool) (x : Ex) : evAnd gls cal (.cons s x .nil) = ev gls cal x := by
  funext env st
  rw [evAnd]
  cases ev gls cal x env st with
  | none => rfl
  | some p => rfl
theorem evOr_one (s : Bool) (x : Ex) : evOr gls cal (.cons s x .nil) = ev gls cal x := by
  funext env st
  rw [evOr]
  cases ev gls cal x env st with
  | none => rfl
  | some p => rfl
theorem evAnd_more (s s2 : Bool) (x x2 : Ex) (r : Exs) : evAnd gls cal (.cons s x (.cons s2 x2 r)) = fun env st => match ev gls cal x env st with
      | some (y, s1) => match truthy s1 y with
        | some true => evAnd gls cal (.cons s2 x2 r) env s1
        | some false => some (y, s1)
        | none => none
      | none => none := by
  funext env st
  rw [evAnd] <;> rfl
theorem evOr_more (s s2 : Bool) (x x2 : Ex) (r : Exs) : evOr gls cal (.cons s x (.cons s2 x2 r)) = fun env st => match ev gls cal x env st with
      | some (y, s1) => match truthy s1 y with
        | some false => evOr gls cal (.cons s2 x2 r) env s1
        | some true => some (y, s1)
        | none => none
      | none => none := by
  funext env st
  rw [evOr] <;> rfl
theorem key_ok {gls : Nat → D} {cal : Cal} {X : Cx} {c : Ctx} (g : Gd gls cal X c) {f : Nat} {kx : Expr} (h : keyB c f kx = true) : KeyX X (decide (f = 0)) (gls 999) kx := by
  unfold keyB at h
  cases f with
  | zero =>
    dsimp only at h
    obtain ⟨h0, h⟩ := and_l h
    obtain ⟨P, cd, k1, k2, k3, k4⟩ := g.lam h0
    split at h
    · obtain ⟨h, h8⟩ := and_l h
      obtain ⟨h, h7⟩ := and_l h
      obtain ⟨h, h6⟩ := and_l h
      obtain ⟨h, h5⟩ := and_l h
      obtain ⟨h, h4⟩ := and_l h
      obtain ⟨h, h3⟩ := and_l h
      obtain ⟨h1, h2⟩ := and_l h
      have e1 := of_decide_eq_true h1
      have e2 := of_decide_eq_true h2
      have e3 := of_decide_eq_true h3
      have e4 := of_decide_eq_true h4
      subst e1 e2 e3 e4
      refine keyX_lam g.dp (g.blt ("len" : Str) (by decide +kernel)) k2 k3 k4 k1 ?_ (by simpa using h6) (by simpa using h7) (of_decide_eq_true h8)
      unfold isFun at h5
      split at h5
      · assumption
      · cases h5
    · cases h
  | succ f =>
    dsimp only at h
    split at h
    · rename_i y p
      obtain ⟨h1, h2⟩ := and_l h
      have h1' : c.kfn (f + 1) = some y := by
        unfold nameIs at h1
        split at h1
        · rename_i z e
          rw [e, of_decide_eq_true h1]
        · cases h1
      obtain ⟨k1, fa, k2, k3⟩ := g.kfs _ _ h1'
      exact keyX_def (g.glob h2) k2 k1 g.dp (g.blt ("len" : Str) (by decide +kernel)) k3
    · cases h
mutual
theorem chk_ok : (x : Ex) → OkE gls cal x
  | .var i => fun t c X e g h => by
    unfold chk at h
    split at h
    · exact both2 (fun env st => by rw [ev] <;> rfl) (both (fun _ => rfl) (var_ok g h))
    · cases h
  | .cst d => fun t c X e g h => by
    unfold chk at h
    split at h
    · exact both2 (fun env st => by rw [ev] <;> rfl) (both (fun _ => rfl) (cst_ok h))
    · cases h
  | .gl k => fun t c X e g h => by
    unfold chk at h
    split at h
    · exact both2 (fun env st => by rw [ev] <;> rfl) (both (fun _ => rfl) (gl_ok g h))
    · cases h
  | .bin m o a b => fun t c X e g h => by
    unfold chk at h
    split at h
    · obtain ⟨h, h3⟩ := and_l h
      obtain ⟨h1, h2⟩ := and_l h
      rw [opB_eq h1]
      exact both2 (fun env st => by rw [ev] <;> rfl) (both (fun _ => rfl) (re_bin (m := m) ((chk_ok a false c X _ g h2).1 rfl) ((chk_ok b false c X _ g h3).1 rfl)))
    · cases h
  | .neg a => fun t c X e g h => by
    unfold chk at h
    split at h
    · exact both2 (fun env st => by rw [ev] <;> rfl) (both (fun _ => rfl) (re_neg ((chk_ok a false c X _ g h).1 rfl)))
    · cases h
  | .cmp o a b => fun t c X e g h => by
    unfold chk at h
    split at h
    · obtain ⟨h, h4⟩ := and_l h
      obtain ⟨h, h3⟩ := and_l h
      obtain ⟨h1, h2⟩ := and_l h
      rw [copB_eq h1]
      have ha := (chk_ok a false c X _ g h3).1 rfl
      have hb := (chk_ok b false c X _ g h4).1 rfl
      have hm := set_no (op := copOf o) (by simpa using h2)
      exact both2 (fun env st => by rw [ev] <;> rfl) ⟨fun _ => re_cmp g.un hm ha hb, fun _ => rt_cmp g.un hm ha hb⟩
    · cases h
  | .chain o p a b d => fun t c X e g h => by
    unfold chk at h
    split at h
    · obtain ⟨h, h7⟩ := and_l h
      obtain ⟨h, h6⟩ := and_l h
      obtain ⟨h, h5⟩ := and_l h
      obtain ⟨h, h4⟩ := and_l h
      obtain ⟨h2, h3⟩ := and_l h
      rw [copB_eq h2, copB_eq h3]
      have hm := set_no (op := copOf p) (by simpa using h4)
      have ka := (chk_ok a false c X _ g h5).1 rfl
      have kb := (chk_ok b false c X _ g h6).1 rfl
      have kd := (chk_ok d false c X _ g h7).1 rfl
      exact both2 (fun env st => by rw [ev] <;> rfl) ⟨fun _ => re_chain g.un hm ka kb kd, fun _ => rt_chain g.un hm ka kb kd⟩
    · cases h
  | .and es => fun t c X e g h => by
    unfold chk at h
    split at h
    · obtain ⟨_, h2, h3⟩ := chkB_ok es t c X _ _ g h
      exact both2 (fun env st => by rw [ev] <;> rfl) ⟨fun z => (h2 z).1, fun z => (h3 z).1.pt⟩
    · cases h
  | .or es => fun t c X e g h => by
    unfold chk at h
    split at h
    · obtain ⟨_, h2, h3⟩ := chkB_ok es t c X _ _ g h
      exact both2 (fun env st => by rw [ev] <;> rfl) ⟨fun z => (h2 z).2, fun z => (h3 z).2.pt⟩
    · cases h
  | .not a => fun t c X e g h => by
    unfold chk at h
    split at h
    · have ha := chk_ok a t c X _ g h
      exact both2 (fun env st => by rw [ev] <;> rfl) ⟨fun z => re_not (ha.1 z), fun z => rt_not (ha.2 z)⟩
    · cases h
  | .ite a b d => fun t c X e g h => by
    unfold chk at h
    split at h
    · obtain ⟨h, h4⟩ := and_l h
      obtain ⟨h, h3⟩ := and_l h
      obtain ⟨h1, h2⟩ := and_l h
      refine ⟨fun _ => PE.cong (re_ite ((chk_ok a true c X _ g h2).2 rfl) ((chk_ok b false c X _ g h3).1 rfl) ((chk_ok d false c X _ g h4).1 rfl)) fun env st => by rw [ev] <;> rfl, fun z => ?_⟩
      rw [z] at h1
      cases h1
    · cases h
  | .tup es => fun t c X e g h => by
    unfold chk at h
    split at h
    · exact both2 (fun env st => by rw [ev] <;> rfl) (both (fun _ => rfl) (re_tup (chkL_ok es c X _ g h)))
    · cases h
  | .lst m es => fun t c X e g h => by
    unfold chk at h
    split at h
    · exact both2 (fun env st => by rw [ev] <;> rfl) (both (fun _ => rfl) (re_lst (m := m) (chkL_ok es c X _ g h)))
    · cases h
  | .ix a b => fun t c X e g h => by
    unfold chk at h
    split at h
    · obtain ⟨h, h3⟩ := and_l h
      obtain ⟨h1, h2⟩ := and_l h
      exact both2 (fun env st => by rw [ev] <;> rfl) (both (fun _ => rfl) (re_ix g.un (ix_no (by simpa using h1)) ((chk_ok a false c X _ g h2).1 rfl) ((chk_ok b false c X _ g h3).1 rfl)))
    · cases h
  | .sl m a lo hi => fun t c X e g h => by
    unfold chk at h
    split at h
    · obtain ⟨h, h3⟩ := and_l h
      obtain ⟨h1, h2⟩ := and_l h
      exact both2 (fun env st => by rw [ev] <;> rfl) (both (fun _ => rfl) (re_sl (m := m) ((chk_ok a false c X _ g h1).1 rfl) ((chkO_ok lo c X g).1 _ h2) ((chkO_ok hi c X g).1 _ h3)))
    · cases h
  | .rev m a => fun t c X e g h => by
    unfold chk at h
    split at h
    · obtain ⟨h1, h2⟩ := and_l h
      obtain ⟨k, p1, p2, p3, ee⟩ := revB_eq h1
      rw [ee]
      exact both2 (fun env st => by rw [ev] <;> rfl) (both (fun _ => rfl) (re_rev (m := m) ((chk_ok a false c X _ g h2).1 rfl)))
    · cases h
  | .call f es => fun t c X e g h => by
    unfold chk at h
    split at h
    · obtain ⟨h, h4⟩ := and_l h
      obtain ⟨h, h3⟩ := and_l h
      obtain ⟨h1, h2⟩ := and_l h
      refine both2 (fun env st => by rw [ev] <;> rfl) (both (fun _ => rfl) (re_call g (nameIs_eq h1) h2 (chkL_ok es c X _ g h4) h3 fun z env st => ?_))
      subst z
      cases es with
      | nil => rw [evs]
      | cons s x r => unfold chkL at h4; cases h4
    · cases h
  | .bi m b es => fun t c X e g h => by
    unfold chk at h
    split at h
    · rename_i x p1 vs p2
      obtain ⟨h, h5⟩ := and_l h
      obtain ⟨h, h4⟩ := and_l h
      obtain ⟨h, h3⟩ := and_l h
      obtain ⟨h1, h2⟩ := and_l h
      have ex := of_decide_eq_true h1
      subst ex
      cases vs with
      | nil => cases h3
      | cons v vs =>
        rw [List.all_cons] at h4
        obtain ⟨h6, h7⟩ := and_l h4
        exact both2 (fun env st => by rw [ev] <;> rfl) (both (fun _ => rfl) (re_bi (m := m) b g.calm (g.glob h2) (bi_blt g b) (chkL_ok es c X _ g h5) h6 h7))
    · cases h
  | .isi a ts => fun t c X e g h => by
    unfold chk at h
    split at h
    · obtain ⟨h, h5⟩ := and_l h
      obtain ⟨h, h4⟩ := and_l h
      obtain ⟨h, h3⟩ := and_l h
      obtain ⟨h1, h2⟩ := and_l h
      have ex := of_decide_eq_true h1
      subst ex
      have ha := (chk_ok a false c X _ g h4).1 rfl
      unfold tysB at h5
      split at h5
      · split at h5
        · obtain ⟨k1, k2⟩ := and_l h5
          have ex := of_decide_eq_true k1
          subst ex
          exact both2 (fun env st => by rw [ev] <;> rfl) (both (fun _ => rfl) (re_isi1 _ (g.glob h2) (i_blt g) (g.glob k2) (ty_blt g _) ha h3))
        · cases h5
      · obtain ⟨h5, k3⟩ := and_l h5
        obtain ⟨k1, k2⟩ := and_l h5
        obtain ⟨ps, rfl, rfl, k4⟩ := tyList_ok g k1
        refine both2 (fun env st => by rw [ev] <;> rfl) (both (fun _ => rfl) (re_isiT ps (g.glob h2) (i_blt g) (fun p hp => ⟨k4 p hp, ty_blt g _⟩) ?_ ?_ ha h3))
        · have := of_decide_eq_true k3
          rw [List.length_map] at this
          exact this
        · intro z
          rw [z] at k2
          cases k2
      · cases h5
    · cases h
  | .sset m a => fun t c X e g h => by
    unfold chk at h
    split at h
    · obtain ⟨h, h6⟩ := and_l h
      obtain ⟨h, h5⟩ := and_l h
      obtain ⟨h, h4⟩ := and_l h
      obtain ⟨h, h3⟩ := and_l h
      obtain ⟨h1, h2⟩ := and_l h
      have e1 := of_decide_eq_true h1
      have e2 := of_decide_eq_true h2
      subst e1 e2
      exact both2 (fun env st => by rw [ev] <;> rfl) (both (fun _ => rfl) (re_sset (m := m) g.calm g.un (g.glob h3) (g.blt _ (by decide +kernel)) (g.glob h4) (g.blt _ (by decide +kernel)) ((chk_ok a false c X _ g h6).1 rfl) (star_no h5)))
    · cases h
  | .dnew => fun t c X e g h => by
    unfold chk at h
    split at h
    · exact both2 (fun env st => by rw [ev] <;> rfl) (both (fun _ => rfl) re_dnew)
    · cases h
  | .done _ _ => fun t c X e g h => by
    unfold chk at h
    cases h
  | .dof a => fun t c X e g h => by
    unfold chk at h
    split at h
    · obtain ⟨h, h4⟩ := and_l h
      obtain ⟨h, h3⟩ := and_l h
      obtain ⟨h1, h2⟩ := and_l h
      have e1 := of_decide_eq_true h1
      subst e1
      exact both2 (fun env st => by rw [ev] <;> rfl) (both (fun _ => rfl) (re_dof g.calm (g.glob h2) (g.blt _ (by decide +kernel)) ((chk_ok a false c X _ g h4).1 rfl) h3))
    · cases h
  | .dgt a b d => fun t c X e g h => by
    unfold chk at h
    split at h
    · obtain ⟨h, h7⟩ := and_l h
      obtain ⟨h, h6⟩ := and_l h
      obtain ⟨h, h5⟩ := and_l h
      obtain ⟨h, h4⟩ := and_l h
      obtain ⟨h, h3⟩ := and_l h
      obtain ⟨h1, h2⟩ := and_l h
      have e1 := of_decide_eq_true h1
      subst e1
      exact both2 (fun env st => by rw [ev] <;> rfl) (both (fun _ => rfl) (re_dgt g.un ((chk_ok a false c X _ g h5).1 rfl) ((chk_ok b false c X _ g h6).1 rfl) ((chk_ok d false c X _ g h7).1 rfl) h2 h3 h4))
    · cases h
  | .skey m f a => fun t c X e g h => by
    unfold chk at h
    split at h
    · obtain ⟨h, h6⟩ := and_l h
      obtain ⟨h, h5⟩ := and_l h
      obtain ⟨h, h4⟩ := and_l h
      obtain ⟨h, h3⟩ := and_l h
      obtain ⟨h1, h2⟩ := and_l h
      have e1 := of_decide_eq_true h1
      have e2 := of_decide_eq_true h2
      subst e1 e2
      exact both2 (fun env st => by rw [ev] <;> rfl) (both (fun _ => rfl) (re_skey (b := decide (f = 0)) (m := m) (tabD := gls 999) g.un (g.glob h3) (g.blt ("sorted" : Str) (by decide +kernel)) (key_ok g h5) ((chk_ok a false c X _ g h6).1 rfl) (star_no h4)))
    · cases h
  | .lc m own a cls => fun t c X e g h => by
    unfold chk at h
    split at h
    · rename_i elt gs scope p
      obtain ⟨h, h4⟩ := and_l h
      obtain ⟨h, h3⟩ := and_l h
      obtain ⟨h1, h2⟩ := and_l h
      have hk : scope.kind = .function := by
        unfold isFun at h1
        split at h1
        · assumption
        · cases h1
      have ok : BlkOk X.N X.env.scope scope (ownP c own) := by
        rw [g.N, g.sc]
        exact blkOk_by h2
      have he : ∀ (s : Shared) (H : Hp) (C : Addr) (cl : List (Str × Addr)) (fp : List Addr), PE (X.blk s H scope (compEnvC scope cl C X.env) fp) elt (RE X.w X.K (ev gls cal a)) :=
        fun s H C cl fp => (chk_ok a false (c.blk scope) _ _ (g.blk hk) h4).1 rfl
      have hkk := chkK_ok cls
      cases cls with
      | last t1 it cd =>
        unfold chkK at h3
        split at h3
        · rename_i tg iter ifs aa _
          obtain ⟨h3, k6⟩ := and_l h3
          obtain ⟨h3, k5⟩ := and_l h3
          obtain ⟨h3, k4⟩ := and_l h3
          obtain ⟨h3, k3⟩ := and_l h3
          obtain ⟨k1, k2⟩ := and_l h3
          have ea := of_decide_eq_true k1
          subst ea
          have key := re_lc1 (X := X) (m := m) (pos := p) g.calm g.ndX (hkk.1 c X tg iter g k5) ok (fun s H C cl fp => tg_ok (g.blk hk) k2)
            (fun s H C cl fp => (hkk.2 (c.blk scope) _ (g.blk hk)).2 ifs k6) he (fold_no (by simpa using k4)) (by rw [ownP_map]; exact sub_ok k3)
          refine both2 (fun env st => ?_) (both (fun _ => rfl) key)
          rw [ev, ownP_map]
          unfold lc1F clsF lastF
          rw [evCls] <;> rfl
        · cases h3
      | more t1 it cd r =>
        unfold chkK at h3
        split at h3
        · rename_i tg iter ifs aa gs' _
          obtain ⟨h3, k8⟩ := and_l h3
          obtain ⟨h3, k7⟩ := and_l h3
          obtain ⟨h3, k6⟩ := and_l h3
          obtain ⟨h3, k5⟩ := and_l h3
          obtain ⟨h3, k4⟩ := and_l h3
          obtain ⟨h3, k3⟩ := and_l h3
          obtain ⟨k1, k2⟩ := and_l h3
          have ea := of_decide_eq_true k1
          subst ea
          cases r with
          | more t2 it2 cd2 r2 =>
            cases r2 with
            | more _ _ _ _ => cases k7
            | last t3 it3 cd3 =>
              obtain ⟨k7, x3⟩ := and_l k7
              obtain ⟨x1, x2⟩ := and_l k7
              unfold chkK at k8
              split at k8
              · rename_i tg2 iter2 ifs2 aa2 gs2 _
                obtain ⟨k8, j8⟩ := and_l k8
                obtain ⟨k8, _⟩ := and_l k8
                obtain ⟨k8, j6⟩ := and_l k8
                obtain ⟨k8, j5⟩ := and_l k8
                obtain ⟨k8, j4⟩ := and_l k8
                obtain ⟨k8, j3⟩ := and_l k8
                obtain ⟨j1, j2⟩ := and_l k8
                have ea2 := of_decide_eq_true j1
                subst ea2
                unfold chkK at j8
                split at j8
                · rename_i tg3 iter3 ifs3 aa3 _
                  obtain ⟨j8, i6⟩ := and_l j8
                  obtain ⟨j8, i5⟩ := and_l j8
                  obtain ⟨j8, i4⟩ := and_l j8
                  obtain ⟨j8, i3⟩ := and_l j8
                  obtain ⟨i1, i2⟩ := and_l j8
                  have ea3 := of_decide_eq_true i1
                  subst ea3
                  have key := re_lc3 (X := X) (m := m) (pos := p) g.calm g.ndX (hkk.1 c X tg iter g k5) ok (fun s H C cl fp => tg_ok (g.blk hk) k2) (fun s H C cl fp => (hkk.2.1 (c.blk scope) _ (g.blk hk)).2 ifs k6)
                    (fun s H C cl fp => hkk.2.2.1 (c.blk scope) _ tg2 iter2 (g.blk hk) j5) (fun s H C cl fp => tg_ok (g.blk hk) j2) (fun s H C cl fp => (hkk.2.2.2.1 (c.blk scope) _ (g.blk hk)).2 ifs2 j6)
                    (fun s H C cl fp => hkk.2.2.2.2.1 (c.blk scope) _ tg3 iter3 (g.blk hk) i5) (fun s H C cl fp => tg_ok (g.blk hk) i2) (fun s H C cl fp => (hkk.2.2.2.2.2 (c.blk scope) _ (g.blk hk)).2 ifs3 i6) he
                    (fold_no (by simpa using k4)) (fun env => fold_no (by simpa using j4)) (fun env => fold_no (by simpa using i4)) (by rw [ownP_map]; exact sub_ok k3) (by rw [ownP_map]; exact sub_ok j3) (by rw [ownP_map]; exact sub_ok i3) (dis_ok x1) (dis_ok x2) (dis_ok x3)
                  refine both2 (fun env st => ?_) (both (fun _ => rfl) key)
                  rw [ev, ownP_map]
                  unfold lcNF
                  rw [evCls_more]
                  have hf2 : (fun env1 acc s => evCls gls cal (ev gls cal a) (.last t3 it3 cd3) env1 env1 acc s) = fun env1 acc s => clsF (evIt gls cal it3) (lastF t3 (evc gls cal cd3) (ev gls cal a)) env1 env1 acc s := by
                    funext env1 acc s
                    exact evCls_last ..
                  have hf : (fun env1 acc s => evCls gls cal (ev gls cal a) (.more t2 it2 cd2 (.last t3 it3 cd3)) env1 env1 acc s) = deepF t2 (evIt gls cal it2) (evc gls cal cd2) (deepF t3 (evIt gls cal it3) (evc gls cal cd3) (pushF (ev gls cal a))) := by
                    funext env1 acc s
                    rw [evCls_more, hf2]
                    rfl
                  rw [hf] <;> rfl
                · cases j8
              · cases k8
          | last t2 it2 cd2 =>
            unfold chkK at k8
            split at k8
            · rename_i tg2 iter2 ifs2 aa2 _
              obtain ⟨k8, j6⟩ := and_l k8
              obtain ⟨k8, j5⟩ := and_l k8
              obtain ⟨k8, j4⟩ := and_l k8
              obtain ⟨k8, j3⟩ := and_l k8
              obtain ⟨j1, j2⟩ := and_l k8
              have ea2 := of_decide_eq_true j1
              subst ea2
              have key := re_lc2 (X := X) (m := m) (pos := p) g.calm g.ndX (hkk.1 c X tg iter g k5) ok (fun s H C cl fp => tg_ok (g.blk hk) k2)
                (fun s H C cl fp => (hkk.2.1 (c.blk scope) _ (g.blk hk)).2 ifs k6) (fun s H C cl fp => hkk.2.2.1 (c.blk scope) _ tg2 iter2 (g.blk hk) j5) (fun s H C cl fp => tg_ok (g.blk hk) j2)
                (fun s H C cl fp => (hkk.2.2.2 (c.blk scope) _ (g.blk hk)).2 ifs2 j6) he (fold_no (by simpa using k4)) (fun env => fold_no (by simpa using j4)) (by rw [ownP_map]; exact sub_ok k3) (by rw [ownP_map]; exact sub_ok j3)
              refine both2 (fun env st => ?_) (both (fun _ => rfl) key)
              rw [ev, ownP_map]
              unfold lc2F
              rw [evCls_more]
              have hf : (fun env1 acc s => evCls gls cal (ev gls cal a) (.last t2 it2 cd2) env1 env1 acc s) = fun env1 acc s => clsF (evIt gls cal it2) (lastF t2 (evc gls cal cd2) (ev gls cal a)) env1 env1 acc s := by
                funext env1 acc s
                exact evCls_last ..
              rw [hf] <;> rfl
            · cases k8
        · cases h3
    · cases h
theorem chkO_ok : (x : Exo) → OkO gls cal x
  | .none => fun c X g => ⟨fun o h => by
      unfold chkO at h
      cases o with
      | none => exact PO.cong ro_none fun env st => (by rw [evo])
      | some _ => exact absurd h Bool.false_ne_true, fun vs h => by
      unfold chkT at h
      cases vs with
      | nil => exact ⟨fun pins s σ H Q I ⟨mu, rho, env, st, b, st', S, E, e, q⟩ => by
          rw [evc] at e
          cases e
          exact pts_nil.run pins s σ H Q I (q rho H (Le.refl _ _) S)⟩
      | cons _ _ => cases h⟩
  | .some x => fun c X g => ⟨fun o h => by
      unfold chkO at h
      cases o with
      | none => cases h
      | some v => exact PO.cong (ro_some ((chk_ok x false c X _ g h).1 rfl)) fun env st => by rw [evo] <;> rfl, fun vs h => by
      unfold chkT at h
      split at h
      · have hp := (chk_ok x true c X _ g h).2 rfl
        have hc : PT X _ (RT X.w X.K (evc gls cal (.some x))) := PT.cong hp fun env st => by rw [evc] <;> rfl
        exact pts_one hc
      · cases h⟩
theorem chkL_ok : (x : Exs) → OkL gls cal x
  | .nil => fun c X vs g h => by
    unfold chkL at h
    cases vs with
    | nil => exact PA.cong ra_nil fun env st => by rw [evs]
    | cons _ _ => cases h
  | .cons s x r => fun c X vs g h => by
    unfold chkL at h
    cases vs with
    | nil => cases h
    | cons v vs =>
      dsimp only at h
      obtain ⟨h1, h2⟩ := and_l h
      have hr := chkL_ok r c X vs g h2
      cases s with
      | false =>
        obtain ⟨k1, k2⟩ := and_l h1
        exact PA.cong (ra_cons ((chk_ok x false c X _ g k2).1 rfl) hr (star_no k1)) fun env st => by rw [evs] <;> rfl
      | true =>
        dsimp only at h1
        split at h1
        · exact PA.cong (ra_star ((chk_ok x false c X _ g h1).1 rfl) hr rfl) fun env st => by rw [evs] <;> rfl
        · cases h1
theorem chkB_ok : (x : Exs) → OkB gls cal x
  | .nil => fun t c X vs pos g h => by unfold chkB at h; cases h
  | .cons s x .nil => fun t c X vs pos g h => by
    unfold chkB at h
    cases vs with
    | nil => cases h
    | cons v vs =>
      dsimp only at h
      obtain ⟨h1, h2⟩ := and_l h
      cases vs with
      | cons _ _ => cases h2
      | nil =>
        have hx := chk_ok x t c X _ g h1
        rw [evAnd_one, evOr_one]
        exact ⟨by simp, fun z => ⟨PE.one (hx.1 z), PE.one (hx.1 z)⟩, fun z => ⟨rw_and1 (hx.2 z), rw_or1 (hx.2 z)⟩⟩
  | .cons s x (.cons s2 x2 r) => fun t c X vs pos g h => by
    unfold chkB at h
    cases vs with
    | nil => cases h
    | cons v vs =>
      dsimp only at h
      obtain ⟨h1, h2⟩ := and_l h
      have hx := chk_ok x t c X _ g h1
      obtain ⟨ne, k1, k2⟩ := chkB_ok (.cons s2 x2 r) t c X vs pos g h2
      cases vs with
      | nil => exact absurd rfl ne
      | cons w vs =>
        rw [evAnd_more, evOr_more]
        exact ⟨by simp, fun z => ⟨re_and (hx.1 z) (k1 z).1, re_or (hx.1 z) (k1 z).2⟩, fun z => ⟨rw_and (hx.2 z) (k2 z).1, rw_or (hx.2 z) (k2 z).2⟩⟩
theorem chkI_ok : (x : It) → OkI gls cal x
  | .of x => fun c X tg e g h => by
    unfold chkI at h
    obtain ⟨h1, h2⟩ := and_l h
    exact PI.cong (ri_of ((chk_ok x false c X _ g h2).1 rfl)) fun env st => by rw [evIt] <;> rfl
  | .rng es => fun c X tg e g h => by
    unfold chkI at h
    split at h
    · rename_i x p1 vs p2
      obtain ⟨h, h6⟩ := and_l h
      obtain ⟨h, h5⟩ := and_l h
      obtain ⟨h, h4⟩ := and_l h
      obtain ⟨h, h3⟩ := and_l h
      obtain ⟨h1, h2⟩ := and_l h
      have ex := of_decide_eq_true h1
      subst ex
      have hl1 := of_decide_eq_true h4
      have hl2 := of_decide_eq_true h5
      have ha := chkL_ok es c X vs g h6
      have hlen : ∀ env st ds s1, evs gls cal es env st = some (ds, s1) → ds.length = vs.length := fun env st ds s1 e => star_len c es h6 h3 e
      have hm : X.mg ("range" : Str) = none := g.blt _ (by decide +kernel)
      have key : PI X tg (.Call (.Name ("range" : Str) p1) vs [] p2) (RI X.w X.K (rngF (evs gls cal es))) := by
        match vs, hl1, hl2, h3, ha, hlen with
        | [a], _, _, h3, ha, hlen => exact ri_rng1 (g.glob h2) hm ha hlen (by simpa using h3)
        | [a, b], _, _, h3, ha, hlen =>
          have hh : notStar a = true ∧ notStar b = true := by simpa using h3
          exact ri_rng2 (g.glob h2) hm ha hlen hh.1 hh.2
        | [a, b, d], _, _, h3, ha, hlen =>
          rw [List.all_cons] at h3
          obtain ⟨k1, k2⟩ := and_l h3
          exact ri_rng3 (g.glob h2) hm ha hlen k1 k2
        | [], h, _, _, _, _ => exact absurd h (by simp)
        | _ :: _ :: _ :: _ :: _, _, h, _, _, _ => exact absurd h (by simp)
      exact PI.cong key fun env st => by rw [evIt] <;> rfl
    · cases h
  | .enum x => fun c X tg e g h => by
    unfold chkI at h
    split at h
    · obtain ⟨h, h5⟩ := and_l h
      obtain ⟨h, h4⟩ := and_l h
      obtain ⟨h, h3⟩ := and_l h
      obtain ⟨h1, h2⟩ := and_l h
      have ex := of_decide_eq_true h1
      subst ex
      cases tg with
      | Tuple es k p => exact PI.cong (ri_enum (g.glob h2) (g.blt _ (by decide +kernel)) ((chk_ok x false c X _ g h5).1 rfl) h3) fun env st => by rw [evIt] <;> rfl
      | _ => cases h4
    · cases h
  | .zip a b => fun c X tg e g h => by
    unfold chkI at h
    split at h
    · obtain ⟨h, h7⟩ := and_l h
      obtain ⟨h, h6⟩ := and_l h
      obtain ⟨h, h5⟩ := and_l h
      obtain ⟨h, h4⟩ := and_l h
      obtain ⟨h, h3⟩ := and_l h
      obtain ⟨h1, h2⟩ := and_l h
      have ex := of_decide_eq_true h1
      subst ex
      cases tg with
      | Tuple es k p => exact PI.cong (ri_zip (g.glob h2) (g.blt _ (by decide +kernel)) ((chk_ok a false c X _ g h6).1 rfl) ((chk_ok b false c X _ g h7).1 rfl) h3 h4) fun env st => by rw [evIt] <;> rfl
      | _ => cases h5
    · cases h
  | .rrng x => fun c X tg e g h => by
    unfold chkI at h
    split at h
    · obtain ⟨h, h6⟩ := and_l h
      obtain ⟨h, h5⟩ := and_l h
      obtain ⟨h, h4⟩ := and_l h
      obtain ⟨h, h3⟩ := and_l h
      obtain ⟨h1, h2⟩ := and_l h
      have e1 := of_decide_eq_true h1
      have e2 := of_decide_eq_true h2
      subst e1 e2
      exact PI.cong (ri_rrng (g.glob h3) (g.blt _ (by decide +kernel)) (g.glob h4) (g.blt _ (by decide +kernel)) ((chk_ok x false c X _ g h6).1 rfl) h5) fun env st => by rw [evIt] <;> rfl
    · cases h
theorem chkK_ok : (x : Cls) → OkK gls cal x
  | .last t it cd => ⟨chkI_ok it, chkO_ok cd⟩
  | .more t it cd r => ⟨chkI_ok it, chkO_ok cd, chkK_ok r⟩
end
end
end Ow
/-! Statements: the checker and its proof. -/
namespace Ow
open PySem PySem.Spec PyProof.Rows L2

def compB : Expr → Bool
  | .ListComp _ _ _ _ => true
  | .SetComp _ _ _ _ => true
  | .DictComp _ _ _ _ _ => true
  | _ => false
theorem comp_no {e : Expr} {o : Option Expr} {l : Nat} {env : Env} (h : compB e = false) : swapsWith e o l env = pure false := by cases e <;> first | rfl | cases h
theorem sole_no {a b : Expr} {e : Expr} {l : Nat} {env : Env} {tpos : Pos} : swapsWithSole [.Subscript a b tpos] e l env = pure false := by cases e <;> rfl
theorem sole_tup {es : List Expr} {k : Nat} {e : Expr} {l : Nat} {env : Env} {tpos : Pos} : swapsWithSole [.Tuple es k tpos] e l env = pure false := by cases e <;> rfl
theorem stores_sub {a b : Expr} {e : Expr} {env : Env} {tpos : Pos} : swappedStores [.Subscript a b tpos] e env = pure none := by cases e <;> rfl
theorem stores_tup {es : List Expr} {k : Nat} {e : Expr} {env : Env} {tpos : Pos} (h : tupB e = false) : swappedStores [.Tuple es k tpos] e env = pure none := by cases e <;> first | rfl | cases h
theorem stores_many {es vs : List Expr} {k k2 : Nat} {env : Env} {tpos p2 : Pos} (h : (es.length == 2 || es.length == 3) = false) : swappedStores [.Tuple es k tpos] (.Tuple vs k2 p2) env = pure none := by
  unfold swappedStores
  dsimp only
  rw [h]
  rfl
def nlB (c : Ctx) (e : Expr) : Bool := match e with
  | .Name x _ => !(locB c x)
  | _ => false
theorem len_fm {α β : Type} {f : α → Option β} {a : α} : ∀ {l : List α}, a ∈ l → f a = none → (l.filterMap f).length < l.length
  | b :: l, h, e => by
    have hle : ∀ l : List α, (l.filterMap f).length ≤ l.length := fun l => List.length_filterMap_le f l
    rcases List.mem_cons.mp h with z | z
    · subst z
      rw [List.filterMap_cons_none e, List.length_cons]
      exact Nat.lt_succ_of_le (hle l)
    · have ih := len_fm z e
      cases hb : f b with
      | none => rw [List.filterMap_cons_none hb, List.length_cons]; omega
      | some y => rw [List.filterMap_cons_some hb, List.length_cons, List.length_cons]; omega
theorem stores_cell {es vs : List Expr} {k k2 : Nat} {env : Env} {tpos p2 : Pos} {x : Str} {px : Pos} (hm : Expr.Name x px ∈ es) (hx : env.scope.names.lookup x ≠ some .local) : swappedStores [.Tuple es k tpos] (.Tuple vs k2 p2) env = pure none := by
  unfold swappedStores
  dsimp only
  split
  · rfl
  · split
    · rfl
    · refine if_pos ?_
      rw [Bool.or_eq_true]
      refine .inl ?_
      rw [bne_iff_ne]
      refine Nat.ne_of_lt (len_fm hm ?_)
      dsimp only
      refine if_neg ?_
      rw [Bool.and_eq_true, beq_iff_eq]
      exact fun z => hx z.1
theorem each_tup {es : List Expr} {k : Nat} {env : Env} {tpos : Pos} : (assignEach [.Tuple es k tpos] env).map (·.2) = [assign (.Tuple es k tpos) env] := rfl
/-- the comprehension is not made in the name's place -/
theorem sw_false {elt : Expr} {gs : List Comprehension} {scope : Scope} {pos py : Pos} {y : Str} {l : Nat} {env : Env} (h : ((match env.scope.names.lookup y with | some .local => true | _ => false) && (py.line == pos.line) && !(scope.names.any fun (n, k) => n == y && (k == .local || k == .cell))) = false) :
    swapsWith (.ListComp elt gs scope pos) (some (.Name y py)) l env = pure false := by
  unfold swapsWith
  dsimp only
  show (pure (env.blockKind == .function && env.scope.names.lookup y == some .local && py.line == pos.line && !(scope.names.any fun (n, k) => n == y && (k == .local || k == .cell))) : Sem Bool) = pure false
  refine congrArg _ ?_
  cases hk : env.scope.names.lookup y with
  | none => simp
  | some k =>
    rw [hk] at h
    cases k with
    | «local» =>
      dsimp only at h
      rw [Bool.true_and] at h
      cases env.blockKind == .function with
      | false => rfl
      | true =>
        rw [Bool.true_and, show ((some NameKind.local : Option NameKind) == some .local) = true from rfl, Bool.true_and]
        exact h
    | _ => simp
def swB (c : Ctx) (y : Str) (py : Pos) (scope : Scope) (pos : Pos) : Bool := locB c y && (py.line == pos.line) && !(scope.names.any fun (n, k) => n == y && (k == .local || k == .cell))
def parB (c : Ctx) (js : List Nat) (ts vs : List Expr) : Bool := match js, ts, vs with
  | [i, j], [.Name x px, .Name y py], [a, b] => slotB c i x && slotB c j y && !Nat.beq i j && locB c x && locB c y && Nat.beq px.line py.line && !([a, b].all (foldedForSure 8)) && !([a, b].all (constantsAlone 8)) && [a, b].all notStar
  | [i, j, l], [.Name x px, .Name y py, .Name z pz], [a, b, d] => slotB c i x && slotB c j y && slotB c l z && !Nat.beq i j && !Nat.beq i l && !Nat.beq j l && locB c x && locB c y && locB c z && Nat.beq px.line py.line && Nat.beq px.line pz.line &&
      !([a, b, d].all (foldedForSure 8)) && !([a, b, d].all (constantsAlone 8)) && [a, b, d].all notStar
  | _, _, _ => false
mutual
def chkS (c : Ctx) : Sm → Stmt → Bool
  | .asg t e, s => match s with
    | .Assign [tg] v _ => match t with
      | .nm i => match tg with
        | .Name x px => stoB c i x && chk false c e v && (match v with
          | .ListComp _ gs scope p => decide (gs.length ≤ 2)
          | v => !compB v)
        | _ => false
      | .tp js => match tg with
        | .Tuple ts _ _ => tgsB c js ts && chk false c e v && (match v with
          | .Tuple _ _ _ => !(ts.length == 2 || ts.length == 3) || ts.any (nlB c)
          | _ => true)
        | _ => false
    | _ => false
  | .par js es, s => match s with
    | .Assign [.Tuple ts _ _] (.Tuple vs _ _) _ => parB c js ts vs && chkL c es vs
    | _ => false
  | .seti o i e, s => match s with
    | .Assign [.Subscript x y _] v _ => !sliceB y && chk false c e v && chk false c o x && chk false c i y
    | _ => false
  | .app o e, s => match s with
    | .Expr (.Call (.Attribute (.Name x np) a apos) [v] [] cpos) _ => decide (a = "append") && Nat.beq apos.endLine cpos.line && notStar v && chk false c o (.Name x np) && chk false c e v
    | _ => false
  | .popi o i, s => match s with
    | .Expr (.Call (.Attribute (.Name x np) a apos) [v] [] cpos) _ => decide (a = "pop") && Nat.beq apos.endLine cpos.line && notStar v && chk false c o (.Name x np) && chk false c i v
    | _ => false
  | .insi o i e, s => match s with
    | .Expr (.Call (.Attribute (.Name x np) a apos) [w, v] [] cpos) _ => decide (a = "insert") && Nat.beq apos.endLine cpos.line && notStar w && notStar v && chk false c o (.Name x np) && chk false c i w && chk false c e v
    | _ => false
  | .ret e, s => match s with
    | .Return (some v) _ => chk false c e v
    | _ => false
  | .ife d a b, s => match s with
    | .If v x y _ => chk true c d v && chkSs c a x && chkSs c b y
    | _ => false
  | .for_ t it b, s => match s with
    | .For tg v x [] _ => tgB c t tg && !setB v && chkI c it tg v && chkSs c b x
    | _ => false
  | .whl _ d b, s => match s with
    | .While v x [] _ => chk true c d v && chkSs c b x
    | _ => false
  | .pass, s => match s with
    | .Pass _ => true
    | _ => false
def chkSs (c : Ctx) : Sms → List Stmt → Bool
  | .nil, ss => ss.isEmpty
  | .cons s r, ss => match ss with
    | [] => false
    | s' :: ss' => chkS c s s' && chkSs c r ss'
end
section
variable {gls : Nat → D} {cal : Cal}
theorem beq_line {a b : Pos} (h : Nat.beq a.endLine b.line = true) : (a.endLine == b.line) = true := by
  rw [beq_iff_eq]
  exact Nat.eq_of_beq_eq_true h
theorem neB {i j : Nat} (h : (!Nat.beq i j) = true) : i ≠ j := fun z => by
  subst z
  rw [Nat.beq_refl] at h
  cases h
end
end Ow
namespace Ow
open PySem PySem.Spec PyProof.Rows L2
theorem block_fun {env : Env} (hk : env.scope.kind = .function) : env.blockKind = .function := by
  unfold Env.blockKind
  rw [hk]
  rfl
theorem nostar_any : ∀ {vs : List Expr}, vs.all notStar = true → (vs.any fun | .Starred .. => true | _ => false) = false
  | [], _ => rfl
  | v :: vs, h => by
    rw [List.all_cons] at h
    obtain ⟨h1, h2⟩ := and_l h
    rw [List.any_cons, nostar_any h2, Bool.or_false]
    cases v <;> first | rfl | cases h1
theorem dups2 {x y : Str} (h : x ≠ y) : ([x, y] : List Str).eraseDups.length = 2 := by
  have h1 : (y == x) = false := by simpa using fun e => h e.symm
  simp [List.eraseDups_cons, h1]
  try exact fun e => h e.symm
theorem dups3 {x y z : Str} (h : x ≠ y) (h2 : x ≠ z) (h3 : y ≠ z) : ([x, y, z] : List Str).eraseDups.length = 3 := by
  have h1 : (y == x) = false := by simpa using fun e => h e.symm
  have h4 : (z == x) = false := by simpa using fun e => h2 e.symm
  have h5 : (z == y) = false := by simpa using fun e => h3 e.symm
  simp [List.eraseDups_cons, List.filter_cons, h1, h4, h5]
  try simp_all
theorem stores_two {x y : Str} {px py pt p2 : Pos} {kt k2 : Nat} {a b : Expr} {env : Env} (hk : env.scope.kind = .function) (hx : env.scope.names.lookup x = some .local) (hy : env.scope.names.lookup y = some .local) (ne : x ≠ y) (hl : px.line = py.line)
    (h1 : [a, b].all (foldedForSure 8) = false) (h2 : [a, b].all (constantsAlone 8) = false) (hs : [a, b].all notStar = true) :
    swappedStores [.Tuple [.Name x px, .Name y py] kt pt] (.Tuple [a, b] k2 p2) env = pure (some [x, y]) := by
  have hb := block_fun hk
  have kx : env.kindOf x = some .local := hx
  have ky : env.kindOf y = some .local := hy
  have ha := nostar_any hs
  have hd := dups2 ne
  unfold swappedStores
  dsimp only
  refine (if_neg (by rw [hb]; simp)).trans ?_
  refine (if_neg (by rw [Bool.not_eq_true]; exact ha)).trans ?_
  rw [h1, h2]
  simp [kx, ky, hl, hd, Expr.pos]
theorem stores_three {x y z : Str} {px py pz pt p2 : Pos} {kt k2 : Nat} {a b d : Expr} {env : Env} (hk : env.scope.kind = .function) (hx : env.scope.names.lookup x = some .local) (hy : env.scope.names.lookup y = some .local) (hz : env.scope.names.lookup z = some .local)
    (ne : x ≠ y) (ne2 : x ≠ z) (ne3 : y ≠ z) (hl : px.line = py.line) (hl2 : px.line = pz.line)
    (h1 : [a, b, d].all (foldedForSure 8) = false) (h2 : [a, b, d].all (constantsAlone 8) = false) (hs : [a, b, d].all notStar = true) :
    swappedStores [.Tuple [.Name x px, .Name y py, .Name z pz] kt pt] (.Tuple [a, b, d] k2 p2) env = pure (some [x, y, z]) := by
  have hb := block_fun hk
  have kx : env.kindOf x = some .local := hx
  have ky : env.kindOf y = some .local := hy
  have kz : env.kindOf z = some .local := hz
  have ha := nostar_any hs
  have hd := dups3 ne ne2 ne3
  unfold swappedStores
  dsimp only
  refine (if_neg (by rw [hb]; simp)).trans ?_
  refine (if_neg (by rw [Bool.not_eq_true]; exact ha)).trans ?_
  rw [h1, h2]
  simp [kx, ky, kz, ← hl, ← hl2, hd, Expr.pos]

section
variable {gls : Nat → D} {cal : Cal}
abbrev OkS (gls : Nat → D) (cal : Cal) (x : Sm) : Prop := ∀ (c : Ctx) (X : Cx) (s : Stmt), Gd gls cal X c → chkS c x s = true → PS X s (RS X.w X.K (exec gls cal x))
abbrev OkSs (gls : Nat → D) (cal : Cal) (x : Sms) : Prop := ∀ (c : Ctx) (X : Cx) (ss : List Stmt), Gd gls cal X c → chkSs c x ss = true → PSs X ss (RS X.w X.K (execs gls cal x))
theorem exec_asg (t : Tg) (e : Ex) (env : Envr) (st : Store) : exec gls cal (.asg t e) env st = asgF t (ev gls cal e) env st := by rw [exec] <;> rfl
theorem ne_slots {X : Cx} {c : Ctx} (g : Gd gls cal X c) {i j : Nat} {x y : Str} (hi : X.N[i]? = some x) (hj : X.N[j]? = some y) (h : i ≠ j) : x ≠ y := fun z => by
  subst z
  exact h (nodup_ix g.ndX hi hj)
theorem assign_sub {o i : Expr} {tpos : Pos} {env : Env} (h : sliceB i = false) : ∀ v, assign (.Subscript o i tpos) env v = (do
      let ov ← holding [v] (eval o env)
      let iv ← holding [v, ov] (eval i env)
      standAt tpos
      holding [v, ov, iv] (setItem ov iv v)
      release [v, ov, iv] []) := by
  intro v
  cases i <;> first | rfl | cases h
theorem nb {b : Bool} (h : (!b) = true) : b = false := by simpa using h
/-- y = [.. for ..] -/
theorem set_lc {X : Cx} {c : Ctx} (g : Gd gls cal X c) {i : Nat} {y : Str} {py p spos : Pos} {m : Bool} {own : List Nat} {a : Ex} {cls : Cls} {elt : Expr} {gs : List Comprehension} {scope : Scope} (hs : stoB c i y = true)
    (h : chk false c (.lc m own a cls) (.ListComp elt gs scope p) = true) (hl : gs.length ≤ 2) : PS X (.Assign [.Name y py] (.ListComp elt gs scope p) spos) (RS X.w X.K (asgF (.nm i) (ev gls cal (.lc m own a cls)))) := by
  obtain ⟨s1, s2, s3⟩ := g.sto hs
  by_cases hsw : swB c y py scope p = true
  · unfold swB at hsw
    obtain ⟨hsw, w3⟩ := and_l hsw
    obtain ⟨w1, w2⟩ := and_l hsw
    have hloc := g.loc w1
    have sw : swapsWith (.ListComp elt gs scope p) (some (.Name y py)) spos.line X.env = pure true := sw_true (by rw [g.sc]; exact g.kind) hloc w2 (by simpa using w3)
    unfold chk at h
    obtain ⟨h, h4⟩ := and_l h
    obtain ⟨h, h3⟩ := and_l h
    obtain ⟨h1, h2⟩ := and_l h
    have hk : scope.kind = .function := by
      unfold isFun at h1
      split at h1
      · assumption
      · cases h1
    have ok : BlkOk X.N X.env.scope scope (ownP c own) := by
      rw [g.N, g.sc]
      exact blkOk_by h2
    have he : ∀ (s : Shared) (H : Hp) (C : Addr) (cl : List (Str × Addr)) (fp : List Addr), PE (X.blk s H scope (compEnvC scope cl C X.env) fp) elt (RE X.w X.K (ev gls cal a)) :=
      fun s H C cl fp => (chk_ok a false (c.blk scope) _ _ (g.blk hk) h4).1 rfl
    have hkk := chkK_ok (gls := gls) (cal := cal) cls
    cases cls with
    | last t1 it cd =>
      unfold chkK at h3
      split at h3
      · rename_i tg iter ifs aa _
        obtain ⟨h3, k6⟩ := and_l h3
        obtain ⟨h3, k5⟩ := and_l h3
        obtain ⟨h3, k4⟩ := and_l h3
        obtain ⟨h3, k3⟩ := and_l h3
        obtain ⟨k1, k2⟩ := and_l h3
        have ea := of_decide_eq_true k1
        subst ea
        have key := rs_setLc1 (X := X) (m := m) (pos := p) (spos := spos) g.calm g.ndX s1 hloc sw (hkk.1 c X tg iter g k5) ok (fun s H C cl fp => tg_ok (g.blk hk) k2)
          (fun s H C cl fp => (hkk.2 (c.blk scope) _ (g.blk hk)).2 ifs k6) he (fold_no (by simpa using k4)) (by rw [ownP_map]; exact sub_ok k3)
        refine PS.cong key fun env st => ?_
        have hf : ev gls cal (.lc m own a (.last t1 it cd)) = lc1F m ((ownP c own).map (·.2)) t1 (evIt gls cal it) (evc gls cal cd) (ev gls cal a) := by
          funext env st
          rw [ev, ownP_map]
          unfold lc1F
          rw [evCls_last] <;> rfl
        rw [hf]
      · cases h3
    | more t1 it cd r =>
      unfold chkK at h3
      split at h3
      · rename_i tg iter ifs aa gs' _
        obtain ⟨h3, k8⟩ := and_l h3
        obtain ⟨h3, k7⟩ := and_l h3
        obtain ⟨h3, k6⟩ := and_l h3
        obtain ⟨h3, k5⟩ := and_l h3
        obtain ⟨h3, k4⟩ := and_l h3
        obtain ⟨h3, k3⟩ := and_l h3
        obtain ⟨k1, k2⟩ := and_l h3
        have ea := of_decide_eq_true k1
        subst ea
        cases r with
        | more _ _ _ _ =>
          unfold chkK at k8
          split at k8
          · rename_i gs2 _
            obtain ⟨k8, j8⟩ := and_l k8
            cases gs2 with
            | nil => cases ‹Cls› <;> (unfold chkK at j8; cases j8)
            | cons _ _ => simp at hl
          · cases k8
        | last t2 it2 cd2 =>
          unfold chkK at k8
          split at k8
          · rename_i tg2 iter2 ifs2 aa2 _
            obtain ⟨k8, j6⟩ := and_l k8
            obtain ⟨k8, j5⟩ := and_l k8
            obtain ⟨k8, j4⟩ := and_l k8
            obtain ⟨k8, j3⟩ := and_l k8
            obtain ⟨j1, j2⟩ := and_l k8
            have ea2 := of_decide_eq_true j1
            subst ea2
            have key := rs_setLc2 (X := X) (m := m) (pos := p) (spos := spos) g.calm g.ndX s1 hloc sw (hkk.1 c X tg iter g k5) ok (fun s H C cl fp => tg_ok (g.blk hk) k2)
              (fun s H C cl fp => (hkk.2.1 (c.blk scope) _ (g.blk hk)).2 ifs k6) (fun s H C cl fp => hkk.2.2.1 (c.blk scope) _ tg2 iter2 (g.blk hk) j5) (fun s H C cl fp => tg_ok (g.blk hk) j2)
              (fun s H C cl fp => (hkk.2.2.2 (c.blk scope) _ (g.blk hk)).2 ifs2 j6) he (fold_no (by simpa using k4)) (fun env => fold_no (by simpa using j4)) (by rw [ownP_map]; exact sub_ok k3) (by rw [ownP_map]; exact sub_ok j3)
            refine PS.cong key fun env st => ?_
            have hf : ev gls cal (.lc m own a (.more t1 it cd (.last t2 it2 cd2))) = lc2F m ((ownP c own).map (·.2)) t1 (evIt gls cal it) (evc gls cal cd) t2 (evIt gls cal it2) (evc gls cal cd2) (ev gls cal a) := by
              funext env st
              rw [ev, ownP_map]
              unfold lc2F
              rw [evCls_more]
              have hf : (fun env1 acc s => evCls gls cal (ev gls cal a) (.last t2 it2 cd2) env1 env1 acc s) = fun env1 acc s => clsF (evIt gls cal it2) (lastF t2 (evc gls cal cd2) (ev gls cal a)) env1 env1 acc s := by
                funext env1 acc s
                exact evCls_last ..
              rw [hf] <;> rfl
            rw [hf]
          · cases k8
      · cases h3
  · have sw : swapsWith (.ListComp elt gs scope p) (some (.Name y py)) spos.line X.env = pure false := sw_false (by
      rw [g.sc]
      exact (Bool.not_eq_true _).mp hsw)
    exact rs_set g.ndX s1 s2 ((chk_ok _ false c X _ g h).1 rfl) sw s3
mutual
theorem chkS_ok : (x : Sm) → OkS gls cal x
  | .asg t e => fun c X s g h => by
    unfold chkS at h
    split at h
    · rename_i tg v spos
      cases t with
      | nm i =>
        dsimp only at h
        split at h
        · rename_i x px
          obtain ⟨h, h3⟩ := and_l h
          obtain ⟨h1, h2⟩ := and_l h
          split at h3
          · rename_i elt gs scope p
            cases e with
            | lc m own a cls => exact PS.cong (set_lc g h1 h2 (by simpa using h3)) fun env st => exec_asg ..
            | _ => unfold chk at h2; cases h2
          · obtain ⟨s1, s2, s3⟩ := g.sto h1
            exact PS.cong (rs_set g.ndX s1 s2 ((chk_ok e false c X _ g h2).1 rfl) (comp_no (by simpa using h3)) s3) fun env st => exec_asg ..
        · cases h
      | tp js =>
        dsimp only at h
        split at h
        · rename_i ts k p
          obtain ⟨h, h3⟩ := and_l h
          obtain ⟨h1, h2⟩ := and_l h
          have hg : PG X (.Tuple ts k p) (RG X.w X.K (.tp js)) := tg_ok (e := .Tuple ts k p) g h1
          refine PS.cong (rs_asg ((chk_ok e false c X _ g h2).1 rfl) hg sole_tup ?_ each_tup) fun env st => exec_asg ..
          split at h3
          · rw [Bool.or_eq_true] at h3
            rcases h3 with h3 | h3
            · exact stores_many (by simpa using h3)
            · obtain ⟨e1, hm, h4⟩ := List.any_eq_true.mp h3
              unfold nlB at h4
              split at h4
              · rename_i x px
                refine stores_cell hm ?_
                rw [g.sc]
                intro z
                unfold locB kindB at h4
                rw [z] at h4
                cases h4
              · cases h4
          · rename_i hne
            refine stores_tup ?_
            cases v <;> first | rfl | exact absurd rfl (hne _ _ _)
        · cases h
    · cases h
  | .par js es => fun c X s g h => by
    unfold chkS at h
    split at h
    · rename_i ts k p vs k2 p2 spos
      obtain ⟨h1, h2⟩ := and_l h
      have ha := chkL_ok es c X vs g h2
      have he : ∀ env st, exec gls cal (.par js es) env st = parF js (evs gls cal es) env st := fun env st => by rw [exec] <;> rfl
      unfold parB at h1
      split at h1
      · obtain ⟨h1, q9⟩ := and_l h1
        obtain ⟨h1, q8⟩ := and_l h1
        obtain ⟨h1, q7⟩ := and_l h1
        obtain ⟨h1, q6⟩ := and_l h1
        obtain ⟨h1, q5⟩ := and_l h1
        obtain ⟨h1, q4⟩ := and_l h1
        obtain ⟨h1, q3⟩ := and_l h1
        obtain ⟨q1, q2⟩ := and_l h1
        have hij := neB q3
        exact PS.cong (rs_par2 g.calm g.ndX (g.slot q1) (g.slot q2) hij (g.loc q4) (g.loc q5) ha
          (stores_two (by rw [g.sc]; exact g.kind) (g.loc q4) (g.loc q5) (ne_slots g (g.slot q1) (g.slot q2) hij) (Nat.eq_of_beq_eq_true q6) (nb q7) (nb q8) q9) rfl) he
      · obtain ⟨h1, q14⟩ := and_l h1
        obtain ⟨h1, q13⟩ := and_l h1
        obtain ⟨h1, q12⟩ := and_l h1
        obtain ⟨h1, q11⟩ := and_l h1
        obtain ⟨h1, q10⟩ := and_l h1
        obtain ⟨h1, q9⟩ := and_l h1
        obtain ⟨h1, q8⟩ := and_l h1
        obtain ⟨h1, q7⟩ := and_l h1
        obtain ⟨h1, q6⟩ := and_l h1
        obtain ⟨h1, q5⟩ := and_l h1
        obtain ⟨h1, q4⟩ := and_l h1
        obtain ⟨h1, q3⟩ := and_l h1
        obtain ⟨q1, q2⟩ := and_l h1
        exact PS.cong (rs_par3 g.calm g.ndX (g.slot q1) (g.slot q2) (g.slot q3) (neB q4) (neB q5) (neB q6) (g.loc q7) (g.loc q8) (g.loc q9) ha
          (stores_three (by rw [g.sc]; exact g.kind) (g.loc q7) (g.loc q8) (g.loc q9) (ne_slots g (g.slot q1) (g.slot q2) (neB q4)) (ne_slots g (g.slot q1) (g.slot q3) (neB q5)) (ne_slots g (g.slot q2) (g.slot q3) (neB q6))
            (Nat.eq_of_beq_eq_true q10) (Nat.eq_of_beq_eq_true q11) (nb q12) (nb q13) q14) rfl) he
      · cases h1
    · cases h
  | .seti o i e => fun c X s g h => by
    unfold chkS at h
    split at h
    · rename_i x y tpos v spos
      obtain ⟨h, h3⟩ := and_l h
      obtain ⟨h, h2⟩ := and_l h
      obtain ⟨h0, h1⟩ := and_l h
      exact PS.cong (rs_seti (tpos := tpos) g.un ((chk_ok e false c X _ g h1).1 rfl) ((chk_ok o false c X _ g h2).1 rfl) ((chk_ok i false c X _ g h3).1 rfl) (assign_sub (nb h0)) sole_no stores_sub rfl) fun env st => by rw [exec] <;> rfl
    · cases h
  | .app o e => fun c X s g h => by
    unfold chkS at h
    split at h
    · obtain ⟨h, h5⟩ := and_l h
      obtain ⟨h, h4⟩ := and_l h
      obtain ⟨h, h3⟩ := and_l h
      obtain ⟨h1, h2⟩ := and_l h
      have ex := of_decide_eq_true h1
      subst ex
      exact PS.cong (rs_app ((chk_ok o false c X _ g h4).1 rfl) ((chk_ok e false c X _ g h5).1 rfl) (beq_line h2) h3) fun env st => by rw [exec] <;> rfl
    · cases h
  | .popi o i => fun c X s g h => by
    unfold chkS at h
    split at h
    · obtain ⟨h, h5⟩ := and_l h
      obtain ⟨h, h4⟩ := and_l h
      obtain ⟨h, h3⟩ := and_l h
      obtain ⟨h1, h2⟩ := and_l h
      have ex := of_decide_eq_true h1
      subst ex
      exact PS.cong (rs_popi ((chk_ok o false c X _ g h4).1 rfl) ((chk_ok i false c X _ g h5).1 rfl) (beq_line h2) h3) fun env st => by rw [exec] <;> rfl
    · cases h
  | .insi o i e => fun c X s g h => by
    unfold chkS at h
    split at h
    · obtain ⟨h, h7⟩ := and_l h
      obtain ⟨h, h6⟩ := and_l h
      obtain ⟨h, h5⟩ := and_l h
      obtain ⟨h, h4⟩ := and_l h
      obtain ⟨h, h3⟩ := and_l h
      obtain ⟨h1, h2⟩ := and_l h
      have ex := of_decide_eq_true h1
      subst ex
      exact PS.cong (rs_insi ((chk_ok o false c X _ g h5).1 rfl) ((chk_ok i false c X _ g h6).1 rfl) ((chk_ok e false c X _ g h7).1 rfl) (beq_line h2) h3 h4) fun env st => by rw [exec] <;> rfl
    · cases h
  | .ret e => fun c X s g h => by
    unfold chkS at h
    split at h
    · exact PS.cong (rs_ret ((chk_ok e false c X _ g h).1 rfl)) fun env st => by rw [exec] <;> rfl
    · cases h
  | .ife d a b => fun c X s g h => by
    unfold chkS at h
    split at h
    · obtain ⟨h, h3⟩ := and_l h
      obtain ⟨h1, h2⟩ := and_l h
      refine PS.cong (rs_if ((chk_ok d true c X _ g h1).2 rfl) (chkSs_ok a c X _ g h2) (chkSs_ok b c X _ g h3)) fun env st => ?_
      rw [exec]
      unfold ifF tst
      cases ev gls cal d env st with
      | none => rfl
      | some p =>
        obtain ⟨x, s1⟩ := p
        dsimp only
        cases truthy s1 x with
        | none => rfl
        | some k => cases k <;> rfl
    · cases h
  | .for_ t it b => fun c X s g h => by
    unfold chkS at h
    split at h
    · obtain ⟨h, h4⟩ := and_l h
      obtain ⟨h, h3⟩ := and_l h
      obtain ⟨h1, h2⟩ := and_l h
      exact PS.cong (rs_for (by rw [g.xe]; exact PassesOwn.never) g.calm (chkI_ok it c X _ _ g h3) (tg_ok g h1) (chkSs_ok b c X _ g h4) (fold_no (by simpa using h2))) fun env st => by rw [exec] <;> rfl
    · cases h
  | .whl n d b => fun c X s g h => by
    unfold chkS at h
    split at h
    · obtain ⟨h1, h2⟩ := and_l h
      refine PS.cong (rs_while (n := n) (by rw [g.xe]; exact PassesOwn.never) ((chk_ok d true c X _ g h1).2 rfl) (chkSs_ok b c X _ g h2)) fun env st => ?_
      rw [exec] <;> rfl
    · cases h
  | .pass => fun c X s g h => by
    unfold chkS at h
    split at h
    · exact PS.cong rs_pass fun env st => by rw [exec]
    · cases h
theorem chkSs_ok : (x : Sms) → OkSs gls cal x
  | .nil => fun c X ss g h => by
    unfold chkSs at h
    cases ss with
    | nil => exact PSs.cong rss_nil fun env st => by rw [execs]
    | cons _ _ => cases h
  | .cons s r => fun c X ss g h => by
    unfold chkSs at h
    cases ss with
    | nil => cases h
    | cons s' ss =>
      obtain ⟨h1, h2⟩ := and_l h
      exact PSs.cong (rss_cons (chkS_ok s c X s' g h1) (chkSs_ok r c X ss g h2)) fun env st => by rw [execs] <;> rfl
end
end
end Ow
/-! The defs of a module: each computes what its tree says. -/
namespace Ow
open PySem PySem.Spec PyProof.Rows L2

mutual
theorem Rl.drop {K : PySem.W.Frag} {mu rho rho' : List Addr} {H : Hp} (hn : ∀ b, b ∈ rho → b ∈ rho') : ∀ {d : D} {v : V}, Rl K mu rho' H d v → noRef d = true → Rl K mu rho H d v
  | _, _, .non, _ => .non
  | _, _, .bl b, _ => .bl b
  | _, _, .int i, _ => .int i
  | _, _, .str w, _ => .str w
  | _, _, .tup ⟨h, k, m⟩ p r, n => .tup ⟨h, fun z => k (hn _ z), m⟩ p (Rls.dropR hn r (by simpa [noRef] using n))
  | _, _, .lst ⟨h, k, m⟩ r, n => .lst ⟨h, fun z => k (hn _ z), m⟩ (Rls.dropR hn r (by simpa [noRef] using n))
  | _, _, .ref e, n => by cases n
theorem Rls.dropR {K : PySem.W.Frag} {mu rho rho' : List Addr} {H : Hp} (hn : ∀ b, b ∈ rho → b ∈ rho') : ∀ {ds : List D} {vs : List V}, Rls K mu rho' H ds vs → noRefs ds = true → Rls K mu rho H ds vs
  | _, _, .nil, _ => .nil
  | _, _, .cons r t, n => by
    rw [noRefs, Bool.and_eq_true] at n
    exact .cons (Rl.drop hn r n.1) (Rls.dropR hn t n.2)
end
section
variable {wd : World} {K : PySem.W.Frag} {mu rho rho' : List Addr} {H H' : Hp} {st st' s : Store} {d d2 : D} {v : V} {st2 : Store} {Q : VK}
theorem noRefs_all : ∀ {ds : List D}, (∀ d ∈ ds, noRef d = true) → noRefs ds = true
  | [], _ => rfl
  | d :: ds, h => by rw [noRefs, h d (List.mem_cons_self ..), noRefs_all fun e he => h e (List.mem_cons_of_mem _ he)]; rfl
theorem Sim.take (l : Le rho H rho' H') (S : Sim wd K mu rho' H' s) : Sim wd K mu rho H' (s.take rho.length) := by
  obtain ⟨e, he⟩ := l.pre
  have hn : ∀ b, b ∈ rho → b ∈ rho' := fun b hb => by rw [he]; exact List.mem_append_left _ hb
  have hlen : rho.length ≤ s.length := by
    rw [← S.len, he, List.length_append]
    omega
  refine ⟨by rw [List.length_take]; omega, ?_, fun i c a ec ea => ?_, fun b hb => ⟨(S.mus b hb).1, fun z => (S.mus b hb).2 (hn b z)⟩⟩
  · have := S.nd
    rw [he] at this
    exact (List.nodup_append.mp this).1
  · have hi : i < rho.length := (List.getElem?_eq_some_iff.mp ea).1
    rw [List.getElem?_take_of_lt hi] at ec
    have ea' : rho'[i]? = some a := by rw [he, List.getElem?_append_left hi]; exact ea
    have ck := S.cells i c a ec ea'
    cases c with
    | lst ds =>
      obtain ⟨h1, vs, h2, h3⟩ := ck
      exact ⟨h1, vs, h2, h3.dropR hn h1⟩
    | dct kvs =>
      obtain ⟨k1, k2, k3, ks, vs, k4, k5, k6⟩ := ck
      refine ⟨k1, k2, k3, ks, vs, k4, k5.dropR hn (noRefs_all fun d hd => ?_), k6.dropR hn (noRefs_all fun d hd => ?_)⟩
      · obtain ⟨p, hp, rfl⟩ := List.mem_map.mp hd
        exact (k1 p hp).1
      · obtain ⟨p, hp, rfl⟩ := List.mem_map.mp hd
        exact (k1 p hp).2.1
    | ins _ _ => exact ck
    | tab P =>
      obtain ⟨h1, ps, h2, h3, h4⟩ := ck
      refine ⟨h1, ps, h2, h3, fun pos cv hc => ?_⟩
      obtain ⟨c, e1, e2, e3, e4⟩ := h4 pos cv hc
      exact ⟨c, e1, e2, fun z => e3 (hn _ z), e4⟩
theorem Le.back (l : Le rho H rho' H') : Le rho H rho H' := ⟨⟨[], by simp⟩, l.keep, fun a h n => absurd h n, l.still⟩
theorem CellOk.dropR {c : Cell} {a : Addr} {rho2 : List Addr} (hn : ∀ b, b ∈ rho2 → b ∈ rho') (ck : CellOk wd K mu rho' H c a) : CellOk wd K mu rho2 H c a := by
  cases c with
  | lst ds =>
    obtain ⟨h1, vs, h2, h3⟩ := ck
    exact ⟨h1, vs, h2, h3.dropR hn h1⟩
  | dct kvs =>
    obtain ⟨k1, k2, k3, ks, vs, k4, k5, k6⟩ := ck
    refine ⟨k1, k2, k3, ks, vs, k4, k5.dropR hn (noRefs_all fun d hd => ?_), k6.dropR hn (noRefs_all fun d hd => ?_)⟩
    · obtain ⟨p, hp, rfl⟩ := List.mem_map.mp hd
      exact (k1 p hp).1
    · obtain ⟨p, hp, rfl⟩ := List.mem_map.mp hd
      exact (k1 p hp).2.1
  | ins _ _ => exact ck
  | tab P =>
    obtain ⟨h1, ps, h2, h3, h4⟩ := ck
    refine ⟨h1, ps, h2, h3, fun pos cv hc => ?_⟩
    obtain ⟨c, e1, e2, e3, e4⟩ := h4 pos cv hc
    exact ⟨c, e1, e2, fun z => e3 (hn _ z), e4⟩
/-- one cell of its own is kept -/
theorem Sim.takeWith {n : Nat} {a : Addr} {c : Cell} (l : Le rho H rho' H') (S : Sim wd K mu rho' H' s) (ea : rho'[n]? = some a) (en : s[n]? = some c) (hge : rho.length ≤ n) :
    Le rho H (rho ++ [a]) H' ∧ Sim wd K mu (rho ++ [a]) H' (s.take rho.length ++ [c]) := by
  obtain ⟨e, he⟩ := l.pre
  have hn : ∀ b, b ∈ rho → b ∈ rho' := fun b hb => by rw [he]; exact List.mem_append_left _ hb
  have ha : a ∈ rho' := List.mem_of_getElem? ea
  have hn2 : ∀ b, b ∈ rho ++ [a] → b ∈ rho' := fun b hb => by
    rcases List.mem_append.mp hb with h | h
    · exact hn b h
    · rw [List.mem_singleton.mp h]; exact ha
  have nd := S.nd
  have na : a ∉ rho := fun z => by
    rw [he] at nd ea
    rw [List.getElem?_append_right hge] at ea
    exact (List.nodup_append.mp nd).2.2 _ z _ (List.mem_of_getElem? ea) rfl
  have hlen : rho.length ≤ s.length := by
    rw [← S.len, he, List.length_append]
    omega
  refine ⟨⟨⟨[a], rfl⟩, l.keep, fun b hb hb2 => l.new b (hn2 b hb) hb2, l.still⟩, ?_, ?_, fun i c' b ec eb => ?_, fun b hb => ⟨(S.mus b hb).1, fun z => (S.mus b hb).2 (hn2 b z)⟩⟩
  · rw [List.length_append, List.length_append, List.length_take]
    simp
    omega
  · refine List.nodup_append.mpr ⟨?_, by simp, fun x hx y hy z => ?_⟩
    · rw [he] at nd
      exact (List.nodup_append.mp nd).1
    · rw [List.mem_singleton.mp hy] at z
      exact na (z ▸ hx)
  · have lt : (s.take rho.length).length = rho.length := by rw [List.length_take]; omega
    by_cases hi : i < rho.length
    · rw [List.getElem?_append_left (by rw [lt]; exact hi), List.getElem?_take_of_lt hi] at ec
      rw [List.getElem?_append_left hi] at eb
      have eb' : rho'[i]? = some b := by rw [he, List.getElem?_append_left hi]; exact eb
      exact (S.cells i c' b ec eb').dropR hn2
    · rw [List.getElem?_append_right (by rw [lt]; omega), lt] at ec
      rw [List.getElem?_append_right (by omega)] at eb
      have i0 : i - rho.length = 0 := by
        have := (List.getElem?_eq_some_iff.mp eb).1
        simp at this
        exact this
      rw [i0] at ec eb
      simp at ec eb
      subst ec eb
      exact (S.cells n _ _ en ea).dropR hn2
theorem handBack_ok (hk : st.length = rho.length) (l : Le rho H rho' H') (S : Sim wd K mu rho' H' s) (r : Rl K mu rho' H' d v) (h : handBack st.length d s = some (d2, st2)) (f : Fin wd K mu rho H d2 st2 Q) : Q v H' := by
  obtain ⟨e, he⟩ := l.pre
  have hn : ∀ b, b ∈ rho → b ∈ rho' := fun b hb => by rw [he]; exact List.mem_append_left _ hb
  rw [hk] at h
  unfold handBack at h
  split at h
  · cases h
    exact f rho' H' v l S r
  · split at h
    · rename_i hr
      cases h
      exact f rho H' v l.back (S.take l) (r.drop hn hr)
    · split at h
      · rename_i n hnr
        cases r with
        | ref ea =>
          split at h
          · rename_i hlt
            cases h
            refine f rho H' _ l.back (S.take l) (.ref ?_)
            rw [he, List.getElem?_append_left hlt] at ea
            exact ea
          · rename_i hge
            split at h
            · rename_i xs hx
              cases h
              obtain ⟨h1, vs, h2, h3⟩ := S.cells _ _ _ hx ea
              refine f rho H' _ l.back (S.take l) (.lst ⟨.inl h2, fun z => ?_, fun z => (S.mus _ z).2 (List.mem_of_getElem? ea)⟩ (h3.dropR hn h1))
              have nd := S.nd
              rw [he] at nd ea
              rw [List.getElem?_append_right (by omega)] at ea
              exact (List.nodup_append.mp nd).2.2 _ z _ (List.mem_of_getElem? ea) rfl
            · rename_i c hc hx
              have ck := S.cells _ _ _ hx ea
              cases c with
              | lst ds => exact absurd rfl (hc ds)
              | dct kvs =>
                cases h
                obtain ⟨w1, w2⟩ := Sim.takeWith l S ea hx (by omega)
                refine f _ H' _ w1 w2 (.ref ?_)
                rw [List.getElem?_append_right (Nat.le_refl _), Nat.sub_self]
                rfl
              | ins _ _ => exact absurd ck (fun z => z)
              | tab P =>
                cases h
                obtain ⟨w1, w2⟩ := Sim.takeWith l S ea hx (by omega)
                refine f _ H' _ w1 w2 (.ref ?_)
                rw [List.getElem?_append_right (Nat.le_refl _), Nat.sub_self]
                rfl
            · cases h
      · cases h
end
/-! a module -/
structure Ent where
  name : Str
  N : List Str
  ps : List Str
  st : Stmt
def namesOf (tab : Nat → Option Ent) (f : Nat) : Option Str := (tab f).map (·.name)
/-- a def that gives (len(x), x) -/
def keyDefB (e : Ent) : Bool := match defBody e.st, e.ps with
  | [.Return (some (.Tuple [.Call (.Name l _) [.Name x _] [] _, .Name y _] _ _)) _], [p] => decide (l = "len") && decide (x = p) && decide (y = p) && !(p == ("__debug__" : Str)) && (defScope e.st).names.all (fun y => !decide (y.2 = .cell)) && decide ((defScope e.st).names.lookup p = some .local) &&
    decide ((defScope e.st).names.lookup ("len" : Str) = some .globalImplicit) && isFun (defScope e.st).kind && !(defScope e.st).isCoroutine && !(defScope e.st).isGenerator
  | _, _ => false
def keyNames (tab : Nat → Option Ent) (f : Nat) : Option Str := match tab f with
  | some e => if keyDefB e = true then some e.name else none
  | none => none
def ctxOf (tab : Nat → Option Ent) (gnm : Nat → Option Str) (e : Ent) : Ctx := ⟨e.N, defScope e.st, defScope e.st, true, namesOf tab, gnm, keyNames tab, decide (e.name = "subsets")⟩
def entB (tab : Nat → Option Ent) (gnm : Nat → Option Str) (d : FDef) (e : Ent) : Bool :=
  C8.scC e.N e.ps (defScope e.st) && Nat.beq d.ps e.ps.length && Nat.beq d.n e.N.length && Nat.ble d.ps d.n && !(e.name == ("__debug__" : Str)) && chkSs (ctxOf tab gnm e) d.body (defBody e.st)
structure DefA (K : PySem.W.Frag) (mg : Str → Option Value) (x : Str) (st : Stmt) (f : Addr) (fd : FuncData) : Prop where
  fn : Fun K x x st f fd
  mgf : mg x = some (.ref f)
structure Top (K : PySem.W.Frag) (mg : Str → Option Value) (gls : Nat → D) (Gam : Nat → Option FDef) (tab : Nat → Option Ent) (gnm : Nat → Option Str) : Prop where
  defs : ∀ f e, tab f = some e → ∃ fa fd d, Gam f = some d ∧ DefA K mg e.name e.st fa fd ∧ Binds K fd e.ps [] ∧ entB tab gnm d e = true
  blt : ∀ x ∈ bltNames, mg x = none
  gl : ∀ g x, gnm g = some x → (x == ("__debug__" : Str)) = false ∧ ∃ u v, mg x = some u ∧ RelV v u ∧ Fixd K (gls g) v
/-- what is known of the def that makes the lambda -/
def LamC (K : PySem.W.Frag) (mg : Str → Option Value) (base : Heap) (gls : Nat → D) : Prop := ∃ (cd : Addr) (P : Nat), gls 999 = .int P ∧ LamX.TabB base mg cd P ∧ ∀ (fa : Addr) (fd : FuncData) (oc : Value) (od : Option Addr) (sl : Array (Option Value)), mg "subsets" = some (.ref fa) → K.lookup fa = some ⟨oc, od, .func fd, sl⟩ → fd.code = .ref cd
section
variable {P : Program} {w : World} {K : PySem.W.Frag} {mg : Str → Option Value} {base : Heap} {gls : Nat → D} {Gam : Nat → Option FDef} {tab : Nat → Option Ent} {gnm : Nat → Option Str}
theorem key_def {e : Ent} {fa : Addr} {fd : FuncData} (h : keyDefB e = true) (F : Fun K e.name e.name e.st fa fd) (B : Binds K fd e.ps []) : KeyDef K fa ∧ True := by
  unfold keyDefB at h
  split at h
  · rename_i l q1 x q2 q3 y q4 j q5 q6 p hb hp
    obtain ⟨h, h10⟩ := and_l h
    obtain ⟨h, h9⟩ := and_l h
    obtain ⟨h, h8⟩ := and_l h
    obtain ⟨h, h7⟩ := and_l h
    obtain ⟨h, h6⟩ := and_l h
    obtain ⟨h, h5⟩ := and_l h
    obtain ⟨h, h4⟩ := and_l h
    obtain ⟨h, h3⟩ := and_l h
    obtain ⟨h1, h2⟩ := and_l h
    have e1 := of_decide_eq_true h1
    have e2 := of_decide_eq_true h2
    have e3 := of_decide_eq_true h3
    subst e1 e2 e3
    obtain ⟨oc, od, kV, doc, pm, an, cdv, ct, osl, rfl, lk, hcd⟩ := F.ex
    refine ⟨⟨oc, od, _, osl, y, q1, q2, q3, q4, q5, q6, j, lk, ?_, rfl, rfl, rfl, hcd, fun s a KX => ?_, ?_, nb h9, nb h10, fun y hy => ?_, of_decide_eq_true h6, of_decide_eq_true h7, nb h4⟩, trivial⟩
    · show _ = _
      rw [hb]
    · have := B s [.ref a] KX (by rw [hp]; rfl)
      rw [hp] at this
      exact this
    · show (defScope e.st).kind = .function
      unfold isFun at h8
      split at h8
      · assumption
      · cases h8
    · have := List.all_eq_true.mp h5 y hy
      simpa using this
  · cases h
/-- the rule for a def, its code told -/
theorem fun_ok2 {x qual : Str} {st : Stmt} {f : Addr} {fd : FuncData} {N ps : List Str} {k : Nat} {sp : Sp} (F : Fun K x qual st f fd) (S : FnScope N ps (defScope st)) (len : ∀ vs H Q E, sp vs H Q E → vs.length = ps.length)
    (body : ∀ (cdv : Value) (A : Around) (outer : List Env) (s : Shared) (H : Hp) (vs : List V) (Q : VK) (E : XK), fd.code = cdv → (∃ oc od sl, K.lookup f = some ⟨oc, od, .func fd, sl⟩) → Room k (A.deeper (envOfC qual (defScope st) s.heap.objs.size f cdv)) → sp vs H Q E →
      ∃ t, PSs (cxOf CX0 P w K mg base N qual (defScope st) f cdv A outer s H E).nox (defBody st) t ∧ t { nx := fun _ H' => Q .non H', rt := Q } (L2.start N vs) H) : FnOk P w K mg base CX0 (k + 1) f fd ps sp := by
  obtain ⟨oc, od, kV, doc, pm, an, cdv, ct, osl, rfl, lk, hcd⟩ := F.ex
  refine fn_of lk hcd S len fun A outer s H vs Q E hr hs => ?_
  obtain ⟨t, h, q⟩ := body cdv A outer s H vs Q E rfl ⟨_, _, _, lk⟩ hr hs
  exact ⟨t, h.nox, q⟩
theorem start_env {mu rho : List Addr} {H : Hp} {N : List Str} {n ps : Nat} (hn : n = N.length) : ∀ {ds : List D} {vs : List V}, Rls K mu rho H ds vs → ds.length = ps → ps ≤ n → EnvR K mu rho H (ds.map some ++ List.replicate (n - ps) none) (L2.start N vs) := by
  intro ds vs r hl hle
  have hv : vs.length = ps := by rw [← r.length]; exact hl
  refine ⟨?_, fun i d h => ?_⟩
  · unfold L2.start
    rw [List.length_append, List.length_append, List.length_map, List.length_map, List.length_replicate, List.length_replicate, hl, hv, hn]
  · by_cases hi : i < ds.length
    · rw [List.getElem?_append_left (by rw [List.length_map]; exact hi), List.getElem?_map] at h
      cases hd : ds[i]? with
      | none => rw [hd] at h; cases h
      | some d' =>
        rw [hd] at h
        cases h
        obtain ⟨v, h1, h2⟩ := r.get i hd
        refine ⟨v, ?_, h2⟩
        unfold L2.start
        rw [List.getElem?_append_left (by rw [List.length_map, ← r.length]; exact hi), List.getElem?_map, h1]
        rfl
    · rw [List.getElem?_append_right (by rw [List.length_map]; omega), List.getElem?_replicate] at h
      split at h <;> cases h
/-- the context of a def's body -/
theorem gd_of {k : Nat} {e : Ent} {fa : Addr} {cdv : Value} {A : Around} {outer : List Env} {s : Shared} {H : Hp} {E : XK} (T : Top K mg gls Gam tab gnm) (S : FnScope e.N e.ps (defScope e.st)) (hr : Room k (A.deeper (envOfC e.name (defScope e.st) s.heap.objs.size fa cdv)))
    (ih : ∀ f e, tab f = some e → ∀ fa fd, DefA K mg e.name e.st fa fd → Binds K fd e.ps [] → FnOk P w K mg base CX0 k fa fd e.ps (spC w K (call gls Gam k f))) (hnm : ∀ f x, namesOf tab f = some x → (x == ("__debug__" : Str)) = false)
    (hlam : e.name = "subsets" → ∃ (P : Nat) (cd : Addr), gls 999 = .int P ∧ LamX.TabB base mg cd P ∧ cdv = .ref cd) :
    Gd gls (call gls Gam k) (cxOf CX0 P w K mg base e.N e.name (defScope e.st) fa cdv A outer s H E).nox (ctxOf tab gnm e) where
  N := rfl
  nd := S.nd
  sc := rfl
  kind := S.kind
  fn _ _ := rfl
  calm := rfl
  un := by
    have := hr.un
    show (A.deeper (envOfC e.name (defScope e.st) s.heap.objs.size fa cdv)).units + 80 < cLine
    omega
  xe := rfl
  blt := T.blt
  fns f x h := by
    refine ⟨hnm f x h, ?_⟩
    have h' : (tab f).map (·.name) = some x := h
    cases ht : tab f with
    | none => rw [ht] at h'; cases h'
    | some e' =>
      rw [ht] at h'
      have hx : e'.name = x := Option.some.inj h'
      subst hx
      obtain ⟨fa', fd', d', hd1, hd2, hd3, hd4⟩ := T.defs f e' ht
      exact ⟨CX0, k, fa', fd', e'.ps, (fun _ _ _ => False), ih f e' ht fa' fd' hd2 hd3, hr, hd2.mgf, hd2.fn.kp, hd3, fun Y _ => pass0⟩
  gl := T.gl
  dp := hr.depth
  kfs f x h := by
    have h' : keyNames tab f = some x := h
    unfold keyNames at h'
    cases ht : tab f with
    | none => rw [ht] at h'; cases h'
    | some e' =>
      rw [ht] at h'
      dsimp only at h'
      split at h'
      · rename_i hk
        have hx : e'.name = x := Option.some.inj h'
        subst hx
        obtain ⟨fa', fd', d', hd1, hd2, hd3, hd4⟩ := T.defs f e' ht
        exact ⟨hnm f _ (by show (tab f).map (·.name) = _; rw [ht]; rfl), fa', hd2.mgf, (key_def hk hd2.fn hd3).1⟩
      · cases h'
  lam h := by
    have hn : e.name = "subsets" := of_decide_eq_true (show decide (e.name = "subsets") = true from h)
    obtain ⟨P, cd, h1, h2, h3⟩ := hlam hn
    refine ⟨P, cd, h1, h2, h3, ?_⟩
    show (e.name ++ ".<locals>.") ++ "<lambda>" = lamQ
    rw [hn]
    rfl
theorem names_ok' (T : Top K mg gls Gam tab gnm) : ∀ f x, namesOf tab f = some x → (x == ("__debug__" : Str)) = false := fun f x h => by
  have h' : (tab f).map (·.name) = some x := h
  cases ht : tab f with
  | none => rw [ht] at h'; cases h'
  | some e' =>
    rw [ht] at h'
    have hx : e'.name = x := Option.some.inj h'
    subst hx
    obtain ⟨fa', fd', d', hd1, hd2, hd3, hd4⟩ := T.defs f e' ht
    unfold entB at hd4
    obtain ⟨hd4, _⟩ := and_l hd4
    obtain ⟨_, h5⟩ := and_l hd4
    exact nb h5
theorem calls_ok (T : Top K mg gls Gam tab gnm) (LC : ∀ f e, tab f = some e → e.name = "subsets" → LamC K mg base gls) : ∀ (k : Nat) (f : Nat) (e : Ent), tab f = some e → ∀ fa fd, DefA K mg e.name e.st fa fd → Binds K fd e.ps [] → FnOk P w K mg base CX0 k fa fd e.ps (spC w K (call gls Gam k f))
  | 0, f, e, ht, fa, fd, hD, hB => by
    have no : ∀ vs H Q E, ¬ spC w K (call gls Gam 0 f) vs H Q E := fun vs H Q E ⟨mu, rho, st, ds, S, R, d, s', e, q⟩ => by cases e
    exact ⟨fun vs H Q E h => absurd h (no vs H Q E), fun A outer s H args us vs Q E _ _ _ _ h => absurd h (no vs H Q E)⟩
  | k + 1, f, e, ht, fa, fd, hD, hB => by
    obtain ⟨_, _, d, hd1, _, _, hd4⟩ := T.defs f e ht
    unfold entB at hd4
    obtain ⟨hd4, h6⟩ := and_l hd4
    obtain ⟨hd4, h5⟩ := and_l hd4
    obtain ⟨hd4, h4⟩ := and_l hd4
    obtain ⟨hd4, h3⟩ := and_l hd4
    obtain ⟨h1, h2⟩ := and_l hd4
    have hps : d.ps = e.ps.length := Nat.eq_of_beq_eq_true h2
    have hn : d.n = e.N.length := Nat.eq_of_beq_eq_true h3
    have hle : d.ps ≤ d.n := Nat.le_of_ble_eq_true h4
    have Sc := C8.fnScope_by h1
    have unf : ∀ ds st, call gls Gam (k + 1) f ds st = if ds.length = d.ps then finish st.length (execs gls (call gls Gam k) d.body (ds.map some ++ List.replicate (d.n - d.ps) none) st) else none := fun ds st => by rw [call, hd1]
    refine fun_ok2 hD.fn Sc (fun vs H Q E h => ?_) (fun cdv A outer s H vs Q E hcode hlk hr h => ?_)
    · obtain ⟨mu, rho, st, ds, S, R, d2, s', ee, q⟩ := h
      rw [unf] at ee
      split at ee
      · rename_i hl
        rw [← R.length, hl, hps]
      · cases ee
    · obtain ⟨mu, rho, st, ds, S, R, d2, s', ee, q⟩ := h
      rw [unf] at ee
      split at ee
      · rename_i hl
        have g := gd_of (P := P) (w := w) (base := base) (outer := outer) (H := H) (E := E) T Sc hr (fun f' e' ht' fa' fd' hD' hB' => calls_ok T LC k f' e' ht' fa' fd' hD' hB') (names_ok' T) (fun hn => by
          obtain ⟨cd, P, k1, k2, k3⟩ := LC f e ht hn
          obtain ⟨oc, od, sl, lk⟩ := hlk
          have hm := hD.mgf
          rw [hn] at hm
          exact ⟨P, cd, k1, k2, by rw [← hcode]; exact k3 fa fd oc od sl hm lk⟩)
        refine ⟨_, chkSs_ok d.body _ _ _ g h6, ?_⟩
        have En := start_env (N := e.N) hn R hl hle
        cases ho : execs gls (call gls Gam k) d.body (ds.map some ++ List.replicate (d.n - d.ps) none) st with
        | none => rw [ho] at ee; cases ee
        | some o =>
          rw [ho] at ee
          refine ⟨mu, rho, _, st, o, S, En, ho, ?_⟩
          cases o with
          | nx env' st' => exact fun r1 H1 σ' l1 S1 E1 => handBack_ok S.len.symm l1 S1 .non ee q
          | rt d3 st' => exact fun r1 H1 v l1 S1 R1 => handBack_ok S.len.symm l1 S1 R1 ee q
      · cases ee
end
end Ow
/-! The law's own def. -/
namespace Ow
open PySem PySem.Spec PyProof.Rows L2

def headB (c : Ctx) (s : Stmt) : Bool := match s with
  | .Assign [.Name x _] (.List [.Call (.Name l _) [.Name y _] [] _, .Constant (.int i) _ _, .Constant (.int j) _ _] _) _ =>
    decide (l = "list") && globB c l && varB c 0 y && stoB c 1 x && decide (i = 0) && decide (j = 0)
  | _ => false
section
variable {gls : Nat → D} {cal : Cal} {X : Cx} {c : Ctx}
def tHead (K : PySem.W.Frag) : TS := fun E σ H => ∃ (a : Addr) (ns : List Int), σ[0]? = some (some (.ref a)) ∧ SqL K H a (ns.map V.int) ∧ ns.length ≤ 63 ∧
  ∀ l, H l = none → ∀ p, (upd H l (.lst (ns.map V.int))) p = none → E.nx (σ.set 1 (some (.ref p))) (upd (upd H l (.lst (ns.map V.int))) p (.lst [.ref l, .int 0, .int 0]))
theorem head_ok (g : Gd gls cal X c) {s : Stmt} (h : headB c s = true) : PS X s (tHead X.K) := by
  unfold headB at h
  split at h
  · obtain ⟨h, h6⟩ := and_l h
    obtain ⟨h, h5⟩ := and_l h
    obtain ⟨h, h4⟩ := and_l h
    obtain ⟨h, h3⟩ := and_l h
    obtain ⟨h1, h2⟩ := and_l h
    have e1 := of_decide_eq_true h1
    have e2 := of_decide_eq_true h5
    have e3 := of_decide_eq_true h6
    subst e1 e2 e3
    unfold varB at h3
    obtain ⟨h3, v4⟩ := and_l h3
    obtain ⟨h3, v3⟩ := and_l h3
    obtain ⟨v1, v2⟩ := and_l h3
    obtain ⟨s1, s2, s3⟩ := g.sto h4
    have hy := fun pos => pe_var (X := X) (pos := pos) (g.slot v1) (g.vis v2) (nb v3) (nb v4)
    have hl := fun p pos py => pe_callTy (X := X) (p := p) (pos := pos) call_list_of (g.glob h2) (g.blt ("list" : Str) (by decide +kernel)) (show bootBuiltins ("list" : Str) = some (.type "list") by decide +kernel) (pa_cons (hy py) pa_nil rfl) (by decide +kernel) (by decide +kernel) rfl rfl
    refine PS.imp (ps_set g.ndX s1 s2 (pe_lst (pa_cons (hl _ _ _) (pa_cons pe_int (pa_cons pe_int pa_nil rfl) rfl) rfl)) rfl s3) fun E σ H ⟨a, ns, ha, hS, hlen, q⟩ => ?_
    refine ⟨.ref a, ha, a, ns.map V.int, rfl, .inl hS, fun l hn => ⟨?_, fun p hp => ?_⟩⟩
    · show (3 : Nat) ≤ sizeLine
      rw [sizeLine_eq]
      omega
    · exact q l hn p hp
  · cases h
end
def spLaw (K : PySem.W.Frag) : Sp := fun vs H Q _ => ∃ (a : Addr) (ns : List Int), vs = [.ref a] ∧ SqL K H a (ns.map V.int) ∧ ns.length ≤ 63 ∧ ∀ H', Q (.bl true) H'
/-- .. with a table of code objects, empty at the start -/
def spLawT (K : PySem.W.Frag) (P : Option Nat) : Sp := fun vs H Q _ => ∃ (a : Addr) (ns : List Int), vs = [.ref a] ∧ SqL K H a (ns.map V.int) ∧ ns.length ≤ 63 ∧ (∀ p, P = some p → H p = some (.tbl #[])) ∧ ∀ H', Q (.bl true) H'
def tabS : Option Nat → Store
  | none => []
  | some p => [.tab p]
def tabR : Option Nat → List Addr
  | none => []
  | some p => [p]
def env0 (n : Nat) : Envr := (List.replicate n none).set 1 (some (.ref 0))
def st0 (ns : List Int) : Store := [.lst [.lst (ns.map .int), .int 0, .int 0]]
def lawB (tab : Nat → Option Ent) (gnm : Nat → Option Str) (e : Ent) (rest : Sms) : Bool :=
  C8.scC e.N e.ps (defScope e.st) && Nat.beq e.ps.length 1 && Nat.ble 2 e.N.length && !decide (e.name = "subsets") && (match defBody e.st with
    | s :: ss => headB (ctxOf tab gnm e) s && chkSs (ctxOf tab gnm e) rest ss
    | [] => false)
def retTrue : Option Out → Bool
  | some (.rt (.bl b) _) => b
  | _ => false
section
variable {P : Program} {w : World} {K : PySem.W.Frag} {mg : Str → Option Value} {base : Heap} {gls : Nat → D} {Gam : Nat → Option FDef} {tab : Nat → Option Ent} {gnm : Nat → Option Str}
theorem rls_ints {mu rho : List Addr} {H : Hp} : ∀ ns : List Int, Rls K mu rho H (ns.map D.int) (ns.map V.int)
  | [] => .nil
  | n :: ns => .cons (.int n) (rls_ints ns)
theorem noRefs_ints : ∀ ns : List Int, noRefs (ns.map D.int) = true
  | [] => rfl
  | n :: ns => by
    show (noRef (.int n) && noRefs (ns.map D.int)) = true
    rw [noRefs_ints ns]
    rfl
theorem start_sim {tb : Option Nat} {H : Hp} {l p : Addr} {ns : List Int} (hl : H l = none) (hp : (upd H l (.lst (ns.map V.int))) p = none) (hT : ∀ q, tb = some q → H q = some (.tbl #[])) :
    Sim w K [] (p :: tabR tb) (upd (upd H l (.lst (ns.map V.int))) p (.lst [.ref l, .int 0, .int 0])) (st0 ns ++ tabS tb) := by
  have lp : l ≠ p := fun e => by rw [← e, upd_same] at hp; cases hp
  have lt : ∀ q, tb = some q → l ≠ q := fun q hq e => by rw [e, hT q hq] at hl; cases hl
  have pt : ∀ q, tb = some q → p ≠ q := fun q hq e => by
    rw [e, upd_ne (lt q hq).symm, hT q hq] at hp
    cases hp
  have nl : l ∉ p :: tabR tb := fun h => by
    rcases List.mem_cons.mp h with h | h
    · exact lp h
    · cases tb with
      | none => cases h
      | some q => exact lt q rfl (List.mem_singleton.mp h)
  have R1 : Rl K [] (p :: tabR tb) (upd (upd H l (.lst (ns.map V.int))) p (.lst [.ref l, .int 0, .int 0])) (.lst (ns.map D.int)) (.ref l) := .lst ⟨.inl (by rw [upd_ne lp, upd_same]), nl, by simp⟩ (rls_ints ns)
  refine ⟨by cases tb <;> rfl, ?_, fun n c a e ea => ?_, fun a h => by cases h⟩
  · cases tb with
    | none => exact List.nodup_cons.mpr ⟨by simp [tabR], .nil⟩
    | some q => exact List.nodup_cons.mpr ⟨by simpa [tabR] using pt q rfl, by simp [tabR]⟩
  · cases n with
    | zero =>
      cases ea
      cases e
      refine ⟨?_, _, upd_same, .cons R1 (.cons (.int 0) (.cons (.int 0) .nil))⟩
      show (noRef (.lst (ns.map .int)) && true) = true
      rw [noRef, noRefs_ints]
      rfl
    | succ n =>
      cases tb with
      | none => simp [st0, tabS] at e
      | some q =>
        cases n with
        | zero =>
          cases ea
          cases e
          refine ⟨rfl, #[], by rw [upd_ne (pt _ rfl).symm, upd_ne (lt _ rfl).symm]; exact hT _ rfl, trivial, fun pos cv hc => ?_⟩
          have z : codeAmong pos [] = some cv := hc
          simp [codeAmong] at z
        | succ n => simp [st0, tabS] at e
theorem law_fnT {tb : Option Nat} (T : Top K mg gls Gam tab gnm) (LC : ∀ f e, tab f = some e → e.name = "subsets" → LamC K mg base gls) {e : Ent} {rest : Sms} {k : Nat} (hB : lawB tab gnm e rest = true) {fa : Addr} {fd : FuncData} (F : Fun K e.name e.name e.st fa fd)
    (law : ∀ ns : List Int, ns.length ≤ 63 → retTrue (execs gls (call gls Gam k) rest (env0 e.N.length) (st0 ns ++ tabS tb)) = true) : FnOk P w K mg base CX0 (k + 1) fa fd e.ps (spLawT K tb) := by
  unfold lawB at hB
  obtain ⟨hB, h4⟩ := and_l hB
  obtain ⟨hB, h7⟩ := and_l hB
  obtain ⟨hB, h3⟩ := and_l hB
  obtain ⟨h1, h2⟩ := and_l hB
  have Sc := C8.fnScope_by h1
  have hps : e.ps.length = 1 := Nat.eq_of_beq_eq_true h2
  have hN : 2 ≤ e.N.length := Nat.le_of_ble_eq_true h3
  have hnm : e.name ≠ "subsets" := by simpa using h7
  refine F.ok Sc (fun vs H Q E h => ?_) (fun cdv A outer s H vs Q E hr h => ?_)
  · obtain ⟨a, ns, rfl, _⟩ := h
    exact hps.symm
  · obtain ⟨a, ns, rfl, hS, hlen, hT, q⟩ := h
    have g := gd_of (P := P) (w := w) (base := base) (outer := outer) (H := H) (E := E) T Sc hr (fun f' e' ht' fa' fd' hD' hB' => calls_ok T LC k f' e' ht' fa' fd' hD' hB') (names_ok' T) (fun hn => absurd hn hnm)
    split at h4
    · rename_i s0 ss hb
      obtain ⟨h5, h6⟩ := and_l h4
      rw [hb]
      refine ⟨_, pss_cons (head_ok g h5) (chkSs_ok rest _ _ _ g h6), ?_⟩
      refine ⟨a, ns, rfl, hS, hlen, fun l hl p hp => ?_⟩
      have S2 := start_sim (w := w) (K := K) (tb := tb) hl hp hT
      have hl2 := law ns hlen
      cases ho : execs gls (call gls Gam k) rest (env0 e.N.length) (st0 ns ++ tabS tb) with
      | none => rw [ho] at hl2; cases hl2
      | some o =>
        rw [ho] at hl2
        refine ⟨[], p :: tabR tb, env0 e.N.length, st0 ns ++ tabS tb, o, S2, ⟨?_, fun i d hi => ?_⟩, ho, ?_⟩
        · show (env0 e.N.length).length = _
          unfold env0 L2.start
          rw [List.length_set, List.length_replicate, List.length_set, List.length_append, List.length_replicate, List.length_map]
          show e.N.length = 1 + (e.N.length - 1)
          omega
        · unfold env0 at hi
          by_cases h1 : i = 1
          · subst h1
            rw [List.getElem?_set_self (by rw [List.length_replicate]; omega)] at hi
            cases hi
            refine ⟨.ref p, ?_, .ref rfl⟩
            rw [List.getElem?_set_self]
            unfold L2.start
            rw [List.length_append, List.length_replicate, List.length_map]
            show 1 < 1 + (e.N.length - 1)
            omega
          · rw [List.getElem?_set_ne (Ne.symm h1), List.getElem?_replicate] at hi
            split at hi <;> cases hi
        · cases o with
          | nx _ _ => cases hl2
          | rt d st' =>
            cases d with
            | bl b =>
              have : b = true := hl2
              subst this
              exact fun r1 H1 v l1 S1 R1 => by rw [R1.bl_inv]; exact q H1
            | _ => cases hl2
    · cases h4
theorem law_fn (T : Top K mg gls Gam tab gnm) (LC : ∀ f e, tab f = some e → e.name = "subsets" → LamC K mg base gls) {e : Ent} {rest : Sms} {k : Nat} (hB : lawB tab gnm e rest = true) {fa : Addr} {fd : FuncData} (F : Fun K e.name e.name e.st fa fd)
    (law : ∀ ns : List Int, ns.length ≤ 63 → retTrue (execs gls (call gls Gam k) rest (env0 e.N.length) (st0 ns)) = true) : FnOk P w K mg base CX0 (k + 1) fa fd e.ps (spLaw K) :=
  (law_fnT (tb := none) T LC hB F law).imp fun vs H Q E ⟨a, ns, h1, h2, h3, h4⟩ => ⟨a, ns, h1, h2, h3, (fun p h => nomatch h), h4⟩
end
end Ow
/-! A module's defs, as a list. -/
namespace Ow
open PySem PySem.Spec PyProof.Rows L2

abbrev Rows := List (Nat × Ent × FDef)
def tabL (L : Rows) (f : Nat) : Option Ent := (L.lookup f).map (·.1)
def gamL (L : Rows) (f : Nat) : Option FDef := (L.lookup f).map (·.2)
theorem tab_mem : ∀ {L : Rows} {f : Nat} {e : Ent}, tabL L f = some e → ∃ d, (f, e, d) ∈ L ∧ gamL L f = some d
  | [], f, e, h => by cases h
  | (i, e', d') :: L, f, e, h => by
    unfold tabL at h
    unfold gamL
    rw [List.lookup_cons] at h ⊢
    by_cases hi : f = i
    · subst hi
      rw [beq_self_eq_true] at h ⊢
      cases h
      exact ⟨d', List.mem_cons_self .., rfl⟩
    · have hb : (f == i) = false := by simpa using hi
      rw [hb] at h ⊢
      obtain ⟨d, h1, h2⟩ := tab_mem (L := L) (f := f) h
      exact ⟨d, List.mem_cons_of_mem _ h1, h2⟩
/-- the def's arguments bind one by one -/
def BindF (x : Str) (st : Stmt) (ps : List Str) : Prop := ∀ (kV doc pm : Value) (an : Option Addr) (cdv ct : Value) (us : List Value), us.length = ps.length → bindArgs (PySem.W.fnOf x x (defArgs st) (defBody st) (defScope st) .none kV doc pm an cdv ct) ⟨us, []⟩ = pure (ps.zip us)
/-- a def as the top has left it -/
def DF (K : PySem.W.Frag) (x : Str) (st : Stmt) : Prop := ∃ (f : Addr) (od an : Option Addr) (sl : Array (Option Value)) (oc kV dc pm cd ct : Value), PySem.W.nsIn K mainGlobals x = some (some (.ref f)) ∧
  K.lookup f = some ⟨oc, od, .func (PySem.W.fnOf x x (defArgs st) (defBody st) (defScope st) .none kV dc pm an cd ct), sl⟩ ∧ PySem.W.codeIn K cd x = true ∧ PySem.W.keepIn K (.ref f) = true
theorem df_mk {K : PySem.W.Frag} {x : Str} {st : Stmt} {f : Addr} {od an : Option Addr} {sl : Array (Option Value)} {oc kV dc pm cd ct : Value} (a : PySem.W.nsIn K mainGlobals x = some (some (.ref f)))
    (l : K.lookup f = some ⟨oc, od, .func (PySem.W.fnOf x x (defArgs st) (defBody st) (defScope st) .none kV dc pm an cd ct), sl⟩) (c : PySem.W.codeIn K cd x = true) (k : PySem.W.keepIn K (.ref f) = true) : DF K x st := ⟨f, od, an, sl, oc, kV, dc, pm, cd, ct, a, l, c, k⟩
theorem DF.a {K : PySem.W.Frag} {x : Str} {st : Stmt} {mg : Str → Option Value} {h : Heap} {ps : List Str} (d : DF K x st) (X : K.In h) (G : h.Ns mainGlobals mg) (b : BindF x st ps) : ∃ fa fd, DefA K mg x st fa fd ∧ Binds K fd ps [] := by
  obtain ⟨f, od, an, sl, oc, kV, dc, pm, cd, ct, ha, hl, hc, hk⟩ := d
  have F := fun_mk (st := st) hl hc hk
  exact ⟨f, _, ⟨F, PySem.W.mg_of X G ha⟩, F.binds b⟩
theorem top_mk {K : PySem.W.Frag} {mg : Str → Option Value} {h : Heap} {gls : Nat → D} {L : Rows} {gnm : Nat → Option Str} (X : K.In h) (G : h.Ns mainGlobals mg) (defs : ∀ r ∈ L, DF K r.2.1.name r.2.1.st ∧ BindF r.2.1.name r.2.1.st r.2.1.ps)
    (chk : L.all (fun r => entB (tabL L) gnm r.2.2 r.2.1) = true) (blt : ∀ x ∈ bltNames, PySem.W.nsIn K mainGlobals x = some none)
    (gl : ∀ g x, gnm g = some x → (x == ("__debug__" : Str)) = false ∧ ∃ u v, mg x = some u ∧ RelV v u ∧ Fixd K (gls g) v) : Top K mg gls (gamL L) (tabL L) gnm where
  defs f e he := by
    obtain ⟨d, hm, hd⟩ := tab_mem he
    obtain ⟨h1, h2⟩ := defs _ hm
    have h5 := List.all_eq_true.mp chk (f, e, d) hm
    generalize hc : (f, e, d) = r at hm h1 h2 h5
    have hr1 : r.2.1 = e := by rw [← hc]
    have hr2 : r.2.2 = d := by rw [← hc]
    rw [hr1] at h1 h2
    obtain ⟨fa, fd, h3, h4⟩ := h1.a X G h2
    refine ⟨fa, fd, d, hd, h3, h4, ?_⟩
    rw [hr1, hr2] at h5
    exact h5
  blt x hx := PySem.W.mg_none_of X G (blt x hx)
  gl := gl
/-- THE LAW, of the module's rows and the law's own def -/
theorem law_mk {P : Program} {w : World} {K : PySem.W.Frag} {mg : Str → Option Value} {h : Heap} {fa : Addr} {gls : Nat → D} {L : Rows} {gnm : Nat → Option Str} {e : Ent} {rest : Sms} {k : Nat} {x : Str} (X : K.In h) (G : h.Ns mainGlobals mg) (hmg : mg e.name = some (.ref fa))
    (T : Top K mg gls (gamL L) (tabL L) gnm) (noL : L.all (fun r => !decide (r.2.1.name = "subsets")) = true := by decide +kernel) (dl : DF K e.name e.st) (hps : e.ps = [x]) (bl : ∀ (kV doc pm : Value) (an : Option Addr) (cdv ct : Value) (s : Shared) (v : Value), BindsTo s (PySem.W.fnOf e.name e.name (defArgs e.st) (defBody e.st) (defScope e.st) .none kV doc pm an cdv ct) ⟨[v], []⟩ [(x, v)])
    (hB : lawB (tabL L) gnm e rest = true) (law : ∀ ns : List Int, ns.length ≤ 63 → retTrue (execs gls (call gls (gamL L) k) rest (env0 e.N.length) (st0 ns)) = true) :
    ∃ fd : FuncData, (∀ (s : Shared) (v : Value), BindsTo s fd ⟨[v], []⟩ [(x, v)]) ∧ ∀ base : Heap, K.In base → base.Ns mainGlobals mg → FnOk P w K mg base CX0 (k + 1) fa fd [x] (spLaw K) := by
  obtain ⟨f, od, an, sl, oc, kV, dc, pm, cd, ct, ha, hl, hc, hk⟩ := dl
  have e1 := hmg.symm.trans (PySem.W.mg_of X G ha)
  cases e1
  have F := fun_mk (st := e.st) hl hc hk
  refine ⟨_, bl kV dc pm an cd ct, fun base _ _ => ?_⟩
  have := law_fn (P := P) (w := w) (base := base) T (fun f e ht hn => by
    obtain ⟨d, hm, _⟩ := tab_mem ht
    have := List.all_eq_true.mp noL _ hm
    rw [hn] at this
    simp at this) hB F law
  rw [hps] at this
  exact this
end Ow
/-! The end of a law whose defs make lambdas: every def's table is empty at the law's start. -/
namespace Ow
open PySem PySem.Spec PyProof.Rows L2 LamX
theorem walk_tabs {l : PySem.W.OpenLaw} {n k : Nat} {q : Program} {loose : List Str} {XP : (Str → Option Value) → Heap → Prop} {YP : PySem.World → Heap → Prop} {d : DefRec} {K : Params → PySem.W.Frag} {CX : PySem.World → CXT} {x : Str}
    (most : l.most = some n) (small : n ≤ sizeLine) (plain : d.params.defaults = []) (room : Room k callerA) (inn : ∀ (w : PySem.World) (h : Heap), YP w h → (K w.params).In h)
    (F : ∀ (w : PySem.World) (mg : Str → Option Value) (fa : Addr) (h : Heap), YP w h → (K w.params).In h → h.Ns mainGlobals mg → mg d.name = some (.ref fa) →
      (∀ (y : Str) (fy : Addr), ((recsOf q).any fun e => e.name == y) = true → mg y = some (.ref fy) → OwnTab (K w.params) fy h) → LawAtS l w (K w.params) (CX w) k n x mg fa h)
    (calm : ∀ (w : PySem.World) (H : Hp) (s : Shared) (e : Value) (z : Shared), CX w [] H s (fun _ _ _ => False) e z → False) :
    PySem.W.WalkO q loose XP YP l.row.toRowW d [] (fun f vs => PySem.call f vs) := by
  refine Att.attach_callB most plain fun w z0 z1 mg mb fa ob pm cd doc arg vs ns G Y _ _ _ hm hob hin hle hbi hge => ?_
  have inK := inn w _ Y
  have tabs : ∀ (y : Str) (fy : Addr), ((recsOf q).any fun e => e.name == y) = true → mg y = some (.ref fy) → OwnTab (K w.params) fy z1.heap := by
    intro y fy hy hmy c P o1 f1 e dd vs1 sl k1 k2 k3 k4 k5
    obtain ⟨dr, hmem, hnm⟩ := List.any_eq_true.mp hy
    have hnm : dr.name = y := beq_iff_eq.mp hnm
    obtain ⟨a2, o2, f2, c2, P2, b1, b2, b3, b4, _, b6⟩ := G.T.tab dr hmem
    rw [hnm, hmy] at b1
    cases b1
    have g1 := inK _ _ k1
    rw [b2] at g1
    cases g1
    rw [b3] at k2
    cases k2
    rw [b4] at k3
    cases k3
    obtain ⟨⟨oc, vc, c1, _, c3, c4⟩, hP⟩ := b6
    have g2 := inK _ _ k4
    rw [c1] at g2
    cases g2
    cases c3
    rw [c4] at k5
    cases k5
    exact hP
  obtain ⟨fd, cs, sp, r1, r2, r3, r4, r5, r6⟩ := F w mg fa _ Y inK G.T.g hm tabs
  exact law_callTs inK G.T.g G.T.b G.T.builtins G.T.nolimit hge r1 r2 r3 G.T.bmain hob hin (Nat.le_trans hle small) room r6 r4 (fun H hH hS => r5 H arg ns hle hbi hH hS) fun H e z => calm w H z1 e z
/-- what is known of a def's code and its table -/
def TabK (K : PySem.W.Frag) (y : Str) (st : Stmt) (c P : Addr) : Prop := ∃ (f : Addr) (od an : Option Addr) (sl : Array (Option Value)) (oc kV dc pm ct : Value) (vs : Array Value) (dd : Option Addr) (sl2 : Array (Option Value)), PySem.W.nsIn K mainGlobals y = some (some (.ref f)) ∧
  K.lookup f = some ⟨oc, od, .func (PySem.W.fnOf y y (defArgs st) (defBody st) (defScope st) .none kV dc pm an (.ref c) ct), sl⟩ ∧ K.lookup c = some ⟨.type "code", dd, .fields vs, sl2⟩ ∧ vs[11]? = some (.ref P) ∧ K.lookup P = none ∧ (∃ a b, vs[18]? = some (.str a b)) ∧ (∃ a b, vs[7]? = some (.int a b)) ∧
  (∃ a, vs[9]? = some (.bool a)) ∧ ∃ a b, vs[10]? = some (.int a b)
theorem tabs_mk {K : PySem.W.Frag} {h : Heap} {ts : List Addr} {y : Str} {st : Stmt} {c P f : Addr} {od an dd : Option Addr} {oc kV dc pm ct : Value} {vs : Array Value} {sl sl2 : Array (Option Value)} {x1 : Str} {t1 t2 t3 : Tok} {n2 n3 : Int} {b1 : Bool} (_ : K.In h) (Tb : ∀ P ∈ ts, h.get? P = some (PySem.W.tabObj #[]))
    (a1 : PySem.W.nsIn K mainGlobals y = some (some (.ref f))) (a2 : K.lookup f = some ⟨oc, od, .func (PySem.W.fnOf y y (defArgs st) (defBody st) (defScope st) .none kV dc pm an (.ref c) ct), sl⟩) (a3 : K.lookup c = some ⟨.type "code", dd, .fields vs, sl2⟩) (a4 : vs[11]? = some (.ref P)) (a5 : K.lookup P = none)
    (a6 : vs[18]? = some (.str x1 t1)) (a7 : vs[7]? = some (.int n2 t2)) (a8 : vs[9]? = some (.bool b1)) (a9 : vs[10]? = some (.int n3 t3)) (a10 : P ∈ ts) : ∃ c P, TabK K y st c P ∧ h.get? P = some (PySem.W.tabObj #[]) :=
  ⟨c, P, ⟨f, od, an, sl, oc, kV, dc, pm, ct, vs, dd, sl2, a1, a2, a3, a4, a5, ⟨_, _, a6⟩, ⟨_, _, a7⟩, ⟨_, a8⟩, _, _, a9⟩, Tb P a10⟩
theorem km_none {K : Params → PySem.W.Frag} {as : List Addr} {e : ∀ P, as = (K P).map (·.1)} {ts : List Addr} {w : PySem.World} {h : Heap} (_ : (PySem.W.kmHook K as e ts).says w h) {P : Addr} (hP : as.contains P = false) : (K w.params).lookup P = none := by
  have key : ∀ l : PySem.W.Frag, (l.map (·.1)).contains P = false → l.lookup P = none := by
    intro l
    induction l with
    | nil => intro _; rfl
    | cons q l ih =>
      intro hc
      rw [List.map_cons, List.contains_cons, Bool.or_eq_false_iff] at hc
      obtain ⟨a, b⟩ := q
      rw [List.lookup_cons, hc.1]
      exact ih hc.2
  refine key _ ?_
  rw [← e]
  exact hP
end Ow
/-! The end of a law one of whose defs makes a lambda. -/
namespace Ow
open PySem PySem.Spec PyProof.Rows L2 LamX
def glsT (P : Nat) : Nat → D := fun g => if g = 999 then .int P else glsA g
theorem getD_of {vs : Array Value} {i : Nat} {v : Value} (h : vs[i]? = some v) : vs.getD i .none = v := by
  rw [Array.getD_eq_getD_getElem?, h]
  rfl
theorem TabK.head {K : PySem.W.Frag} {y : Str} {st : Stmt} {c P : Addr} {h : Heap} (t : TabK K y st c P) (X : K.In h) : PySem.W.CodeHd h c P := by
  obtain ⟨f, od, an, sl, oc, kV, dc, pm, ct, vs, dd, sl2, a1, a2, a3, a4, a5, ⟨x1, t1, a6⟩, ⟨n2, t2, a7⟩, ⟨b1, a8⟩, n3, t3, a9⟩ := t
  refine ⟨_, vs, x1, t1, n2, t2, b1, n3, t3, X _ _ a3, rfl, rfl, a4, getD_of a4, getD_of a6, getD_of a7, getD_of a8, getD_of a9, fun e => ?_⟩
  rw [e, a5] at a3
  cases a3
theorem TabK.lamC {K : PySem.W.Frag} {st : Stmt} {c : Addr} {P : Nat} {h base : Heap} {mg : Str → Option Value} {gls : Nat → D} (t : TabK K "subsets" st c P) (X : K.In h) (G : h.Ns mainGlobals mg) (hg : gls 999 = .int P) (TB : TabB base mg c P) : LamC K mg base gls := by
  obtain ⟨f, od, an, sl, oc, kV, dc, pm, ct, vs, dd, sl2, a1, a2, _⟩ := t
  refine ⟨c, P, hg, TB, fun fa fd oc' od' sl' hm hl => ?_⟩
  have e := hm.symm.trans (PySem.W.mg_of X G a1)
  cases e
  rw [a2] at hl
  cases hl
  rfl
/-- THE LAW with a table -/
theorem law_mkT {l : PySem.W.OpenLaw} {w : PySem.World} {K : PySem.W.Frag} {mg : Str → Option Value} {h : Heap} {fa c : Addr} {P : Nat} {stL : Stmt} {L : Rows} {gnm : Nat → Option Str} {e : Ent} {rest : Sms} {k : Nat} {x : Str} (X : K.In h) (G : h.Ns mainGlobals mg) (hmg : mg e.name = some (.ref fa))
    (t : TabK K "subsets" stL c P) (hP : h.get? P = some (PySem.W.tabObj #[])) (T : Top K mg (glsT P) (gamL L) (tabL L) gnm) (dl : DF K e.name e.st) (hps : e.ps = [x])
    (bl : ∀ (kV doc pm : Value) (an : Option Addr) (cdv ct : Value) (s : Shared) (v : Value), BindsTo s (PySem.W.fnOf e.name e.name (defArgs e.st) (defBody e.st) (defScope e.st) .none kV doc pm an cdv ct) ⟨[v], []⟩ [(x, v)])
    (hB : lawB (tabL L) gnm e rest = true) (law : ∀ (P : Nat) (ns : List Int), ns.length ≤ 63 → retTrue (execs (glsT P) (call (glsT P) (gamL L) k) rest (env0 e.N.length) (st0 ns ++ [.tab P])) = true) :
    LawAtS l w K CX0 (k + 1) 63 x mg fa h := by
  obtain ⟨f, od, an, sl, oc, kV, dc, pm, cd, ct, ha, hl, hc, hk⟩ := dl
  have e1 := hmg.symm.trans (PySem.W.mg_of X G ha)
  cases e1
  have F := fun_mk (st := e.st) hl hc hk
  have hn : K.lookup P = none := by
    obtain ⟨_, _, _, _, _, _, _, _, _, _, _, _, _, _, _, _, a5, _⟩ := t
    exact a5
  refine ⟨_, [(c, P)], spLawT K (some P), fun p hp => ?_, fun p hp => ?_, fun p hp => ?_, bl kV dc pm an cd ct, fun H a ns h1 _ h3 h4 => ?_, fun base _ _ hTB => ?_⟩
  · rw [List.mem_singleton.mp hp]
    exact hP
  · rw [List.mem_singleton.mp hp]
    exact hn
  · rw [List.mem_singleton.mp hp]
    exact t.head X
  · refine ⟨a, ns, rfl, h4, h1, fun p hp => ?_, fun _ => rfl⟩
    cases hp
    exact h3 (c, P) (List.mem_singleton.mpr rfl)
  · have := law_fnT (P := l.prog) (w := w) (base := base) (tb := some P) T (fun _ _ _ _ => t.lamC X G (by unfold glsT; rw [if_pos rfl]) (hTB (c, P) (List.mem_singleton.mpr rfl))) hB F (law P)
    rw [hps] at this
    exact this
end Ow
/-! The defs of the texts, as trees (printed by prd.py). -/
namespace Ow
/-- part_fits(part, word): 0 part 1 word -/
def d1_part_fits : FDef := ⟨2, 2,
    (.cons (.ret (.or (.cons false (.cmp .isin (.var 0) (.tup (.cons false (.cst (.str [42])) (.cons false (.cst (.str [42,42])) .nil)))) (.cons false (.cmp .eq (.var 0) (.var 1)) .nil))))
    .nil)⟩
/-- fits(pattern, path): 0 pattern 1 path 2 part 3 word -/
def d2_fits : FDef := ⟨2, 4,
    (.cons (.ife (.cmp .eq (.ix (.var 0) (.neg (.cst (.int 1)))) (.cst (.str [42,42])))
      (.cons (.ife (.cmp .lt (.bi false .len (.cons false (.var 1) .nil)) (.bi false .len (.cons false (.var 0) .nil)))
      (.cons (.ret (.cst (.bl false)))
    .nil)
      .nil)
    .nil)
      (.cons (.ife (.cmp .ne (.bi false .len (.cons false (.var 1) .nil)) (.bi false .len (.cons false (.var 0) .nil)))
      (.cons (.ret (.cst (.bl false)))
    .nil)
      .nil)
    .nil))
    (.cons (.ret (.bi false .all (.cons false (.lc false [2,3] (.call 1 (.cons false (.var 2) (.cons false (.var 3) .nil))) (.last (.tp [2,3]) (.zip (.var 0) (.var 1)) .none)) .nil)))
    .nil))⟩
/-- line_of(book, path): 0 book 1 path 2 found 3 at 4 line -/
def d3_line_of : FDef := ⟨2, 5,
    (.cons (.asg (.nm 2) (.lc false [3,4] (.var 3) (.last (.tp [3,4]) (.enum (.ix (.var 0) (.cst (.int 1)))) (.some (.call 2 (.cons false (.ix (.var 4) (.cst (.int 0))) (.cons false (.var 1) .nil)))))))
    (.cons (.ret (.ite (.cmp .ne (.var 2) (.lst false .nil)) (.ix (.var 2) (.neg (.cst (.int 1)))) (.cst .non)))
    .nil))⟩
/-- _law_draw(_law_tape, _law_many): 0 _law_tape 1 _law_many 2 _law_prime 3 _law_found 4 _law_cell -/
def d4_l_draw : FDef := ⟨2, 5,
    (.cons (.asg (.nm 2) (.cst (.int 2305843009213693951)))
    (.cons (.ife (.cmp .lt (.ix (.var 0) (.cst (.int 2))) (.var 1))
      (.cons (.asg (.nm 4) (.cst (.int 0)))
    (.cons (.ife (.cmp .gt (.bi false .len (.cons false (.ix (.var 0) (.cst (.int 0))) .nil)) (.cst (.int 0)))
      (.cons (.asg (.nm 4) (.ix (.ix (.var 0) (.cst (.int 0))) (.bin false .mod (.bi false .int (.cons false (.ix (.var 0) (.cst (.int 1))) .nil)) (.bi false .len (.cons false (.ix (.var 0) (.cst (.int 0))) .nil)))))
    .nil)
      .nil)
    (.cons (.ife (.or (.cons false (.cmp .ge (.ix (.var 0) (.cst (.int 1))) (.bi false .len (.cons false (.ix (.var 0) (.cst (.int 0))) .nil))) (.cons false (.cmp .lt (.var 4) (.bin false .pow (.cst (.int 10)) (.cst (.int 18)))) .nil)))
      (.cons (.asg (.nm 4) (.bin false .mod (.bi false .int (.cons false (.bin false .add (.var 4) (.bin false .mul (.cst (.int 1000003)) (.ix (.var 0) (.cst (.int 1))))) .nil)) (.var 2)))
    (.cons (.asg (.nm 4) (.bin false .mod (.bi false .int (.cons false (.bin false .add (.bin false .add (.bin false .mul (.var 4) (.var 4)) (.bin false .mul (.cst (.int 1181783497276652981)) (.var 4))) (.cst (.int 2049848353892358983))) .nil)) (.var 2)))
    (.cons (.asg (.nm 4) (.bin false .mod (.bi false .int (.cons false (.bin false .add (.bin false .mul (.var 4) (.var 4)) (.cst (.int 1442695040888963407))) .nil)) (.var 2)))
    .nil)))
      .nil)
    (.cons (.seti (.var 0) (.cst (.int 1)) (.bin false .add (.ix (.var 0) (.cst (.int 1))) (.cst (.int 1))))
    (.cons (.seti (.var 0) (.cst (.int 2)) (.var 4))
    .nil)))))
      .nil)
    (.cons (.asg (.nm 3) (.bin false .mod (.bi false .int (.cons false (.ix (.var 0) (.cst (.int 2))) .nil)) (.var 1)))
    (.cons (.seti (.var 0) (.cst (.int 2)) (.bin false .fdiv (.ix (.var 0) (.cst (.int 2))) (.var 1)))
    (.cons (.ret (.var 3))
    .nil)))))⟩
/-- _law_like(_law_one, _law_two): 0 _law_one 1 _law_two 2 _law_k -/
def d5_l_like : FDef := ⟨2, 3,
    (.cons (.ife (.isi (.var 0) [.list,.tuple])
      (.cons (.ife (.or (.cons false (.cmp .ne (.isi (.var 0) [.list]) (.isi (.var 1) [.list])) (.cons false (.cmp .ne (.isi (.var 0) [.tuple]) (.isi (.var 1) [.tuple])) .nil)))
      (.cons (.ret (.cst (.bl false)))
    .nil)
      .nil)
    (.cons (.ife (.cmp .ne (.bi false .len (.cons false (.var 0) .nil)) (.bi false .len (.cons false (.var 1) .nil)))
      (.cons (.ret (.cst (.bl false)))
    .nil)
      .nil)
    (.cons (.ret (.cmp .eq (.lc false [2] (.var 2) (.last (.nm 2) (.rng (.cons false (.bi false .len (.cons false (.var 0) .nil)) .nil)) (.some (.not (.call 5 (.cons false (.ix (.var 0) (.var 2)) (.cons false (.ix (.var 1) (.var 2)) .nil))))))) (.lst false .nil)))
    .nil)))
      .nil)
    (.cons (.ife (.isi (.var 1) [.list,.tuple])
      (.cons (.ret (.cst (.bl false)))
    .nil)
      .nil)
    (.cons (.ret (.and (.cons false (.cmp .eq (.isi (.var 0) [.bool]) (.isi (.var 1) [.bool])) (.cons false (.cmp .eq (.var 0) (.var 1)) .nil))))
    .nil)))⟩
/-- _law_part(_law_tape): 0 _law_tape -/
def d6_l_part : FDef := ⟨1, 1,
    (.cons (.ret (.ix (.lst false (.cons false (.cst (.str [97])) (.cons false (.cst (.str [98])) (.cons false (.cst (.str [42])) (.cons false (.cst (.str [120])) (.cons false (.cst (.str [97])) (.cons false (.cst (.str [98])) .nil))))))) (.call 4 (.cons false (.var 0) (.cons false (.cst (.int 6)) .nil)))))
    .nil)⟩
/-- _law_pattern(_law_tape): 0 _law_tape 1 _law_found 2 _law_turn -/
def d7_l_pattern : FDef := ⟨1, 3,
    (.cons (.asg (.nm 1) (.tup .nil))
    (.cons (.for_ (.nm 2) (.rng (.cons false (.bin false .add (.cst (.int 1)) (.call 4 (.cons false (.var 0) (.cons false (.cst (.int 3)) .nil)))) .nil))
      (.cons (.asg (.nm 1) (.bin false .add (.var 1) (.tup (.cons false (.call 6 (.cons false (.var 0) .nil)) .nil))))
    .nil))
    (.cons (.ret (.ite (.cmp .eq (.call 4 (.cons false (.var 0) (.cons false (.cst (.int 2)) .nil))) (.cst (.int 0))) (.bin false .add (.sl false (.var 1) .none (.some (.neg (.cst (.int 1))))) (.tup (.cons false (.cst (.str [42,42])) .nil))) (.var 1)))
    .nil)))⟩
/-- _law_group(_law_tape): 0 _law_tape 1 _law_found 2 _law_turn -/
def d8_l_group : FDef := ⟨1, 3,
    (.cons (.asg (.nm 1) (.lst true (.cons false (.ix (.lst false (.cons false (.cst (.str [97,110,110])) (.cons false (.cst (.str [98,111,98])) (.cons false (.cst (.str [99,97,116])) (.cons false (.cst (.str [100,97,110])) (.cons false (.cst (.str [101,118,101])) .nil)))))) (.call 4 (.cons false (.var 0) (.cons false (.cst (.int 5)) .nil)))) .nil)))
    (.cons (.for_ (.nm 2) (.rng (.cons false (.call 4 (.cons false (.var 0) (.cons false (.cst (.int 4)) .nil))) .nil))
      (.cons (.app (.var 1) (.ix (.lst false (.cons false (.cst (.str [97,110,110])) (.cons false (.cst (.str [98,111,98])) (.cons false (.cst (.str [99,97,116])) (.cons false (.cst (.str [100,97,110])) (.cons false (.cst (.str [101,118,101])) .nil)))))) (.call 4 (.cons false (.var 0) (.cons false (.cst (.int 5)) .nil)))))
    .nil))
    (.cons (.ret (.bi false .tuple (.cons false (.sset false (.var 1)) .nil)))
    .nil)))⟩
/-- _law_teams(_law_tape): 0 _law_tape 1 _law_name -/
def d9_l_teams : FDef := ⟨1, 2,
    (.cons (.ret (.bi false .tuple (.cons false (.lc false [1] (.tup (.cons false (.var 1) (.cons false (.call 8 (.cons false (.var 0) .nil)) .nil))) (.last (.nm 1) (.of (.sl false (.tup (.cons false (.cst (.str [99,111,114,101])) (.cons false (.cst (.str [100,111,99,115])) (.cons false (.cst (.str [116,111,111,108,115])) .nil)))) .none (.some (.bin false .add (.cst (.int 1)) (.call 4 (.cons false (.var 0) (.cons false (.cst (.int 3)) .nil))))))) .none)) .nil)))
    .nil)⟩
/-- _law_asked(_law_tape, _law_teams_here): 0 _law_tape 1 _law_teams_here 2 _law_found 3 _law_name 4 _law_members -/
def d10_l_asked : FDef := ⟨2, 5,
    (.cons (.asg (.nm 2) (.tup .nil))
    (.cons (.for_ (.tp [3,4]) (.of (.var 1))
      (.cons (.ife (.and (.cons false (.cmp .lt (.bi false .len (.cons false (.var 2) .nil)) (.cst (.int 2))) (.cons false (.cmp .eq (.call 4 (.cons false (.var 0) (.cons false (.cst (.int 2)) .nil))) (.cst (.int 0))) .nil)))
      (.cons (.asg (.nm 2) (.bin false .add (.var 2) (.tup (.cons false (.tup (.cons false (.var 3) (.cons false (.ix (.lst false (.cons false (.cst (.int 1)) (.cons false (.cst (.int 1)) (.cons false (.cst (.int 2)) (.cons false (.cst (.int 2)) (.cons false (.cst (.int 3)) .nil)))))) (.call 4 (.cons false (.var 0) (.cons false (.cst (.int 5)) .nil)))) .nil))) .nil))))
    .nil)
      .nil)
    .nil))
    (.cons (.ret (.var 2))
    .nil)))⟩
/-- _law_line(_law_tape, _law_teams_here): 0 _law_tape 1 _law_teams_here -/
def d11_l_line : FDef := ⟨2, 2,
    (.cons (.ret (.tup (.cons false (.call 7 (.cons false (.var 0) .nil)) (.cons false (.call 10 (.cons false (.var 0) (.cons false (.var 1) .nil))) .nil))))
    .nil)⟩
/-- _law_book(_law_tape, _law_most): 0 _law_tape 1 _law_most 2 _law_turn 3 _law_teams_here 4 _law_lines -/
def d12_l_book : FDef := ⟨2, 5,
    (.cons (.par [3,4] (.cons false (.call 9 (.cons false (.var 0) .nil)) (.cons false (.tup .nil) .nil)))
    (.cons (.for_ (.nm 2) (.rng (.cons false (.call 4 (.cons false (.var 0) (.cons false (.bin false .add (.var 1) (.cst (.int 1))) .nil))) .nil))
      (.cons (.asg (.nm 4) (.bin false .add (.var 4) (.tup (.cons false (.call 11 (.cons false (.var 0) (.cons false (.var 3) .nil))) .nil))))
    .nil))
    (.cons (.ret (.tup (.cons false (.var 3) (.cons false (.var 4) .nil))))
    .nil)))⟩
/-- _law_path(_law_tape): 0 _law_tape 1 _law_found 2 _law_turn -/
def d13_l_path : FDef := ⟨1, 3,
    (.cons (.asg (.nm 1) (.tup .nil))
    (.cons (.for_ (.nm 2) (.rng (.cons false (.bin false .add (.cst (.int 1)) (.call 4 (.cons false (.var 0) (.cons false (.cst (.int 4)) .nil)))) .nil))
      (.cons (.asg (.nm 1) (.bin false .add (.var 1) (.tup (.cons false (.ix (.lst false (.cons false (.cst (.str [97])) (.cons false (.cst (.str [98])) (.cons false (.cst (.str [120])) (.cons false (.cst (.str [97,97])) (.cons false (.cst (.str [97])) (.cons false (.cst (.str [114,101,97,100,109,101])) .nil))))))) (.call 4 (.cons false (.var 0) (.cons false (.cst (.int 6)) .nil)))) .nil))))
    .nil))
    (.cons (.ret (.var 1))
    .nil)))⟩
/-- _law_fits(_law_pattern_here, _law_path_here): 0 _law_pattern_here 1 _law_path_here -/
def d14_l_fits : FDef := ⟨2, 2,
    (.cons (.ife (.or (.cons false (.cmp .eq (.var 0) (.tup .nil)) (.cons false (.cmp .eq (.var 1) (.tup .nil)) .nil)))
      (.cons (.ret (.cmp .eq (.var 0) (.var 1)))
    .nil)
      .nil)
    (.cons (.ife (.cmp .eq (.ix (.var 0) (.cst (.int 0))) (.cst (.str [42,42])))
      (.cons (.ret (.cst (.bl true)))
    .nil)
      .nil)
    (.cons (.ret (.and (.cons false (.cmp .isin (.ix (.var 0) (.cst (.int 0))) (.tup (.cons false (.cst (.str [42])) (.cons false (.ix (.var 1) (.cst (.int 0))) .nil)))) (.cons false (.call 14 (.cons false (.sl false (.var 0) (.some (.cst (.int 1))) .none) (.cons false (.sl false (.var 1) (.some (.cst (.int 1))) .none) .nil))) .nil))))
    .nil)))⟩
/-- _law_counts(_law_book_here, _law_path_here): 0 _law_book_here 1 _law_path_here 2 _law_found 3 _law_at 4 _law_line_here -/
def d15_l_counts : FDef := ⟨2, 5,
    (.cons (.asg (.nm 2) (.cst .non))
    (.cons (.for_ (.tp [3,4]) (.enum (.ix (.var 0) (.cst (.int 1))))
      (.cons (.asg (.nm 2) (.ite (.call 14 (.cons false (.ix (.var 4) (.cst (.int 0))) (.cons false (.var 1) .nil))) (.var 3) (.var 2)))
    .nil))
    (.cons (.ret (.var 2))
    .nil)))⟩
/-- _law_paths(_law_books, _law_most): 0 _law_books 1 _law_most 2 _law_words 3 _law_book_here 4 _law_turn 5 _law_found 6 _law_last 7 _law_longer 8 _law_path_here 9 _law_pattern_here 10 _law_asks 11 _law_part_here 12 _law_word -/
def d16_l_paths : FDef := ⟨2, 13,
    (.cons (.asg (.nm 2) (.lst false (.cons false (.cst (.str [97])) (.cons false (.cst (.str [97,97])) .nil))))
    (.cons (.for_ (.nm 3) (.of (.var 0))
      (.cons (.for_ (.tp [9,10]) (.of (.ix (.var 3) (.cst (.int 1))))
      (.cons (.asg (.nm 2) (.bin false .add (.var 2) (.lc false [11] (.var 11) (.last (.nm 11) (.of (.var 9)) (.some (.cmp .notin (.var 11) (.tup (.cons false (.cst (.str [42])) (.cons false (.cst (.str [42,42])) .nil)))))))))
    .nil))
    .nil))
    (.cons (.asg (.nm 2) (.sset false (.var 2)))
    (.cons (.par [5,6] (.cons false (.lst false .nil) (.cons false (.lst false (.cons false (.tup .nil) .nil)) .nil)))
    (.cons (.for_ (.nm 4) (.rng (.cons false (.var 1) .nil))
      (.cons (.asg (.nm 7) (.lst false .nil))
    (.cons (.for_ (.nm 8) (.of (.var 6))
      (.cons (.asg (.nm 7) (.bin false .add (.var 7) (.lc false [12] (.bin false .add (.var 8) (.tup (.cons false (.var 12) .nil))) (.last (.nm 12) (.of (.var 2)) .none))))
    .nil))
    (.cons (.par [5,6] (.cons false (.bin false .add (.var 5) (.var 7)) (.cons false (.var 7) .nil)))
    .nil))))
    (.cons (.ret (.var 5))
    .nil))))))⟩
/-- is_word(value): 0 value 1 letter -/
def d18_is_word : FDef := ⟨1, 2,
    (.cons (.ret (.and (.cons false (.isi (.var 0) [.str]) (.cons false (.chain .le .le (.cst (.int 1)) (.bi false .len (.cons false (.var 0) .nil)) (.cst (.int 8))) (.cons false (.bi false .all (.cons false (.lc false [1] (.cmp .isin (.var 1) (.gl 0)) (.last (.nm 1) (.of (.var 0)) .none)) .nil)) .nil)))))
    .nil)⟩
/-- are_words(value, low, high): 0 value 1 low 2 high 3 word -/
def d19_are_words : FDef := ⟨3, 4,
    (.cons (.ret (.and (.cons false (.isi (.var 0) [.tuple]) (.cons false (.chain .le .le (.var 1) (.bi false .len (.cons false (.var 0) .nil)) (.var 2)) (.cons false (.bi false .all (.cons false (.lc false [3] (.call 18 (.cons false (.var 3) .nil)) (.last (.nm 3) (.of (.var 0)) .none)) .nil)) .nil)))))
    .nil)⟩
/-- is_rising(row): 0 row 1 one 2 other -/
def d20_is_rising : FDef := ⟨1, 3,
    (.cons (.ret (.bi false .all (.cons false (.lc false [1,2] (.cmp .lt (.var 1) (.var 2)) (.last (.tp [1,2]) (.zip (.var 0) (.sl false (.var 0) (.some (.cst (.int 1))) .none)) .none)) .nil)))
    .nil)⟩
/-- is_path(value): 0 value -/
def d21_is_path : FDef := ⟨1, 1,
    (.cons (.ret (.call 19 (.cons false (.var 0) (.cons false (.cst (.int 1)) (.cons false (.cst (.int 8)) .nil)))))
    .nil)⟩
/-- is_push(value): 0 value 1 path -/
def d22_is_push : FDef := ⟨1, 2,
    (.cons (.ife (.or (.cons false (.not (.isi (.var 0) [.tuple])) (.cons false (.not (.chain .le .le (.cst (.int 1)) (.bi false .len (.cons false (.var 0) .nil)) (.cst (.int 5)))) (.cons false (.not (.bi false .all (.cons false (.lc false [1] (.call 21 (.cons false (.var 1) .nil)) (.last (.nm 1) (.of (.var 0)) .none)) .nil))) .nil))))
      (.cons (.ret (.cst (.bl false)))
    .nil)
      .nil)
    (.cons (.ret (.call 20 (.cons false (.var 0) .nil)))
    .nil))⟩
/-- is_pattern(value): 0 value 1 last 2 part -/
def d23_is_pattern : FDef := ⟨1, 3,
    (.cons (.ife (.or (.cons false (.not (.isi (.var 0) [.tuple])) (.cons false (.not (.chain .le .le (.cst (.int 1)) (.bi false .len (.cons false (.var 0) .nil)) (.cst (.int 3)))) .nil)))
      (.cons (.ret (.cst (.bl false)))
    .nil)
      .nil)
    (.cons (.asg (.nm 1) (.ix (.var 0) (.neg (.cst (.int 1)))))
    (.cons (.ife (.not (.bi false .all (.cons false (.lc false [2] (.or (.cons false (.cmp .eq (.var 2) (.cst (.str [42]))) (.cons false (.call 18 (.cons false (.var 2) .nil)) .nil))) (.last (.nm 2) (.of (.sl false (.var 0) .none (.some (.neg (.cst (.int 1)))))) .none)) .nil)))
      (.cons (.ret (.cst (.bl false)))
    .nil)
      .nil)
    (.cons (.ret (.or (.cons false (.cmp .isin (.var 1) (.tup (.cons false (.cst (.str [42])) (.cons false (.cst (.str [42,42])) .nil)))) (.cons false (.call 18 (.cons false (.var 1) .nil)) .nil))))
    .nil))))⟩
/-- is_team(value): 0 value -/
def d24_is_team : FDef := ⟨1, 1,
    (.cons (.ife (.or (.cons false (.not (.isi (.var 0) [.tuple])) (.cons false (.cmp .ne (.bi false .len (.cons false (.var 0) .nil)) (.cst (.int 2))) (.cons false (.not (.call 18 (.cons false (.ix (.var 0) (.cst (.int 0))) .nil))) .nil))))
      (.cons (.ret (.cst (.bl false)))
    .nil)
      .nil)
    (.cons (.ret (.and (.cons false (.call 19 (.cons false (.ix (.var 0) (.cst (.int 1))) (.cons false (.cst (.int 1)) (.cons false (.gl 1) .nil)))) (.cons false (.call 20 (.cons false (.ix (.var 0) (.cst (.int 1))) .nil)) .nil))))
    .nil))⟩
/-- are_asks(value, names): 0 value 1 names 2 ask -/
def d25_are_asks : FDef := ⟨2, 3,
    (.cons (.ife (.or (.cons false (.not (.isi (.var 0) [.tuple])) (.cons false (.cmp .gt (.bi false .len (.cons false (.var 0) .nil)) (.cst (.int 2))) .nil)))
      (.cons (.ret (.cst (.bl false)))
    .nil)
      .nil)
    (.cons (.for_ (.nm 2) (.of (.var 0))
      (.cons (.ife (.or (.cons false (.not (.isi (.var 2) [.tuple])) (.cons false (.cmp .ne (.bi false .len (.cons false (.var 2) .nil)) (.cst (.int 2))) (.cons false (.not (.isi (.ix (.var 2) (.cst (.int 0))) [.str])) (.cons false (.cmp .notin (.ix (.var 2) (.cst (.int 0))) (.var 1)) .nil)))))
      (.cons (.ret (.cst (.bl false)))
    .nil)
      .nil)
    (.cons (.ife (.or (.cons false (.not (.isi (.ix (.var 2) (.cst (.int 1))) [.int])) (.cons false (.isi (.ix (.var 2) (.cst (.int 1))) [.bool]) (.cons false (.not (.chain .le .le (.cst (.int 1)) (.ix (.var 2) (.cst (.int 1))) (.cst (.int 3)))) .nil))))
      (.cons (.ret (.cst (.bl false)))
    .nil)
      .nil)
    .nil)))
    (.cons (.ret (.call 20 (.cons false (.lc false [2] (.ix (.var 2) (.cst (.int 0))) (.last (.nm 2) (.of (.var 0)) .none)) .nil)))
    .nil)))⟩
/-- is_line(value, names): 0 value 1 names -/
def d26_is_line : FDef := ⟨2, 2,
    (.cons (.ret (.and (.cons false (.isi (.var 0) [.tuple]) (.cons false (.cmp .eq (.bi false .len (.cons false (.var 0) .nil)) (.cst (.int 2))) (.cons false (.call 23 (.cons false (.ix (.var 0) (.cst (.int 0))) .nil)) (.cons false (.call 25 (.cons false (.ix (.var 0) (.cst (.int 1))) (.cons false (.var 1) .nil))) .nil))))))
    .nil)⟩
/-- is_book(value): 0 value 1 names 2 teams 3 lines 4 team 5 line -/
def d27_is_book : FDef := ⟨1, 6,
    (.cons (.ife (.or (.cons false (.not (.isi (.var 0) [.tuple])) (.cons false (.cmp .ne (.bi false .len (.cons false (.var 0) .nil)) (.cst (.int 2))) (.cons false (.not (.isi (.ix (.var 0) (.cst (.int 0))) [.tuple])) .nil))))
      (.cons (.ret (.cst (.bl false)))
    .nil)
      .nil)
    (.cons (.asg (.tp [2,3]) (.var 0))
    (.cons (.ife (.or (.cons false (.cmp .gt (.bi false .len (.cons false (.var 2) .nil)) (.cst (.int 4))) (.cons false (.not (.bi false .all (.cons false (.lc false [4] (.call 24 (.cons false (.var 4) .nil)) (.last (.nm 4) (.of (.var 2)) .none)) .nil))) (.cons false (.not (.call 20 (.cons false (.lc false [4] (.ix (.var 4) (.cst (.int 0))) (.last (.nm 4) (.of (.var 2)) .none)) .nil))) .nil))))
      (.cons (.ret (.cst (.bl false)))
    .nil)
      .nil)
    (.cons (.ife (.or (.cons false (.cmp .gt (.bi false .len (.cons false (.call 28 (.cons false (.var 0) .nil)) .nil)) (.gl 1)) (.cons false (.not (.isi (.var 3) [.tuple])) (.cons false (.cmp .gt (.bi false .len (.cons false (.var 3) .nil)) (.cst (.int 6))) .nil))))
      (.cons (.ret (.cst (.bl false)))
    .nil)
      .nil)
    (.cons (.asg (.nm 1) (.lc false [4] (.ix (.var 4) (.cst (.int 0))) (.last (.nm 4) (.of (.var 2)) .none)))
    (.cons (.ret (.bi false .all (.cons false (.lc false [5] (.call 26 (.cons false (.var 5) (.cons false (.var 1) .nil))) (.last (.nm 5) (.of (.var 3)) .none)) .nil)))
    .nil))))))⟩
/-- people(book): 0 book 1 person 2 name 3 members -/
def d28_people : FDef := ⟨1, 4,
    (.cons (.ret (.sset false (.lc false [2,3,1] (.var 1) (.more (.tp [2,3]) (.of (.ix (.var 0) (.cst (.int 0)))) .none (.last (.nm 1) (.of (.var 3)) .none)))))
    .nil)⟩
/-- _law_whole(_law_item): 0 _law_item -/
def d29_l_whole : FDef := ⟨1, 1,
    (.cons (.ret (.and (.cons false (.isi (.var 0) [.int]) (.cons false (.not (.isi (.var 0) [.bool])) .nil))))
    .nil)⟩
/-- _law_within(_law_item, _law_low, _law_high): 0 _law_item 1 _law_low 2 _law_high -/
def d30_l_within : FDef := ⟨3, 3,
    (.cons (.ret (.and (.cons false (.call 29 (.cons false (.var 0) .nil)) (.cons false (.chain .le .le (.var 1) (.var 0) (.var 2)) .nil))))
    .nil)⟩
/-- _law_spoilt(_law_tape, _law_item): 0 _law_tape 1 _law_item 2 _law_k 3 _law_rest 4 _law_course 5 _law_at -/
def d31_l_spoilt : FDef := ⟨2, 6,
    (.cons (.ife (.and (.cons false (.isi (.var 1) [.tuple,.list]) (.cons false (.cmp .gt (.bi false .len (.cons false (.var 1) .nil)) (.cst (.int 0))) (.cons false (.cmp .gt (.call 4 (.cons false (.var 0) (.cons false (.cst (.int 7)) .nil))) (.cst (.int 0))) .nil))))
      (.cons (.asg (.nm 2) (.call 4 (.cons false (.var 0) (.cons false (.bi false .len (.cons false (.var 1) .nil)) .nil))))
    (.cons (.asg (.nm 3) (.bi true .list (.cons false (.var 1) .nil)))
    (.cons (.asg (.nm 4) (.call 4 (.cons false (.var 0) (.cons false (.cst (.int 12)) .nil))))
    (.cons (.ife (.cmp .lt (.var 4) (.cst (.int 8)))
      (.cons (.seti (.var 3) (.var 2) (.call 31 (.cons false (.var 0) (.cons false (.ix (.var 3) (.var 2)) .nil))))
    .nil)
      (.cons (.ife (.cmp .eq (.var 4) (.cst (.int 8)))
      (.cons (.popi (.var 3) (.var 2))
    .nil)
      (.cons (.ife (.cmp .eq (.var 4) (.cst (.int 9)))
      (.cons (.insi (.var 3) (.var 2) (.ix (.var 3) (.call 4 (.cons false (.var 0) (.cons false (.bi false .len (.cons false (.var 3) .nil)) .nil)))))
    .nil)
      (.cons (.ife (.cmp .eq (.var 4) (.cst (.int 10)))
      (.cons (.asg (.nm 3) (.rev true (.var 3)))
    .nil)
      (.cons (.insi (.var 3) (.var 2) (.call 32 (.cons false (.var 0) (.cons false (.cst (.int 1)) .nil))))
    .nil))
    .nil))
    .nil))
    .nil))
    (.cons (.ret (.ite (.isi (.var 1) [.tuple]) (.bi false .tuple (.cons false (.var 3) .nil)) (.var 3)))
    .nil)))))
      .nil)
    (.cons (.ife (.and (.cons false (.call 29 (.cons false (.var 1) .nil)) (.cons false (.cmp .gt (.call 4 (.cons false (.var 0) (.cons false (.cst (.int 6)) .nil))) (.cst (.int 0))) .nil)))
      (.cons (.ret (.bin false .add (.var 1) (.ix (.lst false (.cons false (.cst (.int 1)) (.cons false (.neg (.cst (.int 1))) (.cons false (.cst (.int 2)) (.cons false (.neg (.cst (.int 2))) (.cons false (.cst (.int 9)) (.cons false (.cst (.int 1000)) .nil))))))) (.call 4 (.cons false (.var 0) (.cons false (.cst (.int 6)) .nil))))))
    .nil)
      .nil)
    (.cons (.ife (.and (.cons false (.isi (.var 1) [.str]) (.cons false (.cmp .gt (.call 4 (.cons false (.var 0) (.cons false (.cst (.int 3)) .nil))) (.cst (.int 0))) .nil)))
      (.cons (.asg (.nm 5) (.call 4 (.cons false (.var 0) (.cons false (.bin false .add (.bi false .len (.cons false (.var 1) .nil)) (.cst (.int 1))) .nil))))
    (.cons (.ret (.bin false .add (.bin false .add (.sl false (.var 1) .none (.some (.var 5))) (.ix (.lst false (.cons false (.cst (.str [32])) (.cons false (.cst (.str [122])) (.cons false (.cst (.str [65])) (.cons false (.cst (.str [124])) (.cons false (.cst (.str [97,98,99,100,101,102,103,104])) (.cons false (.cst (.str [])) .nil))))))) (.call 4 (.cons false (.var 0) (.cons false (.cst (.int 6)) .nil))))) (.sl false (.var 1) (.some (.var 5)) .none)))
    .nil))
      .nil)
    (.cons (.ife (.and (.cons false (.isi (.var 1) [.tuple,.list]) (.cons false (.cmp .eq (.call 4 (.cons false (.var 0) (.cons false (.cst (.int 2)) .nil))) (.cst (.int 0))) .nil)))
      (.cons (.ret (.ite (.isi (.var 1) [.tuple]) (.bi false .list (.cons false (.var 1) .nil)) (.bi false .tuple (.cons false (.var 1) .nil))))
    .nil)
      .nil)
    (.cons (.ret (.call 32 (.cons false (.var 0) (.cons false (.cst (.int 2)) .nil))))
    .nil)))))⟩
/-- _law_any(_law_tape, _law_deep): 0 _law_tape 1 _law_deep 2 _law_course 3 _law_some 4 _law_k -/
def d32_l_any : FDef := ⟨2, 5,
    (.cons (.asg (.nm 2) (.call 4 (.cons false (.var 0) (.cons false (.cst (.int 13)) .nil))))
    (.cons (.ife (.and (.cons false (.cmp .lt (.var 2) (.cst (.int 4))) (.cons false (.cmp .gt (.var 1) (.cst (.int 0))) .nil)))
      (.cons (.asg (.nm 3) (.lc false [4] (.call 32 (.cons false (.var 0) (.cons false (.bin false .sub (.var 1) (.cst (.int 1))) .nil))) (.last (.nm 4) (.rng (.cons false (.call 4 (.cons false (.var 0) (.cons false (.cst (.int 4)) .nil))) .nil)) .none)))
    (.cons (.ret (.ix (.lst false (.cons false (.var 3) (.cons false (.bi false .tuple (.cons false (.var 3) .nil)) (.cons false (.bi false .tuple (.cons false (.var 3) .nil)) (.cons false (.bi false .tuple (.cons false (.var 3) .nil)) .nil))))) (.var 2)))
    .nil))
      .nil)
    (.cons (.ife (.cmp .lt (.var 2) (.cst (.int 8)))
      (.cons (.ret (.ix (.lst false (.cons false (.bin false .sub (.call 4 (.cons false (.var 0) (.cons false (.cst (.int 12)) .nil))) (.cst (.int 2))) (.cons false (.call 4 (.cons false (.var 0) (.cons false (.bin false .pow (.cst (.int 10)) (.cst (.int 12))) .nil))) (.cons false (.cst (.int 0)) (.cons false (.cst (.int 3)) .nil))))) (.bi false .max (.cons false (.cst (.int 0)) (.cons false (.bin false .sub (.var 2) (.cst (.int 4))) .nil)))))
    .nil)
      .nil)
    (.cons (.asg (.nm 3) (.lst false (.cons false (.cst (.str [])) (.cons false (.cst (.str [42])) (.cons false (.cst (.str [97])) (.cons false (.cst (.str [42,42])) (.cons false (.cst (.str [99,111,114,101])) (.cons false (.cst (.str [97,110,110])) (.cons false (.cst (.str [112,117,115,104])) .nil)))))))))
    (.cons (.ret (.ix (.lst false (.cons false (.cst (.bl true)) (.cons false (.cst (.bl false)) (.cons false (.cst .non) (.cons false (.ix (.var 3) (.call 4 (.cons false (.var 0) (.cons false (.cst (.int 7)) .nil)))) (.cons false (.tup (.cons false (.cst (.int 1)) (.cons false (.cst (.int 2)) .nil))) .nil)))))) (.bin false .sub (.var 2) (.cst (.int 8)))))
    .nil)))))⟩
/-- _law_push(_law_tape): 0 _law_tape 1 _law_found 2 _law_turn -/
def d33_l_push : FDef := ⟨1, 3,
    (.cons (.asg (.nm 1) (.lc false [2] (.call 13 (.cons false (.var 0) .nil)) (.last (.nm 2) (.rng (.cons false (.bin false .add (.cst (.int 1)) (.call 4 (.cons false (.var 0) (.cons false (.cst (.int 3)) .nil)))) .nil)) .none)))
    (.cons (.ret (.bi false .tuple (.cons false (.sset false (.var 1)) .nil)))
    .nil))⟩
/-- _law_people(_law_book_here): 0 _law_book_here 1 _law_found 2 _law_name 3 _law_members -/
def d34_l_people : FDef := ⟨1, 4,
    (.cons (.asg (.nm 1) (.lst false .nil))
    (.cons (.for_ (.tp [2,3]) (.of (.ix (.var 0) (.cst (.int 0))))
      (.cons (.asg (.nm 1) (.bin false .add (.var 1) (.bi false .list (.cons false (.var 3) .nil))))
    .nil))
    (.cons (.ret (.sset false (.var 1)))
    .nil)))⟩
/-- _law_is_word(_law_value): 0 _law_value 1 _law_sign -/
def d35_l_is_word : FDef := ⟨1, 2,
    (.cons (.ret (.and (.cons false (.isi (.var 0) [.str]) (.cons false (.chain .lt .lt (.cst (.int 0)) (.bi false .len (.cons false (.var 0) .nil)) (.cst (.int 9))) (.cons false (.cmp .eq (.lc false [1] (.var 1) (.last (.nm 1) (.of (.var 0)) (.some (.not (.chain .le .le (.cst (.str [97])) (.var 1) (.cst (.str [122]))))))) (.lst false .nil)) .nil)))))
    .nil)⟩
/-- _law_is_words(_law_value, _law_low, _law_high): 0 _law_value 1 _law_low 2 _law_high 3 _law_word -/
def d36_l_is_words : FDef := ⟨3, 4,
    (.cons (.ife (.or (.cons false (.not (.isi (.var 0) [.tuple])) (.cons false (.not (.chain .le .le (.var 1) (.bi false .len (.cons false (.var 0) .nil)) (.var 2))) .nil)))
      (.cons (.ret (.cst (.bl false)))
    .nil)
      .nil)
    (.cons (.ret (.cmp .eq (.lc false [3] (.var 3) (.last (.nm 3) (.of (.var 0)) (.some (.not (.call 35 (.cons false (.var 3) .nil)))))) (.lst false .nil)))
    .nil))⟩
/-- _law_is_push(_law_value): 0 _law_value 1 _law_path_here -/
def d37_l_is_push : FDef := ⟨1, 2,
    (.cons (.ife (.or (.cons false (.not (.isi (.var 0) [.tuple])) (.cons false (.not (.chain .lt .lt (.cst (.int 0)) (.bi false .len (.cons false (.var 0) .nil)) (.cst (.int 6)))) .nil)))
      (.cons (.ret (.cst (.bl false)))
    .nil)
      .nil)
    (.cons (.ret (.and (.cons false (.cmp .eq (.lc false [1] (.var 1) (.last (.nm 1) (.of (.var 0)) (.some (.not (.call 36 (.cons false (.var 1) (.cons false (.cst (.int 1)) (.cons false (.cst (.int 8)) .nil)))))))) (.lst false .nil)) (.cons false (.cmp .eq (.bi false .list (.cons false (.var 0) .nil)) (.sset false (.var 0))) .nil))))
    .nil))⟩
/-- _law_is_line(_law_value, _law_names): 0 _law_value 1 _law_names 2 _law_ask 3 _law_pattern_here 4 _law_asks 5 _law_part_here -/
def d38_l_is_line : FDef := ⟨2, 6,
    (.cons (.ife (.or (.cons false (.not (.isi (.var 0) [.tuple])) (.cons false (.cmp .ne (.lc false [5] (.isi (.var 5) [.tuple]) (.last (.nm 5) (.of (.var 0)) .none)) (.lst false (.cons false (.cst (.bl true)) (.cons false (.cst (.bl true)) .nil)))) .nil)))
      (.cons (.ret (.cst (.bl false)))
    .nil)
      .nil)
    (.cons (.asg (.tp [3,4]) (.var 0))
    (.cons (.ife (.or (.cons false (.not (.chain .lt .lt (.cst (.int 0)) (.bi false .len (.cons false (.var 3) .nil)) (.cst (.int 4)))) (.cons false (.cmp .gt (.bi false .len (.cons false (.var 4) .nil)) (.cst (.int 2))) .nil)))
      (.cons (.ret (.cst (.bl false)))
    .nil)
      .nil)
    (.cons (.ife (.cmp .ne (.lc false [5] (.var 5) (.last (.nm 5) (.of (.sl false (.var 3) .none (.some (.neg (.cst (.int 1)))))) (.some (.and (.cons false (.cmp .ne (.var 5) (.cst (.str [42]))) (.cons false (.not (.call 35 (.cons false (.var 5) .nil))) .nil)))))) (.lst false .nil))
      (.cons (.ret (.cst (.bl false)))
    .nil)
      .nil)
    (.cons (.ife (.and (.cons false (.cmp .notin (.ix (.bi false .list (.cons false (.var 3) .nil)) (.neg (.cst (.int 1)))) (.tup (.cons false (.cst (.str [42])) (.cons false (.cst (.str [42,42])) .nil)))) (.cons false (.not (.call 35 (.cons false (.ix (.bi false .list (.cons false (.var 3) .nil)) (.neg (.cst (.int 1)))) .nil))) .nil)))
      (.cons (.ret (.cst (.bl false)))
    .nil)
      .nil)
    (.cons (.for_ (.nm 2) (.of (.var 4))
      (.cons (.ife (.or (.cons false (.not (.isi (.var 2) [.tuple])) (.cons false (.cmp .ne (.bi false .len (.cons false (.var 2) .nil)) (.cst (.int 2))) (.cons false (.not (.isi (.ix (.var 2) (.cst (.int 0))) [.str])) (.cons false (.cmp .notin (.ix (.var 2) (.cst (.int 0))) (.var 1)) .nil)))))
      (.cons (.ret (.cst (.bl false)))
    .nil)
      .nil)
    (.cons (.ife (.not (.call 30 (.cons false (.ix (.var 2) (.cst (.int 1))) (.cons false (.cst (.int 1)) (.cons false (.cst (.int 3)) .nil)))))
      (.cons (.ret (.cst (.bl false)))
    .nil)
      .nil)
    .nil)))
    (.cons (.ret (.or (.cons false (.cmp .lt (.bi false .len (.cons false (.var 4) .nil)) (.cst (.int 2))) (.cons false (.cmp .lt (.ix (.ix (.var 4) (.cst (.int 0))) (.cst (.int 0))) (.ix (.ix (.var 4) (.cst (.int 1))) (.cst (.int 0)))) .nil))))
    .nil)))))))⟩
/-- _law_is_book(_law_value): 0 _law_value 1 _law_team 2 _law_names 3 _law_teams_here 4 _law_lines 5 _law_line_here 6 _law_part_here -/
def d39_l_is_book : FDef := ⟨1, 7,
    (.cons (.ife (.or (.cons false (.not (.isi (.var 0) [.tuple])) (.cons false (.cmp .ne (.lc false [6] (.isi (.var 6) [.tuple]) (.last (.nm 6) (.of (.var 0)) .none)) (.lst false (.cons false (.cst (.bl true)) (.cons false (.cst (.bl true)) .nil)))) .nil)))
      (.cons (.ret (.cst (.bl false)))
    .nil)
      .nil)
    (.cons (.asg (.tp [3,4]) (.var 0))
    (.cons (.ife (.or (.cons false (.cmp .gt (.bi false .len (.cons false (.var 3) .nil)) (.cst (.int 4))) (.cons false (.cmp .gt (.bi false .len (.cons false (.var 4) .nil)) (.cst (.int 6))) .nil)))
      (.cons (.ret (.cst (.bl false)))
    .nil)
      .nil)
    (.cons (.for_ (.nm 1) (.of (.var 3))
      (.cons (.ife (.or (.cons false (.not (.isi (.var 1) [.tuple])) (.cons false (.cmp .ne (.bi false .len (.cons false (.var 1) .nil)) (.cst (.int 2))) (.cons false (.not (.call 35 (.cons false (.ix (.var 1) (.cst (.int 0))) .nil))) .nil))))
      (.cons (.ret (.cst (.bl false)))
    .nil)
      .nil)
    (.cons (.ife (.not (.call 36 (.cons false (.ix (.var 1) (.cst (.int 1))) (.cons false (.cst (.int 1)) (.cons false (.cst (.int 5)) .nil)))))
      (.cons (.ret (.cst (.bl false)))
    .nil)
      .nil)
    (.cons (.ife (.cmp .ne (.bi false .list (.cons false (.ix (.var 1) (.cst (.int 1))) .nil)) (.sset false (.ix (.var 1) (.cst (.int 1)))))
      (.cons (.ret (.cst (.bl false)))
    .nil)
      .nil)
    .nil))))
    (.cons (.asg (.nm 2) (.lc false [1] (.ix (.var 1) (.cst (.int 0))) (.last (.nm 1) (.of (.var 3)) .none)))
    (.cons (.ife (.or (.cons false (.cmp .ne (.var 2) (.sset false (.var 2))) (.cons false (.cmp .gt (.bi false .len (.cons false (.call 34 (.cons false (.var 0) .nil)) .nil)) (.cst (.int 5))) .nil)))
      (.cons (.ret (.cst (.bl false)))
    .nil)
      .nil)
    (.cons (.ret (.cmp .eq (.lc false [5] (.var 5) (.last (.nm 5) (.of (.var 4)) (.some (.not (.call 38 (.cons false (.var 5) (.cons false (.var 2) .nil))))))) (.lst false .nil)))
    .nil)))))))⟩
/-- asks_of(book, path): 0 book 1 path 2 at 3 ask 4 count 5 name 6 members -/
def d40_asks_of : FDef := ⟨2, 7,
    (.cons (.asg (.nm 2) (.call 3 (.cons false (.var 0) (.cons false (.var 1) .nil))))
    (.cons (.ife (.cmp .is (.var 2) (.cst .non))
      (.cons (.ret (.lst false .nil))
    .nil)
      .nil)
    (.cons (.ret (.lc false [3,4,5,6] (.tup (.cons false (.var 6) (.cons false (.var 4) .nil))) (.more (.tp [3,4]) (.of (.ix (.ix (.ix (.var 0) (.cst (.int 1))) (.var 2)) (.cst (.int 1)))) .none (.last (.tp [5,6]) (.of (.ix (.var 0) (.cst (.int 0)))) (.some (.cmp .eq (.var 5) (.var 3)))))))
    .nil)))⟩
/-- enough(asks, some): 0 asks 1 some 2 members 3 count 4 person -/
def d41_enough : FDef := ⟨2, 5,
    (.cons (.ret (.bi false .all (.cons false (.lc false [2,3] (.cmp .ge (.bi false .len (.cons false (.lc false [4] (.var 4) (.last (.nm 4) (.of (.var 2)) (.some (.cmp .isin (.var 4) (.var 1))))) .nil)) (.var 3)) (.last (.tp [2,3]) (.of (.var 0)) .none)) .nil)))
    .nil)⟩
/-- can_land(book, author, paths, approvers): 0 book 1 author 2 paths 3 approvers 4 some 5 person 6 path -/
def d42_can_land : FDef := ⟨4, 7,
    (.cons (.asg (.nm 4) (.lc false [5] (.var 5) (.last (.nm 5) (.of (.var 3)) (.some (.cmp .ne (.var 5) (.var 1))))))
    (.cons (.ret (.bi false .all (.cons false (.lc false [6] (.call 41 (.cons false (.call 40 (.cons false (.var 0) (.cons false (.var 6) .nil))) (.cons false (.var 4) .nil))) (.last (.nm 6) (.of (.var 2)) .none)) .nil)))
    .nil))⟩
/-- _law_who(_law_tape): 0 _law_tape -/
def d43_l_who : FDef := ⟨1, 1,
    (.cons (.ret (.ix (.lst false (.cons false (.cst (.str [97,110,110])) (.cons false (.cst (.str [98,111,98])) (.cons false (.cst (.str [99,97,116])) (.cons false (.cst (.str [100,97,110])) (.cons false (.cst (.str [101,118,101])) (.cons false (.cst (.str [122,101,100])) .nil))))))) (.call 4 (.cons false (.var 0) (.cons false (.cst (.int 6)) .nil)))))
    .nil)⟩
/-- _law_needs(_law_book_here, _law_path_here): 0 _law_book_here 1 _law_path_here 2 _law_at 3 _law_teams_here 4 _law_name 5 _law_count -/
def d44_l_needs : FDef := ⟨2, 6,
    (.cons (.asg (.nm 2) (.call 15 (.cons false (.var 0) (.cons false (.var 1) .nil))))
    (.cons (.ife (.cmp .is (.var 2) (.cst .non))
      (.cons (.ret (.lst false .nil))
    .nil)
      .nil)
    (.cons (.asg (.nm 3) (.dof (.ix (.var 0) (.cst (.int 0)))))
    (.cons (.ret (.lc false [4,5] (.tup (.cons false (.ix (.var 3) (.var 4)) (.cons false (.var 5) .nil))) (.last (.tp [4,5]) (.of (.ix (.ix (.ix (.var 0) (.cst (.int 1))) (.var 2)) (.cst (.int 1)))) .none)))
    .nil))))⟩
/-- _law_met(_law_needs_here, _law_some): 0 _law_needs_here 1 _law_some 2 _law_members 3 _law_count 4 _law_person -/
def d45_l_met : FDef := ⟨2, 5,
    (.cons (.for_ (.tp [2,3]) (.of (.var 0))
      (.cons (.ife (.cmp .lt (.bi false .len (.cons false (.lc false [4] (.var 4) (.last (.nm 4) (.of (.var 2)) (.some (.cmp .isin (.var 4) (.var 1))))) .nil)) (.var 3))
      (.cons (.ret (.cst (.bl false)))
    .nil)
      .nil)
    .nil))
    (.cons (.ret (.cst (.bl true)))
    .nil))⟩
/-- _law_good(_law_book_here, _law_author, _law_paths, _law_some): 0 _law_book_here 1 _law_author 2 _law_paths 3 _law_some 4 _law_person 5 _law_path_here -/
def d46_l_good : FDef := ⟨4, 6,
    (.cons (.asg (.nm 3) (.lc false [4] (.var 4) (.last (.nm 4) (.of (.var 3)) (.some (.cmp .ne (.var 4) (.var 1))))))
    (.cons (.ret (.cmp .eq (.lc false [5] (.var 5) (.last (.nm 5) (.of (.var 2)) (.some (.not (.call 45 (.cons false (.call 44 (.cons false (.var 0) (.cons false (.var 5) .nil))) (.cons false (.var 3) .nil))))))) (.lst false .nil)))
    .nil))⟩
/-- fresh(words): 0 words 1 some 2 length 3 word 4 letter -/
def d47_fresh : FDef := ⟨1, 5,
    (.cons (.asg (.nm 1) (.lc false [2] (.bin false .mul (.cst (.str [97])) (.var 2)) (.last (.nm 2) (.rng (.cons false (.cst (.int 1)) (.cons false (.cst (.int 9)) .nil))) .none)))
    (.cons (.asg (.nm 1) (.lst false (.cons true (.var 1) (.cons true (.lc false [4] (.bin false .add (.cst (.str [97,97,97,97,97,97,97])) (.var 4)) (.last (.nm 4) (.of (.gl 0)) .none)) .nil))))
    (.cons (.ret (.ix (.lc false [3] (.var 3) (.last (.nm 3) (.of (.var 1)) (.some (.cmp .notin (.var 3) (.var 0))))) (.cst (.int 0))))
    .nil)))⟩
/-- words_at(patterns, place): 0 patterns 1 place 2 parts 3 words 4 pattern 5 part -/
def d48_words_at : FDef := ⟨2, 6,
    (.cons (.asg (.nm 2) (.lc false [4] (.ix (.var 4) (.var 1)) (.last (.nm 4) (.of (.var 0)) (.some (.cmp .lt (.var 1) (.bi false .len (.cons false (.var 4) .nil)))))))
    (.cons (.asg (.nm 3) (.lc false [5] (.var 5) (.last (.nm 5) (.of (.var 2)) (.some (.cmp .notin (.var 5) (.tup (.cons false (.cst (.str [42])) (.cons false (.cst (.str [42,42])) .nil))))))))
    (.cons (.ret (.sset false (.lst false (.cons true (.var 3) (.cons false (.call 47 (.cons false (.var 3) .nil)) .nil)))))
    .nil)))⟩
/-- could_fit(pattern, path): 0 pattern 1 path 2 part 3 word -/
def d49_could_fit : FDef := ⟨2, 4,
    (.cons (.ife (.and (.cons false (.cmp .gt (.bi false .len (.cons false (.var 1) .nil)) (.bi false .len (.cons false (.var 0) .nil))) (.cons false (.cmp .ne (.ix (.var 0) (.neg (.cst (.int 1)))) (.cst (.str [42,42]))) .nil)))
      (.cons (.ret (.cst (.bl false)))
    .nil)
      .nil)
    (.cons (.ret (.bi false .all (.cons false (.lc false [2,3] (.call 1 (.cons false (.var 2) (.cons false (.var 3) .nil))) (.last (.tp [2,3]) (.zip (.var 0) (.var 1)) .none)) .nil)))
    .nil))⟩
/-- longer_kinds(patterns, last, place): 0 patterns 1 last 2 place 3 path 4 found 5 known 6 word 7 new 8 sign 9 pattern -/
def d50_longer_kinds : FDef := ⟨3, 10,
    (.cons (.par [4,5] (.cons false (.lst true .nil) (.cons false .dnew .nil)))
    (.cons (.for_ (.nm 3) (.of (.var 1))
      (.cons (.for_ (.nm 6) (.of (.call 48 (.cons false (.var 0) (.cons false (.var 2) .nil))))
      (.cons (.asg (.nm 7) (.tup (.cons true (.var 3) (.cons false (.var 6) .nil))))
    (.cons (.asg (.nm 8) (.bi false .tuple (.cons false (.lc false [9] (.call 49 (.cons false (.var 9) (.cons false (.var 7) .nil))) (.last (.nm 9) (.of (.var 0)) .none)) .nil)))
    (.cons (.ife (.cmp .notin (.var 8) (.var 5))
      (.cons (.seti (.var 5) (.var 8) (.cst (.bl true)))
    (.cons (.app (.var 4) (.var 7))
    .nil))
      .nil)
    .nil))))
    .nil))
    (.cons (.ret (.var 4))
    .nil)))⟩
/-- path_kinds(books): 0 books 1 patterns 2 most 3 place 4 found 5 last 6 book 7 line 8 pattern -/
def d51_path_kinds : FDef := ⟨1, 9,
    (.cons (.asg (.nm 1) (.lc false [6,7] (.ix (.var 7) (.cst (.int 0))) (.more (.nm 6) (.of (.var 0)) .none (.last (.nm 7) (.of (.ix (.var 6) (.cst (.int 1)))) .none))))
    (.cons (.asg (.nm 2) (.bi false .max (.cons false (.lst false (.cons false (.cst (.int 0)) (.cons true (.lc false [8] (.bi false .len (.cons false (.var 8) .nil)) (.last (.nm 8) (.of (.var 1)) .none)) .nil))) .nil)))
    (.cons (.par [4,5] (.cons false (.lst false .nil) (.cons false (.lst false (.cons false (.tup .nil) .nil)) .nil)))
    (.cons (.for_ (.nm 3) (.rng (.cons false (.bin false .add (.var 2) (.cst (.int 1))) .nil))
      (.cons (.asg (.nm 5) (.call 50 (.cons false (.var 1) (.cons false (.var 5) (.cons false (.var 3) .nil)))))
    (.cons (.asg (.nm 4) (.bin false .add (.var 4) (.var 5)))
    .nil)))
    (.cons (.ret (.var 4))
    .nil)))))⟩
/-- subsets(some): 0 some 1 found 2 person 3 row -/
def d52_subsets : FDef := ⟨1, 4,
    (.cons (.asg (.nm 1) (.lst false (.cons false (.tup .nil) .nil)))
    (.cons (.for_ (.nm 2) (.of (.var 0))
      (.cons (.asg (.nm 1) (.bin false .add (.var 1) (.lc false [3] (.tup (.cons true (.var 3) (.cons false (.var 2) .nil))) (.last (.nm 3) (.of (.var 1)) .none))))
    .nil))
    (.cons (.ret (.skey false 0 (.var 1)))
    .nil)))⟩
/-- unlike_people(first, second, rows): 0 first 1 second 2 rows 3 row -/
def d53_unlike_people : FDef := ⟨3, 4,
    (.cons (.ife (.cmp .eq (.var 0) (.var 1))
      (.cons (.ret (.cst .non))
    .nil)
      .nil)
    (.cons (.for_ (.nm 3) (.of (.var 2))
      (.cons (.ife (.cmp .ne (.call 41 (.cons false (.var 0) (.cons false (.var 3) .nil))) (.call 41 (.cons false (.var 1) (.cons false (.var 3) .nil))))
      (.cons (.ret (.var 3))
    .nil)
      .nil)
    .nil))
    (.cons (.ret (.cst .non))
    .nil)))⟩
/-- parting_change(one, other): 0 one 1 other 2 rows 3 path 4 row -/
def d54_parting_change : FDef := ⟨2, 5,
    (.cons (.asg (.nm 2) (.call 52 (.cons false (.sset false (.lst false (.cons true (.call 28 (.cons false (.var 0) .nil)) (.cons true (.call 28 (.cons false (.var 1) .nil)) .nil)))) .nil)))
    (.cons (.for_ (.nm 3) (.of (.call 51 (.cons false (.tup (.cons false (.var 0) (.cons false (.var 1) .nil))) .nil)))
      (.cons (.asg (.nm 4) (.call 53 (.cons false (.call 40 (.cons false (.var 0) (.cons false (.var 3) .nil))) (.cons false (.call 40 (.cons false (.var 1) (.cons false (.var 3) .nil))) (.cons false (.var 2) .nil)))))
    (.cons (.ife (.cmp .isnot (.var 4) (.cst .non))
      (.cons (.ret (.tup (.cons false (.var 3) (.cons false (.var 4) .nil))))
    .nil)
      .nil)
    .nil)))
    (.cons (.ret (.cst .non))
    .nil)))⟩
/-- alike(one, other): 0 one 1 other -/
def d55_alike : FDef := ⟨2, 2,
    (.cons (.ret (.cmp .is (.call 54 (.cons false (.var 0) (.cons false (.var 1) .nil))) (.cst .non)))
    .nil)⟩
/-- _law_length(_law_row): 0 _law_row -/
def d59_l_length : FDef := ⟨1, 1,
    (.cons (.ret (.tup (.cons false (.bi false .len (.cons false (.var 0) .nil)) (.cons false (.var 0) .nil))))
    .nil)⟩
/-- _law_sets(_law_some): 0 _law_some 1 _law_found 2 _law_person 3 _law_row -/
def d60_l_sets : FDef := ⟨1, 4,
    (.cons (.asg (.nm 1) (.lst false (.cons false (.tup .nil) .nil)))
    (.cons (.for_ (.nm 2) (.of (.var 0))
      (.cons (.asg (.nm 1) (.bin false .add (.var 1) (.lc false [3] (.bin false .add (.var 3) (.tup (.cons false (.var 2) .nil))) (.last (.nm 3) (.of (.var 1)) .none))))
    .nil))
    (.cons (.ret (.skey false 59 (.var 1)))
    .nil)))⟩
/-- _law_parts(_law_one, _law_other): 0 _law_one 1 _law_other 2 _law_rows 3 _law_known 4 _law_path 5 _law_first 6 _law_second 7 _law_row -/
def d62_l_parts : FDef := ⟨2, 8,
    (.cons (.asg (.nm 2) (.call 60 (.cons false (.sset false (.bin false .add (.call 34 (.cons false (.var 0) .nil)) (.call 34 (.cons false (.var 1) .nil)))) .nil)))
    (.cons (.asg (.nm 3) (.lst true .nil))
    (.cons (.for_ (.nm 4) (.of (.call 16 (.cons false (.tup (.cons false (.var 0) (.cons false (.var 1) .nil))) (.cons false (.cst (.int 4)) .nil))))
      (.cons (.par [5,6] (.cons false (.call 44 (.cons false (.var 0) (.cons false (.var 4) .nil))) (.cons false (.call 44 (.cons false (.var 1) (.cons false (.var 4) .nil))) .nil)))
    (.cons (.ife (.and (.cons false (.cmp .ne (.var 5) (.var 6)) (.cons false (.cmp .notin (.tup (.cons false (.var 5) (.cons false (.var 6) .nil))) (.var 3)) .nil)))
      (.cons (.for_ (.nm 7) (.of (.var 2))
      (.cons (.ife (.cmp .ne (.call 45 (.cons false (.var 5) (.cons false (.var 7) .nil))) (.call 45 (.cons false (.var 6) (.cons false (.var 7) .nil))))
      (.cons (.ret (.tup (.cons false (.var 4) (.cons false (.var 7) .nil))))
    .nil)
      .nil)
    .nil))
    (.cons (.app (.var 3) (.tup (.cons false (.var 5) (.cons false (.var 6) .nil))))
    .nil))
      .nil)
    .nil)))
    (.cons (.ret (.cst .non))
    .nil))))⟩
/-- _law_near(_law_tape, _law_book_here): 0 _law_tape 1 _law_book_here 2 _law_found 3 _law_teams_here 4 _law_lines 5 _law_at 6 _law_way 7 _law_pair -/
def d63_l_near : FDef := ⟨2, 8,
    (.cons (.asg (.tp [3,4]) (.var 1))
    (.cons (.par [5,6] (.cons false (.call 4 (.cons false (.var 0) (.cons false (.bin false .add (.bi false .len (.cons false (.var 4) .nil)) (.cst (.int 1))) .nil))) (.cons false (.call 4 (.cons false (.var 0) (.cons false (.cst (.int 5)) .nil))) .nil)))
    (.cons (.asg (.nm 2) (.bin false .add (.sl false (.var 4) .none (.some (.var 5))) (.sl false (.var 4) (.some (.bin false .add (.var 5) (.cst (.int 1)))) .none)))
    (.cons (.ife (.cmp .eq (.var 6) (.cst (.int 0)))
      (.cons (.asg (.nm 2) (.bin false .add (.bin false .add (.sl false (.var 4) .none (.some (.var 5))) (.tup (.cons false (.call 11 (.cons false (.var 0) (.cons false (.var 3) .nil))) .nil))) (.sl false (.var 4) (.some (.var 5)) .none)))
    .nil)
      .nil)
    (.cons (.ife (.and (.cons false (.cmp .eq (.var 6) (.cst (.int 1))) (.cons false (.cmp .lt (.var 5) (.bi false .len (.cons false (.var 4) .nil))) .nil)))
      (.cons (.asg (.nm 2) (.bin false .add (.bin false .add (.sl false (.var 4) .none (.some (.var 5))) (.tup (.cons false (.tup (.cons false (.ix (.ix (.var 4) (.var 5)) (.cst (.int 0))) (.cons false (.call 10 (.cons false (.var 0) (.cons false (.var 3) .nil))) .nil))) .nil))) (.sl false (.var 4) (.some (.bin false .add (.var 5) (.cst (.int 1)))) .none)))
    .nil)
      .nil)
    (.cons (.ife (.cmp .eq (.var 6) (.cst (.int 2)))
      (.cons (.asg (.nm 7) (.sl false (.var 4) (.some (.var 5)) (.some (.bin false .add (.var 5) (.cst (.int 2))))))
    (.cons (.asg (.nm 2) (.bin false .add (.bin false .add (.sl false (.var 4) .none (.some (.var 5))) (.rev false (.var 7))) (.sl false (.var 4) (.some (.bin false .add (.var 5) (.cst (.int 2)))) .none)))
    .nil))
      .nil)
    (.cons (.ife (.and (.cons false (.cmp .eq (.var 6) (.cst (.int 3))) (.cons false (.cmp .lt (.var 5) (.bi false .len (.cons false (.var 4) .nil))) .nil)))
      (.cons (.asg (.nm 2) (.bin false .add (.bin false .add (.sl false (.var 4) .none (.some (.var 5))) (.tup (.cons false (.ix (.var 4) (.var 5)) .nil))) (.sl false (.var 4) (.some (.var 5)) .none)))
    .nil)
      .nil)
    (.cons (.ret (.tup (.cons false (.var 3) (.cons false (.sl false (.var 2) .none (.some (.cst (.int 6)))) .nil))))
    .nil))))))))⟩
/-- without(book, at): 0 book 1 at -/
def d64_without : FDef := ⟨2, 2,
    (.cons (.ret (.tup (.cons false (.ix (.var 0) (.cst (.int 0))) (.cons false (.tup (.cons true (.sl false (.ix (.var 0) (.cst (.int 1))) .none (.some (.var 1))) (.cons true (.sl false (.ix (.var 0) (.cst (.int 1))) (.some (.bin false .add (.var 1) (.cst (.int 1)))) .none) .nil))) .nil))))
    .nil)⟩
/-- shortened(book): 0 book 1 at 2 rest -/
def d65_shortened : FDef := ⟨1, 3,
    (.cons (.for_ (.nm 1) (.rrng (.bi false .len (.cons false (.ix (.var 0) (.cst (.int 1))) .nil)))
      (.cons (.asg (.nm 2) (.call 64 (.cons false (.var 0) (.cons false (.var 1) .nil))))
    (.cons (.ife (.call 55 (.cons false (.var 2) (.cons false (.var 0) .nil)))
      (.cons (.asg (.nm 0) (.var 2))
    .nil)
      .nil)
    .nil)))
    (.cons (.ret (.var 0))
    .nil))⟩
/-- idle_lines(book): 0 book 1 counting 2 path 3 at -/
def d66_idle_lines : FDef := ⟨1, 4,
    (.cons (.asg (.nm 1) (.lc false [2] (.call 3 (.cons false (.var 0) (.cons false (.var 2) .nil))) (.last (.nm 2) (.of (.call 51 (.cons false (.tup (.cons false (.var 0) .nil)) .nil))) .none)))
    (.cons (.ret (.lc false [3] (.var 3) (.last (.nm 3) (.rng (.cons false (.bi false .len (.cons false (.ix (.var 0) (.cst (.int 1))) .nil)) .nil)) (.some (.cmp .notin (.var 3) (.var 1))))))
    .nil))⟩
/-- needless_lines(book): 0 book 1 at -/
def d67_needless_lines : FDef := ⟨1, 2,
    (.cons (.ret (.lc false [1] (.var 1) (.last (.nm 1) (.rng (.cons false (.bi false .len (.cons false (.ix (.var 0) (.cst (.int 1))) .nil)) .nil)) (.some (.call 55 (.cons false (.var 0) (.cons false (.call 64 (.cons false (.var 0) (.cons false (.var 1) .nil))) .nil)))))))
    .nil)⟩
/-- exchangeable(book): 0 book 1 found 2 at 3 teams 4 lines -/
def d68_exchangeable : FDef := ⟨1, 5,
    (.cons (.asg (.tp [3,4]) (.var 0))
    (.cons (.asg (.nm 1) (.lst true .nil))
    (.cons (.for_ (.nm 2) (.rng (.cons false (.bin false .sub (.bi false .len (.cons false (.var 4) .nil)) (.cst (.int 1))) .nil))
      (.cons (.ife (.call 55 (.cons false (.var 0) (.cons false (.tup (.cons false (.var 3) (.cons false (.tup (.cons true (.sl false (.var 4) .none (.some (.var 2))) (.cons false (.ix (.var 4) (.bin false .add (.var 2) (.cst (.int 1)))) (.cons false (.ix (.var 4) (.var 2)) (.cons true (.sl false (.var 4) (.some (.bin false .add (.var 2) (.cst (.int 2)))) .none) .nil))))) .nil))) .nil)))
      (.cons (.app (.var 1) (.var 2))
    .nil)
      .nil)
    .nil))
    (.cons (.ret (.var 1))
    .nil))))⟩
/-- others(book, author): 0 book 1 author 2 person -/
def d69_others : FDef := ⟨2, 3,
    (.cons (.ret (.lc false [2] (.var 2) (.last (.nm 2) (.of (.call 28 (.cons false (.var 0) .nil))) (.some (.cmp .ne (.var 2) (.var 1))))))
    .nil)⟩
/-- fewest_approvers(book, author, paths): 0 book 1 author 2 paths 3 row -/
def d70_fewest_approvers : FDef := ⟨3, 4,
    (.cons (.for_ (.nm 3) (.of (.call 52 (.cons false (.call 69 (.cons false (.var 0) (.cons false (.var 1) .nil))) .nil)))
      (.cons (.ife (.call 42 (.cons false (.var 0) (.cons false (.var 1) (.cons false (.var 2) (.cons false (.var 3) .nil)))))
      (.cons (.ret (.var 3))
    .nil)
      .nil)
    .nil))
    (.cons (.ret (.cst .non))
    .nil))⟩
/-- ask_kinds(book): 0 book 1 found 2 path 3 asks -/
def d71_ask_kinds : FDef := ⟨1, 4,
    (.cons (.asg (.nm 1) (.lst true .nil))
    (.cons (.for_ (.nm 2) (.of (.call 51 (.cons false (.tup (.cons false (.var 0) .nil)) .nil)))
      (.cons (.asg (.nm 3) (.call 40 (.cons false (.var 0) (.cons false (.var 2) .nil))))
    (.cons (.ife (.cmp .notin (.var 3) (.var 1))
      (.cons (.app (.var 1) (.var 3))
    .nil)
      .nil)
    .nil)))
    (.cons (.ret (.var 1))
    .nil)))⟩
/-- fewest_for_all(book, author): 0 book 1 author 2 kinds 3 row 4 asks -/
def d72_fewest_for_all : FDef := ⟨2, 5,
    (.cons (.asg (.nm 2) (.call 71 (.cons false (.var 0) .nil)))
    (.cons (.for_ (.nm 3) (.of (.call 52 (.cons false (.call 69 (.cons false (.var 0) (.cons false (.var 1) .nil))) .nil)))
      (.cons (.ife (.bi false .all (.cons false (.lc false [4] (.call 41 (.cons false (.var 4) (.cons false (.var 3) .nil))) (.last (.nm 4) (.of (.var 2)) .none)) .nil))
      (.cons (.ret (.var 3))
    .nil)
      .nil)
    .nil))
    (.cons (.ret (.cst .non))
    .nil)))⟩
/-- needed_people(book, author): 0 book 1 author 2 person 3 some 4 found 5 rest 6 one 7 asks -/
def d73_needed_people : FDef := ⟨2, 8,
    (.cons (.asg (.tp [3,4]) (.tup (.cons false (.call 69 (.cons false (.var 0) (.cons false (.var 1) .nil))) (.cons false (.lst false .nil) .nil))))
    (.cons (.for_ (.nm 2) (.of (.var 3))
      (.cons (.asg (.nm 5) (.lc false [6] (.var 6) (.last (.nm 6) (.of (.var 3)) (.some (.cmp .ne (.var 6) (.var 2))))))
    (.cons (.ife (.bi false .any (.cons false (.lc false [7] (.and (.cons false (.call 41 (.cons false (.var 7) (.cons false (.var 3) .nil))) (.cons false (.not (.call 41 (.cons false (.var 7) (.cons false (.var 5) .nil)))) .nil))) (.last (.nm 7) (.of (.call 71 (.cons false (.var 0) .nil))) .none)) .nil))
      (.cons (.app (.var 4) (.var 2))
    .nil)
      .nil)
    .nil)))
    (.cons (.ret (.var 4))
    .nil)))⟩
/-- lone_approvers(book, author): 0 book 1 author 2 kinds 3 asks 4 person -/
def d74_lone_approvers : FDef := ⟨2, 5,
    (.cons (.asg (.nm 2) (.lc false [3] (.var 3) (.last (.nm 3) (.of (.call 71 (.cons false (.var 0) .nil))) (.some (.cmp .ne (.var 3) (.lst false .nil))))))
    (.cons (.ret (.lc false [4] (.var 4) (.last (.nm 4) (.of (.call 69 (.cons false (.var 0) (.cons false (.var 1) .nil)))) (.some (.bi false .all (.cons false (.lc false [3] (.call 41 (.cons false (.var 3) (.cons false (.tup (.cons false (.var 4) .nil)) .nil))) (.last (.nm 3) (.of (.var 2)) .none)) .nil))))))
    .nil))⟩
/-- _law_kinds(_law_book_here): 0 _law_book_here 1 _law_path 2 _law_found 3 _law_known 4 _law_needs_here -/
def d75_l_kinds : FDef := ⟨1, 5,
    (.cons (.par [2,3] (.cons false (.lst true .nil) (.cons false (.lst true .nil) .nil)))
    (.cons (.for_ (.nm 1) (.of (.call 16 (.cons false (.tup (.cons false (.var 0) .nil)) (.cons false (.cst (.int 4)) .nil))))
      (.cons (.asg (.nm 4) (.call 44 (.cons false (.var 0) (.cons false (.var 1) .nil))))
    (.cons (.ife (.cmp .notin (.var 4) (.var 3))
      (.cons (.app (.var 3) (.var 4))
    (.cons (.app (.var 2) (.tup (.cons false (.var 1) (.cons false (.var 4) .nil))))
    .nil))
      .nil)
    .nil)))
    (.cons (.ret (.var 2))
    .nil)))⟩
/-- stuck_path(book, author): 0 book 1 author 2 some 3 path -/
def d76_stuck_path : FDef := ⟨2, 4,
    (.cons (.asg (.nm 2) (.call 69 (.cons false (.var 0) (.cons false (.var 1) .nil))))
    (.cons (.for_ (.nm 3) (.of (.call 51 (.cons false (.tup (.cons false (.var 0) .nil)) .nil)))
      (.cons (.ife (.not (.call 41 (.cons false (.call 40 (.cons false (.var 0) (.cons false (.var 3) .nil))) (.cons false (.var 2) .nil))))
      (.cons (.ret (.var 3))
    .nil)
      .nil)
    .nil))
    (.cons (.ret (.cst .non))
    .nil)))⟩
/-- stuck_authors(book): 0 book 1 person -/
def d77_stuck_authors : FDef := ⟨1, 2,
    (.cons (.ret (.lc false [1] (.var 1) (.last (.nm 1) (.of (.call 28 (.cons false (.var 0) .nil))) (.some (.cmp .isnot (.call 76 (.cons false (.var 0) (.cons false (.var 1) .nil))) (.cst .non))))))
    .nil)⟩
/-- touched(book, push): 0 book 1 push 2 path 3 person 4 members 5 count -/
def d78_touched : FDef := ⟨2, 6,
    (.cons (.ret (.lc false [2,4,5,3] (.var 3) (.more (.nm 2) (.of (.var 1)) .none (.more (.tp [4,5]) (.of (.call 40 (.cons false (.var 0) (.cons false (.var 2) .nil)))) .none (.last (.nm 3) (.of (.var 4)) .none)))))
    .nil)⟩
/-- after_push(book, mode, push, standing): 0 book 1 mode 2 push 3 standing 4 gone 5 person -/
def d79_after_push : FDef := ⟨4, 6,
    (.cons (.ife (.cmp .eq (.var 1) (.cst (.str [110,101,118,101,114])))
      (.cons (.ret (.var 3))
    .nil)
      .nil)
    (.cons (.asg (.nm 4) (.ite (.cmp .eq (.var 1) (.cst (.str [97,108,108]))) (.var 3) (.call 78 (.cons false (.var 0) (.cons false (.var 2) .nil)))))
    (.cons (.ret (.bi false .tuple (.cons false (.lc false [5] (.var 5) (.last (.nm 5) (.of (.var 3)) (.some (.cmp .notin (.var 5) (.var 4))))) .nil)))
    .nil)))⟩
/-- after_event(book, mode, event, state): 0 book 1 mode 2 event 3 state 4 paths 5 standing 6 word 7 value 8 person -/
def d80_after_event : FDef := ⟨4, 9,
    (.cons (.asg (.tp [4,5]) (.var 3))
    (.cons (.asg (.tp [6,7]) (.var 2))
    (.cons (.ife (.cmp .eq (.var 6) (.cst (.str [112,117,115,104])))
      (.cons (.ret (.tup (.cons false (.bi false .tuple (.cons false (.sset false (.lst false (.cons true (.var 4) (.cons true (.var 7) .nil)))) .nil)) (.cons false (.call 79 (.cons false (.var 0) (.cons false (.var 1) (.cons false (.var 7) (.cons false (.var 5) .nil))))) .nil))))
    .nil)
      .nil)
    (.cons (.ife (.cmp .eq (.var 6) (.cst (.str [97,112,112,114,111,118,101])))
      (.cons (.ret (.tup (.cons false (.var 4) (.cons false (.bi false .tuple (.cons false (.sset false (.lst false (.cons true (.var 5) (.cons false (.var 7) .nil)))) .nil)) .nil))))
    .nil)
      .nil)
    (.cons (.ret (.tup (.cons false (.var 4) (.cons false (.bi false .tuple (.cons false (.lc false [8] (.var 8) (.last (.nm 8) (.of (.var 5)) (.some (.cmp .ne (.var 8) (.var 7))))) .nil)) .nil))))
    .nil)))))⟩
/-- stands(book, mode, history): 0 book 1 mode 2 history 3 state 4 event -/
def d81_stands : FDef := ⟨3, 5,
    (.cons (.asg (.nm 3) (.tup (.cons false (.tup .nil) (.cons false (.tup .nil) .nil))))
    (.cons (.for_ (.nm 4) (.of (.var 2))
      (.cons (.asg (.nm 3) (.call 80 (.cons false (.var 0) (.cons false (.var 1) (.cons false (.var 4) (.cons false (.var 3) .nil))))))
    .nil))
    (.cons (.ret (.var 3))
    .nil)))⟩
/-- lost(book, mode, history, push): 0 book 1 mode 2 history 3 push 4 standing 5 left 6 person -/
def d82_lost : FDef := ⟨4, 7,
    (.cons (.asg (.nm 4) (.ix (.call 81 (.cons false (.var 0) (.cons false (.var 1) (.cons false (.var 2) .nil)))) (.cst (.int 1))))
    (.cons (.asg (.nm 5) (.call 79 (.cons false (.var 0) (.cons false (.var 1) (.cons false (.var 3) (.cons false (.var 4) .nil))))))
    (.cons (.ret (.lc false [6] (.var 6) (.last (.nm 6) (.of (.var 4)) (.some (.cmp .notin (.var 6) (.var 5))))))
    .nil)))⟩
/-- _law_event(_law_tape): 0 _law_tape 1 _law_way -/
def d83_l_event : FDef := ⟨1, 2,
    (.cons (.asg (.nm 1) (.call 4 (.cons false (.var 0) (.cons false (.cst (.int 6)) .nil))))
    (.cons (.ife (.cmp .lt (.var 1) (.cst (.int 2)))
      (.cons (.ret (.tup (.cons false (.cst (.str [112,117,115,104])) (.cons false (.call 33 (.cons false (.var 0) .nil)) .nil))))
    .nil)
      .nil)
    (.cons (.ret (.tup (.cons false (.ite (.cmp .eq (.var 1) (.cst (.int 5))) (.cst (.str [119,105,116,104,100,114,97,119])) (.cst (.str [97,112,112,114,111,118,101]))) (.cons false (.call 43 (.cons false (.var 0) .nil)) .nil))))
    .nil)))⟩
/-- _law_fall(_law_book_here, _law_mode, _law_push_here, _law_standing): 0 _law_book_here 1 _law_mode 2 _law_push_here 3 _law_standing 4 _law_gone 5 _law_path_here 6 _law_members 7 _law_count 8 _law_person -/
def d84_l_fall : FDef := ⟨4, 9,
    (.cons (.ife (.cmp .eq (.var 1) (.cst (.str [97,108,108])))
      (.cons (.ret (.lst false .nil))
    .nil)
      .nil)
    (.cons (.asg (.nm 4) (.lst false .nil))
    (.cons (.for_ (.nm 5) (.of (.ite (.cmp .eq (.var 1) (.cst (.str [116,111,117,99,104,101,100]))) (.var 2) (.tup .nil)))
      (.cons (.for_ (.tp [6,7]) (.of (.call 44 (.cons false (.var 0) (.cons false (.var 5) .nil))))
      (.cons (.asg (.nm 4) (.bin false .add (.var 4) (.bi false .list (.cons false (.var 6) .nil))))
    .nil))
    .nil))
    (.cons (.ret (.lc false [8] (.var 8) (.last (.nm 8) (.of (.var 3)) (.some (.cmp .notin (.var 8) (.var 4))))))
    .nil))))⟩
/-- _law_stand(_law_book_here, _law_mode, _law_history): 0 _law_book_here 1 _law_mode 2 _law_history 3 _law_paths 4 _law_standing 5 _law_word 6 _law_value 7 _law_person -/
def d85_l_stand : FDef := ⟨3, 8,
    (.cons (.par [3,4] (.cons false (.lst false .nil) (.cons false (.lst false .nil) .nil)))
    (.cons (.for_ (.tp [5,6]) (.of (.var 2))
      (.cons (.ife (.cmp .eq (.var 5) (.cst (.str [112,117,115,104])))
      (.cons (.par [3,4] (.cons false (.bin false .add (.var 3) (.bi false .list (.cons false (.var 6) .nil))) (.cons false (.call 84 (.cons false (.var 0) (.cons false (.var 1) (.cons false (.var 6) (.cons false (.var 4) .nil))))) .nil)))
    .nil)
      (.cons (.ife (.cmp .eq (.var 5) (.cst (.str [97,112,112,114,111,118,101])))
      (.cons (.asg (.nm 4) (.bin false .add (.var 4) (.lst false (.cons false (.var 6) .nil))))
    .nil)
      (.cons (.asg (.nm 4) (.lc false [7] (.var 7) (.last (.nm 7) (.of (.var 4)) (.some (.cmp .ne (.var 7) (.var 6))))))
    .nil))
    .nil))
    .nil))
    (.cons (.ret (.tup (.cons false (.bi false .tuple (.cons false (.sset false (.var 3)) .nil)) (.cons false (.bi false .tuple (.cons false (.sset false (.var 4)) .nil)) .nil))))
    .nil)))⟩
/-- lands(book, mode, author, history): 0 book 1 mode 2 author 3 history 4 paths 5 standing -/
def d86_lands : FDef := ⟨4, 6,
    (.cons (.asg (.tp [4,5]) (.call 81 (.cons false (.var 0) (.cons false (.var 1) (.cons false (.var 3) .nil)))))
    (.cons (.ret (.and (.cons false (.cmp .ne (.var 4) (.tup .nil)) (.cons false (.call 42 (.cons false (.var 0) (.cons false (.var 2) (.cons false (.var 4) (.cons false (.var 5) .nil))))) .nil))))
    .nil))⟩
/-- missing(book, mode, author, history): 0 book 1 mode 2 author 3 history 4 row 5 paths 6 standing 7 person -/
def d87_missing : FDef := ⟨4, 8,
    (.cons (.asg (.tp [5,6]) (.call 81 (.cons false (.var 0) (.cons false (.var 1) (.cons false (.var 3) .nil)))))
    (.cons (.for_ (.nm 4) (.of (.call 52 (.cons false (.lc false [7] (.var 7) (.last (.nm 7) (.of (.call 69 (.cons false (.var 0) (.cons false (.var 2) .nil)))) (.some (.cmp .notin (.var 7) (.var 6))))) .nil)))
      (.cons (.ife (.call 42 (.cons false (.var 0) (.cons false (.var 2) (.cons false (.var 5) (.cons false (.tup (.cons true (.var 6) (.cons true (.var 4) .nil))) .nil)))))
      (.cons (.ret (.var 4))
    .nil)
      .nil)
    .nil))
    (.cons (.ret (.cst .non))
    .nil)))⟩
/-- _law_lands(_law_book_here, _law_mode, _law_author, _law_history): 0 _law_book_here 1 _law_mode 2 _law_author 3 _law_history 4 _law_paths 5 _law_standing -/
def d88_l_lands : FDef := ⟨4, 6,
    (.cons (.asg (.tp [4,5]) (.call 85 (.cons false (.var 0) (.cons false (.var 1) (.cons false (.var 3) .nil)))))
    (.cons (.ret (.and (.cons false (.cmp .ne (.var 4) (.tup .nil)) (.cons false (.call 46 (.cons false (.var 0) (.cons false (.var 2) (.cons false (.var 4) (.cons false (.var 5) .nil))))) .nil))))
    .nil))⟩
/-- union(one, other): 0 one 1 other -/
def d89_union : FDef := ⟨2, 2,
    (.cons (.ret (.bi false .tuple (.cons false (.sset false (.lst false (.cons true (.var 0) (.cons true (.var 1) .nil)))) .nil)))
    .nil)⟩
/-- _law_along(_law_book_here, _law_mode, _law_author, _law_pushes, _law_standing, _law_paths): 0 _law_book_here 1 _law_mode 2 _law_author 3 _law_pushes 4 _law_standing 5 _law_paths 6 _law_left 7 _law_best 8 _law_some 9 _law_row 10 _law_person 11 _law_rest -/
def d91_l_along : FDef := ⟨6, 12,
    (.cons (.ife (.cmp .eq (.var 3) (.tup .nil))
      (.cons (.ret (.cst (.int 0)))
    .nil)
      .nil)
    (.cons (.asg (.nm 5) (.bin false .add (.var 5) (.ix (.var 3) (.cst (.int 0)))))
    (.cons (.asg (.nm 6) (.ite (.cmp .ne (.var 1) (.cst (.str [110,101,118,101,114]))) (.call 84 (.cons false (.var 0) (.cons false (.var 1) (.cons false (.ix (.var 3) (.cst (.int 0))) (.cons false (.bi false .list (.cons false (.var 4) .nil)) .nil))))) (.bi false .list (.cons false (.var 4) .nil))))
    (.cons (.asg (.nm 7) (.cst .non))
    (.cons (.asg (.nm 8) (.lc false [10] (.var 10) (.last (.nm 10) (.of (.call 34 (.cons false (.var 0) .nil))) (.some (.and (.cons false (.cmp .ne (.var 10) (.var 2)) (.cons false (.cmp .notin (.var 10) (.var 6)) .nil)))))))
    (.cons (.for_ (.nm 9) (.of (.call 60 (.cons false (.var 8) .nil)))
      (.cons (.ife (.call 46 (.cons false (.var 0) (.cons false (.var 2) (.cons false (.var 5) (.cons false (.bin false .add (.var 6) (.bi false .list (.cons false (.var 9) .nil))) .nil)))))
      (.cons (.asg (.nm 11) (.call 91 (.cons false (.var 0) (.cons false (.var 1) (.cons false (.var 2) (.cons false (.sl false (.var 3) (.some (.cst (.int 1))) .none) (.cons false (.bin false .add (.bi false .tuple (.cons false (.var 6) .nil)) (.var 9)) (.cons false (.var 5) .nil))))))))
    (.cons (.ife (.and (.cons false (.cmp .isnot (.var 11) (.cst .non)) (.cons false (.or (.cons false (.cmp .is (.var 7) (.cst .non)) (.cons false (.cmp .lt (.bin false .add (.var 11) (.bi false .len (.cons false (.var 9) .nil))) (.var 7)) .nil))) .nil)))
      (.cons (.asg (.nm 7) (.bin false .add (.var 11) (.bi false .len (.cons false (.var 9) .nil))))
    .nil)
      .nil)
    .nil))
      .nil)
    .nil))
    (.cons (.ret (.var 7))
    .nil)))))))⟩
/-- by_kind(book): 0 book 1 path 2 found 3 known 4 asks -/
def d92_by_kind : FDef := ⟨1, 5,
    (.cons (.par [2,3] (.cons false (.lst true .nil) (.cons false (.lst true .nil) .nil)))
    (.cons (.for_ (.nm 1) (.of (.call 51 (.cons false (.tup (.cons false (.var 0) .nil)) .nil)))
      (.cons (.asg (.nm 4) (.call 40 (.cons false (.var 0) (.cons false (.var 1) .nil))))
    (.cons (.ife (.cmp .notin (.var 4) (.var 3))
      (.cons (.app (.var 3) (.var 4))
    (.cons (.app (.var 2) (.tup (.cons false (.var 1) (.cons false (.var 4) .nil))))
    .nil))
      .nil)
    .nil)))
    (.cons (.ret (.var 2))
    .nil)))⟩
/-- approvals(row): 0 row 1 person -/
def d93_approvals : FDef := ⟨1, 2,
    (.cons (.ret (.lc false [1] (.tup (.cons false (.cst (.str [97,112,112,114,111,118,101])) (.cons false (.var 1) .nil))) (.last (.nm 1) (.of (.var 0)) .none)))
    .nil)⟩
/-- loose_history(book, author): 0 book 1 author 2 rows 3 best 4 path 5 asks 6 good 7 row -/
def d94_loose_history : FDef := ⟨2, 8,
    (.cons (.par [2,3] (.cons false (.call 52 (.cons false (.call 69 (.cons false (.var 0) (.cons false (.var 1) .nil))) .nil)) (.cons false (.cst .non) .nil)))
    (.cons (.for_ (.tp [4,5]) (.of (.call 92 (.cons false (.var 0) .nil)))
      (.cons (.asg (.nm 6) (.lc false [7] (.var 7) (.last (.nm 7) (.of (.var 2)) (.some (.call 41 (.cons false (.var 5) (.cons false (.var 7) .nil)))))))
    (.cons (.ife (.and (.cons false (.cmp .ne (.var 6) (.lst false .nil)) (.cons false (.cmp .ne (.ix (.var 6) (.cst (.int 0))) (.tup .nil)) (.cons false (.or (.cons false (.cmp .is (.var 3) (.cst .non)) (.cons false (.cmp .lt (.bi false .len (.cons false (.ix (.var 6) (.cst (.int 0))) .nil)) (.bin false .sub (.bi false .len (.cons false (.var 3) .nil)) (.cst (.int 1)))) .nil))) .nil))))
      (.cons (.asg (.nm 3) (.tup (.cons true (.call 93 (.cons false (.ix (.var 6) (.cst (.int 0))) .nil)) (.cons false (.tup (.cons false (.cst (.str [112,117,115,104])) (.cons false (.tup (.cons false (.var 4) .nil)) .nil))) .nil))))
    .nil)
      .nil)
    .nil)))
    (.cons (.ret (.var 3))
    .nil)))⟩
/-- kept_and_new(rows, first, second): 0 rows 1 first 2 second 3 gone 4 kept 5 new 6 person 7 row 8 one 9 other 10 members 11 count -/
def d95_kept_and_new : FDef := ⟨3, 12,
    (.cons (.asg (.nm 3) (.lc false [10,11,6] (.var 6) (.more (.tp [10,11]) (.of (.var 2)) .none (.last (.nm 6) (.of (.var 10)) .none))))
    (.cons (.asg (.nm 4) (.lc false [7] (.var 7) (.last (.nm 7) (.of (.var 0)) (.some (.bi false .all (.cons false (.lc false [6] (.cmp .notin (.var 6) (.var 3)) (.last (.nm 6) (.of (.var 7)) .none)) .nil))))))
    (.cons (.asg (.nm 5) (.lc false [7] (.var 7) (.last (.nm 7) (.of (.var 0)) (.some (.and (.cons false (.call 41 (.cons false (.var 2) (.cons false (.var 7) .nil))) (.cons false (.not (.call 41 (.cons false (.var 1) (.cons false (.var 7) .nil)))) .nil)))))))
    (.cons (.ret (.lc false [8,9] (.tup (.cons false (.var 8) (.cons false (.var 9) .nil))) (.more (.nm 8) (.of (.var 4)) .none (.last (.nm 9) (.of (.var 5)) (.some (.call 41 (.cons false (.var 1) (.cons false (.tup (.cons true (.var 8) (.cons true (.var 9) .nil))) .nil))))))))
    .nil))))⟩
/-- strict_history(book, author): 0 book 1 author 2 rows 3 kinds 4 best 5 path 6 first 7 later 8 second 9 kept 10 new -/
def d96_strict_history : FDef := ⟨2, 11,
    (.cons (.par [2,3,4] (.cons false (.call 52 (.cons false (.call 69 (.cons false (.var 0) (.cons false (.var 1) .nil))) .nil)) (.cons false (.call 92 (.cons false (.var 0) .nil)) (.cons false (.cst .non) .nil))))
    (.cons (.for_ (.tp [5,6]) (.of (.var 3))
      (.cons (.for_ (.tp [7,8]) (.of (.var 3))
      (.cons (.for_ (.tp [9,10]) (.of (.call 95 (.cons false (.var 2) (.cons false (.var 6) (.cons false (.var 8) .nil)))))
      (.cons (.ife (.or (.cons false (.cmp .is (.var 4) (.cst .non)) (.cons false (.cmp .lt (.bin false .add (.bin false .add (.cst (.int 2)) (.bi false .len (.cons false (.var 9) .nil))) (.bi false .len (.cons false (.var 10) .nil))) (.bi false .len (.cons false (.var 4) .nil))) .nil)))
      (.cons (.asg (.nm 4) (.tup (.cons false (.tup (.cons false (.cst (.str [112,117,115,104])) (.cons false (.tup (.cons false (.var 5) .nil)) .nil))) (.cons true (.call 93 (.cons false (.var 9) .nil)) (.cons false (.tup (.cons false (.cst (.str [112,117,115,104])) (.cons false (.tup (.cons false (.var 7) .nil)) .nil))) (.cons true (.call 93 (.cons false (.var 10) .nil)) .nil))))))
    .nil)
      .nil)
    .nil))
    .nil))
    .nil))
    (.cons (.ret (.var 4))
    .nil)))⟩
/-- parting_history(book, author, one, other): 0 book 1 author 2 one 3 other -/
def d97_parting_history : FDef := ⟨4, 4,
    (.cons (.ife (.cmp .eq (.var 2) (.var 3))
      (.cons (.ret (.cst .non))
    .nil)
      .nil)
    (.cons (.ret (.ite (.cmp .isin (.cst (.str [110,101,118,101,114])) (.tup (.cons false (.var 2) (.cons false (.var 3) .nil)))) (.call 94 (.cons false (.var 0) (.cons false (.var 1) .nil))) (.call 96 (.cons false (.var 0) (.cons false (.var 1) .nil)))))
    .nil))⟩
/-- never_differ(book, author, one, other): 0 book 1 author 2 one 3 other -/
def d98_never_differ : FDef := ⟨4, 4,
    (.cons (.ret (.cmp .is (.call 97 (.cons false (.var 0) (.cons false (.var 1) (.cons false (.var 2) (.cons false (.var 3) .nil))))) (.cst .non)))
    .nil)⟩
/-- _law_behind(_law_book, _law_modes, _law_pushes, _law_some, _law_node): 0 _law_book 1 _law_modes 2 _law_pushes 3 _law_some 4 _law_node 5 _law_found 6 _law_person 7 _law_push 8 _law_pushed 9 _law_one 10 _law_other 11 _law_first 12 _law_second 13 _law_k -/
def d110_l_behind : FDef := ⟨5, 14,
    (.cons (.asg (.tp [8,9,10]) (.var 4))
    (.cons (.asg (.nm 5) (.lst true .nil))
    (.cons (.for_ (.nm 6) (.of (.var 3))
      (.cons (.app (.var 5) (.tup (.cons false (.var 8) (.cons false (.bi false .tuple (.cons false (.sset false (.bin false .add (.var 9) (.tup (.cons false (.var 6) .nil)))) .nil)) (.cons false (.bi false .tuple (.cons false (.sset false (.bin false .add (.var 10) (.tup (.cons false (.var 6) .nil)))) .nil)) .nil)))))
    (.cons (.app (.var 5) (.tup (.cons false (.var 8) (.cons false (.bi false .tuple (.cons false (.lc false [13] (.var 13) (.last (.nm 13) (.of (.var 9)) (.some (.cmp .ne (.var 13) (.var 6))))) .nil)) (.cons false (.bi false .tuple (.cons false (.lc false [13] (.var 13) (.last (.nm 13) (.of (.var 10)) (.some (.cmp .ne (.var 13) (.var 6))))) .nil)) .nil)))))
    .nil)))
    (.cons (.for_ (.nm 7) (.of (.var 2))
      (.cons (.par [11,12] (.cons false (.call 84 (.cons false (.var 0) (.cons false (.ix (.var 1) (.cst (.int 0))) (.cons false (.var 7) (.cons false (.bi false .list (.cons false (.var 9) .nil)) .nil))))) (.cons false (.call 84 (.cons false (.var 0) (.cons false (.ix (.var 1) (.cst (.int 1))) (.cons false (.var 7) (.cons false (.bi false .list (.cons false (.var 10) .nil)) .nil))))) .nil)))
    (.cons (.app (.var 5) (.tup (.cons false (.bi false .tuple (.cons false (.sset false (.bin false .add (.var 8) (.var 7))) .nil)) (.cons false (.bi false .tuple (.cons false (.var 11) .nil)) (.cons false (.bi false .tuple (.cons false (.var 12) .nil)) .nil)))))
    .nil)))
    (.cons (.ret (.var 5))
    .nil)))))⟩
/-- _law_is_event(_law_event_here): 0 _law_event_here -/
def d112_l_is_event : FDef := ⟨1, 1,
    (.cons (.ife (.or (.cons false (.not (.isi (.var 0) [.tuple])) (.cons false (.cmp .ne (.bi false .len (.cons false (.var 0) .nil)) (.cst (.int 2))) .nil)))
      (.cons (.ret (.cst (.bl false)))
    .nil)
      .nil)
    (.cons (.ife (.cmp .eq (.ix (.var 0) (.cst (.int 0))) (.cst (.str [112,117,115,104])))
      (.cons (.ret (.call 22 (.cons false (.ix (.var 0) (.cst (.int 1))) .nil)))
    .nil)
      .nil)
    (.cons (.ret (.and (.cons false (.cmp .isin (.ix (.var 0) (.cst (.int 0))) (.tup (.cons false (.cst (.str [97,112,112,114,111,118,101])) (.cons false (.cst (.str [119,105,116,104,100,114,97,119])) .nil)))) (.cons false (.isi (.ix (.var 0) (.cst (.int 1))) [.str]) .nil))))
    .nil)))⟩
/-- explains(book, seen): 0 book 1 seen 2 author 3 paths 4 some 5 good -/
def d113_explains : FDef := ⟨2, 6,
    (.cons (.ret (.bi false .all (.cons false (.lc false [2,3,4,5] (.cmp .eq (.call 42 (.cons false (.var 0) (.cons false (.var 2) (.cons false (.var 3) (.cons false (.var 4) .nil))))) (.var 5)) (.last (.tp [2,3,4,5]) (.of (.var 1)) .none)) .nil)))
    .nil)⟩
/-- fitting(books, seen): 0 books 1 seen 2 at 3 book -/
def d114_fitting : FDef := ⟨2, 4,
    (.cons (.ret (.lc false [2,3] (.var 2) (.last (.tp [2,3]) (.enum (.var 0)) (.some (.call 113 (.cons false (.var 3) (.cons false (.var 1) .nil)))))))
    .nil)⟩
/-- missing_lines(book, lines, position, seen): 0 book 1 lines 2 position 3 seen 4 books 5 teams 6 own 7 line -/
def d115_missing_lines : FDef := ⟨4, 8,
    (.cons (.asg (.tp [5,6]) (.var 0))
    (.cons (.asg (.nm 4) (.lc false [7] (.tup (.cons false (.var 5) (.cons false (.tup (.cons true (.sl false (.var 6) .none (.some (.var 2))) (.cons false (.var 7) (.cons true (.sl false (.var 6) (.some (.var 2)) .none) .nil)))) .nil))) (.last (.nm 7) (.of (.var 1)) .none)))
    (.cons (.ret (.call 114 (.cons false (.var 4) (.cons false (.var 3) .nil))))
    .nil)))⟩
/-- _law_explains(_law_book_here, _law_seen): 0 _law_book_here 1 _law_seen 2 _law_author 3 _law_paths 4 _law_some 5 _law_good_here -/
def d116_l_explains : FDef := ⟨2, 6,
    (.cons (.ret (.cmp .eq (.lc false [2,3,4,5] (.cst (.int 1)) (.last (.tp [2,3,4,5]) (.of (.var 1)) (.some (.cmp .ne (.call 46 (.cons false (.var 0) (.cons false (.var 2) (.cons false (.var 3) (.cons false (.var 4) .nil))))) (.var 5))))) (.lst false .nil)))
    .nil)⟩
/-- _law_odd_right(_law_tape, _law_my_teams): 0 _law_tape 1 _law_my_teams 2 _law_line_here 3 _law_thing 4 _law_good -/
def d140_l_odd_right : FDef := ⟨2, 5,
    (.cons (.asg (.nm 2) (.call 11 (.cons false (.var 0) (.cons false (.var 1) .nil))))
    (.cons (.for_ (.nm 3) (.of (.lst false (.cons false (.var 2) (.cons false (.bi false .list (.cons false (.var 2) .nil)) (.cons false (.cst .non) (.cons false (.tup (.cons false (.tup (.cons false (.cst (.str [97])) .nil)) (.cons false (.tup (.cons false (.tup (.cons false (.cst (.str [110,111,98,111,100,121])) (.cons false (.cst (.int 1)) .nil))) .nil)) .nil))) (.cons false (.call 31 (.cons false (.var 0) (.cons false (.var 2) .nil))) .nil)))))))
      (.cons (.asg (.nm 4) (.call 27 (.cons false (.tup (.cons false (.var 1) (.cons false (.tup (.cons false (.var 3) .nil)) .nil))) .nil)))
    (.cons (.ife (.not (.call 5 (.cons false (.call 135 (.cons false (.tup (.cons false (.var 1) (.cons false (.var 3) .nil))) .nil)) (.cons false (.ite (.var 4) (.tup (.cons false (.var 1) (.cons false (.tup (.cons false (.var 3) .nil)) .nil))) (.cst (.str [98,111,111,107]))) .nil))))
      (.cons (.ret (.cst (.bl false)))
    .nil)
      .nil)
    .nil)))
    (.cons (.for_ (.nm 3) (.of (.lst false (.cons false (.bi false .list (.cons false (.var 1) .nil)) (.cons false (.cst .non) (.cons false (.bin false .add (.var 1) (.var 1)) (.cons false (.tup (.cons false (.cst .non) .nil)) .nil))))))
      (.cons (.ife (.cmp .ne (.call 135 (.cons false (.tup (.cons false (.var 3) (.cons false (.var 2) .nil))) .nil)) (.cst (.str [98,111,111,107])))
      (.cons (.ret (.cst (.bl false)))
    .nil)
      .nil)
    .nil))
    (.cons (.ret (.cst (.bl true)))
    .nil))))⟩
/-- _law_drawn(_law_tape): 0 _law_tape 1 _law_way 2 _law_paths 3 _law_who_here 4 _law_k -/
def d144_l_drawn : FDef := ⟨1, 5,
    (.cons (.asg (.nm 1) (.call 4 (.cons false (.var 0) (.cons false (.cst (.int 8)) .nil))))
    (.cons (.ife (.cmp .eq (.var 1) (.cst (.int 0)))
      (.cons (.ret (.tup (.cons false (.cst (.str [117,110,100,111])) (.cons false (.tup .nil) .nil))))
    .nil)
      .nil)
    (.cons (.ife (.cmp .lt (.var 1) (.cst (.int 5)))
      (.cons (.asg (.nm 3) (.ite (.cmp .gt (.call 4 (.cons false (.var 0) (.cons false (.cst (.int 8)) .nil))) (.cst (.int 0))) (.call 43 (.cons false (.var 0) .nil)) (.ix (.lst false (.cons false (.cst .non) (.cons false (.cst (.int 5)) (.cons false (.tup (.cons false (.cst (.str [97,110,110])) .nil)) (.cons false (.cst (.str [])) .nil))))) (.call 4 (.cons false (.var 0) (.cons false (.cst (.int 4)) .nil))))))
    (.cons (.ret (.tup (.cons false (.ite (.cmp .eq (.var 1) (.cst (.int 4))) (.cst (.str [119,105,116,104,100,114,97,119])) (.cst (.str [97,112,112,114,111,118,101]))) (.cons false (.var 3) .nil))))
    .nil))
      .nil)
    (.cons (.asg (.nm 2) (.bi false .tuple (.cons false (.lc false [4] (.call 13 (.cons false (.var 0) .nil)) (.last (.nm 4) (.rng (.cons false (.ix (.lst false (.cons false (.cst (.int 0)) (.cons false (.cst (.int 1)) (.cons false (.cst (.int 1)) (.cons false (.cst (.int 2)) (.cons false (.cst (.int 2)) (.cons false (.cst (.int 6)) .nil))))))) (.call 4 (.cons false (.var 0) (.cons false (.cst (.int 6)) .nil)))) .nil)) .none)) .nil)))
    (.cons (.ife (.and (.cons false (.cmp .eq (.bi false .len (.cons false (.var 2) .nil)) (.cst (.int 2))) (.cons false (.cmp .eq (.call 4 (.cons false (.var 0) (.cons false (.cst (.int 4)) .nil))) (.cst (.int 0))) .nil)))
      (.cons (.asg (.nm 2) (.tup (.cons false (.ix (.var 2) (.cst (.int 0))) (.cons false (.ix (.lst false (.cons false (.cst .non) (.cons false (.lst false (.cons false (.cst (.str [97])) .nil)) (.cons false (.tup (.cons false (.cst (.str [65])) .nil)) (.cons false (.tup .nil) (.cons false (.ix (.var 2) (.cst (.int 0))) .nil)))))) (.call 4 (.cons false (.var 0) (.cons false (.cst (.int 5)) .nil)))) .nil))))
    .nil)
      .nil)
    (.cons (.ret (.tup (.cons false (.cst (.str [112,117,115,104])) (.cons false (.var 2) .nil))))
    .nil))))))⟩
/-- _wall(k): 0 k -/
def d148_wall : FDef := ⟨1, 1,
    (.cons (.whl 1000000 (.cst (.bl true))
      (.cons .pass
    .nil))
    .nil)⟩
/-- _law_given(): 0 _law_teams 1 _law_lines -/
def d149_l_given : FDef := ⟨0, 2,
    (.cons (.asg (.nm 0) (.tup (.cons false (.tup (.cons false (.cst (.str [99,111,114,101])) (.cons false (.tup (.cons false (.cst (.str [97,110,110])) (.cons false (.cst (.str [98,111,98])) (.cons false (.cst (.str [99,97,116])) .nil)))) .nil))) (.cons false (.tup (.cons false (.cst (.str [100,111,99,115])) (.cons false (.tup (.cons false (.cst (.str [100,97,110])) (.cons false (.cst (.str [101,118,101])) .nil))) .nil))) .nil))))
    (.cons (.asg (.nm 1) (.tup (.cons false (.tup (.cons false (.tup (.cons false (.cst (.str [42,42])) .nil)) (.cons false (.tup (.cons false (.tup (.cons false (.cst (.str [99,111,114,101])) (.cons false (.cst (.int 1)) .nil))) .nil)) .nil))) (.cons false (.tup (.cons false (.tup (.cons false (.cst (.str [115,114,99])) (.cons false (.cst (.str [42,42])) .nil))) (.cons false (.tup (.cons false (.tup (.cons false (.cst (.str [99,111,114,101])) (.cons false (.cst (.int 2)) .nil))) .nil)) .nil))) (.cons false (.tup (.cons false (.tup (.cons false (.cst (.str [100,111,99,115])) (.cons false (.cst (.str [42])) .nil))) (.cons false (.tup (.cons false (.tup (.cons false (.cst (.str [100,111,99,115])) (.cons false (.cst (.int 1)) .nil))) .nil)) .nil))) .nil)))))
    (.cons (.ret (.tup (.cons false (.var 0) (.cons false (.bin false .add (.var 1) (.tup (.cons false (.tup (.cons false (.tup (.cons false (.cst (.str [115,114,99])) (.cons false (.cst (.str [103,101,110])) (.cons false (.cst (.str [42,42])) .nil)))) (.cons false (.tup .nil) .nil))) .nil))) .nil))))
    .nil)))⟩
end Ow
namespace Ow
/-- law: 0 _law_script 1 _law_tape 2 _law_turn 3 _law_book_here 4 _law_some 5 _law_due 6 _law_row 7 _law_told 8 _law_person 9 _law_author 10 _law_paths 11 _law_one -/
def R_k08 : Sms := (.cons (.for_ (.nm 2) (.rng (.cons false (.cst (.int 20)) .nil))
      (.cons (.asg (.tp [3,9,10]) (.tup (.cons false (.call 12 (.cons false (.var 1) (.cons false (.cst (.int 6)) .nil))) (.cons false (.call 43 (.cons false (.var 1) .nil)) (.cons false (.call 33 (.cons false (.var 1) .nil)) .nil)))))
    (.cons (.asg (.nm 4) (.lc false [8] (.var 8) (.last (.nm 8) (.of (.call 34 (.cons false (.var 3) .nil))) (.some (.cmp .ne (.var 8) (.var 9))))))
    (.cons (.asg (.nm 5) (.cst .non))
    (.cons (.for_ (.nm 6) (.of (.call 60 (.cons false (.var 4) .nil)))
      (.cons (.ife (.and (.cons false (.cmp .is (.var 5) (.cst .non)) (.cons false (.call 46 (.cons false (.var 3) (.cons false (.var 9) (.cons false (.var 10) (.cons false (.var 6) .nil))))) .nil)))
      (.cons (.asg (.nm 5) (.var 6))
    .nil)
      .nil)
    .nil))
    (.cons (.asg (.nm 7) (.call 70 (.cons false (.var 3) (.cons false (.var 9) (.cons false (.var 10) .nil)))))
    (.cons (.ife (.or (.cons false (.not (.call 5 (.cons false (.var 7) (.cons false (.var 5) .nil)))) (.cons false (.cmp .eq (.cmp .is (.var 7) (.cst .non)) (.call 42 (.cons false (.var 3) (.cons false (.var 9) (.cons false (.var 10) (.cons false (.bi false .tuple (.cons false (.var 4) .nil)) .nil)))))) .nil)))
      (.cons (.ret (.cst (.bl false)))
    .nil)
      .nil)
    (.cons (.for_ (.nm 8) (.of (.or (.cons false (.var 7) (.cons false (.tup .nil) .nil))))
      (.cons (.ife (.call 42 (.cons false (.var 3) (.cons false (.var 9) (.cons false (.var 10) (.cons false (.bi false .tuple (.cons false (.lc false [11] (.var 11) (.last (.nm 11) (.of (.var 7)) (.some (.cmp .ne (.var 11) (.var 8))))) .nil)) .nil)))))
      (.cons (.ret (.cst (.bl false)))
    .nil)
      .nil)
    .nil))
    .nil))))))))
    (.cons (.asg (.nm 3) (.tup (.cons false (.tup (.cons false (.tup (.cons false (.cst (.str [99,111,114,101])) (.cons false (.tup (.cons false (.cst (.str [97,110,110])) (.cons false (.cst (.str [98,111,98])) .nil))) .nil))) (.cons false (.tup (.cons false (.cst (.str [100,111,99,115])) (.cons false (.tup (.cons false (.cst (.str [98,111,98])) (.cons false (.cst (.str [99,97,116])) .nil))) .nil))) .nil))) (.cons false (.tup (.cons false (.tup (.cons false (.tup (.cons false (.cst (.str [42,42])) .nil)) (.cons false (.tup (.cons false (.tup (.cons false (.cst (.str [99,111,114,101])) (.cons false (.cst (.int 1)) .nil))) (.cons false (.tup (.cons false (.cst (.str [100,111,99,115])) (.cons false (.cst (.int 1)) .nil))) .nil))) .nil))) .nil)) .nil))))
    (.cons (.ife (.cmp .ne (.call 70 (.cons false (.var 3) (.cons false (.cst (.str [122,101,100])) (.cons false (.tup (.cons false (.tup (.cons false (.cst (.str [97])) .nil)) .nil)) .nil)))) (.tup (.cons false (.cst (.str [98,111,98])) .nil)))
      (.cons (.ret (.cst (.bl false)))
    .nil)
      .nil)
    (.cons (.ret (.cmp .eq (.call 70 (.cons false (.var 3) (.cons false (.cst (.str [98,111,98])) (.cons false (.tup (.cons false (.tup (.cons false (.cst (.str [97])) .nil)) .nil)) .nil)))) (.tup (.cons false (.cst (.str [97,110,110])) (.cons false (.cst (.str [99,97,116])) .nil)))))
    .nil))))
/- defs: d28_people d1_part_fits d2_fits d3_line_of d40_asks_of d41_enough d42_can_land d52_subsets d69_others d70_fewest_approvers d4_l_draw d5_l_like d6_l_part d7_l_pattern d8_l_group d9_l_teams d10_l_asked d11_l_line d12_l_book d13_l_path d33_l_push d43_l_who d14_l_fits d15_l_counts d44_l_needs d45_l_met d46_l_good d34_l_people d59_l_length d60_l_sets -/
end Ow
/-! What holds after a tree has been worked through: the rules by which simp makes a proposition of a program. -/
namespace Ow

def wE (o : Option (D × Store)) (Q : D → Store → Prop) : Prop := match o with
  | some (d, s) => Q d s
  | none => False
def wL (o : Option (List D × Store)) (Q : List D → Store → Prop) : Prop := match o with
  | some (d, s) => Q d s
  | none => False
def wB (o : Option Bool) (Q : Bool → Prop) : Prop := match o with
  | some b => Q b
  | none => False
def wI (o : Option (Src × Store)) (Q : Src → Store → Prop) : Prop := match o with
  | some (d, s) => Q d s
  | none => False
def wO (o : Option (Option Int × Store)) (Q : Option Int → Store → Prop) : Prop := match o with
  | some (d, s) => Q d s
  | none => False
def wX (o : Option Out) (N : Envr → Store → Prop) (R : D → Store → Prop) : Prop := match o with
  | some (.nx e s) => N e s
  | some (.rt d s) => R d s
  | none => False
def wS (o : Option Store) (Q : Store → Prop) : Prop := match o with
  | some s => Q s
  | none => False
section
variable {Q Q' : D → Store → Prop} {QL : List D → Store → Prop} {QB : Bool → Prop} {QI : Src → Store → Prop} {QO : Option Int → Store → Prop} {N N' : Envr → Store → Prop} {R R' : D → Store → Prop} {QS : Store → Prop} {d : D} {s : Store} {c : Prop} [Decidable c]
@[simp] theorem wE_some : wE (some (d, s)) Q = Q d s := rfl
@[simp] theorem wE_none : wE none Q = False := rfl
@[simp] theorem wE_ite {a b : Option (D × Store)} : wE (if c then a else b) Q = if c then wE a Q else wE b Q := by split <;> rfl
@[simp] theorem wL_some {ds : List D} : wL (some (ds, s)) QL = QL ds s := rfl
@[simp] theorem wL_none : wL none QL = False := rfl
@[simp] theorem wB_some {b : Bool} : wB (some b) QB = QB b := rfl
@[simp] theorem wB_none : wB none QB = False := rfl
@[simp] theorem wB_ite {a b : Option Bool} : wB (if c then a else b) QB = if c then wB a QB else wB b QB := by split <;> rfl
@[simp] theorem wI_some {x : Src} : wI (some (x, s)) QI = QI x s := rfl
@[simp] theorem wI_none : wI none QI = False := rfl
@[simp] theorem wI_ite {a b : Option (Src × Store)} : wI (if c then a else b) QI = if c then wI a QI else wI b QI := by split <;> rfl
@[simp] theorem wO_some {x : Option Int} : wO (some (x, s)) QO = QO x s := rfl
@[simp] theorem wO_none : wO none QO = False := rfl
@[simp] theorem wX_nx {e : Envr} : wX (some (.nx e s)) N R = N e s := rfl
@[simp] theorem wX_rt : wX (some (.rt d s)) N R = R d s := rfl
@[simp] theorem wX_none : wX none N R = False := rfl
@[simp] theorem wX_ite {a b : Option Out} : wX (if c then a else b) N R = if c then wX a N R else wX b N R := by split <;> rfl
@[simp] theorem wS_some : wS (some s) QS = QS s := rfl
@[simp] theorem wS_none : wS none QS = False := rfl
@[simp] theorem wS_ite {a b : Option Store} : wS (if c then a else b) QS = if c then wS a QS else wS b QS := by split <;> rfl
theorem wE_mono {o : Option (D × Store)} (h : wE o Q) (k : ∀ d s, Q d s → Q' d s) : wE o Q' := by
  cases o with
  | none => exact h
  | some p => exact k _ _ h
theorem wL_mono {o : Option (List D × Store)} {QL' : List D → Store → Prop} (h : wL o QL) (k : ∀ d s, QL d s → QL' d s) : wL o QL' := by
  cases o with
  | none => exact h
  | some p => exact k _ _ h
theorem wX_mono {o : Option Out} (h : wX o N R) (k : ∀ e s, N e s → N' e s) (k' : ∀ d s, R d s → R' d s) : wX o N' R' := by
  cases o with
  | none => exact h
  | some p => cases p with
    | nx e s => exact k _ _ h
    | rt d s => exact k' _ _ h
theorem wE_get {o : Option (D × Store)} (h : wE o Q) : ∃ d s, o = some (d, s) ∧ Q d s := by
  cases o with
  | none => exact h.elim
  | some p => exact ⟨p.1, p.2, rfl, h⟩
theorem wL_get {o : Option (List D × Store)} (h : wL o QL) : ∃ d s, o = some (d, s) ∧ QL d s := by
  cases o with
  | none => exact h.elim
  | some p => exact ⟨p.1, p.2, rfl, h⟩
theorem wE_of {o : Option (D × Store)} {d : D} {s : Store} (h : o = some (d, s)) (q : Q d s) : wE o Q := by rw [h]; exact q
theorem wL_of {o : Option (List D × Store)} {d : List D} {s : Store} (h : o = some (d, s)) (q : QL d s) : wL o QL := by rw [h]; exact q
theorem wE_eq {o : Option (D × Store)} {d : D} {s : Store} (h : wE o fun d' s' => d' = d ∧ s' = s) : o = some (d, s) := by
  obtain ⟨d', s', h1, h2, h3⟩ := wE_get h
  rw [h1, h2, h3]
end
section
variable {gls : Nat → D} {cal : Cal} {env : Envr} {st : Store} {Q : D → Store → Prop} {QL : List D → Store → Prop} {QI : Src → Store → Prop} {QO : Option Int → Store → Prop} {N : Envr → Store → Prop} {R : D → Store → Prop} {m : Bool}
/-- what is behind a truth -/
def wT (s : Store) (x : D) (QB : Bool → Prop) : Prop := wB (truthy s x) QB
@[simp] theorem wT_bl {s : Store} {b : Bool} {QB : Bool → Prop} : wT s (.bl b) QB = QB b := rfl
@[simp] theorem wT_int {s : Store} {i : Int} {QB : Bool → Prop} : wT s (.int i) QB = QB (i != 0) := rfl
@[simp] theorem wT_non {s : Store} {QB : Bool → Prop} : wT s .non QB = QB false := rfl
@[simp] theorem wT_tup {s : Store} {xs : List D} {QB : Bool → Prop} : wT s (.tup xs) QB = QB (!xs.isEmpty) := rfl
@[simp] theorem wT_lst {s : Store} {xs : List D} {QB : Bool → Prop} : wT s (.lst xs) QB = QB (!xs.isEmpty) := rfl
@[simp] theorem w_var {i : Nat} : wE (ev gls cal (.var i) env st) Q = match env[i]? with
    | some (some d) => Q d st
    | _ => False := by
  rw [ev]
  cases h : env[i]? with
  | none => rfl
  | some o => cases o <;> rfl
@[simp] theorem w_cst {d : D} : wE (ev gls cal (.cst d) env st) Q = Q d st := by rw [ev] <;> rfl
@[simp] theorem w_gl {g : Nat} : wE (ev gls cal (.gl g) env st) Q = Q (gls g) st := by rw [ev] <;> rfl
@[simp] theorem w_bin {o : Bop} {a b : Ex} : wE (ev gls cal (.bin m o a b) env st) Q = wE (ev gls cal a env st) fun x s1 => wE (ev gls cal b env s1) fun y s2 => wE (binD m o x y s2) Q := by
  rw [ev]
  cases ev gls cal a env st with
  | none => rfl
  | some p => cases p with
    | mk x s1 =>
      dsimp only [wE]
      cases ev gls cal b env s1 <;> rfl
@[simp] theorem w_neg {a : Ex} : wE (ev gls cal (.neg a) env st) Q = wE (ev gls cal a env st) fun x s1 => match x with
    | .int i => Q (.int (-i)) s1
    | _ => False := by
  rw [ev]
  cases ev gls cal a env st with
  | none => rfl
  | some p => cases p with
    | mk x s1 => cases x <;> rfl
@[simp] theorem w_cmp {o : Cop} {a b : Ex} : wE (ev gls cal (.cmp o a b) env st) Q = wE (ev gls cal a env st) fun x s1 => wE (ev gls cal b env s1) fun y s2 => wB (cmpD o x y s2) fun c => Q (.bl c) s2 := by
  rw [ev]
  cases ev gls cal a env st with
  | none => rfl
  | some p => cases p with
    | mk x s1 =>
      dsimp only [wE]
      cases ev gls cal b env s1 with
      | none => rfl
      | some p => cases p with
        | mk y s2 =>
          dsimp only [wE]
          cases cmpD o x y s2 <;> rfl
@[simp] theorem w_chain {o p : Cop} {a b c : Ex} : wE (ev gls cal (.chain o p a b c) env st) Q = wE (ev gls cal a env st) fun x s1 => wE (ev gls cal b env s1) fun y s2 => wB (cmpD o x y s2) fun k =>
    if k = true then wE (ev gls cal c env s2) fun z s3 => wB (cmpD p y z s3) fun k => Q (.bl k) s3 else Q (.bl false) s2 := by
  rw [ev]
  cases ev gls cal a env st with
  | none => rfl
  | some q => cases q with
    | mk x s1 =>
      dsimp only [wE]
      cases ev gls cal b env s1 with
      | none => rfl
      | some q => cases q with
        | mk y s2 =>
          dsimp only [wE]
          cases cmpD o x y s2 with
          | none => rfl
          | some k =>
            cases k with
            | false => rfl
            | true =>
              dsimp only [wB]
              rw [if_pos rfl]
              cases ev gls cal c env s2 with
              | none => rfl
              | some q => cases q with
                | mk z s3 =>
                  dsimp only [wE]
                  cases cmpD p y z s3 <;> rfl
@[simp] theorem w_and {es : Exs} : wE (ev gls cal (.and es) env st) Q = wE (evAnd gls cal es env st) Q := by rw [ev]
@[simp] theorem w_or {es : Exs} : wE (ev gls cal (.or es) env st) Q = wE (evOr gls cal es env st) Q := by rw [ev]
@[simp] theorem w_and1 {s : Bool} {e : Ex} : wE (evAnd gls cal (.cons s e .nil) env st) Q = wE (ev gls cal e env st) Q := by
  rw [evAnd]
  cases ev gls cal e env st <;> rfl
@[simp] theorem w_and2 {s s2 : Bool} {e e2 : Ex} {r : Exs} : wE (evAnd gls cal (.cons s e (.cons s2 e2 r)) env st) Q = wE (ev gls cal e env st) fun x s1 => wT s1 x fun k => if k = true then wE (evAnd gls cal (.cons s2 e2 r) env s1) Q else Q x s1 := by
  conv => lhs; rw [evAnd]
  cases ev gls cal e env st with
  | none => rfl
  | some p => cases p with
    | mk x s1 =>
      dsimp only [wE, wT]
      cases truthy s1 x with
      | none => rfl
      | some k => cases k <;> rfl
@[simp] theorem w_or1 {s : Bool} {e : Ex} : wE (evOr gls cal (.cons s e .nil) env st) Q = wE (ev gls cal e env st) Q := by
  rw [evOr]
  cases ev gls cal e env st <;> rfl
@[simp] theorem w_or2 {s s2 : Bool} {e e2 : Ex} {r : Exs} : wE (evOr gls cal (.cons s e (.cons s2 e2 r)) env st) Q = wE (ev gls cal e env st) fun x s1 => wT s1 x fun k => if k = true then Q x s1 else wE (evOr gls cal (.cons s2 e2 r) env s1) Q := by
  conv => lhs; rw [evOr]
  cases ev gls cal e env st with
  | none => rfl
  | some p => cases p with
    | mk x s1 =>
      dsimp only [wE, wT]
      cases truthy s1 x with
      | none => rfl
      | some k => cases k <;> rfl
@[simp] theorem w_not {a : Ex} : wE (ev gls cal (.not a) env st) Q = wE (ev gls cal a env st) fun x s1 => wT s1 x fun k => Q (.bl (!k)) s1 := by
  rw [ev]
  cases ev gls cal a env st with
  | none => rfl
  | some p => cases p with
    | mk x s1 =>
      dsimp only [wE, wT]
      cases truthy s1 x <;> rfl
@[simp] theorem w_ifx {t a b : Ex} : wE (ev gls cal (.ite t a b) env st) Q = wE (ev gls cal t env st) fun x s1 => wT s1 x fun k => if k = true then wE (ev gls cal a env s1) Q else wE (ev gls cal b env s1) Q := by
  rw [ev]
  cases ev gls cal t env st with
  | none => rfl
  | some p => cases p with
    | mk x s1 =>
      dsimp only [wE, wT]
      cases truthy s1 x with
      | none => rfl
      | some k => cases k <;> rfl
@[simp] theorem w_tupx {es : Exs} : wE (ev gls cal (.tup es) env st) Q = wL (evs gls cal es env st) fun ds s1 => ds.length ≤ SZ ∧ Q (.tup ds) s1 := by
  rw [ev]
  cases evs gls cal es env st with
  | none => rfl
  | some p => cases p with
    | mk x s1 =>
      dsimp only [wL]
      by_cases h : x.length ≤ SZ
      · rw [if_pos h]
        exact propext ⟨fun q => ⟨h, q⟩, fun q => q.2⟩
      · rw [if_neg h]
        exact propext ⟨fun q => q.elim, fun q => absurd q.1 h⟩
@[simp] theorem w_lstx {es : Exs} : wE (ev gls cal (.lst m es) env st) Q = wL (evs gls cal es env st) fun ds s1 => wE (mkL m ds s1) Q := by
  rw [ev]
  cases evs gls cal es env st <;> rfl
@[simp] theorem w_ixx {a b : Ex} : wE (ev gls cal (.ix a b) env st) Q = wE (ev gls cal a env st) fun x s1 => wE (ev gls cal b env s1) fun y s2 => match ixD x y s2 with
    | some d => Q d s2
    | none => False := by
  rw [ev]
  cases ev gls cal a env st with
  | none => rfl
  | some p => cases p with
    | mk x s1 =>
      dsimp only [wE]
      cases ev gls cal b env s1 with
      | none => rfl
      | some p => cases p with
        | mk y s2 =>
          dsimp only [wE]
          cases ixD x y s2 <;> rfl
@[simp] theorem w_slx {a : Ex} {lo hi : Exo} : wE (ev gls cal (.sl m a lo hi) env st) Q = wE (ev gls cal a env st) fun x s1 => wO (evo gls cal lo env s1) fun l s2 => wO (evo gls cal hi env s2) fun h s3 => wE (slD m x l h s3) Q := by
  rw [ev]
  cases ev gls cal a env st with
  | none => rfl
  | some p => cases p with
    | mk x s1 =>
      dsimp only [wE]
      cases evo gls cal lo env s1 with
      | none => rfl
      | some p => cases p with
        | mk l s2 =>
          dsimp only [wO]
          cases evo gls cal hi env s2 <;> rfl
@[simp] theorem w_revx {a : Ex} : wE (ev gls cal (.rev m a) env st) Q = wE (ev gls cal a env st) fun x s1 => wE (revD m x s1) Q := by
  rw [ev]
  cases ev gls cal a env st <;> rfl
@[simp] theorem w_callx {f : Nat} {es : Exs} : wE (ev gls cal (.call f es) env st) Q = wL (evs gls cal es env st) fun ds s1 => wE (cal f ds s1) Q := by
  rw [ev]
  cases evs gls cal es env st <;> rfl
@[simp] theorem w_bix {b : Bi} {es : Exs} : wE (ev gls cal (.bi m b es) env st) Q = wL (evs gls cal es env st) fun ds s1 => wE (biD m b ds s1) Q := by
  rw [ev]
  cases evs gls cal es env st <;> rfl
@[simp] theorem w_isix {a : Ex} {k : List Ty} : wE (ev gls cal (.isi a k) env st) Q = wE (ev gls cal a env st) fun x s1 => wB (isTys k x s1) fun b => Q (.bl b) s1 := by
  rw [ev]
  cases ev gls cal a env st with
  | none => rfl
  | some p => cases p with
    | mk x s1 =>
      dsimp only [wE]
      cases isTys k x s1 <;> rfl
@[simp] theorem w_dnew : wE (ev gls cal .dnew env st) Q = Q (.ref st.length) (st ++ [.dct []]) := by rw [ev] <;> rfl
@[simp] theorem w_dof {a : Ex} : wE (ev gls cal (.dof a) env st) Q = wE (ev gls cal a env st) fun x s1 => match x with
    | .tup xs => match pairsD xs [] with
      | some kvs => xs.length ≤ SZ ∧ Q (.ref s1.length) (s1 ++ [.dct kvs])
      | none => False
    | _ => False := by
  rw [ev]
  cases ev gls cal a env st with
  | none => rfl
  | some p => cases p with
    | mk x s1 =>
      cases x with
      | tup xs =>
        dsimp only [wE]
        cases pairsD xs [] with
        | none => rfl
        | some kvs =>
          refine Eq.trans (b := wE (if xs.length ≤ SZ then mkDct kvs s1 else none) Q) rfl ?_
          by_cases h : xs.length ≤ SZ
          · rw [if_pos h]
            exact propext ⟨fun q => ⟨h, q⟩, fun q => q.2⟩
          · rw [if_neg h]
            exact propext ⟨fun q => q.elim, fun q => absurd q.1 h⟩
      | _ => rfl
@[simp] theorem w_dgt {a k d : Ex} : wE (ev gls cal (.dgt a k d) env st) Q = wE (ev gls cal a env st) fun x s1 => (dctOf s1 x).isSome = true ∧ wE (ev gls cal k env s1) fun y s2 => wE (ev gls cal d env s2) fun z s3 => match getDk s3 x y with
    | some o => Q (o.getD z) s3
    | none => False := by
  rw [ev]
  cases ev gls cal a env st with
  | none => rfl
  | some p => cases p with
    | mk x s1 =>
      dsimp only [wE]
      by_cases h : (dctOf s1 x).isSome = true
      · rw [if_pos h]
        refine Eq.trans ?_ (propext ⟨fun q => ⟨h, q⟩, fun q => q.2⟩)
        cases ev gls cal k env s1 with
        | none => rfl
        | some p => cases p with
          | mk y s2 =>
            dsimp only [wE]
            cases ev gls cal d env s2 with
            | none => rfl
            | some p => cases p with
              | mk z s3 =>
                dsimp only [wE]
                cases getDk s3 x y <;> rfl
      · rw [if_neg h]
        exact propext ⟨fun q => q.elim, fun q => absurd q.1 h⟩
@[simp] theorem w_ssetx {a : Ex} : wE (ev gls cal (.sset m a) env st) Q = wE (ev gls cal a env st) fun x s1 => match lstOf s1 x with
    | some xs => match sortedSet xs with
      | some ys => wE (mkL m ys s1) Q
      | none => False
    | none => False := by
  rw [ev]
  cases ev gls cal a env st with
  | none => rfl
  | some p => cases p with
    | mk x s1 =>
      dsimp only [wE]
      cases lstOf s1 x with
      | none => rfl
      | some xs =>
        dsimp only
        cases sortedSet xs <;> rfl
@[simp] theorem w_lcx {own : List Nat} {e : Ex} {c : Cls} : wE (ev gls cal (.lc m own e c) env st) Q = wL (evCls gls cal (ev gls cal e) c env (wipeE env own) [] st) fun ds s1 => wE (mkL m ds s1) Q := by
  rw [ev]
  cases evCls gls cal (ev gls cal e) c env (wipeE env own) [] st <;> rfl
@[simp] theorem w_evo0 : wO (evo gls cal .none env st) QO = QO none st := by rw [evo] <;> rfl
@[simp] theorem w_evo1 {e : Ex} : wO (evo gls cal (.some e) env st) QO = wE (ev gls cal e env st) fun x s1 => match cutBd x with
    | some o => QO o s1
    | none => False := by
  rw [evo]
  cases ev gls cal e env st with
  | none => rfl
  | some p => cases p with
    | mk x s1 =>
      dsimp only [wE]
      cases cutBd x <;> rfl
@[simp] theorem w_evs0 : wL (evs gls cal .nil env st) QL = QL [] st := by rw [evs] <;> rfl
@[simp] theorem w_evs1 {e : Ex} {r : Exs} : wL (evs gls cal (.cons false e r) env st) QL = wE (ev gls cal e env st) fun x s1 => wL (evs gls cal r env s1) fun ds s2 => QL (x :: ds) s2 := by
  rw [evs]
  cases ev gls cal e env st with
  | none => rfl
  | some p => cases p with
    | mk x s1 =>
      dsimp only [wE]
      cases evs gls cal r env s1 <;> rfl
@[simp] theorem w_evs2 {e : Ex} {r : Exs} : wL (evs gls cal (.cons true e r) env st) QL = wE (ev gls cal e env st) fun x s1 => match rowOf s1 x with
    | some xs => wL (evs gls cal r env s1) fun ds s2 => QL (xs ++ ds) s2
    | none => False := by
  rw [evs]
  cases ev gls cal e env st with
  | none => rfl
  | some p => cases p with
    | mk x s1 =>
      dsimp only [wE]
      cases rowOf s1 x with
      | none => rfl
      | some xs =>
        dsimp only
        cases evs gls cal r env s1 <;> rfl
/-! statements -/
@[simp] theorem w_sms0 : wX (execs gls cal .nil env st) N R = N env st := by rw [execs] <;> rfl
@[simp] theorem w_sms1 {s : Sm} {r : Sms} : wX (execs gls cal (.cons s r) env st) N R = wX (exec gls cal s env st) (fun e1 s1 => wX (execs gls cal r e1 s1) N R) R := by
  rw [execs]
  cases exec gls cal s env st with
  | none => rfl
  | some o => cases o <;> rfl
@[simp] theorem w_asg {t : Tg} {e : Ex} : wX (exec gls cal (.asg t e) env st) N R = wE (ev gls cal e env st) fun x s1 => match bindT t x env with
    | some env1 => N env1 s1
    | none => False := by
  rw [exec]
  cases ev gls cal e env st with
  | none => rfl
  | some p => cases p with
    | mk x s1 =>
      dsimp only [wE]
      cases bindT t x env <;> rfl
@[simp] theorem w_par {js : List Nat} {es : Exs} : wX (exec gls cal (.par js es) env st) N R = wL (evs gls cal es env st) fun ds s1 => ds.length = js.length ∧ N (setEach js ds env) s1 := by
  rw [exec]
  cases evs gls cal es env st with
  | none => rfl
  | some p => cases p with
    | mk x s1 =>
      dsimp only [wL]
      by_cases h : x.length = js.length
      · rw [if_pos h]
        exact propext ⟨fun q => ⟨h, q⟩, fun q => q.2⟩
      · rw [if_neg h]
        exact propext ⟨fun q => q.elim, fun q => absurd q.1 h⟩
@[simp] theorem w_seti {o i e : Ex} : wX (exec gls cal (.seti o i e) env st) N R = wE (ev gls cal e env st) fun x s1 => wE (ev gls cal o env s1) fun y s2 => wE (ev gls cal i env s2) fun z s3 => wS (setD y z x s3) fun s4 => N env s4 := by
  rw [exec]
  cases ev gls cal e env st with
  | none => rfl
  | some p => cases p with
    | mk x s1 =>
      dsimp only [wE]
      cases ev gls cal o env s1 with
      | none => rfl
      | some p => cases p with
        | mk y s2 =>
          dsimp only [wE]
          cases ev gls cal i env s2 with
          | none => rfl
          | some p => cases p with
            | mk z s3 =>
              dsimp only [wE]
              cases setD y z x s3 <;> rfl
@[simp] theorem w_app {o e : Ex} : wX (exec gls cal (.app o e) env st) N R = wE (ev gls cal o env st) fun y s1 => isLref s1 y = true ∧ wE (ev gls cal e env s1) fun x s2 => wS (appD y x s2) fun s3 => N env s3 := by
  rw [exec]
  cases ev gls cal o env st with
  | none => rfl
  | some p => cases p with
    | mk x s1 =>
      dsimp only [wE]
      by_cases h : isLref s1 x = true
      · rw [if_pos h]
        refine Eq.trans ?_ (propext ⟨fun q => ⟨h, q⟩, fun q => q.2⟩)
        cases ev gls cal e env s1 with
        | none => rfl
        | some p => cases p with
          | mk y s2 =>
            dsimp only [wE]
            cases appD x y s2 <;> rfl
      · rw [if_neg h]
        exact propext ⟨fun q => q.elim, fun q => absurd q.1 h⟩
@[simp] theorem w_popi {o i : Ex} : wX (exec gls cal (.popi o i) env st) N R = wE (ev gls cal o env st) fun y s1 => isLref s1 y = true ∧ wE (ev gls cal i env s1) fun x s2 => wS (popD y x s2) fun s3 => N env s3 := by
  rw [exec]
  cases ev gls cal o env st with
  | none => rfl
  | some p => cases p with
    | mk x s1 =>
      dsimp only [wE]
      by_cases h : isLref s1 x = true
      · rw [if_pos h]
        refine Eq.trans ?_ (propext ⟨fun q => ⟨h, q⟩, fun q => q.2⟩)
        cases ev gls cal i env s1 with
        | none => rfl
        | some p => cases p with
          | mk y s2 =>
            dsimp only [wE]
            cases popD x y s2 <;> rfl
      · rw [if_neg h]
        exact propext ⟨fun q => q.elim, fun q => absurd q.1 h⟩
@[simp] theorem w_insi {o i e : Ex} : wX (exec gls cal (.insi o i e) env st) N R = wE (ev gls cal o env st) fun y s1 => isLref s1 y = true ∧ wE (ev gls cal i env s1) fun z s2 => wE (ev gls cal e env s2) fun x s3 => wS (insDl y z x s3) fun s4 => N env s4 := by
  rw [exec]
  cases ev gls cal o env st with
  | none => rfl
  | some p => cases p with
    | mk x s1 =>
      dsimp only [wE]
      by_cases h : isLref s1 x = true
      · rw [if_pos h]
        refine Eq.trans ?_ (propext ⟨fun q => ⟨h, q⟩, fun q => q.2⟩)
        cases ev gls cal i env s1 with
        | none => rfl
        | some p => cases p with
          | mk y s2 =>
            dsimp only [wE]
            cases ev gls cal e env s2 with
            | none => rfl
            | some p => cases p with
              | mk z s3 =>
                dsimp only [wE]
                cases insDl x y z s3 <;> rfl
      · rw [if_neg h]
        exact propext ⟨fun q => q.elim, fun q => absurd q.1 h⟩
@[simp] theorem w_ret {e : Ex} : wX (exec gls cal (.ret e) env st) N R = wE (ev gls cal e env st) R := by
  rw [exec]
  cases ev gls cal e env st <;> rfl
@[simp] theorem w_ife {c : Ex} {a b : Sms} : wX (exec gls cal (.ife c a b) env st) N R = wE (ev gls cal c env st) fun x s1 => wT s1 x fun k => if k = true then wX (execs gls cal a env s1) N R else wX (execs gls cal b env s1) N R := by
  rw [exec]
  cases ev gls cal c env st with
  | none => rfl
  | some p => cases p with
    | mk x s1 =>
      dsimp only [wE, wT]
      cases truthy s1 x with
      | none => rfl
      | some k => cases k <;> rfl
def forB (gls : Nat → D) (cal : Cal) (t : Tg) (b : Sms) (x : D) (env : Envr) (s : Store) : Option Out := match bindT t x env with
  | some env1 => execs gls cal b env1 s
  | none => none
@[simp] theorem w_forB {t : Tg} {b : Sms} {x : D} : wX (forB gls cal t b x env st) N R = match bindT t x env with
    | some env1 => wX (execs gls cal b env1 st) N R
    | none => False := by
  unfold forB
  cases bindT t x env <;> rfl
@[simp] theorem w_for {t : Tg} {it : It} {b : Sms} : wX (exec gls cal (.for_ t it b) env st) N R = wI (evIt gls cal it env st) fun src s1 => wX (loopS src (forB gls cal t b) env s1) N R := by
  rw [exec]
  cases evIt gls cal it env st <;> rfl
@[simp] theorem w_pass : wX (exec gls cal .pass env st) N R = N env st := by rw [exec] <;> rfl
/-! what loops walk -/
@[simp] theorem w_of {e : Ex} : wI (evIt gls cal (.of e) env st) QI = wE (ev gls cal e env st) fun x s1 => match srcOf s1 x with
    | some src => QI src s1
    | none => False := by
  rw [evIt]
  cases ev gls cal e env st with
  | none => rfl
  | some p => cases p with
    | mk x s1 =>
      dsimp only [wE]
      cases srcOf s1 x <;> rfl
def rngS (ds : List D) : Option Src := match ds with
  | [.int j] => if small j = true then some (.st (rngL 0 j.toNat)) else none
  | [.int i, .int j] => if small i = true ∧ small j = true then some (.st (rngL i (j - i).toNat)) else none
  | [.int i, .int j, .int k] => if small i = true ∧ small j = true ∧ k = -1 then some (.st (rngD i (i - j).toNat)) else none
  | _ => none
@[simp] theorem w_rng {es : Exs} : wI (evIt gls cal (.rng es) env st) QI = wL (evs gls cal es env st) fun ds s1 => match rngS ds with
    | some src => QI src s1
    | none => False := by
  rw [evIt]
  cases evs gls cal es env st with
  | none => rfl
  | some p => cases p with
    | mk ds s1 =>
      dsimp only [wL]
      unfold rngS
      match ds with
      | [] => rfl
      | [a] => cases a <;> first | rfl | (dsimp only; split <;> rfl)
      | [a, b] => cases a <;> first | rfl | (cases b <;> first | rfl | (dsimp only; split <;> rfl))
      | [a, b, c] => cases a <;> first | rfl | (cases b <;> first | rfl | (cases c <;> first | rfl | (dsimp only; split <;> rfl)))
      | a :: b :: c :: _ :: _ => cases a <;> first | rfl | (cases b <;> first | rfl | (cases c <;> rfl))
@[simp] theorem w_enum {e : Ex} : wI (evIt gls cal (.enum e) env st) QI = wE (ev gls cal e env st) fun x s1 => match x with
    | .ref _ => False
    | x => match rowOf s1 x with
      | some xs => QI (.st (enumL 0 xs)) s1
      | none => False := by
  rw [evIt]
  cases ev gls cal e env st with
  | none => rfl
  | some p => cases p with
    | mk x s1 => cases x <;> rfl
@[simp] theorem w_zip {a b : Ex} : wI (evIt gls cal (.zip a b) env st) QI = wE (ev gls cal a env st) fun x s1 => wE (ev gls cal b env s1) fun y s2 => match x, y with
    | .tup xs, .tup ys => xs.all notPr = true ∧ QI (.st (zipL xs ys)) s2
    | .lst xs, .lst ys => xs.all notPr = true ∧ QI (.st (zipL xs ys)) s2
    | _, _ => False := by
  rw [evIt]
  cases ev gls cal a env st with
  | none => rfl
  | some p => cases p with
    | mk x s1 =>
      dsimp only [wE]
      cases ev gls cal b env s1 with
      | none => rfl
      | some p => cases p with
        | mk y s2 =>
          cases x <;> cases y <;> first | rfl | (dsimp only; split <;> rename_i h <;> first | exact propext ⟨fun q => ⟨h, q⟩, fun q => q.2⟩ | exact propext ⟨fun q => q.elim, fun q => absurd q.1 h⟩)
@[simp] theorem w_rrng {e : Ex} : wI (evIt gls cal (.rrng e) env st) QI = wE (ev gls cal e env st) fun x s1 => match x with
    | .int j => small j = true ∧ QI (.st (rngD (j - 1) j.toNat)) s1
    | _ => False := by
  rw [evIt]
  cases ev gls cal e env st with
  | none => rfl
  | some p => cases p with
    | mk x s1 =>
      cases x with
      | int j =>
        dsimp only [wE]
        by_cases h : small j = true
        · rw [if_pos h]
          exact propext ⟨fun q => ⟨h, q⟩, fun q => q.2⟩
        · rw [if_neg h]
          exact propext ⟨fun q => q.elim, fun q => absurd q.1 h⟩
      | _ => rfl
/-! comprehensions -/
def wC (o : Option (Bool × Store)) (Q : Bool → Store → Prop) : Prop := match o with
  | some (b, s) => Q b s
  | none => False
@[simp] theorem w_evc0 {Q : Bool → Store → Prop} : wC (evc gls cal .none env st) Q = Q true st := by rw [evc] <;> rfl
@[simp] theorem w_evc1 {e : Ex} {Q : Bool → Store → Prop} : wC (evc gls cal (.some e) env st) Q = wE (ev gls cal e env st) fun x s1 => wT s1 x fun b => Q b s1 := by
  rw [evc]
  cases ev gls cal e env st with
  | none => rfl
  | some p => cases p with
    | mk x s1 =>
      dsimp only [wE, wT]
      cases truthy s1 x <;> rfl
/-- one turn of the last clause -/
def lastT (gls : Nat → D) (cal : Cal) (e : Ex) (t : Tg) (c : Exo) (env : Envr) (x : D) (acc : List D) (s : Store) : Option (List D × Store) := match bindT t x (wipeE env (tgS t)) with
  | some env1 => match evc gls cal c env1 s with
    | some (true, s2) => match ev gls cal e env1 s2 with
      | some (d, s3) => if acc.length < SZ then some (acc ++ [d], s3) else none
      | none => none
    | some (false, s2) => some (acc, s2)
    | none => none
  | none => none
def moreT (gls : Nat → D) (cal : Cal) (e : Ex) (t : Tg) (c : Exo) (r : Cls) (env : Envr) (x : D) (acc : List D) (s : Store) : Option (List D × Store) := match bindT t x (wipeE env (tgS t)) with
  | some env1 => match evc gls cal c env1 s with
    | some (true, s2) => evCls gls cal (ev gls cal e) r env1 env1 acc s2
    | some (false, s2) => some (acc, s2)
    | none => none
  | none => none
@[simp] theorem w_lastT {e : Ex} {t : Tg} {c : Exo} {x : D} {acc : List D} : wL (lastT gls cal e t c env x acc st) QL = match bindT t x (wipeE env (tgS t)) with
    | some env1 => wC (evc gls cal c env1 st) fun b s2 => if b = true then wE (ev gls cal e env1 s2) fun d s3 => acc.length < SZ ∧ QL (acc ++ [d]) s3 else QL acc s2
    | none => False := by
  unfold lastT
  cases bindT t x (wipeE env (tgS t)) with
  | none => rfl
  | some env1 =>
    dsimp only
    cases evc gls cal c env1 st with
    | none => rfl
    | some p => cases p with
      | mk b s2 =>
        cases b with
        | false => rfl
        | true =>
          dsimp only [wC]
          rw [if_pos rfl]
          cases ev gls cal e env1 s2 with
          | none => rfl
          | some p => cases p with
            | mk d s3 =>
              dsimp only [wE]
              by_cases h : acc.length < SZ
              · rw [if_pos h]
                exact propext ⟨fun q => ⟨h, q⟩, fun q => q.2⟩
              · rw [if_neg h]
                exact propext ⟨fun q => q.elim, fun q => absurd q.1 h⟩
@[simp] theorem w_moreT {e : Ex} {t : Tg} {c : Exo} {r : Cls} {x : D} {acc : List D} : wL (moreT gls cal e t c r env x acc st) QL = match bindT t x (wipeE env (tgS t)) with
    | some env1 => wC (evc gls cal c env1 st) fun b s2 => if b = true then wL (evCls gls cal (ev gls cal e) r env1 env1 acc s2) QL else QL acc s2
    | none => False := by
  unfold moreT
  cases bindT t x (wipeE env (tgS t)) with
  | none => rfl
  | some env1 =>
    dsimp only
    cases evc gls cal c env1 st with
    | none => rfl
    | some p => cases p with
      | mk b s2 => cases b <;> rfl
@[simp] theorem w_last {e : Ex} {t : Tg} {it : It} {c : Exo} {envI : Envr} {acc : List D} : wL (evCls gls cal (ev gls cal e) (.last t it c) envI env acc st) QL = wI (evIt gls cal it envI st) fun src s1 => wL (loop src (lastT gls cal e t c env) acc s1) QL := by
  rw [evCls]
  cases evIt gls cal it envI st <;> rfl
@[simp] theorem w_more {e : Ex} {t : Tg} {it : It} {c : Exo} {r : Cls} {envI : Envr} {acc : List D} : wL (evCls gls cal (ev gls cal e) (.more t it c r) envI env acc st) QL = wI (evIt gls cal it envI st) fun src s1 => wL (loop src (moreT gls cal e t c r env) acc s1) QL := by
  rw [evCls]
  cases evIt gls cal it envI st <;> rfl
end
/-! loops by invariants -/
section
variable {xs : List D} {s : Store} {QL : List D → Store → Prop} {N : Envr → Store → Prop} {R : D → Store → Prop}
theorem loop_inv {f : D → List D → Store → Option (List D × Store)} (P : List D → List D → Store → Prop) : ∀ {xs acc s}, P xs acc s → (∀ x xs acc s, P (x :: xs) acc s → wL (f x acc s) fun acc' s' => P xs acc' s') → (∀ acc s, P [] acc s → QL acc s) → wL (loop (.st xs) f acc s) QL
  | [], acc, s, h, _, hq => hq acc s h
  | x :: xs, acc, s, h, hs, hq => by
    show wL (loopL f (x :: xs) acc s) QL
    rw [loopL]
    obtain ⟨acc', s', e, h'⟩ := wL_get (hs x xs acc s h)
    rw [e]
    exact loop_inv P h' hs hq
theorem for_inv {f : D → Envr → Store → Option Out} (P : List D → Envr → Store → Prop) : ∀ {xs env s}, P xs env s → (∀ x xs env s, P (x :: xs) env s → wX (f x env s) (fun e' s' => P xs e' s') R) → (∀ env s, P [] env s → N env s) → wX (loopS (.st xs) f env s) N R
  | [], env, s, h, _, hq => hq env s h
  | x :: xs, env, s, h, hs, hq => by
    show wX (loopLS f (x :: xs) env s) N R
    rw [loopLS]
    have k := hs x xs env s h
    cases e : f x env s with
    | none => rw [e] at k; exact k.elim
    | some o =>
      rw [e] at k
      cases o with
      | nx env' s' => exact for_inv P k hs hq
      | rt d s' => exact k
/-- a comprehension that leaves the store as it is -/
theorem loop_pure {f : D → List D → Store → Option (List D × Store)} (g : D → List D) (h : ∀ x ∈ xs, ∀ acc, acc.length + (g x).length ≤ SZ → f x acc s = some (acc ++ g x, s)) : ∀ {acc : List D}, acc.length + (xs.flatMap g).length ≤ SZ → loop (.st xs) f acc s = some (acc ++ xs.flatMap g, s) := by
  induction xs with
  | nil => intro acc _; show some (acc, s) = _; simp
  | cons x xs ih =>
    intro acc hl
    rw [List.flatMap_cons, List.length_append] at hl
    show loopL f (x :: xs) acc s = _
    rw [loopL, h x (List.mem_cons_self ..) acc (by omega)]
    have := ih (fun y hy => h y (List.mem_cons_of_mem _ hy)) (acc := acc ++ g x) (by rw [List.length_append]; omega)
    show loop (.st xs) f (acc ++ g x) s = _
    rw [this, List.flatMap_cons, List.append_assoc]
end
/-! calls -/
section
variable {gls : Nat → D} {Gam : Nat → Option FDef} {k f : Nat} {d : FDef} {ds : List D} {st : Store} {Q : D → Store → Prop}
theorem call_succ (h : Gam f = some d) (hl : ds.length = d.ps) : call gls Gam (k + 1) f ds st = finish st.length (execs gls (call gls Gam k) d.body (ds.map some ++ List.replicate (d.n - d.ps) none) st) := by
  rw [call, h]
  exact if_pos hl
def wH (n : Nat) (d : D) (s : Store) (Q : D → Store → Prop) : Prop := wE (handBack n d s) Q
theorem w_call (h : Gam f = some d) (hl : ds.length = d.ps) (hb : wX (execs gls (call gls Gam k) d.body (ds.map some ++ List.replicate (d.n - d.ps) none) st) (fun _ s => wH st.length .non s Q) (fun x s => wH st.length x s Q)) : wE (call gls Gam (k + 1) f ds st) Q := by
  rw [call_succ h hl]
  cases e : execs gls (call gls Gam k) d.body (ds.map some ++ List.replicate (d.n - d.ps) none) st with
  | none => rw [e] at hb; exact hb.elim
  | some o =>
    rw [e] at hb
    cases o <;> exact hb
@[simp] theorem wH_same {d : D} {s : Store} : wH s.length d s Q = Q d s := by
  unfold wH handBack
  rw [if_pos rfl]
  rfl
theorem wH_keep {n : Nat} {d : D} {s : Store} (h : s.length = n) (q : Q d s) : wH n d s Q := by
  subst h
  rw [wH_same]
  exact q
end
end Ow
/-! The operations on values, as simp sees them. -/
namespace Ow
def mulOk (i j : Int) : Prop := (-(2 ^ 64) < i ∧ i < 2 ^ 64) ∨ (-(2 ^ 64) < j ∧ j < 2 ^ 64)
def divOk (j : Int) : Prop := 0 < j ∧ j < 2 ^ 64
def powOk (i j : Int) : Prop := 0 ≤ j ∧ j ≤ 1000000 ∧ i.natAbs < 2 ^ 64
section
variable {m : Bool} {i j : Int} {s st : Store} {Q : D → Store → Prop} {xs ys : List D} {a b : W} {x y d : D} {env : Envr}
theorem ite_and {p q : Prop} [Decidable p] : (if p then q else False) = (p ∧ q) := by
  by_cases h : p
  · rw [if_pos h]; exact propext ⟨fun z => ⟨h, z⟩, fun z => z.2⟩
  · rw [if_neg h]; exact propext ⟨fun z => z.elim, fun z => absurd z.1 h⟩
@[simp] theorem bin_addI : binD m .add (.int i) (.int j) s = some (.int (i + j), s) := rfl
@[simp] theorem bin_subI : binD m .sub (.int i) (.int j) s = some (.int (i - j), s) := rfl
@[simp] theorem bin_mulI : wE (binD m .mul (.int i) (.int j) s) Q = (mulOk i j ∧ Q (.int (i * j)) s) := by
  show wE (if _ then _ else _) Q = _
  rw [wE_ite]
  exact ite_and
@[simp] theorem bin_modI : wE (binD m .mod (.int i) (.int j) s) Q = (0 < j ∧ Q (.int (i % j)) s) := by
  show wE (if _ then _ else _) Q = _
  rw [wE_ite]
  exact ite_and
@[simp] theorem bin_divI : wE (binD m .fdiv (.int i) (.int j) s) Q = (divOk j ∧ Q (.int (i / j)) s) := by
  show wE (if _ then _ else _) Q = _
  rw [wE_ite]
  exact ite_and
@[simp] theorem bin_powI : wE (binD m .pow (.int i) (.int j) s) Q = (powOk i j ∧ Q (.int (i ^ j.toNat)) s) := by
  show wE (if _ then _ else _) Q = _
  rw [wE_ite]
  exact ite_and
@[simp] theorem bin_addT : wE (binD m .add (.tup xs) (.tup ys) s) Q = (xs.length + ys.length ≤ SZ ∧ Q (.tup (xs ++ ys)) s) := by
  show wE (if _ then _ else _) Q = _
  rw [wE_ite]
  exact ite_and
@[simp] theorem bin_addL : wE (binD m .add (.lst xs) (.lst ys) s) Q = wE (mkL m (xs ++ ys) s) Q := rfl
@[simp] theorem bin_mulT : wE (binD m .mul (.tup xs) (.int j) s) Q = ((0 ≤ j ∧ j ≤ 1000 ∧ xs.isEmpty = false ∧ xs.length ≤ 1000) ∧ Q (.tup (repL xs j.toNat)) s) := by
  show wE (if _ then _ else _) Q = _
  rw [wE_ite]
  exact ite_and
@[simp] theorem mkL_fr : wE (mkL false xs s) Q = (xs.length ≤ SZ ∧ Q (.lst xs) s) := by
  unfold mkL
  rw [wE_ite, if_neg Bool.false_ne_true]
  exact ite_and
theorem mkL_own : wE (mkL true xs s) Q = (xs.length ≤ SZ ∧ noRefs xs = true ∧ Q (.ref s.length) (s ++ [.lst xs])) := by
  unfold mkL
  rw [wE_ite, if_pos rfl, wE_ite]
  show (if _ then (if _ then _ else False) else False) = _
  rw [ite_and, ite_and]
  rfl
@[simp] theorem bind_nm {k : Nat} : bindT (.nm k) x env = some (env.set k (some x)) := rfl
@[simp] theorem bind_tp {js : List Nat} : bindT (.tp js) (.tup xs) env = if xs.length = js.length then some (setEach js xs env) else none := rfl
@[simp] theorem each0 {ds : List D} : setEach [] ds env = env := by cases ds <;> rfl
@[simp] theorem each1 {k : Nat} {js : List Nat} {ds : List D} : setEach (k :: js) (d :: ds) env = setEach js ds (env.set k (some d)) := rfl
@[simp] theorem tgS_nm {k : Nat} : tgS (.nm k) = [k] := rfl
@[simp] theorem tgS_tp {js : List Nat} : tgS (.tp js) = js := rfl
@[simp] theorem wipe0 : wipeE env [] = env := rfl
@[simp] theorem wipe1 {k : Nat} {js : List Nat} : wipeE env (k :: js) = (wipeE env js).set k none := rfl
/-! items -/
theorem ixOf_nat (xs : List D) (n : Nat) : (match ixOf xs.length (n : Int) with
    | some k => xs[k]?
    | none => none) = xs[n]? := by
  unfold ixOf
  rw [if_pos (Int.natCast_nonneg n)]
  by_cases h : n < xs.length
  · rw [if_pos (by omega)]
    rfl
  · rw [if_neg (by omega)]
    exact (List.getElem?_eq_none (by omega)).symm
theorem ixOf_last (xs : List D) : (match ixOf xs.length (-1) with
    | some k => xs[k]?
    | none => none) = xs.getLast? := by
  unfold ixOf
  rw [if_neg (by decide), List.getLast?_eq_getElem?]
  by_cases h : 0 < xs.length
  · rw [if_pos (by omega)]
    show xs[((-1 : Int) + (xs.length : Int)).toNat]? = _
    congr 1
    omega
  · have : xs = [] := List.eq_nil_of_length_eq_zero (by omega)
    subst this
    rfl
@[simp] theorem ix_tupN {n : Nat} : ixD (.tup xs) (.int (@OfNat.ofNat Int n instOfNat)) s = xs[n]? := ixOf_nat xs n
@[simp] theorem ix_lstN {n : Nat} : ixD (.lst xs) (.int (@OfNat.ofNat Int n instOfNat)) s = xs[n]? := ixOf_nat xs n
@[simp] theorem ix_tup0 : ixD (.tup xs) (.int 0) s = xs[0]? := ixOf_nat xs 0
@[simp] theorem ix_lst0 : ixD (.lst xs) (.int 0) s = xs[0]? := ixOf_nat xs 0
@[simp] theorem ix_tup1 : ixD (.tup xs) (.int 1) s = xs[1]? := ixOf_nat xs 1
@[simp] theorem ix_lst1 : ixD (.lst xs) (.int 1) s = xs[1]? := ixOf_nat xs 1
@[simp] theorem ix_tup2 : ixD (.tup xs) (.int 2) s = xs[2]? := ixOf_nat xs 2
@[simp] theorem ix_lst2 : ixD (.lst xs) (.int 2) s = xs[2]? := ixOf_nat xs 2
@[simp] theorem ix_tup3 : ixD (.tup xs) (.int 3) s = xs[3]? := ixOf_nat xs 3
@[simp] theorem ix_lst3 : ixD (.lst xs) (.int 3) s = xs[3]? := ixOf_nat xs 3
@[simp] theorem ix_tup4 : ixD (.tup xs) (.int 4) s = xs[4]? := ixOf_nat xs 4
@[simp] theorem ix_lst4 : ixD (.lst xs) (.int 4) s = xs[4]? := ixOf_nat xs 4
@[simp] theorem ix_tup5 : ixD (.tup xs) (.int 5) s = xs[5]? := ixOf_nat xs 5
@[simp] theorem ix_lst5 : ixD (.lst xs) (.int 5) s = xs[5]? := ixOf_nat xs 5
@[simp] theorem ix_tup6 : ixD (.tup xs) (.int 6) s = xs[6]? := ixOf_nat xs 6
@[simp] theorem ix_lst6 : ixD (.lst xs) (.int 6) s = xs[6]? := ixOf_nat xs 6
@[simp] theorem ix_tup7 : ixD (.tup xs) (.int 7) s = xs[7]? := ixOf_nat xs 7
@[simp] theorem ix_lst7 : ixD (.lst xs) (.int 7) s = xs[7]? := ixOf_nat xs 7
@[simp] theorem ix_tupC {n : Nat} : ixD (.tup xs) (.int (n : Int)) s = xs[n]? := ixOf_nat xs n
@[simp] theorem ix_lstC {n : Nat} : ixD (.lst xs) (.int (n : Int)) s = xs[n]? := ixOf_nat xs n
@[simp] theorem ix_tupL : ixD (.tup xs) (.int (-1)) s = xs.getLast? := ixOf_last xs
@[simp] theorem ix_lstL : ixD (.lst xs) (.int (-1)) s = xs.getLast? := ixOf_last xs
theorem ix_ref {n : Nat} {y : D} (h : s[n]? = some (.lst xs)) : ixD (.ref n) y s = ixD (.lst xs) y s := by
  have h0 : dctOf s (.ref n) = none := by show (match s[n]? with | some (.dct kvs) => some kvs | _ => none) = _; rw [h]
  have h1 : rowOf s (.ref n) = some xs := by show (match s[n]? with | some (.lst xs) => some xs | _ => none) = _; rw [h]
  unfold ixD
  rw [h0]
  show ixD0 (.ref n) y s = ixD0 (.lst xs) y s
  unfold ixD0
  cases y <;> try rfl
  show (match rowOf s (.ref n) with | some xs => _ | none => none) = _
  rw [h1]
  rfl
@[simp] theorem ix_ref0 {y : D} : ixD (.ref 0) y (.lst xs :: st) = ixD (.lst xs) y (.lst xs :: st) := ix_ref rfl
/-- item i of a row, 0 ≤ i -/
theorem ix_lstI (h : 0 ≤ i) : ixD (.lst xs) (.int i) s = xs[i.toNat]? := by
  have : (i.toNat : Int) = i := Int.toNat_of_nonneg h
  rw [← this]
  rw [ix_lstC]
  rfl
theorem ix_tupI (h : 0 ≤ i) : ixD (.tup xs) (.int i) s = xs[i.toNat]? := by
  have : (i.toNat : Int) = i := Int.toNat_of_nonneg h
  rw [← this]
  rw [ix_tupC]
  rfl
/-! built-in functions -/
@[simp] theorem len_tup : biD m .len [.tup xs] s = some (.int xs.length, s) := rfl
@[simp] theorem len_lst : biD m .len [.lst xs] s = some (.int xs.length, s) := rfl
@[simp] theorem len_str : wE (biD m .len [.str a] s) Q = (a.length ≤ SZ ∧ Q (.int a.length) s) := by
  show wE (if _ then _ else _) Q = _
  rw [wE_ite]
  exact ite_and
@[simp] theorem len_ref0 : biD m .len [.ref 0] (.lst xs :: st) = some (.int xs.length, .lst xs :: st) := rfl
@[simp] theorem int_int : biD m .int [.int i] s = some (.int i, s) := rfl
@[simp] theorem int_bl {b : Bool} : biD m .int [.bl b] s = some (.int (b2n b), s) := rfl
@[simp] theorem tup_tup : biD m .tuple [.tup xs] s = some (.tup xs, s) := rfl
@[simp] theorem tup_lst : biD m .tuple [.lst xs] s = some (.tup xs, s) := rfl
@[simp] theorem lst_lst : biD m .list [.lst xs] s = mkL m xs s := rfl
@[simp] theorem lst_tup : biD m .list [.tup xs] s = mkL m xs s := rfl
theorem allBl_mapB : ∀ bs : List Bool, allBl (bs.map .bl) = some bs
  | [] => rfl
  | b :: bs => by rw [List.map_cons, allBl, allBl_mapB bs]; rfl
@[simp] theorem all_bls {bs : List Bool} : biD m .all [.lst (bs.map .bl)] s = some (.bl (bs.all id), s) := by
  show (match allBl (bs.map .bl) with | some bs => _ | none => none) = _
  rw [allBl_mapB]
@[simp] theorem any_bls {bs : List Bool} : biD m .any [.lst (bs.map .bl)] s = some (.bl (bs.any id), s) := by
  show (match allBl (bs.map .bl) with | some bs => _ | none => none) = _
  rw [allBl_mapB]
/-! comparisons -/
@[simp] theorem lt_int : cmpD .lt (.int i) (.int j) s = some (decide (i < j)) := rfl
@[simp] theorem le_int : cmpD .le (.int i) (.int j) s = some (decide (i ≤ j)) := rfl
@[simp] theorem gt_int : cmpD .gt (.int i) (.int j) s = some (decide (j < i)) := rfl
@[simp] theorem ge_int : cmpD .ge (.int i) (.int j) s = some (decide (j ≤ i)) := rfl
@[simp] theorem eq_int : cmpD .eq (.int i) (.int j) s = some (i == j) := rfl
@[simp] theorem ne_int : cmpD .ne (.int i) (.int j) s = some (!(i == j)) := rfl
@[simp] theorem eq_str : cmpD .eq (.str a) (.str b) s = some (eqW a b) := rfl
@[simp] theorem ne_str : cmpD .ne (.str a) (.str b) s = some (!eqW a b) := rfl
/-- plain data -/
def Pl (x : D) : Prop := noRef x = true ∧ dep x ≤ 60
theorem valOf_pl (h : Pl x) : valOf s x = some x := by
  cases x with
  | ref n => cases h.1
  | _ => unfold valOf; exact if_pos h.1
theorem eq_pl (hx : Pl x) (hy : Pl y) : cmpD .eq x y s = some (eqD x y) := by
  show eqS s x y = _
  unfold eqS
  rw [valOf_pl hx, valOf_pl hy]
  exact if_pos ⟨hx.2, hy.2⟩
theorem ne_pl (hx : Pl x) (hy : Pl y) : cmpD .ne x y s = some (!eqD x y) := by
  show (eqS s x y).map _ = _
  rw [show eqS s x y = some (eqD x y) from eq_pl hx hy]
  rfl
theorem in_tup (hx : Pl x) (hy : noRefs ys = true) (hd : deps ys ≤ 60) : cmpD .isin x (.tup ys) s = some (memD x ys) := by
  show inD0 s x (.tup ys) = _
  unfold inD0
  rw [valOf_pl hx]
  exact if_pos ⟨hy, hx.2, hd⟩
theorem in_lst (hx : Pl x) (hy : noRefs ys = true) (hd : deps ys ≤ 60) : cmpD .isin x (.lst ys) s = some (memD x ys) := by
  show inD0 s x (.lst ys) = _
  unfold inD0
  rw [valOf_pl hx]
  exact if_pos ⟨hy, hx.2, hd⟩
theorem notin_tup (hx : Pl x) (hy : noRefs ys = true) (hd : deps ys ≤ 60) : cmpD .notin x (.tup ys) s = some (!memD x ys) := by
  show (inD s x (.tup ys)).map _ = _
  rw [show inD s x (.tup ys) = some (memD x ys) from in_tup hx hy hd]
  rfl
theorem notin_lst (hx : Pl x) (hy : noRefs ys = true) (hd : deps ys ≤ 60) : cmpD .notin x (.lst ys) s = some (!memD x ys) := by
  show (inD s x (.lst ys)).map _ = _
  rw [show inD s x (.lst ys) = some (memD x ys) from in_lst hx hy hd]
  rfl
@[simp] theorem is_non : cmpD .is x .non s = some (isNon x) := rfl
@[simp] theorem isnot_non : cmpD .isnot x .non s = some (!isNon x) := rfl
/-! writes to the first cell -/
theorem set0 {n : Nat} {Q : Store → Prop} : wS (setD (.ref 0) (.int (@OfNat.ofNat Int n instOfNat)) x (.lst xs :: st)) Q = (n < xs.length ∧ noRef x = true ∧ Q (.lst (xs.set n x) :: st)) := by
  show wS (match ixOf xs.length (n : Int) with | some k => _ | none => none) Q = _
  unfold ixOf
  rw [if_pos (Int.natCast_nonneg n)]
  by_cases h : n < xs.length
  · rw [if_pos (by omega)]
    show wS (if noRef x = true then some _ else none) Q = _
    rw [wS_ite]
    show (if noRef x = true then Q (.lst (xs.set n x) :: st) else False) = _
    rw [ite_and]
    exact propext ⟨fun z => ⟨h, z⟩, fun z => z.2⟩
  · rw [if_neg (by omega)]
    exact propext ⟨fun z => z.elim, fun z => absurd z.1 h⟩
@[simp] theorem set0_0 {Q : Store → Prop} : wS (setD (.ref 0) (.int 0) x (.lst xs :: st)) Q = (0 < xs.length ∧ noRef x = true ∧ Q (.lst (xs.set 0 x) :: st)) := set0 (n := 0)
@[simp] theorem set0_1 {Q : Store → Prop} : wS (setD (.ref 0) (.int 1) x (.lst xs :: st)) Q = (1 < xs.length ∧ noRef x = true ∧ Q (.lst (xs.set 1 x) :: st)) := set0 (n := 1)
@[simp] theorem set0_2 {Q : Store → Prop} : wS (setD (.ref 0) (.int 2) x (.lst xs :: st)) Q = (2 < xs.length ∧ noRef x = true ∧ Q (.lst (xs.set 2 x) :: st)) := set0 (n := 2)
@[simp] theorem set0_3 {Q : Store → Prop} : wS (setD (.ref 0) (.int 3) x (.lst xs :: st)) Q = (3 < xs.length ∧ noRef x = true ∧ Q (.lst (xs.set 3 x) :: st)) := set0 (n := 3)
end
end Ow
/-! What the drawn defs give: the tape. -/
namespace Ow
section
variable {gls : Nat → D} {Gam : Nat → Option FDef}
/-- a tape: what is left of a script, how far it is, what is in hand -/
def tape (ns : List Int) (i v : Int) : Cell := .lst [.lst (ns.map .int), .int i, .int v]
def IsTape (c : Cell) : Prop := ∃ ns i v, c = tape ns i v ∧ 0 ≤ i ∧ 0 ≤ v ∧ ns.length ≤ SZ
theorem eqW_refl (w : W) : eqW w w = true := by
  induction w with
  | nil => rfl
  | cons a w ih => rw [eqW, ih, Bool.and_true]; exact Nat.beq_refl a
theorem eqW_iff' : ∀ a b : W, eqW a b = true ↔ a = b
  | [], [] => by simp [eqW]
  | a :: as, b :: bs => by
    have ih := eqW_iff' as bs
    rw [eqW, Bool.and_eq_true, ih, Nat.beq_eq, List.cons.injEq]
  | [], _ :: _ => by simp [eqW]
  | _ :: _, [] => by simp [eqW]
theorem draw_ok {k : Nat} (h : Gam 4 = some d4_l_draw) {many : Int} (h0 : 0 < many) (h1 : many < 2 ^ 64) {c : Cell} {st : Store} (ht : IsTape c) {Q : D → Store → Prop}
    (q : ∀ r c', 0 ≤ r → r < many → IsTape c' → Q (.int r) (c' :: st)) : wE (call gls Gam (k + 1) 4 [.ref 0, .int many] (c :: st)) Q := by
  obtain ⟨ns, i, v, rfl, hi, hv, hn⟩ := ht
  refine w_call h rfl ?_
  unfold d4_l_draw tape
  have item : 0 < ns.length → ∃ z : Int, ∀ s, ixD (.lst (ns.map D.int)) (.int (i % (ns.length : Int))) s = some (.int z) := fun hl => by
    have h2 : 0 ≤ i % (ns.length : Int) := Int.emod_nonneg _ (by omega)
    have h3 : i % (ns.length : Int) < (ns.length : Int) := Int.emod_lt_of_pos _ (by omega)
    have h4 : (i % (ns.length : Int)).toNat < ns.length := by omega
    refine ⟨ns[(i % (ns.length : Int)).toNat], fun s => ?_⟩
    rw [ix_lstI h2, List.getElem?_map, List.getElem?_eq_getElem h4]
    rfl
  have m1 : ∀ x, mulOk 1000003 x = True := fun x => eq_true (.inl (by decide))
  have m2 : ∀ x, mulOk 1181783497276652981 x = True := fun x => eq_true (.inl (by decide))
  have pr : ∀ x : Int, 0 ≤ x % 2305843009213693951 ∧ x % 2305843009213693951 < 2305843009213693951 := fun x => ⟨Int.emod_nonneg _ (by decide), Int.emod_lt_of_pos _ (by decide)⟩
  have m3 : ∀ x y : Int, mulOk (x % 2305843009213693951) y = True := fun x y => eq_true (.inl (by have := pr x; omega))
  have p1 : powOk 10 18 = True := eq_true (by refine ⟨?_, ?_, ?_⟩ <;> decide)
  have dv : divOk many = True := eq_true ⟨h0, h1⟩
  have fin : ∀ (i' x : Int), 0 ≤ i' → 0 ≤ x → wH (st.length + 1) (.int (x % many)) (.lst [.lst (ns.map .int), .int i', .int (x / many)] :: st) Q := fun i' x hi' hx => by
    refine wH_keep rfl (q _ _ (Int.emod_nonneg _ (by omega)) (Int.emod_lt_of_pos _ h0) ⟨ns, i', x / many, rfl, hi', Int.ediv_nonneg hx (by omega), hn⟩)
  have hi1 : 0 ≤ i + 1 := by omega
  by_cases hl : 0 < ns.length
  · obtain ⟨z, hz⟩ := item hl
    simp [noRef, ix_ref, hl, hz, m1, m2, m3, p1, dv, h0]
    split
    · split
      · exact fin _ _ hi1 (pr _).1
      · split
        · exact fin _ _ hi1 (pr _).1
        · exact fin _ _ hi1 (by omega)
    · exact fin _ _ hi hv
  · simp [noRef, ix_ref, hl, m1, m2, m3, p1, dv, h0]
    split
    · split
      · exact fin _ _ hi1 (pr _).1
      · omega
    · exact fin _ _ hi hv
end
end Ow
/-! What the drawn defs give: patterns, teams, books, paths. -/
namespace Ow
def pathT (k : List W) : D := .tup (k.map .str)
abbrev Ln := List W × List (W × Int)
abbrev Tm := W × List W
def askT (a : W × Int) : D := .tup [.str a.1, .int a.2]
def lineT (l : Ln) : D := .tup [pathT l.1, .tup (l.2.map askT)]
def teamT (t : Tm) : D := .tup [.str t.1, pathT t.2]
structure Bk where
  teams : List Tm
  lines : List Ln
def bookT (b : Bk) : D := .tup [.tup (b.teams.map teamT), .tup (b.lines.map lineT)]
def star2 : W := [42, 42]
def partsW : List W := [[97], [98], [42], [120]]
def namesW : List W := [[97,110,110], [98,111,98], [99,97,116], [100,97,110], [101,118,101]]
def teamsW : List W := [[99,111,114,101], [100,111,99,115], [116,111,111,108,115]]
def wordsW : List W := [[97], [98], [120], [97,97], [114,101,97,100,109,101]]
def PatOk (p : List W) : Prop := ∃ init last, p = init ++ [last] ∧ init.length ≤ 2 ∧ (∀ w ∈ init, w ∈ partsW) ∧ (last ∈ partsW ∨ last = star2)
theorem ix_pick {xs : List D} {r : Int} (h0 : 0 ≤ r) (h1 : r < xs.length) : ∃ x ∈ xs, ∀ s, ixD (.lst xs) (.int r) s = some x := by
  have h2 : r.toNat < xs.length := by omega
  exact ⟨xs[r.toNat], List.getElem_mem h2, fun s => by rw [ix_lstI h0, List.getElem?_eq_getElem h2]⟩
theorem ix_pickW {ws : List W} {r : Int} (h0 : 0 ≤ r) (h1 : r < ws.length) : ∃ w ∈ ws, ∀ s, ixD (.lst (ws.map .str)) (.int r) s = some (.str w) := by
  obtain ⟨x, hx, h⟩ := ix_pick (xs := ws.map D.str) h0 (by rw [List.length_map]; exact h1)
  obtain ⟨w, hw, e⟩ := List.mem_map.mp hx
  exact ⟨w, hw, fun s => by rw [h s, e]⟩
section
variable {gls : Nat → D} {Gam : Nat → Option FDef} {Q : D → Store → Prop} {c : Cell} {st : Store}
theorem part_ok {k : Nat} (h4 : Gam 4 = some d4_l_draw) (h6 : Gam 6 = some d6_l_part) (ht : IsTape c) (q : ∀ w c', w ∈ partsW → IsTape c' → Q (.str w) (c' :: st)) : wE (call gls Gam (k + 2) 6 [.ref 0] (c :: st)) Q := by
  refine w_call h6 rfl ?_
  unfold d6_l_part
  simp [SZ]
  refine draw_ok h4 (by decide) (by decide) ht fun r c' r0 r1 ht' => ?_
  obtain ⟨w, hw, h⟩ := ix_pickW (ws := [[97], [98], [42], [120], [97], [98]]) r0 r1
  have h' := h (c' :: st)
  simp only [List.map_cons, List.map_nil] at h'
  rw [h']
  refine wH_keep rfl (q w c' ?_ ht')
  simp at hw
  simp [partsW]
  rcases hw with z | z | z | z | z | z <;> simp [z]
theorem rng_in {n : Int} (h0 : 0 ≤ n) (h1 : n ≤ 1000) : rngS [.int n] = some (.st (rngL 0 n.toNat)) := by
  show (if small n = true then _ else _) = _
  rw [if_pos]
  unfold small
  rw [Bool.and_eq_true, decide_eq_true_iff, decide_eq_true_iff]
  omega
theorem rngL_len' : ∀ (n : Nat) (lo : Int), (rngL lo n).length = n
  | 0, _ => rfl
  | n + 1, lo => by rw [rngL, List.length_cons, rngL_len' n]
theorem cut_init (xs : List D) (h : xs.length ≤ SZ) : cutL xs none (some (-1)) = xs.dropLast := by
  unfold cutL
  show (xs.drop 0).take ((-1 + (xs.length : Int)).toNat - 0) = _
  rw [List.drop_zero, List.dropLast_eq_take]
  congr 1
  omega
/-- a path grows -/
def Grow (st : Store) (ok : W → Prop) (n : Nat) (xs : List D) (env : Envr) (s : Store) : Prop := ∃ ws o c, env = [some (.ref 0), some (pathT ws), o] ∧ s = c :: st ∧ IsTape c ∧ (∀ w ∈ ws, ok w) ∧ ws.length + xs.length = n
theorem mem_init {α : Type} {x : α} {l : List α} (h : x ∈ l.dropLast) : x ∈ l := (List.dropLast_sublist l).subset h
theorem pattern_ok {k : Nat} (h4 : Gam 4 = some d4_l_draw) (h6 : Gam 6 = some d6_l_part) (h7 : Gam 7 = some d7_l_pattern) (ht : IsTape c) (q : ∀ p c', PatOk p → IsTape c' → Q (pathT p) (c' :: st)) : wE (call gls Gam (k + 3) 7 [.ref 0] (c :: st)) Q := by
  refine w_call h7 rfl ?_
  unfold d7_l_pattern
  simp [SZ]
  refine draw_ok h4 (by decide) (by decide) ht fun r c1 r0 r1 ht1 => ?_
  simp
  rw [rng_in (by omega) (by omega)]
  refine for_inv (Grow st (· ∈ partsW) (1 + r).toNat) ⟨[], none, c1, rfl, rfl, ht1, by simp, by simp [rngL_len']⟩ ?_ ?_
  · rintro x xs env s ⟨ws, o, c2, rfl, rfl, ht2, hw, hl⟩
    rw [List.length_cons] at hl
    simp [pathT]
    refine part_ok h4 h6 ht2 fun w c3 hw3 ht3 => ?_
    simp [SZ]
    refine ⟨by omega, ws ++ [w], some x, c3, ?_, rfl, ht3, fun v hv => ?_, by simp; omega⟩
    · simp [pathT]
    · rcases List.mem_append.mp hv with z | z
      · exact hw v z
      · rw [List.mem_singleton.mp z]; exact hw3
  · rintro env s ⟨ws, o, c2, rfl, rfl, ht2, hw, hl⟩
    simp [pathT]
    simp at hl
    have hne : ws ≠ [] := fun z => by rw [z] at hl; simp at hl; omega
    have hws := (List.dropLast_concat_getLast hne).symm
    refine draw_ok h4 (by decide) (by decide) ht2 fun r2 c3 r20 r21 ht3 => ?_
    simp
    split
    · simp [slD, cutBd, small, cut_init _ (show (ws.map D.str).length ≤ SZ by rw [List.length_map]; simp [SZ]; omega)]
      refine ⟨by simp [SZ]; omega, ?_⟩
      have : (List.map D.str ws).dropLast ++ [D.str [42, 42]] = (ws.dropLast ++ [star2]).map D.str := by simp [star2]
      rw [this]
      refine wH_keep rfl (q _ c3 ⟨ws.dropLast, star2, rfl, by rw [List.length_dropLast]; omega, fun w h => hw w (mem_init h), .inr rfl⟩ ht3)
    · refine wH_keep rfl (q ws c3 ⟨ws.dropLast, ws.getLast hne, hws, by rw [List.length_dropLast]; omega, fun w h => hw w (mem_init h), .inl (hw _ (List.getLast_mem hne))⟩ ht3)
theorem path_ok {k : Nat} (h4 : Gam 4 = some d4_l_draw) (h13 : Gam 13 = some d13_l_path) (ht : IsTape c) (q : ∀ p c', p ≠ [] → p.length ≤ 4 → (∀ w ∈ p, w ∈ wordsW) → IsTape c' → Q (pathT p) (c' :: st)) : wE (call gls Gam (k + 2) 13 [.ref 0] (c :: st)) Q := by
  refine w_call h13 rfl ?_
  unfold d13_l_path
  simp [SZ]
  refine draw_ok h4 (by decide) (by decide) ht fun r c1 r0 r1 ht1 => ?_
  simp
  rw [rng_in (by omega) (by omega)]
  refine for_inv (Grow st (· ∈ wordsW) (1 + r).toNat) ⟨[], none, c1, rfl, rfl, ht1, by simp, by simp [rngL_len']⟩ ?_ ?_
  · rintro x xs env s ⟨ws, o, c2, rfl, rfl, ht2, hw, hl⟩
    rw [List.length_cons] at hl
    simp [pathT, SZ]
    refine draw_ok h4 (by decide) (by decide) ht2 fun r2 c3 r20 r21 ht3 => ?_
    obtain ⟨w, hw3, h⟩ := ix_pickW (ws := [[97], [98], [120], [97,97], [97], [114,101,97,100,109,101]]) r20 r21
    have h' := h (c3 :: st)
    simp only [List.map_cons, List.map_nil] at h'
    rw [h']
    simp [SZ]
    refine ⟨by omega, ws ++ [w], some x, c3, ?_, rfl, ht3, fun v hv => ?_, by simp; omega⟩
    · simp [pathT]
    · rcases List.mem_append.mp hv with z | z
      · exact hw v z
      · rw [List.mem_singleton.mp z]
        simp at hw3
        simp [wordsW]
        rcases hw3 with z | z | z | z | z | z <;> simp [z]
  · rintro env s ⟨ws, o, c2, rfl, rfl, ht2, hw, hl⟩
    simp at hl
    simp
    refine wH_keep rfl (q ws c2 (fun z => ?_) (by omega) hw ht2)
    rw [z] at hl
    simp at hl
    omega
/-! a list of one's own, at the end of the store -/
theorem app_end {x : D} {xs : List D} {Q : Store → Prop} : wS (appD (.ref (st.length + 1)) x (c :: (st ++ [.lst xs]))) Q = (noRef x = true ∧ xs.length < SZ ∧ Q (c :: (st ++ [.lst (xs ++ [x])]))) := by
  have h : (c :: (st ++ [Cell.lst xs]))[st.length + 1]? = some (.lst xs) := by simp
  have h2 : (c :: (st ++ [Cell.lst xs])).set (st.length + 1) (.lst (xs ++ [x])) = c :: (st ++ [.lst (xs ++ [x])]) := by simp
  unfold appD
  simp only [h]
  rw [wS_ite, h2]
  show (if _ then Q _ else False) = _
  rw [ite_and]
  exact propext ⟨fun z => ⟨z.1.1, z.1.2, z.2⟩, fun z => ⟨⟨z.1, z.2.1⟩, z.2.2⟩⟩
@[simp] theorem lref_end {xs : List D} : isLref (c :: (st ++ [.lst xs])) (.ref (st.length + 1)) = true := by
  have h : (c :: (st ++ [Cell.lst xs]))[st.length + 1]? = some (.lst xs) := by simp
  unfold isLref
  simp only [h]
theorem lst_end {xs : List D} : lstOf (c :: (st ++ [.lst xs])) (.ref (st.length + 1)) = some xs := by
  have h : (c :: (st ++ [Cell.lst xs]))[st.length + 1]? = some (.lst xs) := by simp
  unfold lstOf
  simp only [h]
theorem wH_drop {d : D} (h : noRef d = true) {l : Store} (q : Q d (c :: st)) : wH (st.length + 1) d (c :: (st ++ l)) Q := by
  unfold wH handBack
  split
  · rename_i hl
    have : l = [] := by
      have : (st ++ l).length + 1 = st.length + 1 := hl
      rw [List.length_append] at this
      exact List.eq_nil_of_length_eq_zero (by omega)
    subst this
    rw [List.append_nil]
    exact q
  · show Q d ((c :: (st ++ l)).take (st.length + 1))
    rw [List.take_succ_cons, List.take_left']
    · exact q
    · rfl
theorem noRefs_str : ∀ ws : List W, noRefs (ws.map D.str) = true
  | [] => rfl
  | w :: ws => by show (noRef (.str w) && noRefs (ws.map D.str)) = true; rw [noRefs_str ws]; rfl
theorem allStr_str : ∀ ws : List W, allStr (ws.map D.str) = true
  | [] => rfl
  | w :: ws => by
    have ih := allStr_str ws
    show (isStr (.str w) && (ws.map D.str).all isStr) = true
    rw [show (ws.map D.str).all isStr = true from ih]
    rfl
/-- sorted(set(ws)) -/
def ssW (ws : List W) : List W := kdW.sset ws
theorem sset_str {ws : List W} (h : ws.length < 4095) : sortedSet (ws.map D.str) = some ((ssW ws).map D.str) := by
  unfold sortedSet
  rw [if_pos (allStr_str ws), if_pos (by rw [List.length_map]; exact h)]
  exact congrArg some (kdW.sset_enc ws)
theorem Kd.ddp_len (k : Kd) : ∀ xs : List k.α, (k.ddp xs).length ≤ xs.length
  | [] => Nat.le_refl _
  | x :: xs => by
    unfold Kd.ddp
    split
    · exact Nat.le_succ_of_le (Kd.ddp_len k xs)
    · exact Nat.succ_le_succ (Kd.ddp_len k xs)
/-- people in order, each once -/
def GroupOk (ws : List W) : Prop := ws ≠ [] ∧ (∀ w ∈ ws, w ∈ namesW) ∧ ws.Nodup ∧ ws.Pairwise (fun a b => kdW.le a b = true) ∧ ws.length ≤ 4
theorem group_of {ws : List W} (h0 : ws ≠ []) (h1 : ∀ w ∈ ws, w ∈ namesW) (h2 : ws.length ≤ 4) : GroupOk (ssW ws) := by
  have mem : ∀ z : W, z ∈ ssW ws ↔ z ∈ ws := fun z => ((kdW.srt_perm _).mem_iff).trans (kdW.ddp_mem ws z)
  refine ⟨fun z => ?_, fun w hw => h1 w ((mem w).mp hw), ((kdW.srt_perm _).nodup_iff).mpr (kdW.ddp_nodup ws), kdW.srt_sorted _, ?_⟩
  · obtain ⟨w, t, rfl⟩ : ∃ w t, ws = w :: t := by cases ws with | nil => exact absurd rfl h0 | cons w t => exact ⟨w, t, rfl⟩
    have h := (mem w).mpr (List.mem_cons_self ..)
    rw [z] at h
    cases h
  · have h3 : (kdW.sset ws).length = (kdW.ddp ws).length := (kdW.srt_perm _).length_eq
    have h4 := kdW.ddp_len ws
    have h5 : (kdW.ddp ws).length ≤ 4 := Nat.le_trans h4 h2
    exact Nat.le_trans (Nat.le_of_eq h3) h5
def GrowG (st : Store) (n : Nat) (xs : List D) (env : Envr) (s : Store) : Prop := ∃ ws o c, env = [some (.ref 0), some (.ref (st.length + 1)), o] ∧ s = c :: (st ++ [.lst (ws.map .str)]) ∧ IsTape c ∧ ws ≠ [] ∧ (∀ w ∈ ws, w ∈ namesW) ∧ ws.length + xs.length = n
theorem group_ok {k : Nat} (h4 : Gam 4 = some d4_l_draw) (h8 : Gam 8 = some d8_l_group) (ht : IsTape c) (q : ∀ p c', GroupOk p → IsTape c' → Q (pathT p) (c' :: st)) : wE (call gls Gam (k + 2) 8 [.ref 0] (c :: st)) Q := by
  refine w_call h8 rfl ?_
  unfold d8_l_group
  have pick : ∀ (r : Int) (s : Store), 0 ≤ r → r < 5 → ∃ w ∈ namesW, ixD (.lst [.str [97,110,110], .str [98,111,98], .str [99,97,116], .str [100,97,110], .str [101,118,101]]) (.int r) s = some (.str w) := fun r s r0 r1 => by
    obtain ⟨w, hw, h⟩ := ix_pickW (ws := namesW) r0 r1
    exact ⟨w, hw, h s⟩
  simp [SZ]
  refine draw_ok h4 (by decide) (by decide) ht fun r c1 r0 r1 ht1 => ?_
  obtain ⟨w, hw, e⟩ := pick r (c1 :: st) r0 r1
  rw [e]
  simp [mkL_own, SZ, noRefs, noRef]
  refine draw_ok h4 (by decide) (by decide) ht1 fun r2 c2 r20 r21 ht2 => ?_
  rw [rng_in (by omega) (by omega)]
  refine for_inv (GrowG st (1 + r2).toNat) ⟨[w], none, c2, rfl, rfl, ht2, by simp, by simpa using hw, by simp [rngL_len']; omega⟩ ?_ ?_
  · rintro x xs env s ⟨ws, o, c3, rfl, rfl, ht3, ne, hws, hl⟩
    rw [List.length_cons] at hl
    simp [SZ]
    refine draw_ok h4 (by decide) (by decide) ht3 fun r3 c4 r30 r31 ht4 => ?_
    obtain ⟨w2, hw2, e2⟩ := pick r3 (c4 :: (st ++ [.lst (ws.map .str)])) r30 r31
    rw [e2]
    simp only [app_end]
    refine ⟨rfl, by rw [List.length_map]; simp [SZ]; omega, ws ++ [w2], some x, c4, rfl, by simp, ht4, by simp, fun v hv => ?_, by simp; omega⟩
    rcases List.mem_append.mp hv with z | z
    · exact hws v z
    · rw [List.mem_singleton.mp z]; exact hw2
  · rintro env s ⟨ws, o, c3, rfl, rfl, ht3, ne, hws, hl⟩
    simp at hl
    simp [lst_end, sset_str (show ws.length < 4095 by omega)]
    have g := group_of ne hws (by omega)
    refine ⟨?_, ?_⟩
    · have h5 := g.2.2.2.2
      omega
    · exact wH_drop (by show noRefs _ = true; exact noRefs_str _) (q _ c3 g ht3)
end
end Ow
/-! What the drawn defs give: teams, asks, lines, books. -/
namespace Ow
def TeamsOk (ts : List Tm) : Prop := (∃ n, 1 ≤ n ∧ n ≤ 3 ∧ ts.map (·.1) = teamsW.take n) ∧ ∀ t ∈ ts, GroupOk t.2
def AsksOk (ts : List Tm) (as : List (W × Int)) : Prop := (as.map (·.1)).Sublist (ts.map (·.1)) ∧ as.length ≤ 2 ∧ ∀ a ∈ as, 1 ≤ a.2 ∧ a.2 ≤ 3
def LineOk (ts : List Tm) (l : Ln) : Prop := PatOk l.1 ∧ AsksOk ts l.2
def BookOk (n : Nat) (b : Bk) : Prop := TeamsOk b.teams ∧ b.lines.length ≤ n ∧ ∀ l ∈ b.lines, LineOk b.teams l
theorem cut_take (xs : List D) {i : Int} (h : 0 ≤ i) : cutL xs none (some i) = xs.take i.toNat := by
  unfold cutL
  show (xs.drop 0).take (cutIx xs.length xs.length (some i) - 0) = _
  rw [List.drop_zero, Nat.sub_zero]
  show xs.take (if i < 0 then _ else min i.toNat xs.length) = _
  rw [if_neg (by omega)]
  by_cases hh : i.toNat ≤ xs.length
  · rw [Nat.min_eq_left hh]
  · rw [Nat.min_eq_right (by omega), List.take_length, List.take_of_length_le (by omega)]
section
variable {gls : Nat → D} {Gam : Nat → Option FDef} {Q : D → Store → Prop} {c : Cell} {st : Store}
def GrowT (st : Store) (all : List W) (xs acc : List D) (s : Store) : Prop := ∃ (ts : List Tm) (rest : List W) (c : Cell), s = c :: st ∧ IsTape c ∧ acc = ts.map teamT ∧ xs = rest.map .str ∧ ts.map (·.1) ++ rest = all ∧ ∀ t ∈ ts, GroupOk t.2
theorem teams_ok {k : Nat} (h4 : Gam 4 = some d4_l_draw) (h8 : Gam 8 = some d8_l_group) (h9 : Gam 9 = some d9_l_teams) (ht : IsTape c) (q : ∀ ts c', TeamsOk ts → IsTape c' → Q (.tup (ts.map teamT)) (c' :: st)) :
    wE (call gls Gam (k + 3) 9 [.ref 0] (c :: st)) Q := by
  refine w_call h9 rfl ?_
  unfold d9_l_teams
  simp [SZ]
  refine draw_ok h4 (by decide) (by decide) ht fun r c1 r0 r1 ht1 => ?_
  have hs : small (1 + r) = true := by
    unfold small
    rw [Bool.and_eq_true, decide_eq_true_iff, decide_eq_true_iff]
    omega
  have e0 : [D.str [99, 111, 114, 101], D.str [100, 111, 99, 115], D.str [116, 111, 111, 108, 115]] = teamsW.map .str := rfl
  simp [cutBd, hs, slD, srcOf, cut_take _ (show (0 : Int) ≤ 1 + r by omega)]
  rw [e0, ← List.map_take]
  refine loop_inv (GrowT st (teamsW.take (1 + r).toNat)) ⟨[], teamsW.take (1 + r).toNat, c1, rfl, ht1, rfl, rfl, rfl, fun t h => by cases h⟩ ?_ ?_
  · rintro x xs acc s ⟨ts, rest, c2, rfl, ht2, rfl, hx, hall, hg⟩
    cases rest with
    | nil => cases hx
    | cons w rest =>
      cases hx
      simp
      refine group_ok h4 h8 ht2 fun p c3 hp ht3 => ?_
      have hl : ts.length < 16777216 := by
        have := congrArg List.length hall
        simp at this
        have h3 : teamsW.length = 3 := rfl
        omega
      simp [SZ, hl]
      refine ⟨ts ++ [(w, p)], rest, c3, rfl, ht3, by simp [teamT], rfl, by rw [← hall]; simp, fun t ht => ?_⟩
      rcases List.mem_append.mp ht with z | z
      · exact hg t z
      · rw [List.mem_singleton.mp z]; exact hp
  · rintro acc s ⟨ts, rest, c2, rfl, ht2, rfl, hx, hall, hg⟩
    have hr : rest = [] := by cases rest with | nil => rfl | cons _ _ => cases hx
    subst hr
    rw [List.append_nil] at hall
    have hl : ts.length ≤ 3 := by
      have := congrArg List.length hall
      simp at this
      have h3 : teamsW.length = 3 := rfl
      omega
    simp [SZ]
    refine ⟨by omega, ?_⟩
    exact wH_keep rfl (q ts c2 ⟨⟨(1 + r).toNat, by omega, by omega, hall⟩, hg⟩ ht2)
def GrowA (st : Store) (ts : List Tm) (xs : List D) (env : Envr) (s : Store) : Prop := ∃ (as : List (W × Int)) (fin rest : List Tm) (o3 o4 : Option D) (c : Cell), env = [some (.ref 0), some (.tup (ts.map teamT)), some (.tup (as.map askT)), o3, o4] ∧ s = c :: st ∧ IsTape c ∧
  xs = rest.map teamT ∧ ts = fin ++ rest ∧ AsksOk fin as
theorem asked_ok {k : Nat} (h4 : Gam 4 = some d4_l_draw) (h10 : Gam 10 = some d10_l_asked) {ts : List Tm} (hl : ts.length ≤ 1000) (ht : IsTape c) (q : ∀ as c', AsksOk ts as → IsTape c' → Q (.tup (as.map askT)) (c' :: st)) :
    wE (call gls Gam (k + 2) 10 [.ref 0, .tup (ts.map teamT)] (c :: st)) Q := by
  refine w_call h10 rfl ?_
  unfold d10_l_asked
  simp [SZ, srcOf]
  refine for_inv (GrowA st ts) ⟨[], [], ts, none, none, c, rfl, rfl, ht, rfl, rfl, .refl _, by simp, by simp⟩ ?_ ?_
  · rintro x xs env s ⟨as, fin, rest, o3, o4, c2, rfl, rfl, ht2, hx, hall, hs, hl2, hc⟩
    cases rest with
    | nil => cases hx
    | cons t rest =>
      cases hx
      have hall' : ts = (fin ++ [t]) ++ rest := by rw [hall]; simp
      have keep : AsksOk (fin ++ [t]) as := ⟨by rw [List.map_append]; exact hs.trans (List.sublist_append_left _ _), hl2, hc⟩
      simp [teamT]
      split
      · rename_i hlt
        refine draw_ok h4 (by decide) (by decide) ht2 fun r c3 r0 r1 ht3 => ?_
        simp [SZ]
        split
        · refine draw_ok h4 (by decide) (by decide) ht3 fun r2 c4 r20 r21 ht4 => ?_
          obtain ⟨z, hz, e⟩ := ix_pick (xs := [.int 1, .int 1, .int 2, .int 2, .int 3]) r20 r21
          rw [e]
          obtain ⟨i, rfl, i1, i2⟩ : ∃ i, z = .int i ∧ 1 ≤ i ∧ i ≤ 3 := by
            simp at hz
            rcases hz with z | z | z <;> exact ⟨_, z, by decide, by decide⟩
          simp [SZ]
          refine ⟨by omega, as ++ [(t.1, i)], fin ++ [t], rest, _, _, c4, by simp [askT, teamT]; exact ⟨rfl, rfl⟩, rfl, ht4, rfl, hall', ?_, by simp; omega, fun a ha => ?_⟩
          · rw [List.map_append, List.map_append]
            exact hs.append (.refl _)
          · rcases List.mem_append.mp ha with z | z
            · exact hc a z
            · rw [List.mem_singleton.mp z]; exact ⟨i1, i2⟩
        · exact ⟨as, fin ++ [t], rest, _, _, c3, rfl, rfl, ht3, rfl, hall', keep⟩
      · exact ⟨as, fin ++ [t], rest, _, _, c2, rfl, rfl, ht2, rfl, hall', keep⟩
  · rintro env s ⟨as, fin, rest, o3, o4, c2, rfl, rfl, ht2, hx, hall, hk⟩
    have hr : rest = [] := by cases rest with | nil => rfl | cons _ _ => cases hx
    subst hr
    rw [List.append_nil] at hall
    subst hall
    simp
    exact wH_keep rfl (q as c2 hk ht2)
theorem line_ok {k : Nat} (h4 : Gam 4 = some d4_l_draw) (h6 : Gam 6 = some d6_l_part) (h7 : Gam 7 = some d7_l_pattern) (h10 : Gam 10 = some d10_l_asked) (h11 : Gam 11 = some d11_l_line) {ts : List Tm} (hl : ts.length ≤ 1000) (ht : IsTape c)
    (q : ∀ l c', LineOk ts l → IsTape c' → Q (lineT l) (c' :: st)) : wE (call gls Gam (k + 4) 11 [.ref 0, .tup (ts.map teamT)] (c :: st)) Q := by
  refine w_call h11 rfl ?_
  unfold d11_l_line
  simp [SZ]
  refine pattern_ok h4 h6 h7 ht fun p c1 hp ht1 => ?_
  refine asked_ok h4 h10 hl ht1 fun as c2 ha ht2 => ?_
  exact wH_keep rfl (q (p, as) c2 ⟨hp, ha⟩ ht2)
def GrowB (st : Store) (ts : List Tm) (most : Int) (n : Nat) (xs : List D) (env : Envr) (s : Store) : Prop := ∃ (ls : List Ln) (o : Option D) (c : Cell), env = [some (.ref 0), some (.int most), o, some (.tup (ts.map teamT)), some (.tup (ls.map lineT))] ∧ s = c :: st ∧ IsTape c ∧
  ls.length + xs.length = n ∧ ∀ l ∈ ls, LineOk ts l
theorem book_ok {k : Nat} (h4 : Gam 4 = some d4_l_draw) (h6 : Gam 6 = some d6_l_part) (h7 : Gam 7 = some d7_l_pattern) (h8 : Gam 8 = some d8_l_group) (h9 : Gam 9 = some d9_l_teams) (h10 : Gam 10 = some d10_l_asked) (h11 : Gam 11 = some d11_l_line) (h12 : Gam 12 = some d12_l_book)
    {most : Int} (m0 : 0 ≤ most) (m1 : most ≤ 100) (ht : IsTape c) (q : ∀ b c', BookOk most.toNat b → IsTape c' → Q (bookT b) (c' :: st)) : wE (call gls Gam (k + 5) 12 [.ref 0, .int most] (c :: st)) Q := by
  refine w_call h12 rfl ?_
  unfold d12_l_book
  simp [SZ]
  refine teams_ok (k := k + 1) h4 h8 h9 ht fun ts c1 hts ht1 => ?_
  have hl : ts.length ≤ 3 := by
    obtain ⟨⟨n, _, h2, h3⟩, _⟩ := hts
    have := congrArg List.length h3
    simp at this
    omega
  refine draw_ok h4 (by omega) (by omega) ht1 fun r c2 r0 r1 ht2 => ?_
  rw [rng_in (by omega) (by omega)]
  refine for_inv (GrowB st ts most r.toNat) ⟨[], none, c2, rfl, rfl, ht2, by simp [rngL_len'], by simp⟩ ?_ ?_
  · rintro x xs env s ⟨ls, o, c3, rfl, rfl, ht3, hlen, hls⟩
    rw [List.length_cons] at hlen
    simp
    refine line_ok h4 h6 h7 h10 h11 (by omega) ht3 fun l c4 hl4 ht4 => ?_
    simp [SZ]
    refine ⟨by omega, ls ++ [l], some x, c4, by simp, rfl, ht4, by simp; omega, fun y hy => ?_⟩
    rcases List.mem_append.mp hy with z | z
    · exact hls y z
    · rw [List.mem_singleton.mp z]; exact hl4
  · rintro env s ⟨ls, o, c3, rfl, rfl, ht3, hlen, hls⟩
    simp at hlen
    simp [SZ]
    exact wH_keep rfl (q ⟨ts, ls⟩ c3 ⟨hts, by show ls.length ≤ most.toNat; omega, hls⟩ ht3)
end
end Ow
/-! Which lines fit a path. -/
namespace Ow
theorem wL_eq {o : Option (List D × Store)} {d : List D} {s : Store} (h : wL o fun d' s' => d' = d ∧ s' = s) : o = some (d, s) := by
  obtain ⟨d', s', h1, h2, h3⟩ := wL_get h
  rw [h1, h2, h3]
theorem loop_filter {α : Type} (enc : α → D) (g : α → D) (b : α → Bool) {f : D → List D → Store → Option (List D × Store)} {s : Store} : ∀ {ys : List α} {acc : List D}, (∀ y ∈ ys, ∀ acc, acc.length < SZ → f (enc y) acc s = some (if b y = true then acc ++ [g y] else acc, s)) →
    acc.length + ys.length ≤ SZ → loop (.st (ys.map enc)) f acc s = some (acc ++ (ys.filter b).map g, s)
  | [], acc, _, _ => by show some (acc, s) = _; simp
  | y :: ys, acc, h, hl => by
    rw [List.length_cons] at hl
    show loopL f (enc y :: ys.map enc) acc s = _
    rw [loopL, h y (List.mem_cons_self ..) acc (by omega)]
    have ih := fun a ha => loop_filter enc g b (f := f) (s := s) (ys := ys) (acc := a) (fun z hz => h z (List.mem_cons_of_mem _ hz)) ha
    by_cases hb : b y = true
    · rw [if_pos hb, List.filter_cons_of_pos hb, List.map_cons]
      dsimp only
      have := ih (acc ++ [g y]) (by rw [List.length_append]; show acc.length + 1 + ys.length ≤ SZ; omega)
      show loop (.st (ys.map enc)) f (acc ++ [g y]) s = _
      rw [this, List.append_assoc]
      rfl
    · rw [if_neg hb, List.filter_cons_of_neg hb]
      dsimp only
      exact ih acc (by omega)
theorem loop_map {α : Type} (enc : α → D) (g : α → D) {f : D → List D → Store → Option (List D × Store)} {s : Store} {ys : List α} {acc : List D} (h : ∀ y ∈ ys, ∀ acc, acc.length < SZ → f (enc y) acc s = some (acc ++ [g y], s)) (hl : acc.length + ys.length ≤ SZ) :
    loop (.st (ys.map enc)) f acc s = some (acc ++ ys.map g, s) := by
  have := loop_filter enc g (fun _ => true) (f := f) (s := s) (ys := ys) (acc := acc) (fun y hy a ha => by rw [if_pos rfl]; exact h y hy a ha) hl
  rw [this, List.filter_eq_self.mpr (fun _ _ => rfl)]
def pfit (p w : W) : Bool := decide (p = [42] ∨ p = star2 ∨ p = w)
def zipAll : List W → List W → Bool
  | p :: ps, k :: ks => pfit p k && zipAll ps ks
  | _, _ => true
def fitsB (p k : List W) : Bool := if p.getLast? = some star2 then decide (p.length ≤ k.length) && zipAll p k else decide (k.length = p.length) && zipAll p k
theorem eqD_str (a b : W) : eqD (.str a) (.str b) = eqW a b := by rw [eqD]
theorem eqW_dec (a b : W) : eqW a b = decide (a = b) := by rw [Bool.eq_iff_iff, eqW_iff', decide_eq_true_iff]
section
variable {gls : Nat → D} {Gam : Nat → Option FDef} {Q : D → Store → Prop} {c : Cell} {st : Store}
theorem pl_str (w : W) : Pl (.str w) := ⟨rfl, by simp [dep]⟩
theorem part_fits_ok {k : Nat} (h1 : Gam 1 = some d1_part_fits) (p w : W) (q : Q (.bl (pfit p w)) st) : wE (call gls Gam (k + 1) 1 [.str p, .str w] st) Q := by
  refine w_call h1 rfl ?_
  unfold d1_part_fits
  have e1 : noRefs [D.str [42], D.str [42, 42]] = true := rfl
  have e2 : deps [D.str [42], D.str [42, 42]] ≤ 60 := by simp [deps, dep]
  simp [SZ, in_tup (pl_str p) e1 e2, memD, eqD_str, eqW_dec]
  split
  · rename_i h
    have : pfit p w = true := by
      unfold pfit
      rw [decide_eq_true_iff]
      rcases h with h | h
      · exact .inl h.symm
      · exact .inr (.inl h.symm)
    have e : (decide ([42] = p) || decide ([42, 42] = p)) = true := by simpa using h
    rw [this] at q
    rw [e]
    exact q
  · rename_i h
    have : pfit p w = decide (p = w) := by
      unfold pfit
      rw [Bool.eq_iff_iff, decide_eq_true_iff, decide_eq_true_iff]
      exact ⟨fun z => z.elim (fun z => absurd (.inl z.symm) h) fun z => z.elim (fun z => absurd (.inr z.symm) h) id, fun z => .inr (.inr z)⟩
    rw [this] at q
    exact q
@[simp] theorem notPr_str (w : W) : notPr (.str w) = true := rfl
def pairT (x : W × W) : D := .tup [.str x.1, .str x.2]
theorem zip_pairs : ∀ (p k : List W), zipL (p.map .str) (k.map .str) = (p.zip k).map pairT
  | [], _ => by simp [zipL]
  | _ :: _, [] => by simp [zipL]
  | a :: p, b :: k => by
    rw [List.map_cons, List.map_cons, zipL, zip_pairs p k]
    rfl
theorem zipAll_all : ∀ (p k : List W), zipAll p k = ((p.zip k).map fun x => pfit x.1 x.2).all id
  | [], _ => by simp [zipAll]
  | _ :: _, [] => by simp [zipAll]
  | a :: p, b :: k => by
    rw [zipAll, zipAll_all p k]
    simp
theorem fits_ok {k : Nat} (h1 : Gam 1 = some d1_part_fits) (h2 : Gam 2 = some d2_fits) {p ks : List W} (hp : p ≠ []) (hl : p.length ≤ 1000) (q : Q (.bl (fitsB p ks)) st) : wE (call gls Gam (k + 2) 2 [pathT p, pathT ks] st) Q := by
  refine w_call h2 rfl ?_
  unfold d2_fits
  have hlast : (p.map D.str).getLast? = some (.str (p.getLast hp)) := by
    rw [List.getLast?_map, List.getLast?_eq_getLast hp]
    rfl
  have hzip : loop (.st (zipL (p.map .str) (ks.map .str))) (lastT gls (call gls Gam (k + 1)) (.call 1 (.cons false (.var 2) (.cons false (.var 3) .nil))) (.tp [2, 3]) .none [some (pathT p), some (pathT ks), none, none]) [] st = some (((p.zip ks).map fun x => pfit x.1 x.2).map .bl, st) := by
    rw [zip_pairs, List.map_map]
    refine (loop_map pairT (fun x => .bl (pfit x.1 x.2)) (fun y _ acc ha => wL_eq ?_) ?_).trans ?_
    · simp [pairT]
      exact part_fits_ok h1 _ _ ⟨ha, rfl, rfl⟩
    · simp [SZ]
      omega
    · rfl
  have hz : ((p.zip ks).map fun x => pfit x.1 x.2).all id = zipAll p ks := (zipAll_all p ks).symm
  have tail : Q (.bl (zipAll p ks)) st → wL (loop (.st (zipL (p.map .str) (ks.map .str))) (lastT gls (call gls Gam (k + 1)) (.call 1 (.cons false (.var 2) (.cons false (.var 3) .nil))) (.tp [2, 3]) .none [some (.tup (p.map .str)), some (.tup (ks.map .str)), none, none]) [] st)
      (fun ds s1 => ds.length ≤ 16777216 ∧ wE (biD false .all [.lst ds] s1) fun x s => wH st.length x s Q) := fun q' => by
    refine wL_of hzip ⟨?_, ?_⟩
    · simp
      omega
    · rw [all_bls, hz]
      exact wH_keep rfl q'
  unfold fitsB at q
  have hg : p.getLast? = some (p.getLast hp) := List.getLast?_eq_getLast hp
  rw [hg] at q
  simp [pathT, hlast, eqW_dec, SZ]
  split
  · rename_i h
    have h' : p.getLast hp = star2 := h
    rw [h', if_pos rfl] at q
    split
    · rename_i h2
      rw [decide_eq_false (by omega)] at q
      exact q
    · rename_i h2
      rw [decide_eq_true (by omega)] at q
      exact tail q
  · rename_i h
    have h' : ¬ some (p.getLast hp) = some star2 := fun z => h (Option.some.inj z)
    rw [if_neg h'] at q
    split
    · rename_i h2
      rw [decide_eq_true (by omega)] at q
      exact tail q
    · rename_i h2
      rw [decide_eq_false (by omega)] at q
      exact q
end
/-! the law's own reading -/
def lawFits : List W → List W → Bool
  | [], k => decide (k = [])
  | _ :: _, [] => false
  | a :: p, b :: k => decide (a = star2) || (decide (a = [42] ∨ a = b) && lawFits p k)
theorem zip_law : ∀ (init : List W) (last : W) (k : List W), (∀ w ∈ init, w ∈ partsW) → (last ∈ partsW ∨ last = star2) → k ≠ [] → fitsB (init ++ [last]) k = lawFits (init ++ [last]) k
  | [], last, k, _, hl, hk => by
    obtain ⟨b, k, rfl⟩ : ∃ b t, k = b :: t := by cases k with | nil => exact absurd rfl hk | cons b t => exact ⟨b, t, rfl⟩
    have e : zipAll ([] ++ [last]) (b :: k) = pfit last b := by show (pfit last b && zipAll [] k) = _; cases k <;> simp [zipAll]
    unfold fitsB
    rw [e]
    show _ = (decide (last = star2) || (decide (last = [42] ∨ last = b) && decide (k = [])))
    by_cases h : last = star2
    · subst h
      simp [pfit]
    · have h' : ¬ (([] ++ [last] : List W).getLast? = some star2) := by simpa using h
      rw [if_neg h']
      unfold pfit
      cases k with
      | nil => simp [h]
      | cons c k => simp [h]
  | a :: init, last, k, hi, hl, hk => by
    obtain ⟨b, k, rfl⟩ : ∃ b t, k = b :: t := by cases k with | nil => exact absurd rfl hk | cons b t => exact ⟨b, t, rfl⟩
    have ha : a ∈ partsW := hi a (List.mem_cons_self ..)
    have h2 : a ≠ star2 := by
      intro z
      subst z
      revert ha
      decide
    have e1 : (a :: init ++ [last]).getLast? = (init ++ [last]).getLast? := by
      show ((a :: init) ++ [last]).getLast? = _
      rw [List.getLast?_concat, List.getLast?_concat]
    have e2 : zipAll (a :: init ++ [last]) (b :: k) = (decide (a = [42] ∨ a = b) && zipAll (init ++ [last]) k) := by
      show (pfit a b && zipAll (init ++ [last]) k) = _
      unfold pfit
      simp [h2]
    show _ = (decide (a = star2) || (decide (a = [42] ∨ a = b) && lawFits (init ++ [last]) k))
    rw [decide_eq_false h2, Bool.false_or]
    by_cases hk2 : k = []
    · subst hk2
      have l0 : lawFits (init ++ [last]) [] = false := by cases init <;> rfl
      rw [l0, Bool.and_false]
      unfold fitsB
      split
      · rw [decide_eq_false (by simp), Bool.false_and]
      · rw [decide_eq_false (by simp), Bool.false_and]
    · have ih := zip_law init last k (fun w hw => hi w (List.mem_cons_of_mem _ hw)) hl hk2
      rw [← ih]
      unfold fitsB
      rw [e1, e2]
      split
      · rw [show decide ((a :: init ++ [last]).length ≤ (b :: k).length) = decide ((init ++ [last]).length ≤ k.length) from by simp]
        rw [Bool.and_left_comm]
      · rw [show decide ((b :: k).length = (a :: init ++ [last]).length) = decide (k.length = (init ++ [last]).length) from by simp]
        rw [Bool.and_left_comm]
theorem fits_law {p k : List W} (hp : PatOk p) (hk : k ≠ []) : fitsB p k = lawFits p k := by
  obtain ⟨init, last, rfl, _, h1, h2⟩ := hp
  exact zip_law init last k h1 h2 hk
end Ow
/-! The line that counts, by the program and by the law. -/
namespace Ow
theorem deps_str : ∀ ws : List W, deps (ws.map D.str) = 0
  | [] => by simp [deps]
  | w :: ws => by rw [List.map_cons, deps, deps_str ws]; simp [dep]
theorem pl_path (p : List W) : Pl (pathT p) := ⟨noRefs_str p, by unfold pathT; rw [dep, deps_str]; decide⟩
theorem eqDs_str : ∀ p k : List W, eqDs (p.map D.str) (k.map D.str) = decide (p = k)
  | [], [] => by simp [eqDs]
  | [], _ :: _ => by simp [eqDs]
  | _ :: _, [] => by simp [eqDs]
  | a :: p, b :: k => by
    rw [List.map_cons, List.map_cons, eqDs]
    rw [eqDs_str p k, eqD_str, eqW_dec, Bool.eq_iff_iff]
    simp
theorem eqD_path (p k : List W) : eqD (pathT p) (pathT k) = decide (p = k) := by
  unfold pathT
  rw [eqD]
  exact eqDs_str p k
theorem cut_tail (xs : List D) : cutL xs (some 1) none = xs.drop 1 := by
  cases xs with
  | nil => rfl
  | cons x xs =>
    unfold cutL
    have h1 : cutIx (x :: xs).length 0 (some 1) = 1 := by
      unfold cutIx
      simp
    show ((x :: xs).drop (cutIx (x :: xs).length 0 (some 1))).take ((x :: xs).length - cutIx (x :: xs).length 0 (some 1)) = _
    rw [h1]
    simp
section
variable {gls : Nat → D} {Gam : Nat → Option FDef} {Q : D → Store → Prop} {st : Store}
theorem law_fits_ok (h14 : Gam 14 = some d14_l_fits) : ∀ {p ks : List W} {k : Nat} {Q : D → Store → Prop}, p.length ≤ k → p.length ≤ 1000 → Q (.bl (lawFits p ks)) st → wE (call gls Gam (k + 1) 14 [pathT p, pathT ks] st) Q
  | p, ks, k, Q, hk, hl, q => by
    refine w_call h14 rfl ?_
    unfold d14_l_fits
    have e0 : ∀ p : List W, cmpD .eq (pathT p) (.tup []) st = some (decide (p = [])) := fun p => by rw [show D.tup [] = pathT [] from rfl, eq_pl (pl_path p) (pl_path []), eqD_path]
    have e00 : ∀ p ks : List W, cmpD .eq (pathT p) (pathT ks) st = some (decide (p = ks)) := fun p ks => by rw [eq_pl (pl_path p) (pl_path ks), eqD_path]
    cases p with
    | nil =>
      simp [SZ, e0, e00]
      rw [show decide (ks = []) = lawFits [] ks from by unfold lawFits; cases ks <;> simp]
      exact q
    | cons a p =>
      cases ks with
      | nil => simp [SZ, e0, e00]; exact q
      | cons b ks =>
        simp [SZ, e0, e00]
        have g0 : ∀ (a : W) (p : List W), ixD (pathT (a :: p)) (.int 0) st = some (.str a) := fun a p => by unfold pathT; simp
        have g1 : ∀ (a : W) (p : List W) (Q : D → Store → Prop), wE (slD false (pathT (a :: p)) (some 1) none st) Q = Q (pathT p) st := fun a p Q => by
          show wE (some (.tup (cutL ((a :: p).map D.str) (some 1) none), st)) Q = _
          rw [cut_tail]
          rfl
        have e1 : noRefs [D.str [42], D.str b] = true := rfl
        have e2 : deps [D.str [42], D.str b] ≤ 60 := by simp [deps, dep]
        simp [g0, eqW_dec, cutBd, small, g1, in_tup (pl_str a) e1 e2, memD, eqD_str]
        rw [show lawFits (a :: p) (b :: ks) = (decide (a = star2) || (decide (a = [42] ∨ a = b) && lawFits p ks)) from rfl] at q
        split
        · rename_i h
          rw [show decide (a = star2) = true from by rw [decide_eq_true_iff]; exact h, Bool.true_or] at q
          exact q
        · rename_i h
          rw [show decide (a = star2) = false from by rw [decide_eq_false_iff_not]; exact h, Bool.false_or] at q
          split
          · rename_i h2
            rw [show decide (a = [42] ∨ a = b) = true from by rw [decide_eq_true_iff]; rcases h2 with h2 | h2; exact .inl h2.symm; exact .inr h2.symm, Bool.true_and] at q
            obtain ⟨k, rfl⟩ : ∃ j, k = j + 1 := ⟨k - 1, by simp at hk; omega⟩
            simp at hk hl
            exact law_fits_ok h14 (p := p) (ks := ks) (by omega) (by omega) (wH_keep rfl q)
          · rename_i h2
            rw [show decide (a = [42] ∨ a = b) = false from by rw [decide_eq_false_iff_not]; intro z; exact h2 (z.elim (fun z => .inl z.symm) (fun z => .inr z.symm)), Bool.false_and] at q
            rw [show (decide ([42] = a) || decide (b = a)) = false from by rw [Bool.eq_false_iff]; intro z; exact h2 (by simpa using z)]
            exact q
end
end Ow
/-! The line that counts: both readings. -/
namespace Ow
def lasF (f : Ln → Bool) : Nat → List Ln → Option Nat → Option Nat
  | _, [], o => o
  | i, l :: ls, o => lasF f (i + 1) ls (if f l = true then some i else o)
theorem lasF_congr {f g : Ln → Bool} : ∀ {ls : List Ln} {i : Nat} {o : Option Nat}, (∀ l ∈ ls, f l = g l) → lasF f i ls o = lasF g i ls o
  | [], _, _, _ => rfl
  | l :: ls, i, o, h => by
    rw [lasF, lasF, h l (List.mem_cons_self ..)]
    exact lasF_congr fun z hz => h z (List.mem_cons_of_mem _ hz)
def oD : Option Nat → D
  | none => .non
  | some i => .int i
def intD (n : Nat) : D := .int n
theorem noRefs_int : ∀ is : List Nat, noRefs (is.map intD) = true
  | [] => rfl
  | i :: is => by show (noRef (.int i) && noRefs (is.map intD)) = true; rw [noRefs_int is]; rfl
theorem deps_int : ∀ is : List Nat, deps (is.map intD) = 0
  | [] => by simp [deps]
  | i :: is => by rw [List.map_cons, deps, deps_int is]; simp [intD, dep]
theorem pl_nil : Pl (.lst []) := ⟨rfl, by simp [dep, deps]⟩
theorem pl_ints (is : List Nat) : Pl (.lst (is.map intD)) := ⟨noRefs_int is, by rw [dep, deps_int]; decide⟩
theorem ne_nil {is : List Nat} {s : Store} : cmpD .ne (.lst (is.map intD)) (.lst []) s = some (!is.isEmpty) := by
  rw [ne_pl (pl_ints is) pl_nil]
  cases is <;> simp [eqD, eqDs]
section
variable {gls : Nat → D} {Gam : Nat → Option FDef} {Q : D → Store → Prop} {st : Store}
def GrowF (f : Ln → Bool) (all : List Ln) (st : Store) (xs acc : List D) (s : Store) : Prop := ∃ (i : Nat) (rest : List Ln) (is : List Nat), xs = enumL i (rest.map lineT) ∧ s = st ∧ acc = is.map intD ∧ lasF f i rest is.getLast? = lasF f 0 all none ∧ is.length ≤ i ∧ i + rest.length = all.length ∧ ∀ l ∈ rest, l ∈ all
def GrowC (f : Ln → Bool) (b : Bk) (ks : List W) (st : Store) (xs : List D) (env : Envr) (s : Store) : Prop := ∃ (i : Nat) (rest : List Ln) (o : Option Nat) (x y : Option D), xs = enumL i (rest.map lineT) ∧ s = st ∧ env = [some (bookT b), some (pathT ks), some (oD o), x, y] ∧ lasF f i rest o = lasF f 0 b.lines none ∧ ∀ l ∈ rest, l ∈ b.lines
theorem line_of_ok {k : Nat} (h1 : Gam 1 = some d1_part_fits) (h2 : Gam 2 = some d2_fits) (h3 : Gam 3 = some d3_line_of) {b : Bk} {ks : List W} (hb : ∀ l ∈ b.lines, l.1 ≠ [] ∧ l.1.length ≤ 1000) (hl : b.lines.length ≤ 1000)
    (q : Q (oD (lasF (fun l => fitsB l.1 ks) 0 b.lines none)) st) : wE (call gls Gam (k + 3) 3 [bookT b, pathT ks] st) Q := by
  refine w_call h3 rfl ?_
  unfold d3_line_of
  have g1 : ixD (bookT b) (.int 1) st = some (.tup (b.lines.map lineT)) := by unfold bookT; simp
  simp [g1, rowOf]
  refine loop_inv (GrowF (fun l => fitsB l.1 ks) b.lines st) ⟨0, b.lines, [], rfl, rfl, rfl, rfl, by simp, by simp, fun l hl => hl⟩ ?_ ?_
  · rintro x xs acc s ⟨i, rest, is, hx, rfl, rfl, hq, hi, hn, hm⟩
    cases rest with
    | nil => cases hx
    | cons l rest =>
      cases hx
      have g0 : ∀ s, ixD (lineT l) (.int 0) s = some (pathT l.1) := fun s => by unfold lineT; simp
      simp [g0]
      have hb' := hb l (hm l (List.mem_cons_self ..))
      refine fits_ok h1 h2 hb'.1 hb'.2 ?_
      simp
      rw [lasF] at hq
      simp at hn
      split
      · rename_i h
        rw [if_pos h] at hq
        refine ⟨by show is.length < 16777216; omega, i + 1, rest, is ++ [i], rfl, rfl, by simp [intD], by simpa using hq, by simp; omega, by omega, fun z hz => hm z (List.mem_cons_of_mem _ hz)⟩
      · rename_i h
        rw [if_neg h] at hq
        exact ⟨i + 1, rest, is, rfl, rfl, rfl, hq, by omega, by omega, fun z hz => hm z (List.mem_cons_of_mem _ hz)⟩
  · rintro acc s ⟨i, rest, is, hx, rfl, rfl, hq, hi, hn, hm⟩
    cases rest with
    | cons l rest => cases hx
    | nil =>
      rw [lasF] at hq
      simp at hn
      have g : (is.map intD).getLast? = is.getLast?.map intD := by rw [List.getLast?_map]
      simp [SZ, ne_nil, -List.getLast?_map, g]
      refine ⟨by omega, ?_⟩
      rw [← hq] at q
      split
      · rename_i h
        subst h
        exact q
      · rename_i h
        cases hh : is.getLast? with
        | none => exact absurd (List.getLast?_eq_none_iff.mp hh) h
        | some j =>
          rw [hh] at q
          exact q
theorem law_counts_ok {k : Nat} (h14 : Gam 14 = some d14_l_fits) (h15 : Gam 15 = some d15_l_counts) {b : Bk} {ks : List W} (hb : ∀ l ∈ b.lines, l.1.length ≤ k ∧ l.1.length ≤ 1000)
    (q : Q (oD (lasF (fun l => lawFits l.1 ks) 0 b.lines none)) st) : wE (call gls Gam (k + 2) 15 [bookT b, pathT ks] st) Q := by
  refine w_call h15 rfl ?_
  unfold d15_l_counts
  have g1 : ixD (bookT b) (.int 1) st = some (.tup (b.lines.map lineT)) := by unfold bookT; simp
  simp [g1, rowOf]
  refine for_inv (GrowC (fun l => lawFits l.1 ks) b ks st) ⟨0, b.lines, none, none, none, rfl, rfl, rfl, rfl, fun l hl => hl⟩ ?_ ?_
  · rintro x xs env s ⟨i, rest, o, x1, y1, hx, rfl, rfl, hq, hm⟩
    cases rest with
    | nil => cases hx
    | cons l rest =>
      cases hx
      have g0 : ∀ s, ixD (lineT l) (.int 0) s = some (pathT l.1) := fun s => by unfold lineT; simp
      simp [g0]
      have hb' := hb l (hm l (List.mem_cons_self ..))
      refine law_fits_ok h14 hb'.1 hb'.2 ?_
      simp
      rw [lasF] at hq
      split
      · rename_i h
        rw [if_pos h] at hq
        exact ⟨i + 1, rest, some i, _, _, rfl, rfl, rfl, hq, fun z hz => hm z (List.mem_cons_of_mem _ hz)⟩
      · rename_i h
        rw [if_neg h] at hq
        exact ⟨i + 1, rest, o, _, _, rfl, rfl, rfl, hq, fun z hz => hm z (List.mem_cons_of_mem _ hz)⟩
  · rintro env s ⟨i, rest, o, x1, y1, hx, rfl, rfl, hq, hm⟩
    cases rest with
    | cons l rest => cases hx
    | nil =>
      rw [lasF] at hq
      rw [← hq] at q
      simp
      exact q
theorem like_ok {k : Nat} (h5 : Gam 5 = some d5_l_like) {o : Option Nat} (q : Q (.bl true) st) : wE (call gls Gam (k + 1) 5 [oD o, oD o] st) Q := by
  refine w_call h5 rfl ?_
  unfold d5_l_like
  cases o with
  | none => simp [oD, isTys, isTy, cmpD, eqS, valOf, noRef, dep, eqD]; exact q
  | some i => simp [oD, isTys, isTy, cmpD, eqS, valOf, noRef, dep, eqD]; exact q
end
theorem book_like {n : Nat} {b : Bk} (h : BookOk n b) {ks : List W} (hk : ks ≠ []) : lasF (fun l => fitsB l.1 ks) 0 b.lines none = lasF (fun l => lawFits l.1 ks) 0 b.lines none :=
  lasF_congr fun l hl => fits_law (h.2.2 l hl).1 hk
theorem PatOk.len {p : List W} (h : PatOk p) : p ≠ [] ∧ p.length ≤ 3 := by
  obtain ⟨init, last, rfl, h1, _, _⟩ := h
  exact ⟨by simp, by simp; omega⟩
end Ow
/-! What a path asks, who is enough, what can land: the program's defs. -/
namespace Ow
abbrev Ask := List W × Int
def needT (a : Ask) : D := .tup [pathT a.1, .int a.2]
def memb (ts : List Tm) (n : W) : List W := match ts.find? (fun t => decide (t.1 = n)) with
  | some t => t.2
  | none => []
/-- a pattern: ** at its end at most -/
def PatG (p : List W) : Prop := ∃ init last, p = init ++ [last] ∧ init.length ≤ 2 ∧ ∀ w ∈ init, w ≠ star2
theorem PatOk.g {p : List W} (h : PatOk p) : PatG p := by
  obtain ⟨init, last, e, hl, hi, _⟩ := h
  refine ⟨init, last, e, hl, fun w hw z => ?_⟩
  have := hi w hw
  rw [z] at this
  revert this
  decide
theorem PatG.len {p : List W} (h : PatG p) : p ≠ [] ∧ p.length ≤ 3 := by
  obtain ⟨init, last, rfl, h1, _⟩ := h
  exact ⟨by simp, by simp; omega⟩
/-- a book that is one -/
structure Bg (b : Bk) : Prop where
  nd : (b.teams.map (·.1)).Nodup
  tl : b.teams.length ≤ 4
  ml : ∀ t ∈ b.teams, t.2.length ≤ 5
  ll : b.lines.length ≤ 16
  pat : ∀ l ∈ b.lines, PatG l.1
  al : ∀ l ∈ b.lines, l.2.length ≤ 2
  ask : ∀ l ∈ b.lines, ∀ a ∈ l.2, a.1 ∈ b.teams.map (·.1)
theorem BookOk.g {n : Nat} {b : Bk} (h : BookOk n b) (hn : n ≤ 16) : Bg b := by
  obtain ⟨⟨⟨k, h1, h2, h3⟩, h4⟩, h5, h6⟩ := h
  have hl : b.teams.length ≤ 3 := by
    have := congrArg List.length h3
    simp at this
    omega
  refine ⟨?_, by omega, fun t ht => Nat.le_succ_of_le (h4 t ht).2.2.2.2, by omega, fun l hl => (h6 l hl).1.g, fun l hl => (h6 l hl).2.2.1, fun l hl a ha => ?_⟩
  · rw [h3]
    exact (List.take_sublist k teamsW).nodup (by decide)
  · exact (h6 l hl).2.1.subset (List.mem_map.mpr ⟨a, ha, rfl⟩)
def counts (b : Bk) (ks : List W) : Option Nat := lasF (fun l => fitsB l.1 ks) 0 b.lines none
def asksAt (b : Bk) : Option Nat → List (W × Int)
  | none => []
  | some i => match b.lines[i]? with
    | some l => l.2
    | none => []
def needs (b : Bk) (ks : List W) : List Ask := (asksAt b (counts b ks)).map fun a => (memb b.teams a.1, a.2)
def met1 (some : List W) (a : Ask) : Bool := decide (a.2 ≤ ((a.1.filter fun w => decide (w ∈ some)).length : Int))
def metB (as : List Ask) (some : List W) : Bool := as.all (met1 some)
def others (author : W) (some : List W) : List W := some.filter fun w => !decide (w = author)
def landB (b : Bk) (author : W) (ps : List (List W)) (some : List W) : Bool := ps.all fun p => metB (needs b p) (others author some)
theorem lasF_lt {f : Ln → Bool} : ∀ {ls : List Ln} {i : Nat} {o : Option Nat} {j : Nat}, (∀ k, o = some k → k < i) → lasF f i ls o = some j → j < i + ls.length
  | [], i, o, j, h, e => by rw [lasF] at e; have := h j e; simp; omega
  | l :: ls, i, o, j, h, e => by
    rw [lasF] at e
    have := lasF_lt (ls := ls) (i := i + 1) (j := j) (fun k hk => by
      split at hk
      · cases hk; omega
      · have := h k hk; omega) e
    rw [List.length_cons]
    omega
theorem counts_get {b : Bk} {ks : List W} {i : Nat} (h : counts b ks = some i) : ∃ l, b.lines[i]? = some l ∧ l ∈ b.lines := by
  have : i < 0 + b.lines.length := lasF_lt (fun k hk => by cases hk) h
  have hi : i < b.lines.length := by omega
  exact ⟨b.lines[i], List.getElem?_eq_getElem hi, List.getElem_mem hi⟩
/-! rows: a tuple or a list -/
def Row (xs : List D) (d : D) : Prop := d = .tup xs ∨ d = .lst xs
theorem Row.src {xs : List D} {d : D} (h : Row xs d) (s : Store) : srcOf s d = some (.st xs) := by rcases h with rfl | rfl <;> rfl
theorem Row.row {xs : List D} {d : D} (h : Row xs d) (s : Store) : rowOf s d = some xs := by rcases h with rfl | rfl <;> rfl
theorem memD_str (w : W) : ∀ ws : List W, memD (.str w) (ws.map .str) = decide (w ∈ ws)
  | [] => rfl
  | a :: ws => by
    rw [List.map_cons, memD, memD_str w ws, eqD_str, eqW_dec]
    by_cases h : a = w
    · rw [decide_eq_true h, show decide (w ∈ a :: ws) = true from decide_eq_true (by rw [h]; exact List.mem_cons_self ..)]
      rfl
    · rw [decide_eq_false h, Bool.false_or]
      refine decide_eq_decide.mpr ⟨List.mem_cons_of_mem _, fun z => ?_⟩
      rcases List.mem_cons.mp z with z | z
      · exact absurd z.symm h
      · exact z
theorem Row.in_ {ws : List W} {d : D} (h : Row (ws.map .str) d) (w : W) (s : Store) : cmpD .isin (.str w) d s = some (decide (w ∈ ws)) := by
  have e2 : deps (ws.map D.str) ≤ 60 := by rw [deps_str]; decide
  rcases h with rfl | rfl
  · rw [in_tup (pl_str w) (noRefs_str ws) e2, memD_str]
  · rw [in_lst (pl_str w) (noRefs_str ws) e2, memD_str]
theorem Row.notin {ws : List W} {d : D} (h : Row (ws.map .str) d) (w : W) (s : Store) : cmpD .notin (.str w) d s = some (!decide (w ∈ ws)) := by
  have e2 : deps (ws.map D.str) ≤ 60 := by rw [deps_str]; decide
  rcases h with rfl | rfl
  · rw [notin_tup (pl_str w) (noRefs_str ws) e2, memD_str]
  · rw [notin_lst (pl_str w) (noRefs_str ws) e2, memD_str]
theorem Row.pl {ws : List W} {d : D} (h : Row (ws.map .str) d) : Pl d := by
  rcases h with rfl | rfl
  · exact ⟨noRefs_str ws, by rw [dep, deps_str]; decide⟩
  · exact ⟨noRefs_str ws, by rw [dep, deps_str]; decide⟩
theorem loop_cons0 {f : D → List D → Store → Option (List D × Store)} {x : D} {xs acc : List D} {s : Store} {Q : List D → Store → Prop} : wL (loop (.st (x :: xs)) f acc s) Q = wL (f x acc s) fun a s => wL (loop (.st xs) f a s) Q := by
  show wL (loopL f (x :: xs) acc s) Q = _
  rw [loopL]
  cases f x acc s with
  | none => rfl
  | some p => rfl
/-! comprehensions, by what each turn does to whatever is wanted -/
theorem w_loopF {α : Type} (enc : α → D) (g : α → D) (b : α → Bool) {f : D → List D → Store → Option (List D × Store)} {s : Store} {QL : List D → Store → Prop} : ∀ {ys : List α} {acc : List D},
    (∀ y ∈ ys, ∀ acc Q, (b y = true → acc.length < SZ ∧ Q (acc ++ [g y]) s) → (b y = false → Q acc s) → wL (f (enc y) acc s) Q) → acc.length + (ys.filter b).length ≤ SZ → QL (acc ++ (ys.filter b).map g) s → wL (loop (.st (ys.map enc)) f acc s) QL
  | [], acc, _, _, q => by
    show QL acc s
    simpa using q
  | y :: ys, acc, h, hl, q => by
    rw [List.map_cons, loop_cons0]
    refine h y (List.mem_cons_self ..) acc _ (fun hb => ?_) (fun hb => ?_)
    · rw [List.filter_cons_of_pos hb, List.length_cons] at hl
      refine ⟨by omega, w_loopF enc g b (fun z hz => h z (List.mem_cons_of_mem _ hz)) (by rw [List.length_append]; show acc.length + 1 + _ ≤ SZ; omega) ?_⟩
      rw [List.filter_cons_of_pos hb, List.map_cons] at q
      rw [List.append_assoc]
      exact q
    · rw [List.filter_cons_of_neg (by rw [hb]; exact Bool.false_ne_true)] at q hl
      exact w_loopF enc g b (fun z hz => h z (List.mem_cons_of_mem _ hz)) hl q
theorem w_loopM {α : Type} (enc : α → D) (g : α → D) {f : D → List D → Store → Option (List D × Store)} {s : Store} {QL : List D → Store → Prop} {ys : List α} {acc : List D}
    (h : ∀ y ∈ ys, ∀ acc Q, acc.length < SZ ∧ Q (acc ++ [g y]) s → wL (f (enc y) acc s) Q) (hl : acc.length + ys.length ≤ SZ) (q : QL (acc ++ ys.map g) s) : wL (loop (.st (ys.map enc)) f acc s) QL := by
  have e : ys.filter (fun _ => true) = ys := List.filter_eq_self.mpr fun _ _ => rfl
  refine w_loopF enc g (fun _ => true) (fun y hy acc Q h1 _ => h y hy acc Q (h1 rfl)) (by rw [e]; exact hl) ?_
  rw [e]
  exact q
theorem w_loopX {α : Type} (enc : α → D) (g : α → List D) {f : D → List D → Store → Option (List D × Store)} {s : Store} {QL : List D → Store → Prop} : ∀ {ys : List α} {acc : List D},
    (∀ y ∈ ys, ∀ acc Q, acc.length + (g y).length ≤ SZ → Q (acc ++ g y) s → wL (f (enc y) acc s) Q) → acc.length + (ys.flatMap g).length ≤ SZ → QL (acc ++ ys.flatMap g) s → wL (loop (.st (ys.map enc)) f acc s) QL
  | [], acc, _, _, q => by
    show QL acc s
    simpa using q
  | y :: ys, acc, h, hl, q => by
    rw [List.flatMap_cons, List.length_append] at hl
    rw [List.map_cons, loop_cons0]
    refine h y (List.mem_cons_self ..) acc _ (by omega) ?_
    refine w_loopX enc g (fun z hz => h z (List.mem_cons_of_mem _ hz)) (by rw [List.length_append]; omega) ?_
    rw [List.append_assoc, ← List.flatMap_cons]
    exact q
/-- asks by the program: for each ask, the teams of its name -/
theorem pick_team {α : Type} (g : Tm → α) : ∀ {ts : List Tm} {n : W}, (ts.map (·.1)).Nodup → n ∈ ts.map (·.1) → ∃ t, ts.find? (fun t => decide (t.1 = n)) = some t ∧ (ts.filter fun t => decide (t.1 = n)).map g = [g t]
  | [], n, _, h => by cases h
  | t :: ts, n, nd, h => by
    rw [List.map_cons, List.nodup_cons] at nd
    by_cases e : t.1 = n
    · refine ⟨t, by rw [List.find?_cons_of_pos (by simpa using e)], ?_⟩
      rw [List.filter_cons_of_pos (by simpa using e)]
      have : ts.filter (fun t => decide (t.1 = n)) = [] := by
        rw [List.filter_eq_nil_iff]
        intro x hx z
        have z : x.1 = n := by simpa using z
        exact nd.1 (by rw [e, ← z]; exact List.mem_map.mpr ⟨x, hx, rfl⟩)
      rw [this]
      rfl
    · have h' : n ∈ ts.map (·.1) := by
        rcases List.mem_cons.mp h with z | z
        · exact absurd z.symm e
        · exact z
      obtain ⟨u, h1, h2⟩ := pick_team g nd.2 h'
      refine ⟨u, by rw [List.find?_cons_of_neg (by simpa using e)]; exact h1, ?_⟩
      rw [List.filter_cons_of_neg (by simpa using e)]
      exact h2
theorem bookT_0 (b : Bk) (s : Store) : ixD (bookT b) (.int 0) s = some (.tup (b.teams.map teamT)) := by unfold bookT; simp
theorem bookT_1 (b : Bk) (s : Store) : ixD (bookT b) (.int 1) s = some (.tup (b.lines.map lineT)) := by unfold bookT; simp
theorem lineT_0 (l : Ln) (s : Store) : ixD (lineT l) (.int 0) s = some (pathT l.1) := by unfold lineT; simp
theorem lineT_1 (l : Ln) (s : Store) : ixD (lineT l) (.int 1) s = some (.tup (l.2.map askT)) := by unfold lineT; simp
theorem line_at {ls : List Ln} {i : Nat} {l : Ln} (h : ls[i]? = some l) (s : Store) : ixD (.tup (ls.map lineT)) (.int i) s = some (lineT l) := by
  rw [ix_tupC, List.getElem?_map, h]
  rfl
section
variable {gls : Nat → D} {Gam : Nat → Option FDef} {Q : D → Store → Prop} {st : Store} {b : Bk} {ks : List W}
theorem asks_of_ok {k : Nat} (h1 : Gam 1 = some d1_part_fits) (h2 : Gam 2 = some d2_fits) (h3 : Gam 3 = some d3_line_of) (h40 : Gam 40 = some d40_asks_of) (hb : Bg b) (q : Q (.lst ((needs b ks).map needT)) st) :
    wE (call gls Gam (k + 4) 40 [bookT b, pathT ks] st) Q := by
  refine w_call h40 rfl ?_
  unfold d40_asks_of
  have hll := hb.ll
  simp
  refine line_of_ok h1 h2 h3 (fun l hl => ⟨(hb.pat l hl).len.1, by have := (hb.pat l hl).len.2; omega⟩) (by omega) ?_
  unfold needs at q
  change Q (.lst (((asksAt b (lasF (fun l => fitsB l.1 ks) 0 b.lines none)).map fun a => (memb b.teams a.1, a.2)).map needT)) st at q
  cases hc : lasF (fun l => fitsB l.1 ks) 0 b.lines none with
  | none =>
    rw [hc] at q
    simp [oD, isNon, SZ]
    exact q
  | some i =>
    obtain ⟨l, hl, hm⟩ := counts_get (b := b) (ks := ks) hc
    rw [hc] at q
    have hal := hb.al l hm
    simp only [asksAt, hl] at q
    simp [oD, isNon, bookT_1, line_at hl, lineT_1, srcOf]
    have hfl : l.2.flatMap (fun a => [needT (memb b.teams a.1, a.2)]) = (l.2.map fun a => (memb b.teams a.1, a.2)).map needT := by
      rw [List.map_map]
      induction l.2 with
      | nil => rfl
      | cons a as ih => rw [List.flatMap_cons, List.map_cons, ih]; rfl
    refine w_loopX askT (fun a => [needT (memb b.teams a.1, a.2)]) (fun a ha acc Q hacc q => ?_) ?_ ?_
    · simp [askT, bookT_0, srcOf]
      obtain ⟨t, ht1, ht2⟩ := pick_team (fun t => D.tup [pathT t.2, .int a.2]) hb.nd (hb.ask l hm a ha)
      have htl := hb.tl
      refine w_loopF teamT (fun t => D.tup [pathT t.2, .int a.2]) (fun t => decide (t.1 = a.1)) (fun t _ acc Q h1 h2 => ?_) ?_ ?_
      · simp [teamT, eqW_dec, SZ]
        split
        · rename_i h
          exact h1 (by simpa using h)
        · rename_i h
          exact h2 (by simpa using h)
      · have := congrArg List.length ht2
        rw [List.length_map] at this
        rw [this]
        exact hacc
      · rw [ht2]
        unfold needT memb at q
        rw [ht1] at q
        exact q
    · rw [hfl, List.length_map, List.length_map]
      simp [SZ]
      omega
    · rw [hfl]
      simp [SZ]
      exact ⟨by omega, by simpa using q⟩
end
end Ow
/-! enough, can_land; the law's own needs, met, good. -/
namespace Ow
section
variable {gls : Nat → D} {cal : Cal} {Gam : Nat → Option FDef} {Q : D → Store → Prop} {QL : List D → Store → Prop} {st : Store} {b : Bk} {ks : List W} {m : Bool}
theorem sz_le {n k : Nat} (h : n ≤ k) (hk : k ≤ 16777216) : n ≤ SZ := Nat.le_trans h hk
/-- the asks of a book are few, and small -/
def AsG (as : List Ask) : Prop := as.length ≤ 1000 ∧ ∀ a ∈ as, a.1.length ≤ 1000
theorem memb_len (hb : Bg b) (n : W) : (memb b.teams n).length ≤ 5 := by
  unfold memb
  split
  · rename_i t h
    exact hb.ml t (List.mem_of_find?_eq_some h)
  · simp
theorem needs_g (hb : Bg b) (ks : List W) : AsG (needs b ks) := by
  unfold needs
  refine ⟨?_, fun a ha => ?_⟩
  · rw [List.length_map]
    unfold asksAt
    split
    · simp
    · split
      · rename_i l h
        have := hb.al l (List.mem_of_getElem? h)
        omega
      · simp
  · obtain ⟨x, _, rfl⟩ := List.mem_map.mp ha
    have := memb_len hb x.1
    dsimp only
    omega
theorem needs_len (hb : Bg b) (ks : List W) : (needs b ks).length ≤ 2 := by
  unfold needs
  rw [List.length_map]
  unfold asksAt
  split
  · simp
  · split
    · rename_i l h
      exact hb.al l (List.mem_of_getElem? h)
    · simp
theorem enough_ok {k : Nat} (h41 : Gam 41 = some d41_enough) {as : List Ask} (ha : AsG as) {ws : List W} {d : D} (hr : Row (ws.map .str) d) (q : Q (.bl (metB as ws)) st) : wE (call gls Gam (k + 1) 41 [.lst (as.map needT), d] st) Q := by
  refine w_call h41 rfl ?_
  unfold d41_enough
  obtain ⟨hl, hm⟩ := ha
  simp [srcOf]
  refine w_loopM needT (fun a => .bl (met1 ws a)) (fun a ha acc Q h => ?_) ?_ ?_
  · have hml := hm a ha
    simp [needT, pathT, srcOf]
    refine w_loopF D.str D.str (fun w => decide (w ∈ ws)) (fun w _ acc Q h1 h2 => ?_) ?_ ?_
    · simp [hr.in_]
      split
      · rename_i h
        exact h1 (by simpa using h)
      · rename_i h
        exact h2 (by simpa using h)
    · have := List.length_filter_le (fun w => decide (w ∈ ws)) a.1
      exact sz_le (k := 1000) (by simp; omega) (by decide)
    · have := List.length_filter_le (fun w => decide (w ∈ ws)) a.1
      simp [SZ]
      refine ⟨by omega, ?_⟩
      unfold met1 at h
      exact h
  · exact sz_le (k := 1000) (by simpa using hl) (by decide)
  · have e : as.map (fun a => D.bl (met1 ws a)) = (as.map (met1 ws)).map D.bl := by rw [List.map_map]; rfl
    simp only [List.nil_append, e, mkL_fr, all_bls]
    refine ⟨sz_le (k := 1000) (by simpa using hl) (by decide), ?_⟩
    show wE (some (D.bl ((as.map (met1 ws)).all id), st)) _
    rw [List.all_map]
    exact wH_keep rfl q
theorem can_land_ok {k : Nat} (h1 : Gam 1 = some d1_part_fits) (h2 : Gam 2 = some d2_fits) (h3 : Gam 3 = some d3_line_of) (h40 : Gam 40 = some d40_asks_of) (h41 : Gam 41 = some d41_enough) (h42 : Gam 42 = some d42_can_land) (hb : Bg b)
    {author : W} {ps : List (List W)} {ws : List W} {dp d : D} (hp : Row (ps.map pathT) dp) (hr : Row (ws.map .str) d) (lp : ps.length ≤ 100000) (lw : ws.length ≤ 100000) (q : Q (.bl (landB b author ps ws)) st) :
    wE (call gls Gam (k + 5) 42 [bookT b, .str author, dp, d] st) Q := by
  refine w_call h42 rfl ?_
  unfold d42_can_land
  simp [hr.src]
  refine w_loopF D.str D.str (fun w => !decide (w = author)) (fun w _ acc Q h1 h2 => ?_) ?_ ?_
  · simp [eqW_dec]
    split
    · rename_i h
      exact h2 (by simpa using h)
    · rename_i h
      exact h1 (by simpa using h)
  · have := List.length_filter_le (fun w => !decide (w = author)) ws
    exact sz_le (k := 100000) (by simp; omega) (by decide)
  · have hf := List.length_filter_le (fun w => !decide (w = author)) ws
    simp only [List.nil_append, mkL_fr]
    refine ⟨sz_le (k := 100000) (by simp; omega) (by decide), ?_⟩
    simp [hp.src]
    refine w_loopM pathT (fun p => .bl (metB (needs b p) (others author ws))) (fun p _ acc Q h => ?_) ?_ ?_
    · simp
      refine asks_of_ok (k := k) h1 h2 h3 h40 hb ?_
      exact enough_ok (k := k + 3) h41 (needs_g hb p) (.inr rfl) h
    · exact sz_le (k := 100000) (by simpa using lp) (by decide)
    · have e : ps.map (fun p => D.bl (metB (needs b p) (others author ws))) = (ps.map fun p => metB (needs b p) (others author ws)).map D.bl := by rw [List.map_map]; rfl
      simp only [List.nil_append, e, mkL_fr, all_bls]
      refine ⟨sz_le (k := 100000) (by simpa using lp) (by decide), ?_⟩
      show wE (some (D.bl ((ps.map fun p => metB (needs b p) (others author ws)).all id), st)) _
      rw [List.all_map]
      exact wH_keep rfl q
/-! the law's own -/
theorem find_assoc : ∀ {ts : List Tm} {n : W}, n ∈ ts.map (·.1) → lookD (.str n) (ts.map fun t => (D.str t.1, pathT t.2)) = some (pathT (memb ts n))
  | [], n, h => by cases h
  | t :: ts, n, h => by
    rw [List.map_cons, lookD]
    show (if eqW t.1 n = true then _ else _) = _
    rw [eqW_dec]
    unfold memb
    by_cases e : t.1 = n
    · rw [if_pos (by simpa using e), List.find?_cons_of_pos (by simpa using e)]
    · rw [if_neg (by simpa using e), List.find?_cons_of_neg (by simpa using e)]
      rcases List.mem_cons.mp h with z | z
      · exact absurd z.symm e
      · exact find_assoc z
theorem putD_new {k v : D} : ∀ {kvs : List (D × D)}, (∀ p ∈ kvs, eqD p.1 k = false) → putD k v kvs = kvs ++ [(k, v)]
  | [], _ => rfl
  | p :: kvs, h => by
    rw [putD, h p (List.mem_cons_self ..), if_neg Bool.false_ne_true, putD_new fun q hq => h q (List.mem_cons_of_mem _ hq)]
    rfl
theorem pairs_teams : ∀ {ts : List Tm} {acc : List Tm}, ((acc ++ ts).map (·.1)).Nodup → pairsD (ts.map teamT) (acc.map fun t => (D.str t.1, pathT t.2)) = some ((acc ++ ts).map fun t => (D.str t.1, pathT t.2))
  | [], acc, _ => by rw [List.append_nil]; rfl
  | t :: ts, acc, h => by
    rw [List.map_cons]
    show (if noRefs (t.2.map D.str) = true then pairsD (ts.map teamT) (putD (.str t.1) (.tup (t.2.map D.str)) (acc.map fun t => (D.str t.1, pathT t.2))) else none) = _
    rw [if_pos (noRefs_str t.2), putD_new]
    · have := pairs_teams (ts := ts) (acc := acc ++ [t]) (by rw [List.append_assoc]; exact h)
      rw [List.append_assoc, List.map_append] at this
      exact this
    · intro p hp
      obtain ⟨u, hu, rfl⟩ := List.mem_map.mp hp
      show eqW u.1 t.1 = false
      rw [eqW_dec, decide_eq_false_iff_not]
      intro e
      rw [List.map_append, List.map_cons] at h
      exact (List.nodup_append.mp h).2.2 _ (List.mem_map.mpr ⟨u, hu, rfl⟩) _ (List.mem_cons_self ..) e
theorem get_team {ts : List Tm} {n : W} {kvs : List (D × D)} (e : kvs = ts.map fun t => (D.str t.1, pathT t.2)) (h : n ∈ ts.map (·.1)) {s : Store} {j : Nat} (hs : s[j]? = some (.dct kvs)) : ixD (.ref j) (.str n) s = some (pathT (memb ts n)) := by
  have h0 : dctOf s (.ref j) = some kvs := by show (match s[j]? with | some (.dct kvs) => some kvs | _ => none) = _; rw [hs]
  have hk : dkOk kvs (.str n) = true := by
    show kvs.all (fun p => isStr p.1) = true
    rw [e, List.all_map]
    exact List.all_eq_true.mpr fun _ _ => rfl
  unfold ixD getDk
  rw [h0]
  dsimp only
  rw [if_pos hk, e, find_assoc h]
end
end Ow
/-! The law's own needs, met, good; pushes; people. -/
namespace Ow
/-- the law's reading goes with fitsB for all good patterns -/
theorem zip_lawG : ∀ (init : List W) (last : W) (k : List W), (∀ w ∈ init, w ≠ star2) → k ≠ [] → fitsB (init ++ [last]) k = lawFits (init ++ [last]) k
  | [], last, k, _, hk => by
    obtain ⟨b, k, rfl⟩ : ∃ b t, k = b :: t := by cases k with | nil => exact absurd rfl hk | cons b t => exact ⟨b, t, rfl⟩
    have e : zipAll ([] ++ [last]) (b :: k) = pfit last b := by show (pfit last b && zipAll [] k) = _; cases k <;> simp [zipAll]
    unfold fitsB
    rw [e]
    show _ = (decide (last = star2) || (decide (last = [42] ∨ last = b) && decide (k = [])))
    by_cases h : last = star2
    · subst h
      simp [pfit]
    · have h' : ¬ (([] ++ [last] : List W).getLast? = some star2) := by simpa using h
      rw [if_neg h']
      unfold pfit
      cases k with
      | nil => simp [h]
      | cons c k => simp [h]
  | a :: init, last, k, hi, hk => by
    obtain ⟨b, k, rfl⟩ : ∃ b t, k = b :: t := by cases k with | nil => exact absurd rfl hk | cons b t => exact ⟨b, t, rfl⟩
    have h2 : a ≠ star2 := hi a (List.mem_cons_self ..)
    have e1 : (a :: init ++ [last]).getLast? = (init ++ [last]).getLast? := by
      show ((a :: init) ++ [last]).getLast? = _
      rw [List.getLast?_concat, List.getLast?_concat]
    have e2 : zipAll (a :: init ++ [last]) (b :: k) = (decide (a = [42] ∨ a = b) && zipAll (init ++ [last]) k) := by
      show (pfit a b && zipAll (init ++ [last]) k) = _
      unfold pfit
      simp [h2]
    show _ = (decide (a = star2) || (decide (a = [42] ∨ a = b) && lawFits (init ++ [last]) k))
    rw [decide_eq_false h2, Bool.false_or]
    by_cases hk2 : k = []
    · subst hk2
      have l0 : lawFits (init ++ [last]) [] = false := by cases init <;> rfl
      rw [l0, Bool.and_false]
      unfold fitsB
      split
      · rw [decide_eq_false (by simp), Bool.false_and]
      · rw [decide_eq_false (by simp), Bool.false_and]
    · have ih := zip_lawG init last k (fun w hw => hi w (List.mem_cons_of_mem _ hw)) hk2
      rw [← ih]
      unfold fitsB
      rw [e1, e2]
      split
      · rw [show decide ((a :: init ++ [last]).length ≤ (b :: k).length) = decide ((init ++ [last]).length ≤ k.length) from by simp]
        rw [Bool.and_left_comm]
      · rw [show decide ((b :: k).length = (a :: init ++ [last]).length) = decide (k.length = (init ++ [last]).length) from by simp]
        rw [Bool.and_left_comm]
theorem fits_lawG {p k : List W} (hp : PatG p) (hk : k ≠ []) : fitsB p k = lawFits p k := by
  obtain ⟨init, last, rfl, _, h1⟩ := hp
  exact zip_lawG init last k h1 hk
theorem counts_law {b : Bk} (hb : Bg b) {ks : List W} (hk : ks ≠ []) : lasF (fun l => lawFits l.1 ks) 0 b.lines none = counts b ks :=
  lasF_congr fun l hl => (fits_lawG (hb.pat l hl) hk).symm
section
variable {gls : Nat → D} {cal : Cal} {Gam : Nat → Option FDef} {Q : D → Store → Prop} {st : Store} {b : Bk} {ks : List W}
theorem wH_dropN {d : D} (h : noRef d = true) {l : Store} {n : Nat} (hn : st.length = n) (q : Q d st) : wH n d (st ++ l) Q := by
  subst hn
  unfold wH handBack
  split
  · rename_i hl
    have : l = [] := by
      rw [List.length_append] at hl
      exact List.eq_nil_of_length_eq_zero (by omega)
    subst this
    rw [List.append_nil]
    exact q
  · rw [List.take_left' rfl]
    exact q
theorem noRefs_need : ∀ as : List Ask, noRefs (as.map needT) = true
  | [] => rfl
  | a :: as => by
    show (noRefs [pathT a.1, .int a.2] && noRefs (as.map needT)) = true
    rw [noRefs_need as]
    show ((noRefs (a.1.map D.str) && true) && true) = true
    rw [noRefs_str]
    rfl
theorem law_needs_ok {k : Nat} (h14 : Gam 14 = some d14_l_fits) (h15 : Gam 15 = some d15_l_counts) (h44 : Gam 44 = some d44_l_needs) (hb : Bg b) (hks : ks ≠ []) (q : Q (.lst ((needs b ks).map needT)) st) :
    wE (call gls Gam (k + 6) 44 [bookT b, pathT ks] st) Q := by
  refine w_call h44 rfl ?_
  unfold d44_l_needs
  have hll := hb.ll
  simp
  refine law_counts_ok (k := k + 3) h14 h15 (fun l hl => by have := (hb.pat l hl).len.2; omega) ?_
  rw [counts_law hb hks]
  unfold needs at q
  cases hc : counts b ks with
  | none =>
    rw [hc] at q
    simp [oD, isNon, SZ]
    exact q
  | some i =>
    obtain ⟨l, hl, hm⟩ := counts_get hc
    rw [hc] at q
    have hal := hb.al l hm
    have htl := hb.tl
    simp only [asksAt, hl] at q
    have hpd := pairs_teams (ts := b.teams) (acc := []) hb.nd
    simp at hpd
    have hpd' : pairsD (b.teams.map teamT) [] = some (b.teams.map fun t => (D.str t.1, pathT t.2)) := hpd
    simp [oD, isNon, bookT_0, bookT_1, line_at hl, lineT_1, srcOf, hpd']
    refine ⟨sz_le (k := 4) htl (by decide), ?_⟩
    refine w_loopM askT (fun a => needT (memb b.teams a.1, a.2)) (fun a ha acc Q h => ?_) ?_ ?_
    · simp [askT, get_team (kvs := b.teams.map fun t => (D.str t.1, pathT t.2)) rfl (hb.ask l hm a ha) (s := st ++ [Cell.dct (b.teams.map fun t => (D.str t.1, pathT t.2))]) (j := st.length) (by simp), SZ]
      exact h
    · exact sz_le (k := 2) (by simpa using hal) (by decide)
    · simp [SZ]
      refine ⟨by omega, ?_⟩
      rw [List.map_map] at q
      refine wH_dropN (noRefs_need (l.2.map fun a => (memb b.teams a.1, a.2)) |> fun h => by rw [List.map_map] at h; exact h) rfl ?_
      exact q
def MetI (as : List Ask) (ws : List W) (d : D) (st : Store) (xs : List D) (env : Envr) (s : Store) : Prop := ∃ (rest : List Ask) (o2 o3 o4 : Option D), xs = rest.map needT ∧ s = st ∧ env = [some (.lst (as.map needT)), some d, o2, o3, o4] ∧ metB as ws = metB rest ws ∧ ∀ a ∈ rest, a ∈ as
theorem law_met_ok {k : Nat} (h45 : Gam 45 = some d45_l_met) {as : List Ask} (ha : AsG as) {ws : List W} {d : D} (hr : Row (ws.map .str) d) (q : Q (.bl (metB as ws)) st) : wE (call gls Gam (k + 1) 45 [.lst (as.map needT), d] st) Q := by
  refine w_call h45 rfl ?_
  unfold d45_l_met
  obtain ⟨hl, hm⟩ := ha
  simp [srcOf]
  refine for_inv (MetI as ws d st) ⟨as, none, none, none, rfl, rfl, rfl, rfl, fun a h => h⟩ ?_ ?_
  · rintro x xs env s ⟨rest, o2, o3, o4, hx, rfl, rfl, hq, hsub⟩
    cases rest with
    | nil => cases hx
    | cons a rest =>
      cases hx
      have hml := hm a (hsub a (List.mem_cons_self ..))
      simp [needT, pathT, srcOf]
      refine w_loopF D.str D.str (fun w => decide (w ∈ ws)) (fun w _ acc Q h1 h2 => ?_) ?_ ?_
      · simp [hr.in_]
        split
        · rename_i h
          exact h1 (by simpa using h)
        · rename_i h
          exact h2 (by simpa using h)
      · have := List.length_filter_le (fun w => decide (w ∈ ws)) a.1
        exact sz_le (k := 1000) (by simp; omega) (by decide)
      · have hf := List.length_filter_le (fun w => decide (w ∈ ws)) a.1
        simp [SZ]
        refine ⟨by omega, ?_⟩
        have hcons : metB (a :: rest) ws = (met1 ws a && metB rest ws) := rfl
        split
        · rename_i h
          have : met1 ws a = false := by unfold met1; rw [decide_eq_false_iff_not]; omega
          rw [hq, hcons, this, Bool.false_and] at q
          exact q
        · rename_i h
          have : met1 ws a = true := by unfold met1; rw [decide_eq_true_iff]; omega
          exact ⟨rest, _, _, _, rfl, rfl, rfl, by rw [hq, hcons, this, Bool.true_and], fun z hz => hsub z (List.mem_cons_of_mem _ hz)⟩
  · rintro env s ⟨rest, o2, o3, o4, hx, rfl, rfl, hq, hsub⟩
    have hr0 : rest = [] := by cases rest with | nil => rfl | cons _ _ => cases hx
    subst hr0
    simp
    rw [hq] at q
    exact q
theorem eq_nil_paths {ps : List (List W)} : cmpD .eq (.lst (ps.map pathT)) (.lst []) st = some (decide (ps = [])) := by
  have h : ∀ ps : List (List W), noRefs (ps.map pathT) = true ∧ deps (ps.map pathT) ≤ 1 := by
    intro ps
    induction ps with
    | nil => exact ⟨rfl, by simp [deps]⟩
    | cons p ps ih =>
      refine ⟨?_, ?_⟩
      · show (noRefs (p.map D.str) && noRefs (ps.map pathT)) = true
        rw [noRefs_str, ih.1]
        rfl
      · rw [List.map_cons, deps]
        have : dep (pathT p) = 1 := by unfold pathT; rw [dep, deps_str]
        rw [this]
        have := ih.2
        omega
  rw [eq_pl (show Pl (.lst (ps.map pathT)) from ⟨(h ps).1, by rw [dep]; have := (h ps).2; omega⟩) pl_nil]
  cases ps <;> simp [eqD, eqDs]
theorem law_good_ok {k : Nat} (h14 : Gam 14 = some d14_l_fits) (h15 : Gam 15 = some d15_l_counts) (h44 : Gam 44 = some d44_l_needs) (h45 : Gam 45 = some d45_l_met) (h46 : Gam 46 = some d46_l_good) (hb : Bg b)
    {author : W} {ps : List (List W)} {ws : List W} {dp d : D} (hp : Row (ps.map pathT) dp) (hne : ∀ p ∈ ps, p ≠ []) (hr : Row (ws.map .str) d) (lp : ps.length ≤ 100000) (lw : ws.length ≤ 100000) (q : Q (.bl (landB b author ps ws)) st) :
    wE (call gls Gam (k + 7) 46 [bookT b, .str author, dp, d] st) Q := by
  refine w_call h46 rfl ?_
  unfold d46_l_good
  simp [hr.src]
  refine w_loopF D.str D.str (fun w => !decide (w = author)) (fun w _ acc Q h1 h2 => ?_) ?_ ?_
  · simp [eqW_dec]
    split
    · rename_i h
      exact h2 (by simpa using h)
    · rename_i h
      exact h1 (by simpa using h)
  · have := List.length_filter_le (fun w => !decide (w = author)) ws
    exact sz_le (k := 100000) (by simp; omega) (by decide)
  · have hf := List.length_filter_le (fun w => !decide (w = author)) ws
    simp only [List.nil_append, mkL_fr]
    refine ⟨sz_le (k := 100000) (by simp; omega) (by decide), ?_⟩
    simp [hp.src]
    refine w_loopF pathT pathT (fun p => !metB (needs b p) (others author ws)) (fun p hpm acc Q h1 h2 => ?_) ?_ ?_
    · simp
      refine law_needs_ok (k := k) h14 h15 h44 hb (hne p hpm) ?_
      refine law_met_ok (k := k + 5) h45 (needs_g hb p) (.inr rfl) ?_
      have e : metB (needs b p) (others author ws) = metB (needs b p) (ws.filter fun w => !decide (w = author)) := rfl
      simp
      split
      · rename_i h
        exact h2 (by rw [e]; simpa using h)
      · rename_i h
        exact h1 (by rw [e]; simpa using h)
    · have := List.length_filter_le (fun p => !metB (needs b p) (others author ws)) ps
      exact sz_le (k := 100000) (by simp; omega) (by decide)
    · have hl2 := List.length_filter_le (fun p => !metB (needs b p) (others author ws)) ps
      simp only [List.nil_append, mkL_fr]
      refine ⟨sz_le (k := 100000) (by simp; omega) (by decide), ?_⟩
      simp [SZ, eq_nil_paths]
      have e : landB b author ps ws = decide (ps.filter (fun p => !metB (needs b p) (others author ws)) = []) := by
        unfold landB
        rw [Bool.eq_iff_iff, decide_eq_true_iff, List.filter_eq_nil_iff, List.all_eq_true]
        simp
      rw [e] at q
      simpa using q
end
end Ow
/-! All short paths over the words of some books. -/
namespace Ow
theorem ssW_len (ws : List W) : (ssW ws).length ≤ ws.length := by
  have h3 : (kdW.sset ws).length = (kdW.ddp ws).length := (kdW.srt_perm _).length_eq
  exact Nat.le_trans (Nat.le_of_eq h3) (kdW.ddp_len ws)
def linesN : List Bk → Nat
  | [] => 0
  | b :: bs => b.lines.length + linesN bs
def pw : Nat → Nat
  | 0 => 1
  | n + 1 => 50 * pw n
theorem pw_s (n : Nat) : pw (n + 1) = 50 * pw n := rfl
theorem pw_0 : pw 0 = 1 := rfl
theorem pw_le {i : Nat} (h : i ≤ 4) : pw i ≤ 6250000 := by
  match i, h with
  | 0, _ | 1, _ | 2, _ | 3, _ | 4, _ => simp [pw]
  | n + 5, h => omega
def nStar (w : W) : Bool := !decide (w = [42] ∨ w = star2)
section
variable {gls : Nat → D} {cal : Cal} {env : Envr} {Q : D → Store → Prop} {st : Store}
theorem w_sset_str {i : Nat} {ws : List W} (h : env[i]? = some (some (.lst (ws.map .str)))) (hl : ws.length < 4095) (q : Q (.lst ((ssW ws).map .str)) st) : wE (ev gls cal (.sset false (.var i)) env st) Q := by
  rw [w_ssetx, w_var, h]
  show (match lstOf st (.lst (ws.map .str)) with
    | some xs => match sortedSet xs with
      | some ys => wE (mkL false ys st) Q
      | none => False
    | none => False)
  rw [show lstOf st (.lst (ws.map .str)) = some (ws.map .str) from rfl]
  dsimp only
  rw [sset_str hl]
  dsimp only
  rw [mkL_fr]
  have := ssW_len ws
  exact ⟨by rw [List.length_map]; unfold SZ; omega, q⟩
end
section
variable {gls : Nat → D} {Gam : Nat → Option FDef} {Q : D → Store → Prop} {st : Store}
/-- the words so far, while books are read -/
def GrowW (x : D) (m : Int) (st : Store) (xs : List D) (env : Envr) (s : Store) : Prop := ∃ (ws : List W) (bs : List Bk) (o3 o9 o10 : Option D), xs = bs.map bookT ∧ s = st ∧ env = [some x, some (.int m), some (.lst (ws.map .str)), o3, none, none, none, none, none, o9, o10, none, none] ∧
  ws.length + 3 * linesN bs ≤ 50 ∧ (∀ b ∈ bs, ∀ l ∈ b.lines, l.1.length ≤ 3) ∧ 2 ≤ ws.length
def GrowV (x : D) (m : Int) (o3 : Option D) (n : Nat) (st : Store) (xs : List D) (env : Envr) (s : Store) : Prop := ∃ (ws : List W) (ls : List Ln) (o9 o10 : Option D), xs = ls.map lineT ∧ s = st ∧ env = [some x, some (.int m), some (.lst (ws.map .str)), o3, none, none, none, none, none, o9, o10, none, none] ∧
  ws.length + 3 * ls.length ≤ n ∧ (∀ l ∈ ls, l.1.length ≤ 3) ∧ 2 ≤ ws.length
def pathsD (ps : List (List W)) : D := .lst (ps.map pathT)
/-- the paths of each length -/
def GrowT2 (x : D) (m : Int) (ws : List W) (o3 o9 o10 : Option D) (st : Store) (xs : List D) (env : Envr) (s : Store) : Prop := ∃ (i : Nat) (fs ls : List (List W)) (o4 o7 o8 : Option D), i + xs.length = m.toNat ∧ s = st ∧ env = [some x, some (.int m), some (.lst (ws.map .str)), o3, o4, some (pathsD fs), some (pathsD ls), o7, o8, o9, o10, none, none] ∧
  fs.length ≤ 2 * pw i ∧ ls.length ≤ pw i ∧ (∀ p ∈ ls, p.length = i) ∧ (∀ p ∈ fs, p ≠ [] ∧ p.length ≤ i)
def GrowL (x : D) (m : Int) (ws : List W) (o3 o4 o9 o10 : Option D) (i : Nat) (f5 f6 : D) (st : Store) (xs : List D) (env : Envr) (s : Store) : Prop := ∃ (rs ls : List (List W)) (o8 : Option D), xs = ls.map pathT ∧ s = st ∧ env = [some x, some (.int m), some (.lst (ws.map .str)), o3, o4, some f5, some f6, some (pathsD rs), o8, o9, o10, none, none] ∧
  rs.length + 50 * ls.length ≤ pw (i + 1) ∧ (∀ p ∈ ls, p.length = i) ∧ (∀ p ∈ rs, p.length = i + 1)
theorem paths_ok {k : Nat} (h16 : Gam 16 = some d16_l_paths) {bs : List Bk} {m : Int} (hm0 : 0 ≤ m) (hm : m ≤ 4) (hB : linesN bs ≤ 16) (hp : ∀ b ∈ bs, ∀ l ∈ b.lines, l.1.length ≤ 3)
    (q : ∀ fs, (∀ p ∈ fs, p ≠ [] ∧ p.length ≤ m.toNat) → fs.length ≤ 2 * pw m.toNat → Q (pathsD fs) st) : wE (call gls Gam (k + 1) 16 [.tup (bs.map bookT), .int m] st) Q := by
  refine w_call h16 rfl ?_
  unfold d16_l_paths
  simp [srcOf, SZ, -w_ssetx]
  refine for_inv (GrowW (.tup (bs.map bookT)) m st) ⟨[[97], [97, 97]], bs, none, none, none, rfl, rfl, rfl, by simp; omega, hp, by decide⟩ ?_ ?_
  · rintro x xs env s ⟨ws, bs', o3, o9, o10, hx, rfl, rfl, hw, hb, h2⟩
    cases bs' with
    | nil => cases hx
    | cons b bs' =>
      cases hx
      have g1 : ∀ s, ixD (bookT b) (.int 1) s = some (.tup (b.lines.map lineT)) := fun s => by unfold bookT; simp
      simp [g1, srcOf]
      rw [linesN] at hw
      refine for_inv (GrowV (.tup (bs.map bookT)) m (some (bookT b)) (50 - 3 * linesN bs') s) ⟨ws, b.lines, o9, o10, rfl, rfl, rfl, by omega, hb b (List.mem_cons_self ..), h2⟩ ?_ ?_
      · rintro x xs env s ⟨ws, ls, o9, o10, hx, rfl, rfl, hw, hl, h2⟩
        cases ls with
        | nil => cases hx
        | cons l ls =>
          cases hx
          have h3 := hl l (List.mem_cons_self ..)
          have hloop : loop (.st (l.1.map D.str)) (lastT gls (call gls Gam k) (.var 11) (.nm 11) (.some (.cmp .notin (.var 11) (.tup (.cons false (.cst (.str [42])) (.cons false (.cst (.str [42,42])) .nil)))))
              [some (.tup (List.map bookT bs)), some (.int m), some (.lst (ws.map .str)), some (bookT b), none, none, none, none, none, some (pathT l.1), some (.tup (l.2.map askT)), none, none]) [] s = some ((l.1.filter nStar).map .str, s) := by
            have e1 : noRefs [D.str [42], D.str [42, 42]] = true := rfl
            have e2 : deps [D.str [42], D.str [42, 42]] ≤ 60 := by simp [deps, dep]
            refine (loop_filter D.str D.str nStar (fun y _ acc ha => wL_eq ?_) ?_).trans ?_
            · simp [SZ, notin_tup (pl_str y) e1 e2, memD, eqD_str, eqW_dec]
              unfold nStar
              by_cases h : y = [42] ∨ y = star2
              · rw [if_neg (by intro z; rcases h with h | h; exact z.1 h.symm; exact z.2 h.symm)]
                simp [h]
              · rw [if_pos ⟨fun z => h (.inl z.symm), fun z => h (.inr z.symm)⟩]
                simp [h]
                exact ha
            · simp [SZ]; omega
            · rfl
          have hf : (l.1.filter nStar).length ≤ l.1.length := List.length_filter_le ..
          simp [lineT, pathT, srcOf]
          refine wL_of hloop ?_
          simp [SZ]
          simp at hw
          refine ⟨by omega, by omega, ws ++ l.1.filter nStar, ls, _, _, rfl, rfl, by simp; exact ⟨rfl, rfl⟩, by simp; omega, fun z hz => hl z (List.mem_cons_of_mem _ hz), by simp; omega⟩
      · rintro env s ⟨ws, ls, o9, o10, hx, rfl, rfl, hw, hl, h2⟩
        cases ls with
        | cons l ls => cases hx
        | nil =>
          refine ⟨ws, bs', _, _, _, rfl, rfl, rfl, by simp at hw; omega, fun b hb' => hb b (List.mem_cons_of_mem _ hb'), h2⟩
  · rintro env s ⟨ws, bs', o3, o9, o10, hx, rfl, rfl, hw, hb, h2⟩
    have hs : lstOf s (.lst (ws.map D.str)) = some (ws.map D.str) := rfl
    have hn := ssW_len ws
    refine w_sset_str (ws := ws) ?_ (by omega) ?_
    · rfl
    simp
    rw [rng_in (by omega) (by omega)]
    refine for_inv (GrowT2 (.tup (bs.map bookT)) m (ssW ws) o3 o9 o10 s) ⟨0, [], [[]], none, none, none, by simp [rngL_len'], rfl, rfl, by simp, by rw [pw_0]; simp, by simp, by simp⟩ ?_ ?_
    · rintro x xs env s ⟨i, fs, ls, o4, o7, o8, hx, rfl, rfl, hf, hl, hil, hif⟩
      simp at hx
      have hp1 := pw_le (i := i + 1) (by omega)
      have hp2 : pw (i + 1) = 50 * pw i := pw_s i
      simp [SZ, pathsD, srcOf]
      refine for_inv (GrowL (.tup (bs.map bookT)) m (ssW ws) o3 (some x) o9 o10 i (pathsD fs) (pathsD ls) s) ⟨[], ls, o8, rfl, rfl, rfl, by simp; omega, hil, by simp⟩ ?_ ?_
      · rintro x2 xs2 env s ⟨rs, ls2, o8, hx2, rfl, rfl, hr, hi2, hi3⟩
        cases ls2 with
        | nil => cases hx2
        | cons p ls2 =>
          cases hx2
          have hloop : loop (.st ((ssW ws).map D.str)) (lastT gls (call gls Gam k) (.bin false .add (.var 8) (.tup (.cons false (.var 12) .nil))) (.nm 12) .none
              [some (.tup (List.map bookT bs)), some (.int m), some (.lst ((ssW ws).map .str)), o3, some x, some (pathsD fs), some (pathsD ls), some (pathsD rs), some (pathT p), o9, o10, none, none]) [] s = some ((ssW ws).map (fun w => pathT (p ++ [w])), s) := by
            refine (loop_map D.str (fun w => pathT (p ++ [w])) (fun y _ acc ha => wL_eq ?_) ?_).trans ?_
            · have := hi2 p (List.mem_cons_self ..)
              simp [SZ, pathT]
              refine ⟨by omega, ha⟩
            · simp [SZ]; omega
            · rfl
          simp [srcOf]
          refine wL_of hloop ?_
          simp at hr
          simp [SZ, pathsD]
          refine ⟨by omega, by omega, rs ++ (ssW ws).map (fun w => p ++ [w]), ls2, _, rfl, rfl, by simp [pathsD]; exact rfl, by simp; omega, fun z hz => hi2 z (List.mem_cons_of_mem _ hz), fun z hz => ?_⟩
          rcases List.mem_append.mp hz with h | h
          · exact hi3 z h
          · obtain ⟨w, _, rfl⟩ := List.mem_map.mp h
            have := hi2 p (List.mem_cons_self ..)
            simp
            exact this
      · rintro env s ⟨rs, ls2, o8, hx2, rfl, rfl, hr, hi2, hi3⟩
        cases ls2 with
        | cons p ls2 => cases hx2
        | nil =>
          simp at hr
          simp [SZ, pathsD]
          refine ⟨by omega, i + 1, fs ++ rs, rs, _, _, _, by omega, rfl, by simp [pathsD]; exact ⟨rfl, rfl, rfl⟩, by simp; omega, by omega, hi3, fun z hz => ?_⟩
          rcases List.mem_append.mp hz with h | h
          · exact ⟨(hif z h).1, Nat.le_succ_of_le (hif z h).2⟩
          · have := hi3 z h
            exact ⟨(fun e => by rw [e] at this; cases this), by omega⟩
    · rintro env s ⟨i, fs, ls, o4, o7, o8, hx, rfl, rfl, hf, hl, hil, hif⟩
      have hx : i = m.toNat := by simpa using hx
      subst hx
      simp
      exact q fs hif hf
end
end Ow
/-! The law body of k02. -/
namespace Ow
def R2_law : Sms := (.cons (.for_ (.nm 2) (.rng (.cons false (.cst (.int 6)) .nil))
      (.cons (.asg (.nm 3) (.call 12 (.cons false (.var 1) (.cons false (.cst (.int 6)) .nil))))
    (.cons (.for_ (.nm 5) (.of (.bin false .add (.call 16 (.cons false (.tup (.cons false (.var 3) .nil)) (.cons false (.cst (.int 3)) .nil))) (.lc false [6] (.bin false .add (.call 13 (.cons false (.var 1) .nil)) (.bin false .mul (.tup (.cons false (.cst (.str [97])) .nil)) (.call 4 (.cons false (.var 1) (.cons false (.cst (.int 4)) .nil))))) (.last (.nm 6) (.rng (.cons false (.cst (.int 10)) .nil)) .none))))
      (.cons (.ife (.not (.call 5 (.cons false (.call 3 (.cons false (.var 3) (.cons false (.var 5) .nil))) (.cons false (.call 15 (.cons false (.var 3) (.cons false (.var 5) .nil))) .nil))))
      (.cons (.ret (.cst (.bl false)))
    .nil)
      .nil)
    .nil))
    .nil)))
    (.cons (.asg (.nm 3) (.tup (.cons false (.tup .nil) (.cons false (.tup (.cons false (.tup (.cons false (.tup (.cons false (.cst (.str [42,42])) .nil)) (.cons false (.tup .nil) .nil))) (.cons false (.tup (.cons false (.tup (.cons false (.cst (.str [97])) (.cons false (.cst (.str [42])) .nil))) (.cons false (.tup .nil) .nil))) (.cons false (.tup (.cons false (.tup (.cons false (.cst (.str [97])) (.cons false (.cst (.str [42,42])) .nil))) (.cons false (.tup .nil) .nil))) (.cons false (.tup (.cons false (.tup (.cons false (.cst (.str [97])) (.cons false (.cst (.str [98])) (.cons false (.cst (.str [42,42])) .nil)))) (.cons false (.tup .nil) .nil))) .nil))))) .nil))))
    (.cons (.asg (.nm 4) (.lc false [5] (.call 3 (.cons false (.var 3) (.cons false (.var 5) .nil))) (.last (.nm 5) (.of (.tup (.cons false (.tup (.cons false (.cst (.str [98])) .nil)) (.cons false (.tup (.cons false (.cst (.str [97])) .nil)) (.cons false (.tup (.cons false (.cst (.str [97])) (.cons false (.cst (.str [98])) .nil))) (.cons false (.tup (.cons false (.cst (.str [97])) (.cons false (.cst (.str [98])) (.cons false (.cst (.str [120])) .nil)))) (.cons false (.bin false .mul (.tup (.cons false (.cst (.str [97])) .nil)) (.cst (.int 8))) .nil))))))) .none)))
    (.cons (.ret (.and (.cons false (.cmp .eq (.var 4) (.lst false (.cons false (.cst (.int 0)) (.cons false (.cst (.int 0)) (.cons false (.cst (.int 2)) (.cons false (.cst (.int 3)) (.cons false (.cst (.int 2)) .nil))))))) (.cons false (.cmp .is (.call 3 (.cons false (.tup (.cons false (.tup .nil) (.cons false (.tup .nil) .nil))) (.cons false (.tup (.cons false (.cst (.str [97])) .nil)) .nil))) (.cst .non)) .nil))))
    .nil))))

theorem retTrue_of {o : Option Out} (h : wX o (fun _ _ => False) (fun d _ => d = .bl true)) : retTrue o = true := by
  cases o with
  | none => exact h.elim
  | some o => cases o with
    | nx e s => exact h.elim
    | rt d s =>
      have h : d = .bl true := h
      subst h
      rfl
theorem loop_cons' {f : D → List D → Store → Option (List D × Store)} {x : D} {xs acc : List D} {s : Store} {Q : List D → Store → Prop} : wL (loop (.st (x :: xs)) f acc s) Q = wL (f x acc s) fun a s => wL (loop (.st xs) f a s) Q := by
  show wL (loopL f (x :: xs) acc s) Q = _
  rw [loopL]
  cases f x acc s with
  | none => rfl
  | some p => rfl
theorem loop_nil {f : D → List D → Store → Option (List D × Store)} {acc : List D} {s : Store} {Q : List D → Store → Prop} : wL (loop (.st []) f acc s) Q = Q acc s := rfl
theorem loop_cons {f : D → List D → Store → Option (List D × Store)} {x : D} {xs acc : List D} {s : Store} {Q : List D → Store → Prop} : wL (loop (.st (x :: xs)) f acc s) Q ↔ wL (f x acc s) fun a s => wL (loop (.st xs) f a s) Q := by rw [loop_cons']
theorem rep_str : ∀ n, repL [D.str [97]] n = (List.replicate n [97]).map D.str
  | 0 => rfl
  | n + 1 => by rw [repL, rep_str n]; rfl
def Six (xs : List D) (env : Envr) (s : Store) : Prop := ∃ (o2 o3 o5 : Option D) (c : Cell), env = [none, some (.ref 0), o2, o3, none, o5, none] ∧ s = [c] ∧ IsTape c
def Ten (xs acc : List D) (s : Store) : Prop := ∃ (ps : List (List W)) (c : Cell), acc = ps.map pathT ∧ s = [c] ∧ IsTape c ∧ ps.length + xs.length = 10 ∧ ∀ p ∈ ps, p ≠ []
def Each (b : Bk) (o2 : Option D) (c : Cell) (xs : List D) (env : Envr) (s : Store) : Prop := ∃ (o5 : Option D) (ps : List (List W)), xs = ps.map pathT ∧ env = [none, some (.ref 0), o2, some (bookT b), none, o5, none] ∧ s = [c] ∧ IsTape c ∧ ∀ p ∈ ps, p ≠ []
def b0 : Bk := ⟨[], [([star2], []), ([[97], [42]], []), ([[97], star2], []), ([[97], [98], star2], [])]⟩
section
variable {gls : Nat → D} {Gam : Nat → Option FDef}
theorem law2 (h1 : Gam 1 = some d1_part_fits) (h2 : Gam 2 = some d2_fits) (h3 : Gam 3 = some d3_line_of) (h4 : Gam 4 = some d4_l_draw) (h5 : Gam 5 = some d5_l_like) (h6 : Gam 6 = some d6_l_part) (h7 : Gam 7 = some d7_l_pattern)
    (h8 : Gam 8 = some d8_l_group) (h9 : Gam 9 = some d9_l_teams) (h10 : Gam 10 = some d10_l_asked) (h11 : Gam 11 = some d11_l_line) (h12 : Gam 12 = some d12_l_book) (h13 : Gam 13 = some d13_l_path) (h14 : Gam 14 = some d14_l_fits) (h15 : Gam 15 = some d15_l_counts) (h16 : Gam 16 = some d16_l_paths)
    (ns : List Int) (hn : ns.length ≤ 63) : retTrue (execs gls (call gls Gam 100) R2_law (env0 7) (st0 ns)) = true := by
  refine retTrue_of ?_
  unfold R2_law env0 st0
  have ht : IsTape (.lst [.lst (ns.map .int), .int 0, .int 0]) := ⟨ns, 0, 0, rfl, by decide, by decide, by unfold SZ; omega⟩
  simp
  rw [rng_in (by decide) (by decide)]
  refine for_inv Six ⟨none, none, none, _, rfl, rfl, ht⟩ ?_ ?_
  · rintro x xs env s ⟨o2, o3, o5, c, rfl, rfl, ht1⟩
    simp
    refine book_ok h4 h6 h7 h8 h9 h10 h11 h12 (by decide) (by decide) ht1 fun b c2 hb ht2 => ?_
    simp [SZ]
    refine paths_ok (bs := [b]) h16 (by decide) (by decide) ?_ ?_ fun fs hf hfl => ?_
    · have := hb.2.1
      show b.lines.length + 0 ≤ 16
      omega
    · intro b' hb' l hl
      rw [List.mem_singleton.mp hb'] at hl
      exact (hb.2.2 l hl).1.len.2
    · rw [rng_in (by decide) (by decide)]
      refine loop_inv Ten ⟨[], c2, rfl, rfl, ht2, by simp [rngL_len'], by simp⟩ ?_ ?_
      · rintro x xs acc s ⟨ps, c3, rfl, rfl, ht3, hl, hne⟩
        simp at hl
        simp
        refine path_ok h4 h13 ht3 fun p c4 hp hp4 _ ht4 => ?_
        simp [SZ]
        refine draw_ok h4 (by decide) (by decide) ht4 fun r c5 r0 r1 ht5 => ?_
        simp [pathT, SZ]
        refine ⟨⟨r0, by omega⟩, ?_⟩
        rw [rep_str]
        simp
        refine ⟨by omega, by omega, ps ++ [p ++ List.replicate r.toNat [97]], c5, by simp [pathT], rfl, ht5, by simp; omega, fun z hz => ?_⟩
        rcases List.mem_append.mp hz with h | h
        · exact hne z h
        · rw [List.mem_singleton.mp h]; simp [hp]
      · rintro acc s ⟨ps, c3, rfl, rfl, ht3, hl, hne⟩
        simp at hl
        have := pw_le (i := 3) (by decide)
        have hfl : fs.length ≤ 2 * pw 3 := hfl
        simp [SZ, pathsD, srcOf]
        refine ⟨by omega, by omega, ?_⟩
        rw [← List.map_append]
        refine for_inv (Each b (some x) c3) ⟨o5, fs ++ ps, rfl, rfl, rfl, ht3, fun z hz => ?_⟩ ?_ ?_
        · rcases List.mem_append.mp hz with h | h
          · exact (hf z h).1
          · exact hne z h
        · rintro y ys env s ⟨o5, qs, hx, rfl, rfl, ht3, hq⟩
          cases qs with
          | nil => cases hx
          | cons p qs =>
            cases hx
            simp
            have hlines : ∀ l ∈ b.lines, l.1 ≠ [] ∧ l.1.length ≤ 3 := fun l hl => (hb.2.2 l hl).1.len
            have hnum : b.lines.length ≤ 6 := hb.2.1
            refine line_of_ok h1 h2 h3 (fun l hl => ⟨(hlines l hl).1, by have := (hlines l hl).2; omega⟩) (by omega) ?_
            refine law_counts_ok (k := 98) h14 h15 (fun l hl => by have := (hlines l hl).2; omega) ?_
            rw [book_like hb (hq p (List.mem_cons_self ..))]
            refine like_ok h5 ?_
            simp
            exact ⟨_, qs, rfl, rfl, rfl, ht3, fun z hz => hq z (List.mem_cons_of_mem _ hz)⟩
        · rintro env s ⟨o5, qs, hx, rfl, rfl, ht3, hq⟩
          exact ⟨_, _, _, c3, rfl, rfl, ht3⟩
  · rintro env s ⟨o2, o3, o5, c, rfl, rfl, ht1⟩
    have hb0 : ∀ l ∈ b0.lines, l.1 ≠ [] ∧ l.1.length ≤ 1000 := by decide
    have l1 : lasF (fun l => fitsB l.1 [[98]]) 0 b0.lines none = some 0 := by decide
    have l2 : lasF (fun l => fitsB l.1 [[97]]) 0 b0.lines none = some 0 := by decide
    have l3 : lasF (fun l => fitsB l.1 [[97], [98]]) 0 b0.lines none = some 2 := by decide
    have l4 : lasF (fun l => fitsB l.1 [[97], [98], [120]]) 0 b0.lines none = some 3 := by decide
    have l5 : lasF (fun l => fitsB l.1 (List.replicate 8 [97])) 0 b0.lines none = some 2 := by decide
    simp [SZ, srcOf]
    refine loop_cons.mpr ?_
    simp
    refine line_of_ok (b := b0) (ks := [[98]]) h1 h2 h3 hb0 (by decide) ?_
    refine ⟨by decide, loop_cons.mpr ?_⟩
    simp
    refine line_of_ok (b := b0) (ks := [[97]]) h1 h2 h3 hb0 (by decide) ?_
    refine ⟨by unfold SZ; simp, loop_cons.mpr ?_⟩
    simp
    refine line_of_ok (b := b0) (ks := [[97], [98]]) h1 h2 h3 hb0 (by decide) ?_
    refine ⟨by unfold SZ; simp, loop_cons.mpr ?_⟩
    simp
    refine line_of_ok (b := b0) (ks := [[97], [98], [120]]) h1 h2 h3 hb0 (by decide) ?_
    refine ⟨by unfold SZ; simp, loop_cons.mpr ?_⟩
    simp
    refine line_of_ok (b := b0) (ks := List.replicate 8 [97]) h1 h2 h3 hb0 (by decide) ?_
    refine ⟨by unfold SZ; simp, ?_⟩
    rw [loop_nil, l1, l2, l3, l4, l5]
    have e1 : Pl (.lst [.int 0, .int 0, .int 2, .int 3, .int 2]) := ⟨rfl, by simp [dep, deps]⟩
    refine ⟨by decide, ?_⟩
    show wB (cmpD .eq (.lst [.int 0, .int 0, .int 2, .int 3, .int 2]) _ _) _
    rw [eq_pl e1 e1]
    refine ⟨by simp [eqD, eqDs], ?_⟩
    refine line_of_ok (b := ⟨[], []⟩) (ks := [[97]]) h1 h2 h3 (by simp) (by simp) ?_
    rfl
end
end Ow
/-! Drawn pushes and people; more approvers. -/
namespace Ow
/-- sorted(set(ps)) of paths -/
def ssP (ps : List (List W)) : List (List W) := kdP.sset ps
theorem ssP_mem {ps : List (List W)} {p : List W} : p ∈ ssP ps ↔ p ∈ ps := ((kdP.srt_perm _).mem_iff).trans (kdP.ddp_mem ps p)
theorem ssP_len (ps : List (List W)) : (ssP ps).length ≤ ps.length := by
  have h3 : (kdP.sset ps).length = (kdP.ddp ps).length := (kdP.srt_perm _).length_eq
  exact Nat.le_trans (Nat.le_of_eq h3) (kdP.ddp_len ps)
theorem ssW_mem {ps : List W} {p : W} : p ∈ ssW ps ↔ p ∈ ps := ((kdW.srt_perm _).mem_iff).trans (kdW.ddp_mem ps p)
theorem sset_paths {ps : List (List W)} (hne : ∀ p ∈ ps, p ≠ []) (h : ps.length < 64) : sortedSet (ps.map pathT) = some ((ssP ps).map pathT) := by
  cases ps with
  | nil => rfl
  | cons p ps =>
    unfold sortedSet
    rw [if_neg (show ¬ allStr ((p :: ps).map pathT) = true from Bool.false_ne_true), if_pos ?_, if_pos (by rw [List.length_map]; exact h)]
    · exact congrArg some (kdP.sset_enc (p :: ps))
    · refine List.all_eq_true.mpr fun x hx => ?_
      obtain ⟨q, hq, rfl⟩ := List.mem_map.mp hx
      show (!(q.map D.str).isEmpty && allStr (q.map D.str)) = true
      rw [allStr_str]
      cases q with
      | nil => exact absurd rfl (hne _ hq)
      | cons _ _ => rfl
def PushOk (ps : List (List W)) : Prop := ps ≠ [] ∧ ps.length ≤ 3 ∧ (∀ p ∈ ps, p ≠ [] ∧ p.length ≤ 4 ∧ ∀ w ∈ p, w ∈ wordsW) ∧ ps.Nodup ∧ ps.Pairwise (fun a b => kdP.le a b = true)
def whoW : List W := [[97,110,110], [98,111,98], [99,97,116], [100,97,110], [101,118,101], [122,101,100]]
section
variable {gls : Nat → D} {Gam : Nat → Option FDef} {Q : D → Store → Prop} {c : Cell} {st : Store}
theorem who_ok {k : Nat} (h4 : Gam 4 = some d4_l_draw) (h43 : Gam 43 = some d43_l_who) (ht : IsTape c) (q : ∀ w c', w ∈ whoW → IsTape c' → Q (.str w) (c' :: st)) : wE (call gls Gam (k + 2) 43 [.ref 0] (c :: st)) Q := by
  refine w_call h43 rfl ?_
  unfold d43_l_who
  simp [SZ]
  refine draw_ok h4 (by decide) (by decide) ht fun r c' r0 r1 ht' => ?_
  obtain ⟨w, hw, h⟩ := ix_pickW (ws := whoW) r0 r1
  have h' := h (c' :: st)
  simp only [whoW, List.map_cons, List.map_nil] at h'
  rw [h']
  exact wH_keep rfl (q w c' hw ht')
def GrowU (st : Store) (n : Nat) (xs acc : List D) (s : Store) : Prop := ∃ (ps : List (List W)) (c : Cell), acc = ps.map pathT ∧ s = c :: st ∧ IsTape c ∧ ps.length + xs.length = n ∧ ∀ p ∈ ps, p ≠ [] ∧ p.length ≤ 4 ∧ ∀ w ∈ p, w ∈ wordsW
theorem push_ok {k : Nat} (h4 : Gam 4 = some d4_l_draw) (h13 : Gam 13 = some d13_l_path) (h33 : Gam 33 = some d33_l_push) (ht : IsTape c) (q : ∀ ps c', PushOk ps → IsTape c' → Q (.tup (ps.map pathT)) (c' :: st)) : wE (call gls Gam (k + 3) 33 [.ref 0] (c :: st)) Q := by
  refine w_call h33 rfl ?_
  unfold d33_l_push
  simp [SZ]
  refine draw_ok h4 (by decide) (by decide) ht fun r c1 r0 r1 ht1 => ?_
  simp
  rw [rng_in (by omega) (by omega)]
  refine loop_inv (GrowU st (1 + r).toNat) ⟨[], c1, rfl, rfl, ht1, by simp [rngL_len'], by simp⟩ ?_ ?_
  · rintro x xs acc s ⟨ps, c2, rfl, rfl, ht2, hl, hp⟩
    rw [List.length_cons] at hl
    simp
    refine path_ok h4 h13 ht2 fun p c3 hp0 hp4 hpw ht3 => ?_
    refine ⟨by simp [SZ]; omega, ps ++ [p], c3, by simp, rfl, ht3, by simp; omega, fun y hy => ?_⟩
    rcases List.mem_append.mp hy with z | z
    · exact hp y z
    · rw [List.mem_singleton.mp z]; exact ⟨hp0, hp4, hpw⟩
  · rintro acc s ⟨ps, c2, rfl, rfl, ht2, hl, hp⟩
    simp at hl
    have hss := sset_paths (fun p h => (hp p h).1) (show ps.length < 64 by omega)
    have hln := ssP_len ps
    simp [SZ, lstOf, hss]
    refine ⟨by omega, by omega, ?_⟩
    refine wH_keep rfl (q (ssP ps) c2 ⟨fun z => ?_, by omega, fun p h => hp p (ssP_mem.mp h), ((kdP.srt_perm _).nodup_iff).mpr (kdP.ddp_nodup ps), kdP.srt_sorted _⟩ ht2)
    obtain ⟨p, t, rfl⟩ : ∃ p t, ps = p :: t := by cases ps with | nil => simp at hl; omega | cons p t => exact ⟨p, t, rfl⟩
    have : p ∈ ssP (p :: t) := ssP_mem.mpr (List.mem_cons_self ..)
    rw [z] at this
    cases this
theorem like_bl {k : Nat} (h5 : Gam 5 = some d5_l_like) {a : Bool} (q : Q (.bl true) st) : wE (call gls Gam (k + 1) 5 [.bl a, .bl a] st) Q := by
  refine w_call h5 rfl ?_
  unfold d5_l_like
  simp [isTys, isTy, cmpD, eqS, valOf, noRef, dep, eqD]
  exact q
end
section
variable {s : Store} {a b : Bool}
@[simp] theorem eq_bl : cmpD .eq (.bl a) (.bl b) s = some (a == b) := rfl
@[simp] theorem ne_bl : cmpD .ne (.bl a) (.bl b) s = some (!(a == b)) := rfl
end
/-! more approvers -/
theorem met1_mono {s t : List W} (h : ∀ w ∈ s, w ∈ t) {a : Ask} (m : met1 s a = true) : met1 t a = true := by
  unfold met1 at m ⊢
  rw [decide_eq_true_iff] at m ⊢
  have : (a.1.filter fun w => decide (w ∈ s)).length ≤ (a.1.filter fun w => decide (w ∈ t)).length := by
    have e : (a.1.filter fun w => decide (w ∈ s)) = ((a.1.filter fun w => decide (w ∈ t)).filter fun w => decide (w ∈ s)) := by
      rw [List.filter_filter]
      refine List.filter_congr fun w _ => ?_
      by_cases hs : w ∈ s
      · simp [hs, h w hs]
      · simp [hs]
    rw [e]
    exact List.length_filter_le _ _
  omega
theorem metB_mono {s t : List W} (h : ∀ w ∈ s, w ∈ t) {as : List Ask} (m : metB as s = true) : metB as t = true :=
  List.all_eq_true.mpr fun a ha => met1_mono h (List.all_eq_true.mp m a ha)
theorem metB_congr {s t : List W} (h : ∀ w, w ∈ s ↔ w ∈ t) (as : List Ask) : metB as s = metB as t := by
  rw [Bool.eq_iff_iff]
  exact ⟨metB_mono fun w => (h w).mp, metB_mono fun w => (h w).mpr⟩
theorem others_mem {a : W} {s : List W} {w : W} : w ∈ others a s ↔ w ∈ s ∧ w ≠ a := by
  unfold others
  rw [List.mem_filter]
  simp
theorem landB_mono {b : Bk} {a : W} {ps : List (List W)} {s t : List W} (h : ∀ w ∈ s, w ∈ t) (m : landB b a ps s = true) : landB b a ps t = true :=
  List.all_eq_true.mpr fun p hp => metB_mono (fun w hw => others_mem.mpr ⟨h w (others_mem.mp hw).1, (others_mem.mp hw).2⟩) (List.all_eq_true.mp m p hp)
theorem landB_congr {b : Bk} {a : W} {ps : List (List W)} {s t : List W} (h : ∀ w, w ≠ a → (w ∈ s ↔ w ∈ t)) : landB b a ps s = landB b a ps t := by
  unfold landB
  refine congrArg (fun f => List.all ps f) (funext fun p => metB_congr (fun w => ?_) _)
  rw [others_mem, others_mem]
  exact ⟨fun z => ⟨(h w z.2).mp z.1, z.2⟩, fun z => ⟨(h w z.2).mpr z.1, z.2⟩⟩
theorem landB_author (b : Bk) (a : W) (ps : List (List W)) (s : List W) : landB b a ps (s ++ [a]) = landB b a ps s :=
  landB_congr fun w hw => by simp [hw]
theorem landB_each (b : Bk) (a : W) (ps : List (List W)) (s : List W) : landB b a ps s = decide (ps.filter (fun p => !landB b a [p] s) = []) := by
  rw [Bool.eq_iff_iff, decide_eq_true_iff, List.filter_eq_nil_iff]
  unfold landB
  simp
end Ow
/-! Rows compared by the law's own like; places; what was seen. -/
namespace Ow
def enumN {α : Type} : Nat → List α → List (Nat × α)
  | _, [] => []
  | i, y :: ys => (i, y) :: enumN (i + 1) ys
def enT {α : Type} (enc : α → D) (p : Nat × α) : D := .tup [.int p.1, enc p.2]
theorem enumL_eq {α : Type} (enc : α → D) : ∀ (i : Nat) (ys : List α), enumL i (ys.map enc) = (enumN i ys).map (enT enc)
  | _, [] => rfl
  | i, y :: ys => by
    have := enumL_eq enc (i + 1) ys
    rw [List.map_cons, enumL, enumN, List.map_cons, ← this]
    rfl
theorem enumL_eq0 {α : Type} (enc : α → D) (ys : List α) : enumL 0 (ys.map enc) = (enumN 0 ys).map (enT enc) := enumL_eq enc 0 ys
theorem enumN_len {α : Type} : ∀ (i : Nat) (ys : List α), (enumN i ys).length = ys.length
  | _, [] => rfl
  | i, y :: ys => by rw [enumN, List.length_cons, enumN_len (i + 1) ys]; rfl
theorem enumN_mem {α : Type} : ∀ {i : Nat} {ys : List α} {p : Nat × α}, p ∈ enumN i ys → p.2 ∈ ys ∧ p.1 < i + ys.length
  | _, [], _, h => by cases h
  | i, y :: ys, p, h => by
    rcases List.mem_cons.mp h with rfl | h
    · exact ⟨List.mem_cons_self .., by simp⟩
    · have := enumN_mem h
      exact ⟨List.mem_cons_of_mem _ this.1, by have := this.2; simp; omega⟩
/-- the places at which f holds -/
def idx {α : Type} (f : α → Bool) (ys : List α) : List Nat := ((enumN 0 ys).filter fun p => f p.2).map (·.1)
theorem idx_len {α : Type} (f : α → Bool) (ys : List α) : (idx f ys).length ≤ ys.length := by
  unfold idx
  rw [List.length_map]
  have := List.length_filter_le (fun p : Nat × α => f p.2) (enumN 0 ys)
  rw [enumN_len] at this
  exact this
theorem enumN_range {α : Type} (f : α → Bool) : ∀ (ys zs : List α), ((enumN zs.length ys).filter fun p => f p.2).map (·.1) = (List.range' zs.length ys.length).filter fun i => ((zs ++ ys)[i]?).any f
  | [], zs => rfl
  | y :: ys, zs => by
    rw [enumN, List.length_cons, List.range'_succ]
    have ih := enumN_range f ys (zs ++ [y])
    rw [List.append_assoc, List.length_append] at ih
    have e : (zs ++ y :: ys)[zs.length]? = some y := by rw [List.getElem?_append_right (Nat.le_refl _), Nat.sub_self]; rfl
    rw [List.filter_cons, List.filter_cons]
    simp only [e, Option.any_some]
    split
    · exact congrArg _ ih
    · exact ih
theorem idx_range {α : Type} (f : α → Bool) (ys : List α) : idx f ys = (List.range ys.length).filter fun i => (ys[i]?).any f := by
  have := enumN_range f ys []
  rw [List.range_eq_range']
  exact this
theorem rngL_from : ∀ (n i : Nat), rngL (i : Int) n = (List.range' i n).map intD
  | 0, _ => rfl
  | n + 1, i => by
    rw [rngL, List.range'_succ, List.map_cons]
    have := rngL_from n (i + 1)
    rw [← this]
    rfl
theorem rngL_range (n : Nat) : rngL 0 n = (List.range n).map intD := by
  rw [List.range_eq_range']
  exact rngL_from n 0
theorem rng_bg {n : Int} (h0 : 0 ≤ n) (h1 : n ≤ 1000000) : rngS [.int n] = some (.st (rngL 0 n.toNat)) := by
  show (if small n = true then _ else _) = _
  rw [if_pos]
  unfold small
  rw [Bool.and_eq_true, decide_eq_true_iff, decide_eq_true_iff]
  omega
theorem rng_sz {n : Nat} (h : n ≤ 1000000) : rngS [.int (n : Int)] = some (.st (rngL 0 n)) := by
  rw [rng_bg (by omega) (by omega), Int.toNat_natCast]
/-! like -/
structure RowV (st : Store) (xs : List D) (x : D) (l : Bool) : Prop where
  lt : isTys [.list, .tuple] x st = some true
  li : isTys [.list] x st = some l
  tu : isTys [.tuple] x st = some (!l)
  ln : biD false .len [x] st = some (.int xs.length, st)
  ix : ∀ i : Nat, ixD x (.int i) st = xs[i]?
theorem rowV_tup (st : Store) (xs : List D) : RowV st xs (.tup xs) false := ⟨rfl, rfl, rfl, rfl, fun i => ix_tupC⟩
theorem rowV_lst (st : Store) (xs : List D) : RowV st xs (.lst xs) true := ⟨rfl, rfl, rfl, rfl, fun i => ix_lstC⟩
theorem rowV_ref {st : Store} {xs : List D} {n : Nat} (h : st[n]? = some (.lst xs)) : RowV st xs (.ref n) true := by
  refine ⟨by simp [isTys, isTy, h], by simp [isTys, isTy, h], by simp [isTys, isTy, h], ?_, fun i => ?_⟩
  · show biLen [.ref n] st = _
    simp [biLen, rowOf, h]
  · rw [ix_ref h, ix_lstC]
section
variable {gls : Nat → D} {Gam : Nat → Option FDef} {Q : D → Store → Prop} {st : Store}
theorem like_row {k : Nat} (h5 : Gam 5 = some d5_l_like) {xs : List D} {x y : D} {l : Bool} (hx : RowV st xs x l) (hy : RowV st xs y l) (hn : xs.length ≤ 1000000)
    (he : ∀ e ∈ xs, ∀ Q : D → Store → Prop, Q (.bl true) st → wE (call gls Gam k 5 [e, e] st) Q) (q : Q (.bl true) st) : wE (call gls Gam (k + 1) 5 [x, y] st) Q := by
  refine w_call h5 rfl ?_
  unfold d5_l_like
  have hxl := hx.ln
  have hyl := hy.ln
  generalize hm : (xs.length : Int) = m at hxl hyl
  have em : m.toNat = xs.length := by omega
  simp -implicitDefEqProofs [hx.lt, hx.li, hx.tu, hxl, hy.li, hy.tu, hyl]
  rw [rng_bg (by omega) (by omega), em, rngL_range]
  have e0 : (List.range xs.length).filter (fun _ => false) = [] := List.filter_eq_nil_iff.mpr (by simp)
  simp only
  refine w_loopF intD intD (fun _ => false) (fun i hi acc Q _ h2 => ?_) ?_ ?_
  · have hi : i < xs.length := List.mem_range.mp hi
    simp [intD, hx.ix, hy.ix, List.getElem?_eq_getElem hi]
    refine he _ (List.getElem_mem hi) _ ?_
    simp
    exact h2 rfl
  · rw [e0]
    exact sz_le (k := 0) (Nat.le_refl _) (by decide)
  · rw [e0]
    refine ⟨sz_le (k := 0) (Nat.le_refl _) (by decide), ?_⟩
    rw [List.map_nil, List.nil_append, eq_pl pl_nil pl_nil]
    exact wH_keep rfl q
theorem like_leaf {k : Nat} (h5 : Gam 5 = some d5_l_like) {x : D} (hx : match x with | .int _ | .str _ | .bl _ | .non => True | _ => False) (q : Q (.bl true) st) : wE (call gls Gam (k + 1) 5 [x, x] st) Q := by
  refine w_call h5 rfl ?_
  unfold d5_l_like
  cases x with
  | int i => simp [isTys, isTy]; exact q
  | str w => simp [isTys, isTy, eqW_refl]; exact q
  | bl b => simp [isTys, isTy]; exact q
  | non => simp [isTys, isTy, cmpD, eqS, valOf, noRef, dep, eqD]; exact q
  | tup _ => exact hx.elim
  | lst _ => exact hx.elim
  | ref _ => exact hx.elim
theorem like_ints {k : Nat} (h5 : Gam 5 = some d5_l_like) {is : List Nat} {x y : D} {l : Bool} (hx : RowV st (is.map intD) x l) (hy : RowV st (is.map intD) y l) (hn : is.length ≤ 1000000) (q : Q (.bl true) st) : wE (call gls Gam (k + 2) 5 [x, y] st) Q := by
  refine like_row h5 hx hy (by simpa using hn) (fun e he Q q => ?_) q
  obtain ⟨i, _, rfl⟩ := List.mem_map.mp he
  exact like_leaf h5 (by unfold intD; trivial) q
end
/-! what was seen: author, paths, people, whether it was good -/
structure Sn where
  au : W
  ps : List (List W)
  ws : List W
  ok : Bool
def snT (s : Sn) : D := .tup [.str s.au, .tup (s.ps.map pathT), .tup (s.ws.map .str), .bl s.ok]
def SnOk (s : Sn) : Prop := s.ps.length ≤ 100000 ∧ s.ws.length ≤ 100000 ∧ ∀ p ∈ s.ps, p ≠ []
def explB (b : Bk) (ss : List Sn) : Bool := ss.all fun s => landB b s.au s.ps s.ws == s.ok
section
variable {gls : Nat → D} {Gam : Nat → Option FDef} {Q : D → Store → Prop} {st : Store} {b : Bk}
theorem explains_ok {k : Nat} (h1 : Gam 1 = some d1_part_fits) (h2 : Gam 2 = some d2_fits) (h3 : Gam 3 = some d3_line_of) (h40 : Gam 40 = some d40_asks_of) (h41 : Gam 41 = some d41_enough) (h42 : Gam 42 = some d42_can_land) (h113 : Gam 113 = some d113_explains) (hb : Bg b)
    {ss : List Sn} (hs : ∀ s ∈ ss, SnOk s) (hn : ss.length ≤ 1000) (q : Q (.bl (explB b ss)) st) : wE (call gls Gam (k + 6) 113 [bookT b, .tup (ss.map snT)] st) Q := by
  refine w_call h113 rfl ?_
  unfold d113_explains
  simp [srcOf]
  refine w_loopM snT (fun s => .bl (landB b s.au s.ps s.ws == s.ok)) (fun s hm acc Q h => ?_) ?_ ?_
  · have := hs s hm
    simp [snT]
    exact can_land_ok h1 h2 h3 h40 h41 h42 hb (ps := s.ps) (ws := s.ws) (.inl rfl) (.inl rfl) this.1 this.2.1 (by simp only [eq_bl, wB_some]; exact h)
  · exact sz_le (k := 1000) (by simpa using hn) (by decide)
  · have e : ss.map (fun s => D.bl (landB b s.au s.ps s.ws == s.ok)) = (ss.map fun s => landB b s.au s.ps s.ws == s.ok).map D.bl := by rw [List.map_map]; rfl
    simp only [List.nil_append, e, mkL_fr, all_bls]
    refine ⟨sz_le (k := 1000) (by simpa using hn) (by decide), ?_⟩
    show wE (some (D.bl ((ss.map fun s => landB b s.au s.ps s.ws == s.ok).all id), st)) _
    rw [List.all_map]
    exact wH_keep rfl q
theorem fitting_ok {k : Nat} (h1 : Gam 1 = some d1_part_fits) (h2 : Gam 2 = some d2_fits) (h3 : Gam 3 = some d3_line_of) (h40 : Gam 40 = some d40_asks_of) (h41 : Gam 41 = some d41_enough) (h42 : Gam 42 = some d42_can_land) (h113 : Gam 113 = some d113_explains) (h114 : Gam 114 = some d114_fitting)
    {bs : List Bk} {d : D} (hd : Row (bs.map bookT) d) (hb : ∀ b ∈ bs, Bg b) (hl : bs.length ≤ 1000) {ss : List Sn} (hs : ∀ s ∈ ss, SnOk s) (hn : ss.length ≤ 1000) (q : Q (.lst ((idx (fun b => explB b ss) bs).map intD)) st) : wE (call gls Gam (k + 7) 114 [d, .tup (ss.map snT)] st) Q := by
  rcases hd with rfl | rfl
  · refine w_call h114 rfl ?_
    unfold d114_fitting
    simp [rowOf]
    rw [enumL_eq0]
    refine w_loopF (enT bookT) (fun p => intD p.1) (fun p => explB p.2 ss) (fun p hp acc Q q1 q2 => ?_) ?_ ?_
    · simp [enT]
      refine explains_ok h1 h2 h3 h40 h41 h42 h113 (hb _ (enumN_mem hp).1) hs hn ?_
      simp
      split
      · rename_i h
        exact q1 h
      · rename_i h
        exact q2 (by simpa using h)
    · have := List.length_filter_le (fun p : Nat × Bk => explB p.2 ss) (enumN 0 bs)
      rw [enumN_len] at this
      exact sz_le (k := 1000) (by simp; omega) (by decide)
    · have e : (List.filter (fun p : Nat × Bk => explB p.2 ss) (enumN 0 bs)).map (fun p => intD p.1) = (idx (fun b => explB b ss) bs).map intD := by unfold idx; rw [List.map_map]; rfl
      have hi := idx_len (fun b => explB b ss) bs
      simp only [List.nil_append, e]
      refine ⟨sz_le (k := 1000) (by simp; omega) (by decide), ?_⟩
      exact wH_keep rfl q
  · refine w_call h114 rfl ?_
    unfold d114_fitting
    simp [rowOf]
    rw [enumL_eq0]
    refine w_loopF (enT bookT) (fun p => intD p.1) (fun p => explB p.2 ss) (fun p hp acc Q q1 q2 => ?_) ?_ ?_
    · simp [enT]
      refine explains_ok h1 h2 h3 h40 h41 h42 h113 (hb _ (enumN_mem hp).1) hs hn ?_
      simp
      split
      · rename_i h
        exact q1 h
      · rename_i h
        exact q2 (by simpa using h)
    · have := List.length_filter_le (fun p : Nat × Bk => explB p.2 ss) (enumN 0 bs)
      rw [enumN_len] at this
      exact sz_le (k := 1000) (by simp; omega) (by decide)
    · have e : (List.filter (fun p : Nat × Bk => explB p.2 ss) (enumN 0 bs)).map (fun p => intD p.1) = (idx (fun b => explB b ss) bs).map intD := by unfold idx; rw [List.map_map]; rfl
      have hi := idx_len (fun b => explB b ss) bs
      simp only [List.nil_append, e]
      refine ⟨sz_le (k := 1000) (by simp; omega) (by decide), ?_⟩
      exact wH_keep rfl q
theorem law_explains_ok {k : Nat} (h14 : Gam 14 = some d14_l_fits) (h15 : Gam 15 = some d15_l_counts) (h44 : Gam 44 = some d44_l_needs) (h45 : Gam 45 = some d45_l_met) (h46 : Gam 46 = some d46_l_good) (h116 : Gam 116 = some d116_l_explains) (hb : Bg b)
    {ss : List Sn} (hs : ∀ s ∈ ss, SnOk s) (hn : ss.length ≤ 1000) (q : Q (.bl (explB b ss)) st) : wE (call gls Gam (k + 8) 116 [bookT b, .tup (ss.map snT)] st) Q := by
  refine w_call h116 rfl ?_
  unfold d116_l_explains
  simp [srcOf]
  refine w_loopF snT (fun _ => .int 1) (fun s => !(landB b s.au s.ps s.ws == s.ok)) (fun s hm acc Q q1 q2 => ?_) ?_ ?_
  · have := hs s hm
    simp [snT]
    refine law_good_ok h14 h15 h44 h45 h46 hb (ps := s.ps) (ws := s.ws) (.inl rfl) this.2.2 (.inl rfl) this.1 this.2.1 ?_
    simp only [ne_bl, wB_some, wT_bl]
    split
    · rename_i h
      exact q1 h
    · rename_i h
      exact q2 (by simpa using h)
  · have := List.length_filter_le (fun s : Sn => !(landB b s.au s.ps s.ws == s.ok)) ss
    exact sz_le (k := 1000) (by simp; omega) (by decide)
  · have hl := List.length_filter_le (fun s : Sn => !(landB b s.au s.ps s.ws == s.ok)) ss
    simp only [List.nil_append, mkL_fr]
    refine ⟨sz_le (k := 1000) (by simp; omega) (by decide), ?_⟩
    have e : explB b ss = decide (ss.filter (fun s => !(landB b s.au s.ps s.ws == s.ok)) = []) := by
      unfold explB
      rw [Bool.eq_iff_iff, decide_eq_true_iff, List.filter_eq_nil_iff, List.all_eq_true]
      simp
    have e2 : ∀ (zs : List Sn) (st : Store), cmpD .eq (.lst (zs.map fun _ => .int 1)) (.lst []) st = some (decide (zs = [])) := by
      intro zs st
      have h : ∀ zs : List Sn, noRefs (zs.map fun _ => D.int 1) = true ∧ deps (zs.map fun _ => D.int 1) = 0 := by
        intro zs
        induction zs with
        | nil => exact ⟨rfl, rfl⟩
        | cons p ps ih => exact ⟨ih.1, by rw [List.map_cons, deps, ih.2]; rfl⟩
      rw [eq_pl (show Pl (.lst (zs.map fun _ => D.int 1)) from ⟨(h zs).1, by rw [dep, (h zs).2]; decide⟩) pl_nil]
      cases zs <;> simp [eqD, eqDs]
    simp [SZ, e2]
    rw [e] at q
    simpa using q
end
end Ow
/-! A line put into a book; the missing line. -/
namespace Ow
theorem cut_to (xs : List D) {r : Int} (h : 0 ≤ r) : cutL xs none (some r) = xs.take r.toNat := by
  unfold cutL
  show (xs.drop 0).take ((if r < 0 then _ else min r.toNat xs.length) - 0) = _
  rw [if_neg (by omega), Nat.sub_zero, List.drop_zero]
  by_cases h2 : r.toNat ≤ xs.length
  · rw [Nat.min_eq_left h2]
  · rw [Nat.min_eq_right (by omega), List.take_of_length_le (Nat.le_refl _), List.take_of_length_le (by omega)]
theorem cut_from (xs : List D) {r : Int} (h : 0 ≤ r) : cutL xs (some r) none = xs.drop r.toNat := by
  unfold cutL
  show (xs.drop (if r < 0 then _ else min r.toNat xs.length)).take (xs.length - (if r < 0 then _ else min r.toNat xs.length)) = _
  rw [if_neg (by omega)]
  by_cases h2 : r.toNat ≤ xs.length
  · rw [Nat.min_eq_left h2, List.take_of_length_le (by rw [List.length_drop]; omega)]
  · rw [Nat.min_eq_right (by omega), List.drop_of_length_le (Nat.le_refl _), List.drop_of_length_le (by omega), List.take_nil]
theorem small_in {n : Int} (h0 : 0 ≤ n) (h1 : n ≤ 1000) : small n = true := by
  unfold small
  rw [Bool.and_eq_true, decide_eq_true_iff, decide_eq_true_iff]
  omega
def putL (b : Bk) (a : Nat) (l : Ln) : Bk := ⟨b.teams, b.lines.take a ++ l :: b.lines.drop a⟩
theorem putL_g {b : Bk} (hb : Bg b) (hl : b.lines.length ≤ 15) (a : Nat) {l : Ln} (h1 : PatG l.1) (h2 : l.2.length ≤ 2) (h3 : ∀ x ∈ l.2, x.1 ∈ b.teams.map (·.1)) : Bg (putL b a l) := by
  have hm : ∀ x ∈ (putL b a l).lines, x = l ∨ x ∈ b.lines := by
    intro x hx
    rcases List.mem_append.mp hx with z | z
    · exact .inr (List.mem_of_mem_take z)
    · rcases List.mem_cons.mp z with z | z
      · exact .inl z
      · exact .inr (List.mem_of_mem_drop z)
  refine ⟨hb.nd, hb.tl, hb.ml, ?_, fun x hx => ?_, fun x hx => ?_, fun x hx => ?_⟩
  · show (b.lines.take a ++ l :: b.lines.drop a).length ≤ 16
    rw [List.length_append, List.length_cons, List.length_take, List.length_drop]
    omega
  · rcases hm x hx with rfl | z
    · exact h1
    · exact hb.pat x z
  · rcases hm x hx with rfl | z
    · exact h2
    · exact hb.al x z
  · rcases hm x hx with rfl | z
    · exact h3
    · exact hb.ask x z
theorem LineOk.g {ts : List Tm} {l : Ln} (h : LineOk ts l) : PatG l.1 ∧ l.2.length ≤ 2 ∧ ∀ x ∈ l.2, x.1 ∈ ts.map (·.1) :=
  ⟨h.1.g, h.2.2.1, fun a ha => h.2.1.subset (List.mem_map.mpr ⟨a, ha, rfl⟩)⟩
theorem bookT_put (b : Bk) (a : Nat) (l : Ln) : bookT (putL b a l) = .tup [.tup (b.teams.map teamT), .tup ((b.lines.map lineT).take a ++ lineT l :: (b.lines.map lineT).drop a)] := by
  unfold bookT putL
  simp
theorem idx_map {α β : Type} (g : α → β) (f : β → Bool) (ys : List α) : idx f (ys.map g) = idx (fun y => f (g y)) ys := by
  have : ∀ i, ((enumN i (ys.map g)).filter fun p => f p.2).map (·.1) = ((enumN i ys).filter fun p => f (g p.2)).map (·.1) := by
    induction ys with
    | nil => intro i; rfl
    | cons y ys ih =>
      intro i
      rw [List.map_cons, enumN, enumN, List.filter_cons, List.filter_cons]
      simp only
      split
      · rw [List.map_cons, List.map_cons, ih]
      · exact ih _
  exact this 0
section
variable {gls : Nat → D} {Gam : Nat → Option FDef} {Q : D → Store → Prop} {st : Store} {b : Bk}
theorem missing_ok {k : Nat} (h1 : Gam 1 = some d1_part_fits) (h2 : Gam 2 = some d2_fits) (h3 : Gam 3 = some d3_line_of) (h40 : Gam 40 = some d40_asks_of) (h41 : Gam 41 = some d41_enough) (h42 : Gam 42 = some d42_can_land) (h113 : Gam 113 = some d113_explains) (h114 : Gam 114 = some d114_fitting) (h115 : Gam 115 = some d115_missing_lines)
    {ls : List Ln} {r : Int} (r0 : 0 ≤ r) (r1 : r ≤ 1000) (hb : ∀ l ∈ ls, Bg (putL b r.toNat l)) (hl : ls.length ≤ 1000) {ss : List Sn} (hs : ∀ s ∈ ss, SnOk s) (hn : ss.length ≤ 1000) (q : Q (.lst ((idx (fun l => explB (putL b r.toNat l) ss) ls).map intD)) st) :
    wE (call gls Gam (k + 8) 115 [bookT b, .tup (ls.map lineT), .int r, .tup (ss.map snT)] st) Q := by
  refine w_call h115 rfl ?_
  unfold d115_missing_lines
  have hle : ∀ l ∈ ls, b.lines.length ≤ 16 := fun l hl => by
    have := (hb l hl).ll
    unfold putL at this
    rw [List.length_append, List.length_cons, List.length_take, List.length_drop] at this
    omega
  simp [bookT, srcOf]
  refine w_loopM lineT (fun l => bookT (putL b r.toNat l)) (fun l hm acc Q h => ?_) ?_ ?_
  · have := hle l hm
    have ht := Nat.le_trans (List.length_take_le r.toNat (b.lines.map lineT)) (Nat.le_refl _)
    simp [slD, cutBd, rowOf, small_in r0 r1, cut_to _ r0, cut_from _ r0]
    rw [bookT_put] at h
    refine ⟨sz_le (k := 100) (by omega) (by decide), sz_le (k := 2) (Nat.le_refl _) (by decide), ?_⟩
    exact h
  · exact sz_le (k := 1000) (by simpa using hl) (by decide)
  · rw [List.nil_append]
    refine ⟨sz_le (k := 1000) (by simpa using hl) (by decide), ?_⟩
    have e : ls.map (fun l => bookT (putL b r.toNat l)) = (ls.map (putL b r.toNat)).map bookT := by rw [List.map_map]; rfl
    rw [e]
    refine fitting_ok h1 h2 h3 h40 h41 h42 h113 h114 (bs := ls.map (putL b r.toNat)) (.inr rfl) (fun x hx => ?_) (by simpa using hl) hs hn ?_
    · obtain ⟨l, hl, rfl⟩ := List.mem_map.mp hx
      exact hb l hl
    · rw [idx_map]
      exact wH_keep rfl q
end
end Ow
/-! What stands after a history. -/
namespace Ow
theorem ssW_sorted (ws : List W) : (ssW ws).Pairwise (fun a b => kdW.le a b = true) := kdW.srt_sorted _
theorem ssW_nodup (ws : List W) : (ssW ws).Nodup := ((kdW.srt_perm _).nodup_iff).mpr (kdW.ddp_nodup ws)
theorem ssP_sorted (ws : List (List W)) : (ssP ws).Pairwise (fun a b => kdP.le a b = true) := kdP.srt_sorted _
theorem ssP_nodup (ws : List (List W)) : (ssP ws).Nodup := ((kdP.srt_perm _).nodup_iff).mpr (kdP.ddp_nodup ws)
theorem ssW_congr {a b : List W} (h : ∀ z, z ∈ a ↔ z ∈ b) : ssW a = ssW b :=
  kdW.sset_only (ssW_nodup a) (fun z => ssW_mem.trans (h z)) (ssW_sorted a)
theorem ssP_congr {a b : List (List W)} (h : ∀ z, z ∈ a ↔ z ∈ b) : ssP a = ssP b :=
  kdP.sset_only (ssP_nodup a) (fun z => ssP_mem.trans (h z)) (ssP_sorted a)
theorem ssW_filter (f : W → Bool) (a : List W) : (ssW a).filter f = ssW (a.filter f) := by
  have hm : ∀ z : W, z ∈ (ssW a).filter f ↔ z ∈ a.filter f := fun z => by rw [List.mem_filter, List.mem_filter, ssW_mem]
  exact kdW.sset_only ((ssW_nodup a).filter f) hm ((ssW_sorted a).filter f)
inductive Md where | never | touched | all
def Md.w : Md → W
  | .never => [110,101,118,101,114]
  | .touched => [116,111,117,99,104,101,100]
  | .all => [97,108,108]
inductive Evt where
  | push (ps : List (List W))
  | appr (w : W)
  | wdr (w : W)
def evT : Evt → D
  | .push ps => .tup [.str [112,117,115,104], .tup (ps.map pathT)]
  | .appr w => .tup [.str [97,112,112,114,111,118,101], .str w]
  | .wdr w => .tup [.str [119,105,116,104,100,114,97,119], .str w]
def EvOk : Evt → Prop
  | .push ps => ps.length ≤ 3 ∧ ∀ p ∈ ps, p ≠ [] ∧ p.length ≤ 4
  | _ => True
def touchB (b : Bk) (ps : List (List W)) : List W := ps.flatMap fun p => (needs b p).flatMap (·.1)
def fallB (m : Md) (b : Bk) (ps : List (List W)) (S : List W) : List W := match m with
  | .never => S
  | .all => []
  | .touched => S.filter fun w => !decide (w ∈ touchB b ps)
abbrev Sta := List (List W) × List W
def staT (x : Sta) : D := .tup [.tup (x.1.map pathT), .tup (x.2.map .str)]
def stepB (m : Md) (b : Bk) (x : Sta) : Evt → Sta
  | .push ps => (ssP (x.1 ++ ps), fallB m b ps x.2)
  | .appr w => (x.1, ssW (x.2 ++ [w]))
  | .wdr w => (x.1, x.2.filter fun z => !decide (z = w))
def standB (m : Md) (b : Bk) (es : List Evt) : Sta := es.foldl (stepB m b) ([], [])
def stepL (m : Md) (b : Bk) (x : Sta) : Evt → Sta
  | .push ps => (x.1 ++ ps, fallB m b ps x.2)
  | .appr w => (x.1, x.2 ++ [w])
  | .wdr w => (x.1, x.2.filter fun z => !decide (z = w))
def standL (m : Md) (b : Bk) (es : List Evt) : Sta := es.foldl (stepL m b) ([], [])
def nf (x : Sta) : Sta := (ssP x.1, ssW x.2)
theorem fall_nf (m : Md) (b : Bk) (ps : List (List W)) (S : List W) : fallB m b ps (ssW S) = ssW (fallB m b ps S) := by
  cases m with
  | never => rfl
  | all => rfl
  | touched => exact ssW_filter _ _
theorem step_nf (m : Md) (b : Bk) (x : Sta) (e : Evt) : stepB m b (nf x) e = nf (stepL m b x e) := by
  cases e with
  | push ps =>
    show (ssP (ssP x.1 ++ ps), fallB m b ps (ssW x.2)) = (ssP (x.1 ++ ps), ssW (fallB m b ps x.2))
    rw [fall_nf, ssP_congr (a := ssP x.1 ++ ps) (b := x.1 ++ ps) fun z => by rw [List.mem_append, List.mem_append, ssP_mem]]
  | appr w =>
    show (ssP x.1, ssW (ssW x.2 ++ [w])) = (ssP x.1, ssW (x.2 ++ [w]))
    rw [ssW_congr (a := ssW x.2 ++ [w]) (b := x.2 ++ [w]) fun z => by rw [List.mem_append, List.mem_append, ssW_mem]]
  | wdr w =>
    show (ssP x.1, (ssW x.2).filter _) = (ssP x.1, ssW (x.2.filter _))
    rw [ssW_filter]
theorem fold_nf (m : Md) (b : Bk) : ∀ (es : List Evt) (x : Sta), es.foldl (stepB m b) (nf x) = nf (es.foldl (stepL m b) x)
  | [], _ => rfl
  | e :: es, x => by rw [List.foldl_cons, List.foldl_cons, step_nf, fold_nf m b es]
theorem stand_law (m : Md) (b : Bk) (es : List Evt) : standB m b es = nf (standL m b es) := fold_nf m b es ([], [])
/-- how much can stand -/
def Fit (n : Nat) (x : Sta) : Prop := x.1.length ≤ 3 * n ∧ x.2.length ≤ n ∧ ∀ p ∈ x.1, p ≠ [] ∧ p.length ≤ 4
theorem fall_len (m : Md) (b : Bk) (ps : List (List W)) (S : List W) : (fallB m b ps S).length ≤ S.length := by
  cases m with
  | never => exact Nat.le_refl _
  | all => exact Nat.zero_le _
  | touched => exact List.length_filter_le _ _
theorem stepB_fit {m : Md} {b : Bk} {n : Nat} {x : Sta} {e : Evt} (h : Fit n x) (he : EvOk e) : Fit (n + 1) (stepB m b x e) := by
  obtain ⟨h1, h2, h3⟩ := h
  cases e with
  | push ps =>
    obtain ⟨e1, e2⟩ := he
    have := ssP_len (x.1 ++ ps)
    rw [List.length_append] at this
    have hf := fall_len m b ps x.2
    exact ⟨by show (ssP (x.1 ++ ps)).length ≤ _; omega, by show (fallB m b ps x.2).length ≤ _; omega, fun p hp => (List.mem_append.mp (ssP_mem.mp hp)).elim (h3 p) (e2 p)⟩
  | appr w =>
    have := ssW_len (x.2 ++ [w])
    rw [List.length_append] at this
    exact ⟨by show x.1.length ≤ _; omega, Nat.le_trans this (by show x.2.length + 1 ≤ _; omega), h3⟩
  | wdr w =>
    have := List.length_filter_le (fun z => !decide (z = w)) x.2
    exact ⟨by show x.1.length ≤ _; omega, Nat.le_trans this (by omega), h3⟩
theorem stepL_fit {m : Md} {b : Bk} {n : Nat} {x : Sta} {e : Evt} (h : Fit n x) (he : EvOk e) : Fit (n + 1) (stepL m b x e) := by
  obtain ⟨h1, h2, h3⟩ := h
  cases e with
  | push ps =>
    obtain ⟨e1, e2⟩ := he
    have hf := fall_len m b ps x.2
    exact ⟨by show (x.1 ++ ps).length ≤ _; rw [List.length_append]; omega, by show (fallB m b ps x.2).length ≤ _; omega, fun p hp => (List.mem_append.mp hp).elim (h3 p) (e2 p)⟩
  | appr w => exact ⟨by show x.1.length ≤ _; omega, by show (x.2 ++ [w]).length ≤ _; rw [List.length_append]; show x.2.length + 1 ≤ _; omega, h3⟩
  | wdr w =>
    have := List.length_filter_le (fun z => !decide (z = w)) x.2
    exact ⟨by show x.1.length ≤ _; omega, Nat.le_trans this (by omega), h3⟩
theorem touch1_len {b : Bk} (hb : Bg b) (p : List W) : ((needs b p).flatMap (·.1)).length ≤ 10 := by
  have h1 := needs_len hb p
  have h2 : ∀ a ∈ needs b p, a.1.length ≤ 5 := fun a ha => by
    unfold needs at ha
    obtain ⟨x, _, rfl⟩ := List.mem_map.mp ha
    exact memb_len hb x.1
  revert h1 h2
  generalize needs b p = as
  intro h1 h2
  match as, h1, h2 with
  | [], _, _ => simp
  | [a], _, h2 => have := h2 a (by simp); simp; omega
  | [a, c], _, h2 => have := h2 a (by simp); have := h2 c (by simp); simp; omega
theorem touch_len {b : Bk} (hb : Bg b) : ∀ ps : List (List W), (touchB b ps).length ≤ 10 * ps.length
  | [] => by simp [touchB]
  | p :: ps => by
    have := touch_len hb ps
    have h1 := touch1_len hb p
    unfold touchB at this ⊢
    rw [List.flatMap_cons, List.length_append, List.length_cons]
    omega
section
variable {gls : Nat → D} {Gam : Nat → Option FDef} {Q : D → Store → Prop} {st : Store} {b : Bk}
theorem touched_ok {k : Nat} (h1 : Gam 1 = some d1_part_fits) (h2 : Gam 2 = some d2_fits) (h3 : Gam 3 = some d3_line_of) (h40 : Gam 40 = some d40_asks_of) (h78 : Gam 78 = some d78_touched) (hb : Bg b) {ps : List (List W)} (lp : ps.length ≤ 1000) (q : Q (.lst ((touchB b ps).map .str)) st) :
    wE (call gls Gam (k + 5) 78 [bookT b, .tup (ps.map pathT)] st) Q := by
  refine w_call h78 rfl ?_
  unfold d78_touched
  have hlen := touch_len hb ps
  have e : ps.flatMap (fun p => ((needs b p).flatMap (·.1)).map D.str) = (touchB b ps).map .str := by unfold touchB; rw [List.map_flatMap]
  simp [srcOf]
  refine w_loopX pathT (fun p => ((needs b p).flatMap (·.1)).map D.str) (fun p hp acc Q hacc q => ?_) ?_ ?_
  · simp
    refine asks_of_ok h1 h2 h3 h40 hb ?_
    simp [srcOf]
    have e2 : (needs b p).flatMap (fun a => a.1.map D.str) = ((needs b p).flatMap (·.1)).map D.str := by rw [List.map_flatMap]
    refine w_loopX needT (fun a => a.1.map D.str) (fun a ha acc Q hacc q => ?_) ?_ ?_
    · simp [needT, pathT, srcOf]
      refine w_loopM D.str D.str (fun w hw acc Q h => ?_) (by simpa using hacc) q
      simp [SZ]
      exact h
    · rw [e2]; exact hacc
    · rw [e2]; exact q
  · rw [e]
    exact sz_le (k := 10000) (by simp; omega) (by decide)
  · rw [e, List.nil_append]
    exact ⟨sz_le (k := 10000) (by simp; omega) (by decide), wH_keep rfl q⟩
theorem after_push_ok {k : Nat} (h1 : Gam 1 = some d1_part_fits) (h2 : Gam 2 = some d2_fits) (h3 : Gam 3 = some d3_line_of) (h40 : Gam 40 = some d40_asks_of) (h78 : Gam 78 = some d78_touched) (h79 : Gam 79 = some d79_after_push) (hb : Bg b) {m : Md} {ps : List (List W)} (lp : ps.length ≤ 1000) {S : List W} (ls : S.length ≤ 1000)
    (q : Q (.tup ((fallB m b ps S).map .str)) st) : wE (call gls Gam (k + 6) 79 [bookT b, .str m.w, .tup (ps.map pathT), .tup (S.map .str)] st) Q := by
  refine w_call h79 rfl ?_
  unfold d79_after_push
  cases m with
  | never =>
    simp [Md.w, eqW_dec]
    exact q
  | all =>
    simp [Md.w, eqW_dec, srcOf]
    refine w_loopF D.str D.str (fun w => !decide (w ∈ S)) (fun w hw acc Q q1 q2 => ?_) ?_ ?_
    · have hr : Row (S.map D.str) (.tup (S.map .str)) := .inl rfl
      simp [hr.notin, hw]
      exact q2 (by simpa using hw)
    · have := List.length_filter_le (fun w => !decide (w ∈ S)) S
      exact sz_le (k := 1000) (by simp; omega) (by decide)
    · have e : S.filter (fun w => !decide (w ∈ S)) = [] := List.filter_eq_nil_iff.mpr (by simp)
      rw [e]
      refine ⟨sz_le (k := 0) (Nat.le_refl _) (by decide), ?_⟩
      exact wH_keep rfl q
  | touched =>
    simp [Md.w, eqW_dec]
    refine touched_ok h1 h2 h3 h40 h78 hb lp ?_
    have hlen := touch_len hb ps
    simp [srcOf]
    refine w_loopF D.str D.str (fun w => !decide (w ∈ touchB b ps)) (fun w hw acc Q q1 q2 => ?_) ?_ ?_
    · have hr : Row ((touchB b ps).map D.str) (.lst ((touchB b ps).map .str)) := .inr rfl
      simp [hr.notin]
      split
      · rename_i h
        exact q2 (by simpa using h)
      · rename_i h
        exact q1 (by simpa using h)
    · have := List.length_filter_le (fun w => !decide (w ∈ touchB b ps)) S
      exact sz_le (k := 1000) (by simp; omega) (by decide)
    · have := List.length_filter_le (fun w => !decide (w ∈ touchB b ps)) S
      rw [List.nil_append]
      refine ⟨sz_le (k := 1000) (by simp; omega) (by decide), ?_⟩
      exact wH_keep rfl q
theorem after_event_ok {k : Nat} (h1 : Gam 1 = some d1_part_fits) (h2 : Gam 2 = some d2_fits) (h3 : Gam 3 = some d3_line_of) (h40 : Gam 40 = some d40_asks_of) (h78 : Gam 78 = some d78_touched) (h79 : Gam 79 = some d79_after_push) (h80 : Gam 80 = some d80_after_event) (hb : Bg b) {m : Md} {e : Evt} (he : EvOk e) {x : Sta} (hx : Fit 20 x)
    (q : Q (staT (stepB m b x e)) st) : wE (call gls Gam (k + 7) 80 [bookT b, .str m.w, evT e, staT x] st) Q := by
  refine w_call h80 rfl ?_
  unfold d80_after_event
  obtain ⟨x1, x2, x3⟩ := hx
  cases e with
  | push ps =>
    obtain ⟨e1, e2⟩ := he
    have hss : sortedSet (x.1.map pathT ++ ps.map pathT) = some ((ssP (x.1 ++ ps)).map pathT) := by
      rw [← List.map_append]
      exact sset_paths (fun p hp => ((List.mem_append.mp hp).elim (x3 p) (e2 p)).1) (by rw [List.length_append]; omega)
    have hl := ssP_len (x.1 ++ ps)
    rw [List.length_append] at hl
    simp [evT, staT, rowOf, eqW_dec, lstOf, hss, SZ]
    refine ⟨by omega, by omega, ?_⟩
    refine after_push_ok h1 h2 h3 h40 h78 h79 hb (by omega) (by omega) ?_
    exact wH_keep rfl q
  | appr w =>
    have hss : sortedSet (x.2.map D.str ++ [.str w]) = some ((ssW (x.2 ++ [w])).map .str) := by
      rw [show x.2.map D.str ++ [.str w] = (x.2 ++ [w]).map D.str by rw [List.map_append]; rfl]
      exact sset_str (by rw [List.length_append]; show x.2.length + 1 < 4095; omega)
    have hl := ssW_len (x.2 ++ [w])
    rw [List.length_append] at hl
    have hl : (ssW (x.2 ++ [w])).length ≤ x.2.length + 1 := hl
    simp [evT, staT, rowOf, eqW_dec, lstOf, hss, SZ]
    refine ⟨by omega, by omega, ?_⟩
    exact q
  | wdr w =>
    simp [evT, staT, eqW_dec, srcOf]
    refine w_loopF D.str D.str (fun z => !decide (z = w)) (fun z hz acc Q q1 q2 => ?_) ?_ ?_
    · simp [eqW_dec]
      split
      · rename_i h
        exact q2 (by simpa using h)
      · rename_i h
        exact q1 (by simpa using h)
    · have := List.length_filter_le (fun z => !decide (z = w)) x.2
      exact sz_le (k := 1000) (by simp; omega) (by decide)
    · have := List.length_filter_le (fun z => !decide (z = w)) x.2
      rw [List.nil_append]
      refine ⟨sz_le (k := 1000) (by simp; omega) (by decide), ?_⟩
      simp [SZ]
      exact q
def InS (b : Bk) (m : Md) (es : List Evt) (st : Store) (xs : List D) (env : Envr) (s : Store) : Prop := ∃ (done rest : List Evt) (o : Option D), done ++ rest = es ∧ xs = rest.map evT ∧ s = st ∧ env = [some (bookT b), some (.str m.w), some (.tup (es.map evT)), some (staT (standB m b done)), o] ∧ Fit done.length (standB m b done)
theorem standB_snoc (m : Md) (b : Bk) (es : List Evt) (e : Evt) : standB m b (es ++ [e]) = stepB m b (standB m b es) e := by
  unfold standB
  rw [List.foldl_append]
  rfl
theorem standL_snoc (m : Md) (b : Bk) (es : List Evt) (e : Evt) : standL m b (es ++ [e]) = stepL m b (standL m b es) e := by
  unfold standL
  rw [List.foldl_append]
  rfl
theorem Fit.up {n k : Nat} {x : Sta} (h : Fit n x) (hk : n ≤ k) : Fit k x := ⟨by have := h.1; omega, by have := h.2.1; omega, h.2.2⟩
theorem standB_fit {m : Md} {b : Bk} {es : List Evt} (he : ∀ e ∈ es, EvOk e) : Fit es.length (standB m b es) := by
  have : ∀ (es : List Evt) (n : Nat) (x : Sta), Fit n x → (∀ e ∈ es, EvOk e) → Fit (n + es.length) (es.foldl (stepB m b) x) := by
    intro es
    induction es with
    | nil => intro n x h _; exact h
    | cons e es ih =>
      intro n x h he
      have := ih (n + 1) _ (stepB_fit (m := m) (b := b) h (he e (List.mem_cons_self ..))) fun z hz => he z (List.mem_cons_of_mem _ hz)
      rw [List.length_cons, show n + (es.length + 1) = n + 1 + es.length by omega]
      exact this
  have := this es 0 ([], []) ⟨Nat.le_refl _, Nat.le_refl _, fun p hp => nomatch hp⟩ he
  rw [Nat.zero_add] at this
  exact this
theorem stands_ok {k : Nat} (h1 : Gam 1 = some d1_part_fits) (h2 : Gam 2 = some d2_fits) (h3 : Gam 3 = some d3_line_of) (h40 : Gam 40 = some d40_asks_of) (h78 : Gam 78 = some d78_touched) (h79 : Gam 79 = some d79_after_push) (h80 : Gam 80 = some d80_after_event) (h81 : Gam 81 = some d81_stands) (hb : Bg b) {m : Md} {es : List Evt} (he : ∀ e ∈ es, EvOk e) (hl : es.length ≤ 20)
    (q : Q (staT (standB m b es)) st) : wE (call gls Gam (k + 8) 81 [bookT b, .str m.w, .tup (es.map evT)] st) Q := by
  refine w_call h81 rfl ?_
  unfold d81_stands
  simp [srcOf, SZ]
  refine for_inv (InS b m es st) ⟨[], es, none, rfl, rfl, rfl, rfl, Nat.le_refl _, Nat.le_refl _, fun p hp => nomatch hp⟩ ?_ ?_
  · rintro x xs env s ⟨done, rest, o, hes, hx, rfl, rfl, hf⟩
    cases rest with
    | nil => cases hx
    | cons e rest =>
      cases hx
      have hle : done.length + (rest.length + 1) = es.length := by rw [← hes, List.length_append, List.length_cons]
      have hee := he e (by rw [← hes]; exact List.mem_append_right _ (List.mem_cons_self ..))
      simp
      refine after_event_ok h1 h2 h3 h40 h78 h79 h80 hb hee (hf.up (by omega)) ?_
      exact ⟨done ++ [e], rest, _, by rw [List.append_assoc]; exact hes, rfl, rfl, by rw [standB_snoc], by rw [standB_snoc, List.length_append]; exact stepB_fit hf hee⟩
  · rintro env s ⟨done, rest, o, hes, hx, rfl, rfl, hf⟩
    have hr : rest = [] := by cases rest with | nil => rfl | cons _ _ => cases hx
    subst hr
    rw [List.append_nil] at hes
    subst hes
    simp
    exact q
theorem lost_ok {k : Nat} (h1 : Gam 1 = some d1_part_fits) (h2 : Gam 2 = some d2_fits) (h3 : Gam 3 = some d3_line_of) (h40 : Gam 40 = some d40_asks_of) (h78 : Gam 78 = some d78_touched) (h79 : Gam 79 = some d79_after_push) (h80 : Gam 80 = some d80_after_event) (h81 : Gam 81 = some d81_stands) (h82 : Gam 82 = some d82_lost) (hb : Bg b)
    {m : Md} {es : List Evt} (he : ∀ e ∈ es, EvOk e) (hl : es.length ≤ 20) {ps : List (List W)} (lp : ps.length ≤ 1000) (hS : (standB m b es).2.length ≤ 1000) (q : Q (.lst (((standB m b es).2.filter fun w => !decide (w ∈ fallB m b ps (standB m b es).2)).map .str)) st) :
    wE (call gls Gam (k + 9) 82 [bookT b, .str m.w, .tup (es.map evT), .tup (ps.map pathT)] st) Q := by
  refine w_call h82 rfl ?_
  unfold d82_lost
  simp
  refine stands_ok h1 h2 h3 h40 h78 h79 h80 h81 hb he hl ?_
  simp [staT]
  refine after_push_ok (k := k + 2) h1 h2 h3 h40 h78 h79 hb lp hS ?_
  have hf := fall_len m b ps (standB m b es).2
  simp [srcOf]
  refine w_loopF D.str D.str (fun w => !decide (w ∈ fallB m b ps (standB m b es).2)) (fun w hw acc Q q1 q2 => ?_) ?_ ?_
  · have hr : Row ((fallB m b ps (standB m b es).2).map D.str) (.tup ((fallB m b ps (standB m b es).2).map .str)) := .inl rfl
    simp [hr.notin]
    split
    · rename_i h
      exact q2 (by simpa using h)
    · rename_i h
      exact q1 (by simpa using h)
  · have := List.length_filter_le (fun w => !decide (w ∈ fallB m b ps (standB m b es).2)) (standB m b es).2
    exact sz_le (k := 1000) (by simp; omega) (by decide)
  · have := List.length_filter_le (fun w => !decide (w ∈ fallB m b ps (standB m b es).2)) (standB m b es).2
    rw [List.nil_append]
    exact ⟨sz_le (k := 1000) (by simp; omega) (by decide), wH_keep rfl q⟩
/-! the law's own -/
def InF (b : Bk) (ps : List (List W)) (S : List W) (o3 : D) (x1 : D) (st : Store) (xs : List D) (env : Envr) (s : Store) : Prop := ∃ (done rest : List (List W)) (o5 o6 o7 : Option D), done ++ rest = ps ∧ xs = rest.map pathT ∧ s = st ∧ env = [some (bookT b), some x1, some (.tup (ps.map pathT)), some (o3), some (.lst ((touchB b done).map .str)), o5, o6, o7, none]
def InG (b : Bk) (p : List W) (base : List W) (pre : List (Option D)) (o5 : Option D) (st : Store) (xs : List D) (env : Envr) (s : Store) : Prop := ∃ (done rest : List Ask) (o6 o7 : Option D), done ++ rest = needs b p ∧ xs = rest.map needT ∧ s = st ∧ env = pre ++ [some (.lst ((base ++ done.flatMap (·.1)).map .str)), o5, o6, o7, none]
theorem law_fall_ok {k : Nat} (h14 : Gam 14 = some d14_l_fits) (h15 : Gam 15 = some d15_l_counts) (h44 : Gam 44 = some d44_l_needs) (h84 : Gam 84 = some d84_l_fall) (hb : Bg b) {m : Md} {ps : List (List W)} (lp : ps.length ≤ 1000) (hne : ∀ p ∈ ps, p ≠ []) {S : List W} (ls : S.length ≤ 1000) {d : D} (hd : Row (S.map .str) d)
    (q : Q (.lst ((fallB m b ps S).map .str)) st) : wE (call gls Gam (k + 7) 84 [bookT b, .str m.w, .tup (ps.map pathT), d] st) Q := by
  refine w_call h84 rfl ?_
  unfold d84_l_fall
  cases m with
  | all =>
    simp [Md.w, eqW_dec, SZ]
    exact q
  | never =>
    rcases hd with rfl | rfl
    all_goals
      simp [Md.w, eqW_dec, SZ, srcOf]
      refine for_inv (fun (xs : List D) (env : Envr) (s : Store) => xs = [] ∧ s = st ∧ env = [some (bookT b), some (D.str [110, 101, 118, 101, 114]), some (D.tup (List.map pathT ps)), some _, some (D.lst []), none, none, none, none]) ⟨rfl, rfl, rfl⟩ (fun x xs env s h => by cases h.1) ?_
      rintro env s ⟨_, rfl, rfl⟩
      simp
      refine w_loopM D.str D.str (fun w hw acc Q h => ?_) ?_ ?_
      · simp [notin_lst (pl_str w) (show noRefs [] = true from rfl) (by simp [deps])]
        simp [memD]
        exact h
      · exact sz_le (k := 1000) (by simpa using ls) (by decide)
      · rw [List.nil_append]
        exact ⟨sz_le (k := 1000) (by simpa using ls) (by decide), wH_keep rfl q⟩
  | touched =>
    have hlen := touch_len hb ps
    rcases hd with rfl | rfl
    all_goals
      simp [Md.w, eqW_dec, SZ, srcOf]
      refine for_inv (InF b ps S _ _ st) ⟨[], ps, none, none, none, rfl, rfl, rfl, rfl⟩ ?_ ?_
      · rintro x xs env s ⟨done, rest, o5, o6, o7, hps, hx, rfl, rfl⟩
        cases rest with
        | nil => cases hx
        | cons p rest =>
          cases hx
          have hp : p ∈ ps := by rw [← hps]; exact List.mem_append_right _ (List.mem_cons_self ..)
          have hdl : (touchB b (done ++ [p])).length ≤ (touchB b ps).length := by
            rw [← hps]
            unfold touchB
            rw [List.flatMap_append, List.flatMap_append, List.length_append, List.length_append, List.flatMap_cons, List.length_append]
            simp
          have hsn : touchB b (done ++ [p]) = touchB b done ++ (needs b p).flatMap (·.1) := by
            unfold touchB
            rw [List.flatMap_append]
            simp
          rw [hsn, List.length_append] at hdl
          simp
          refine law_needs_ok (k := k) h14 h15 h44 hb (hne p hp) ?_
          simp [srcOf]
          refine for_inv (InG b p (touchB b done) [some (bookT b), some _, some (.tup (ps.map pathT)), some _] (some (pathT p)) s) ⟨[], needs b p, o6, o7, rfl, rfl, rfl, by rw [List.flatMap_nil, List.append_nil]; rfl⟩ ?_ ?_
          · rintro y ys env s ⟨dn, rs, o6, o7, hns, hy, rfl, rfl⟩
            cases rs with
            | nil => cases hy
            | cons a rs =>
              cases hy
              have hal : ((dn ++ [a]).flatMap (·.1)).length ≤ ((needs b p).flatMap (·.1)).length := by
                rw [← hns, List.flatMap_append, List.flatMap_append, List.length_append, List.length_append, List.flatMap_cons, List.length_append]
                simp
              rw [List.flatMap_append, List.length_append] at hal
              simp at hal
              have hd2 := hdl
              simp only [List.length_flatMap] at hd2
              simp [needT, pathT, SZ]
              refine ⟨by omega, by omega, dn ++ [a], rs, some (.tup (a.1.map .str)), some (.int a.2), by rw [List.append_assoc]; exact hns, rfl, rfl, ?_⟩
              simp [pathT]
          · rintro env s ⟨dn, rs, o6, o7, hns, hy, rfl, rfl⟩
            have hr : rs = [] := by cases rs with | nil => rfl | cons _ _ => cases hy
            subst hr
            rw [List.append_nil] at hns
            subst hns
            exact ⟨done ++ [p], rest, _, _, _, by rw [List.append_assoc]; exact hps, rfl, rfl, by rw [hsn]; rfl⟩
      · rintro env s ⟨done, rest, o5, o6, o7, hps, hx, rfl, rfl⟩
        have hr : rest = [] := by cases rest with | nil => rfl | cons _ _ => cases hx
        subst hr
        rw [List.append_nil] at hps
        subst hps
        simp [srcOf]
        refine w_loopF D.str D.str (fun w => !decide (w ∈ touchB b done)) (fun w hw acc Q q1 q2 => ?_) ?_ ?_
        · have hr : Row ((touchB b done).map D.str) (.lst ((touchB b done).map .str)) := .inr rfl
          simp [hr.notin]
          split
          · rename_i h
            exact q2 (by simpa using h)
          · rename_i h
            exact q1 (by simpa using h)
        · have := List.length_filter_le (fun w => !decide (w ∈ touchB b done)) S
          exact sz_le (k := 1000) (by simp; omega) (by decide)
        · have := List.length_filter_le (fun w => !decide (w ∈ touchB b done)) S
          rw [List.nil_append]
          exact ⟨sz_le (k := 1000) (by simp; omega) (by decide), wH_keep rfl q⟩
theorem event_ok {k : Nat} {c : Cell} (h4 : Gam 4 = some d4_l_draw) (h13 : Gam 13 = some d13_l_path) (h33 : Gam 33 = some d33_l_push) (h43 : Gam 43 = some d43_l_who) (h83 : Gam 83 = some d83_l_event) (ht : IsTape c) (q : ∀ e c', EvOk e → IsTape c' → Q (evT e) (c' :: st)) : wE (call gls Gam (k + 4) 83 [.ref 0] (c :: st)) Q := by
  refine w_call h83 rfl ?_
  unfold d83_l_event
  simp [SZ]
  refine draw_ok h4 (by decide) (by decide) ht fun r c1 r0 r1 ht1 => ?_
  simp [SZ]
  split
  · refine push_ok h4 h13 h33 ht1 fun ps c2 hps ht2 => ?_
    exact wH_keep rfl (q (.push ps) c2 ⟨hps.2.1, fun p hp => ⟨(hps.2.2.1 p hp).1, (hps.2.2.1 p hp).2.1⟩⟩ ht2)
  · split
    · refine who_ok h4 h43 ht1 fun w c2 _ ht2 => ?_
      exact wH_keep rfl (q (.wdr w) c2 trivial ht2)
    · refine who_ok h4 h43 ht1 fun w c2 _ ht2 => ?_
      exact wH_keep rfl (q (.appr w) c2 trivial ht2)
def InL (b : Bk) (m : Md) (es : List Evt) (st : Store) (xs : List D) (env : Envr) (s : Store) : Prop := ∃ (done rest : List Evt) (o5 o6 : Option D), done ++ rest = es ∧ xs = rest.map evT ∧ s = st ∧ env = [some (bookT b), some (.str m.w), some (.tup (es.map evT)), some (.lst ((standL m b done).1.map pathT)), some (.lst ((standL m b done).2.map .str)), o5, o6, none] ∧ Fit done.length (standL m b done)
theorem law_stand_ok {k : Nat} (h14 : Gam 14 = some d14_l_fits) (h15 : Gam 15 = some d15_l_counts) (h44 : Gam 44 = some d44_l_needs) (h84 : Gam 84 = some d84_l_fall) (h85 : Gam 85 = some d85_l_stand) (hb : Bg b) {m : Md} {es : List Evt} (he : ∀ e ∈ es, EvOk e) (hl : es.length ≤ 20)
    (q : Q (staT (standB m b es)) st) : wE (call gls Gam (k + 8) 85 [bookT b, .str m.w, .tup (es.map evT)] st) Q := by
  refine w_call h85 rfl ?_
  unfold d85_l_stand
  simp [srcOf, SZ]
  refine for_inv (InL b m es st) ⟨[], es, none, none, rfl, rfl, rfl, rfl, Nat.le_refl _, Nat.le_refl _, fun p hp => nomatch hp⟩ ?_ ?_
  · rintro x xs env s ⟨done, rest, o5, o6, hes, hx, rfl, rfl, hf⟩
    cases rest with
    | nil => cases hx
    | cons e rest =>
      cases hx
      have hle : done.length + (rest.length + 1) = es.length := by rw [← hes, List.length_append, List.length_cons]
      have hee := he e (by rw [← hes]; exact List.mem_append_right _ (List.mem_cons_self ..))
      have next : ∀ o5 o6, InL b m es s (rest.map evT) [some (bookT b), some (.str m.w), some (.tup (es.map evT)), some (.lst ((stepL m b (standL m b done) e).1.map pathT)), some (.lst ((stepL m b (standL m b done) e).2.map .str)), o5, o6, none] s := fun o5 o6 =>
        ⟨done ++ [e], rest, o5, o6, by rw [List.append_assoc]; exact hes, rfl, rfl, by rw [standL_snoc], by rw [standL_snoc, List.length_append]; exact stepL_fit hf hee⟩
      obtain ⟨f1, f2, f3⟩ := hf
      revert next f1 f2 f3
      generalize standL m b done = x
      intro next f1 f2 f3
      cases e with
      | push ps =>
        obtain ⟨e1, e2⟩ := hee
        simp [evT, eqW_dec, SZ]
        refine ⟨by omega, by omega, ?_⟩
        refine law_fall_ok (k := k) h14 h15 h44 h84 hb (by omega) (fun p hp => (e2 p hp).1) (by omega) (.inr rfl) ?_
        simpa [stepL] using next _ _
      | appr w =>
        simp [evT, eqW_dec, SZ]
        refine ⟨by omega, ?_⟩
        simpa [stepL] using next _ _
      | wdr w =>
        simp [evT, eqW_dec, SZ, srcOf]
        refine w_loopF D.str D.str (fun z => !decide (z = w)) (fun z hz acc Q q1 q2 => ?_) ?_ ?_
        · simp [eqW_dec]
          split
          · rename_i h
            exact q2 (by simpa using h)
          · rename_i h
            exact q1 (by simpa using h)
        · have := List.length_filter_le (fun z => !decide (z = w)) x.2
          exact sz_le (k := 1000) (by simp; omega) (by decide)
        · have := List.length_filter_le (fun z => !decide (z = w)) x.2
          rw [List.nil_append]
          refine ⟨by simp; omega, ?_⟩
          exact next _ _
  · rintro env s ⟨done, rest, o5, o6, hes, hx, rfl, rfl, hf⟩
    have hr : rest = [] := by cases rest with | nil => rfl | cons _ _ => cases hx
    subst hr
    rw [List.append_nil] at hes
    subst hes
    obtain ⟨f1, f2, f3⟩ := hf
    rw [stand_law] at q
    have s1 := sset_paths (fun p hp => (f3 p hp).1) (show (standL m b done).1.length < 64 by omega)
    have s2 := sset_str (ws := (standL m b done).2) (by omega)
    have l1 := ssP_len (standL m b done).1
    have l2 := ssW_len (standL m b done).2
    simp [lstOf, s1, s2, SZ]
    refine ⟨by omega, by omega, ?_⟩
    exact q
end
end Ow
/-! People, their subsets in order, the fewest approvers. -/
namespace Ow
open PySem PySem.Spec PyProof.Rows L2
def peopleB (b : Bk) : List W := ssW (b.teams.flatMap (·.2))
def subsL (ws : List W) : List (List W) := ws.foldl (fun acc w => acc ++ acc.map (· ++ [w])) [[]]
theorem subsL_snoc (ws : List W) (w : W) : subsL (ws ++ [w]) = subsL ws ++ (subsL ws).map (· ++ [w]) := by
  unfold subsL
  rw [List.foldl_append]
  rfl
theorem snoc_ind {P : List W → Prop} (h0 : P []) (h1 : ∀ ws w, P ws → P (ws ++ [w])) (ws : List W) : P ws := by
  have : ∀ ws : List W, P ws.reverse := by
    intro ws
    induction ws with
    | nil => exact h0
    | cons w ws ih => rw [List.reverse_cons]; exact h1 _ _ ih
  have := this ws.reverse
  rwa [List.reverse_reverse] at this
theorem subsL_sub (ws : List W) : ∀ r ∈ subsL ws, ∀ w ∈ r, w ∈ ws := by
  refine snoc_ind (P := fun ws => ∀ r ∈ subsL ws, ∀ w ∈ r, w ∈ ws) ?_ ?_ ws
  · intro r hr w hw
    have : r = [] := by simpa [subsL] using hr
    rw [this] at hw
    cases hw
  · intro ws v ih r hr w hw
    rw [subsL_snoc] at hr
    rcases List.mem_append.mp hr with h | h
    · exact List.mem_append_left _ (ih r h w hw)
    · obtain ⟨q, hq, rfl⟩ := List.mem_map.mp h
      rcases List.mem_append.mp hw with z | z
      · exact List.mem_append_left _ (ih q hq w z)
      · exact List.mem_append_right _ z
theorem subsL_filter (f : W → Bool) (ws : List W) : ∀ r ∈ subsL ws, r.filter f ∈ subsL ws := by
  refine snoc_ind (P := fun ws => ∀ r ∈ subsL ws, r.filter f ∈ subsL ws) ?_ ?_ ws
  · intro r hr
    have : r = [] := by simpa [subsL] using hr
    rw [this]
    simp [subsL]
  · intro ws v ih r hr
    rw [subsL_snoc] at hr ⊢
    rcases List.mem_append.mp hr with h | h
    · exact List.mem_append_left _ (ih r h)
    · obtain ⟨q, hq, rfl⟩ := List.mem_map.mp h
      rw [List.filter_append]
      by_cases hv : f v = true
      · refine List.mem_append_right _ (List.mem_map.mpr ⟨q.filter f, ih q hq, ?_⟩)
        simp [hv]
      · refine List.mem_append_left _ ?_
        have : [v].filter f = [] := by simp [hv]
        rw [this, List.append_nil]
        exact ih q hq
theorem subsL_full (ws : List W) : ws ∈ subsL ws := by
  refine snoc_ind (P := fun ws => ws ∈ subsL ws) (by simp [subsL]) (fun ws v ih => ?_) ws
  rw [subsL_snoc]
  exact List.mem_append_right _ (List.mem_map.mpr ⟨ws, ih, rfl⟩)
theorem subsL_len (ws : List W) : (subsL ws).length = 2 ^ ws.length := by
  refine snoc_ind (P := fun ws => (subsL ws).length = 2 ^ ws.length) (by simp [subsL]) (fun ws v ih => ?_) ws
  rw [subsL_snoc, List.length_append, List.length_map, ih, List.length_append]
  show 2 ^ ws.length + 2 ^ ws.length = 2 ^ (ws.length + 1)
  rw [Nat.pow_succ]
  omega
theorem srtR_mem {xs : List (List W)} {z : List W} : z ∈ srtR xs ↔ z ∈ xs := (kdR.srt_perm xs).mem_iff
theorem srtR_len (xs : List (List W)) : (srtR xs).length = xs.length := (kdR.srt_perm xs).length_eq
theorem srtR_sorted (xs : List (List W)) : (srtR xs).Pairwise (fun a b => leW a b = true) := kdR.srt_sorted xs
theorem leW_len {a b : List W} (h : leW a b = true) : a.length ≤ b.length := by
  rcases Nat.lt_or_ge b.length a.length with hlt | hge
  · exfalso
    have h' : lexLt itemOrd (keyTok b) (keyTok a) = false := by
      have : (!lexLt itemOrd (keyTok b) (keyTok a)) = true := h
      simpa using this
    unfold keyTok at h'
    have e : itemLt (.inl (b.length : Int)) (.inl (a.length : Int)) = true := by
      show decide ((b.length : Int) < (a.length : Int)) = true
      exact decide_eq_true (by omega)
    simp [PyProof.Rows.lexLt, itemLt] at h'
    omega
  · exact hge
section
variable {gls : Nat → D} {cal : Cal} {Gam : Nat → Option FDef} {env : Envr} {Q : D → Store → Prop} {st : Store} {b : Bk} {m : Bool}
theorem w_skeyx {f : Nat} {a : Ex} : wE (ev gls cal (.skey m f a) env st) Q = wE (ev gls cal a env st) fun x s1 => match lstOf s1 x with
    | some xs => (xs.all isRow = true ∧ (decide (f = 0) = true → hasTab (gls 999) s1 = true)) ∧ wE (mkL m ((sortP (xs.map fun x => (lenKey x, x))).map (·.2)) s1) Q
    | none => False := by
  rw [ev]
  cases ev gls cal a env st with
  | none => rfl
  | some p =>
    obtain ⟨x, s1⟩ := p
    show wE (match lstOf s1 x with | some xs => _ | none => none) Q = _
    cases h : lstOf s1 x with
    | none => simp [h]
    | some xs =>
      simp only [wE_some, h, wE_ite, wE_none]
      exact ite_and
theorem rows_all : ∀ rs : List (List W), (rs.map pathT).all isRow = true
  | [] => rfl
  | r :: rs => by
    show (allStr (r.map D.str) && (rs.map pathT).all isRow) = true
    rw [allStr_str, rows_all rs]
    rfl
theorem subsL_short (ws : List W) : ∀ r ∈ subsL ws, r.length ≤ ws.length := by
  refine snoc_ind (P := fun ws => ∀ r ∈ subsL ws, r.length ≤ ws.length) ?_ ?_ ws
  · intro r hr
    have : r = [] := by simpa [subsL] using hr
    rw [this]
    exact Nat.le_refl _
  · intro ws v ih r hr
    rw [subsL_snoc] at hr
    rw [List.length_append]
    rcases List.mem_append.mp hr with h | h
    · exact Nat.le_add_right_of_le (ih r h)
    · obtain ⟨q, hq, rfl⟩ := List.mem_map.mp h
      rw [List.length_append]
      exact Nat.add_le_add_right (ih q hq) _
theorem sub_pow {ws done rest : List W} {w : W} (h : done ++ w :: rest = ws) (hl : ws.length ≤ 20) : 2 ^ done.length + 2 ^ done.length ≤ 2 ^ 20 := by
  have : done.length + 1 ≤ 20 := by
    rw [← h, List.length_append, List.length_cons] at hl
    omega
  have h2 := Nat.pow_le_pow_right (n := 2) (by decide) this
  rw [Nat.pow_succ] at h2
  omega
def InSub (ws : List W) (d : D) (st : Store) (xs : List D) (env : Envr) (s : Store) : Prop := ∃ (done rest : List W) (o2 : Option D), done ++ rest = ws ∧ xs = rest.map .str ∧ s = st ∧ env = [some d, some (.lst ((subsL done).map pathT)), o2, none]
theorem subsets_ok {k : Nat} (h52 : Gam 52 = some d52_subsets) {ws : List W} {d : D} (hd : Row (ws.map .str) d) (hl : ws.length ≤ 20) (ht : hasTab (gls 999) st = true) (q : Q (.lst ((srtR (subsL ws)).map pathT)) st) : wE (call gls Gam (k + 1) 52 [d] st) Q := by
  refine w_call h52 rfl ?_
  unfold d52_subsets
  rcases hd with rfl | rfl
  all_goals
    simp [SZ, srcOf]
    refine for_inv (InSub ws _ st) ⟨[], ws, none, rfl, rfl, rfl, rfl⟩ ?_ ?_
    · rintro x xs env s ⟨done, rest, o2, hes, hx, rfl, rfl⟩
      cases rest with
      | nil => cases hx
      | cons w rest =>
        cases hx
        have hp := sub_pow (ws := ws) hes hl
        have hlen := subsL_len done
        simp [srcOf]
        refine w_loopM pathT (fun r => pathT (r ++ [w])) (fun r hr acc Q h => ?_) ?_ ?_
        · have hrl := subsL_short done r hr
          have hdl : done.length ≤ 20 := by rw [← hes, List.length_append] at hl; omega
          simp [pathT, rowOf, SZ]
          refine ⟨by omega, ?_⟩
          simpa [pathT, SZ] using h
        · exact sz_le (k := 2 ^ 20) (by simp; omega) (by decide)
        · simp
          refine ⟨sz_le (k := 2 ^ 20) (by omega) (by decide), sz_le (k := 2 ^ 20) (by omega) (by decide), done ++ [w], rest, some (.str w), by rw [List.append_assoc]; exact hes, rfl, rfl, ?_⟩
          rw [subsL_snoc, List.map_append, List.map_map]
          rfl
    · rintro env s ⟨done, rest, o2, hes, hx, rfl, rfl⟩
      have hr : rest = [] := by cases rest with | nil => rfl | cons _ _ => cases hx
      subst hr
      rw [List.append_nil] at hes
      subst hes
      have hp : 2 ^ done.length ≤ 2 ^ 20 := Nat.pow_le_pow_right (by decide) hl
      have hlen := subsL_len done
      have hsl := srtR_len (subsL done)
      have e : (sortP (((subsL done).map pathT).map fun x => (lenKey x, x))).map (·.2) = (srtR (subsL done)).map pathT := skey_enc (subsL done)
      simp only [w_sms1, w_ret, w_skeyx, w_var, List.getElem?_cons_succ, List.getElem?_cons_zero, lstOf, e, mkL_fr]
      exact ⟨⟨rows_all _, fun _ => ht⟩, sz_le (k := 2 ^ 20) (by rw [List.length_map]; omega) (by decide), wH_keep rfl q⟩
theorem sets_ok {k : Nat} (h60 : Gam 60 = some d60_l_sets) {ws : List W} {d : D} (hd : Row (ws.map .str) d) (hl : ws.length ≤ 20) (ht : hasTab (gls 999) st = true) (q : Q (.lst ((srtR (subsL ws)).map pathT)) st) : wE (call gls Gam (k + 1) 60 [d] st) Q := by
  refine w_call h60 rfl ?_
  unfold d60_l_sets
  rcases hd with rfl | rfl
  all_goals
    simp [SZ, srcOf]
    refine for_inv (InSub ws _ st) ⟨[], ws, none, rfl, rfl, rfl, rfl⟩ ?_ ?_
    · rintro x xs env s ⟨done, rest, o2, hes, hx, rfl, rfl⟩
      cases rest with
      | nil => cases hx
      | cons w rest =>
        cases hx
        have hp := sub_pow (ws := ws) hes hl
        have hlen := subsL_len done
        simp [srcOf]
        refine w_loopM pathT (fun r => pathT (r ++ [w])) (fun r hr acc Q h => ?_) ?_ ?_
        · have hrl := subsL_short done r hr
          have hdl : done.length ≤ 20 := by rw [← hes, List.length_append] at hl; omega
          simp [pathT, rowOf, SZ]
          refine ⟨by omega, ?_⟩
          simpa [pathT, SZ] using h
        · exact sz_le (k := 2 ^ 20) (by simp; omega) (by decide)
        · simp
          refine ⟨sz_le (k := 2 ^ 20) (by omega) (by decide), sz_le (k := 2 ^ 20) (by omega) (by decide), done ++ [w], rest, some (.str w), by rw [List.append_assoc]; exact hes, rfl, rfl, ?_⟩
          rw [subsL_snoc, List.map_append, List.map_map]
          rfl
    · rintro env s ⟨done, rest, o2, hes, hx, rfl, rfl⟩
      have hr : rest = [] := by cases rest with | nil => rfl | cons _ _ => cases hx
      subst hr
      rw [List.append_nil] at hes
      subst hes
      have hp : 2 ^ done.length ≤ 2 ^ 20 := Nat.pow_le_pow_right (by decide) hl
      have hlen := subsL_len done
      have hsl := srtR_len (subsL done)
      have e : (sortP (((subsL done).map pathT).map fun x => (lenKey x, x))).map (·.2) = (srtR (subsL done)).map pathT := skey_enc (subsL done)
      simp only [w_sms1, w_ret, w_skeyx, w_var, List.getElem?_cons_succ, List.getElem?_cons_zero, lstOf, e, mkL_fr]
      exact ⟨⟨rows_all _, fun _ => ht⟩, sz_le (k := 2 ^ 20) (by rw [List.length_map]; omega) (by decide), wH_keep rfl q⟩
theorem all_len : ∀ (ts : List Tm), (∀ t ∈ ts, t.2.length ≤ 5) → (ts.flatMap (·.2)).length ≤ 5 * ts.length
  | [], _ => by simp
  | t :: ts, h => by
    have := all_len ts fun z hz => h z (List.mem_cons_of_mem _ hz)
    have := h t (List.mem_cons_self ..)
    rw [List.flatMap_cons, List.length_append, List.length_cons]
    omega
theorem people_len (hb : Bg b) : (peopleB b).length ≤ 20 := by
  have h1 := ssW_len (b.teams.flatMap (·.2))
  have h2 := all_len b.teams hb.ml
  have h3 := hb.tl
  unfold peopleB
  omega
theorem people_ok {k : Nat} (h28 : Gam 28 = some d28_people) (hb : Bg b) (q : Q (.lst ((peopleB b).map .str)) st) : wE (call gls Gam (k + 1) 28 [bookT b] st) Q := by
  refine w_call h28 rfl ?_
  unfold d28_people
  have h2 := all_len b.teams hb.ml
  have h3 := hb.tl
  have e : b.teams.flatMap (fun t => t.2.map D.str) = (b.teams.flatMap (·.2)).map .str := by rw [List.map_flatMap]
  have hss := sset_str (ws := b.teams.flatMap (·.2)) (by omega)
  have hpl := people_len hb
  simp [bookT_0, srcOf]
  refine w_loopX teamT (fun t => t.2.map D.str) (fun t ht acc Q hacc q => ?_) ?_ ?_
  · simp [teamT, pathT, srcOf]
    refine w_loopM D.str D.str (fun w hw acc Q h => ?_) (by simpa using hacc) q
    simp [SZ]
    exact h
  · rw [e]
    exact sz_le (k := 100) (by rw [List.length_map]; show 0 + _ ≤ 100; omega) (by decide)
  · rw [e, List.nil_append]
    refine ⟨sz_le (k := 100) (by rw [List.length_map]; omega) (by decide), ?_⟩
    simp only [lstOf, hss, mkL_fr]
    exact ⟨sz_le (k := 100) (by rw [List.length_map]; unfold peopleB at hpl; omega) (by decide), wH_keep rfl q⟩
theorem others_ok {k : Nat} (h28 : Gam 28 = some d28_people) (h69 : Gam 69 = some d69_others) (hb : Bg b) {au : W} (q : Q (.lst ((others au (peopleB b)).map .str)) st) : wE (call gls Gam (k + 2) 69 [bookT b, .str au] st) Q := by
  refine w_call h69 rfl ?_
  unfold d69_others
  have hpl := people_len hb
  simp
  refine people_ok h28 hb ?_
  simp [srcOf]
  have hf := List.length_filter_le (fun w => !decide (w = au)) (peopleB b)
  refine w_loopF D.str D.str (fun w => !decide (w = au)) (fun w _ acc Q h1 h2 => ?_) ?_ ?_
  · simp [eqW_dec]
    split
    · rename_i h
      exact h2 (by simpa using h)
    · rename_i h
      exact h1 (by simpa using h)
  · exact sz_le (k := 100) (by simp; omega) (by decide)
  · rw [List.nil_append]
    exact ⟨sz_le (k := 100) (by simp; omega) (by decide), wH_keep rfl q⟩
def oR : Option (List W) → D
  | none => .non
  | some r => pathT r
def rowsB (b : Bk) (au : W) : List (List W) := srtR (subsL (others au (peopleB b)))
def InFew (b : Bk) (au : W) (dp : D) (f : List W → Bool) (st : Store) (xs : List D) (env : Envr) (s : Store) : Prop := ∃ (rest : List (List W)) (o3 : Option D), xs = rest.map pathT ∧ s = st ∧ env = [some (bookT b), some (.str au), some dp, o3] ∧ (rowsB b au).find? f = rest.find? f ∧ ∀ r ∈ rest, r.length ≤ 20
theorem fewest_ok {k : Nat} (h28 : Gam 28 = some d28_people) (h1 : Gam 1 = some d1_part_fits) (h2 : Gam 2 = some d2_fits) (h3 : Gam 3 = some d3_line_of) (h40 : Gam 40 = some d40_asks_of) (h41 : Gam 41 = some d41_enough) (h42 : Gam 42 = some d42_can_land) (h52 : Gam 52 = some d52_subsets) (h69 : Gam 69 = some d69_others) (h70 : Gam 70 = some d70_fewest_approvers)
    (hb : Bg b) (ht : hasTab (gls 999) st = true) {au : W} {ps : List (List W)} {dp : D} (hp : Row (ps.map pathT) dp) (lp : ps.length ≤ 100000) (q : Q (oR ((rowsB b au).find? fun r => landB b au ps r)) st) : wE (call gls Gam (k + 6) 70 [bookT b, .str au, dp] st) Q := by
  refine w_call h70 rfl ?_
  unfold d70_fewest_approvers
  have hpl := people_len hb
  have hol := List.length_filter_le (fun w => !decide (w = au)) (peopleB b)
  have hol : (others au (peopleB b)).length ≤ 20 := Nat.le_trans hol hpl
  simp
  refine others_ok (k := k + 3) h28 h69 hb ?_
  refine subsets_ok (k := k + 4) h52 (ws := others au (peopleB b)) (.inr rfl) hol ht ?_
  simp [srcOf]
  refine for_inv (InFew b au dp (fun r => landB b au ps r) st) ⟨rowsB b au, none, rfl, rfl, rfl, rfl, fun r hr => Nat.le_trans (subsL_short _ r (srtR_mem.mp hr)) hol⟩ ?_ ?_
  · rintro x xs env s ⟨rest, o3, hx, rfl, rfl, hf, hr⟩
    cases rest with
    | nil => cases hx
    | cons r rest =>
      cases hx
      have hrl := hr r (List.mem_cons_self ..)
      simp
      refine can_land_ok (k := k) h1 h2 h3 h40 h41 h42 hb (ps := ps) (ws := r) hp (.inl rfl) lp (by omega) ?_
      simp only [wT_bl]
      split
      · rename_i h
        rw [hf, List.find?_cons_of_pos h] at q
        simp
        exact q
      · rename_i h
        refine ⟨rest, _, rfl, rfl, rfl, ?_, fun z hz => hr z (List.mem_cons_of_mem _ hz)⟩
        rw [hf, List.find?_cons_of_neg h]
  · rintro env s ⟨rest, o3, hx, rfl, rfl, hf, hr⟩
    have hr0 : rest = [] := by cases rest with | nil => rfl | cons _ _ => cases hx
    subst hr0
    rw [hf] at q
    simp
    exact q
def InPe (b : Bk) (st : Store) (xs : List D) (env : Envr) (s : Store) : Prop := ∃ (done rest : List Tm) (o2 o3 : Option D), done ++ rest = b.teams ∧ xs = rest.map teamT ∧ s = st ∧ env = [some (bookT b), some (.lst ((done.flatMap (·.2)).map .str)), o2, o3]
theorem law_people_ok {k : Nat} (h34 : Gam 34 = some d34_l_people) (hb : Bg b) (q : Q (.lst ((peopleB b).map .str)) st) : wE (call gls Gam (k + 1) 34 [bookT b] st) Q := by
  refine w_call h34 rfl ?_
  unfold d34_l_people
  have h2 := all_len b.teams hb.ml
  have h3 := hb.tl
  simp [bookT_0, srcOf, SZ]
  refine for_inv (InPe b st) ⟨[], b.teams, none, none, rfl, rfl, rfl, rfl⟩ ?_ ?_
  · rintro x xs env s ⟨done, rest, o2, o3, hes, hx, rfl, rfl⟩
    cases rest with
    | nil => cases hx
    | cons t rest =>
      cases hx
      have hml : ∀ z ∈ done ++ [t], z.2.length ≤ 5 := fun z hz => hb.ml z (by
        rw [← hes]
        rcases List.mem_append.mp hz with h | h
        · exact List.mem_append_left _ h
        · rw [List.mem_singleton.mp h]; exact List.mem_append_right _ (List.mem_cons_self ..))
      have hd := all_len (done ++ [t]) hml
      have hdl : (done ++ [t]).length ≤ 4 := by
        rw [← hes, List.length_append, List.length_cons] at h3
        rw [List.length_append]
        show done.length + 1 ≤ 4
        omega
      have hsn : (done ++ [t]).flatMap (·.2) = done.flatMap (·.2) ++ t.2 := by rw [List.flatMap_append]; simp
      have htl := hml t (List.mem_append_right _ (List.mem_cons_self ..))
      rw [hsn, List.length_append] at hd
      have hfl : (done.flatMap (·.2)).length ≤ 20 := by omega
      have e : (done.flatMap (·.2)).map D.str ++ t.2.map .str = ((done ++ [t]).flatMap (·.2)).map .str := by rw [hsn, List.map_append]
      simp only [w_forB, teamT, bind_tp, w_sms1, w_sms0, w_asg, w_bin, w_var, w_bix, w_evs1, w_evs0, each0, each1, pathT, lst_tup, mkL_fr, bin_addL, bind_nm, List.length_cons, List.length_nil, if_true, List.set_cons_succ, List.set_cons_zero, List.getElem?_cons_succ, List.getElem?_cons_zero, e]
      refine ⟨sz_le (k := 100) (by rw [List.length_map]; omega) (by decide), sz_le (k := 100) (by rw [List.length_map, hsn, List.length_append]; omega) (by decide), done ++ [t], rest, _, _, by rw [List.append_assoc]; exact hes, rfl, rfl, rfl⟩
  · rintro env s ⟨done, rest, o2, o3, hes, hx, rfl, rfl⟩
    have hr0 : rest = [] := by cases rest with | nil => rfl | cons _ _ => cases hx
    subst hr0
    rw [List.append_nil] at hes
    subst hes
    have hss := sset_str (ws := b.teams.flatMap (·.2)) (by omega)
    have hpl := people_len hb
    simp only [w_sms1, w_ret, w_ssetx, w_var, List.getElem?_cons_succ, List.getElem?_cons_zero, lstOf, hss, mkL_fr]
    exact ⟨sz_le (k := 100) (by rw [List.length_map]; unfold peopleB at hpl; omega) (by decide), wH_keep rfl q⟩
end
end Ow
/-! The law body of k08. -/
namespace Ow
theorem hT {gls : Nat → D} {P : Nat} (h : gls 999 = .int P) (c : Cell) : hasTab (gls 999) [c, .tab P] = true := by
  rw [h]
  simp [hasTab]
theorem find_none_all {b : Bk} {au : W} {ps : List (List W)} (h : (rowsB b au).find? (fun r => landB b au ps r) = none) : landB b au ps (others au (peopleB b)) = false := by
  have := List.find?_eq_none.mp h _ (srtR_mem.mpr (subsL_full _))
  simpa using this
theorem find_some_all {b : Bk} {au : W} {ps : List (List W)} {r : List W} (h : (rowsB b au).find? (fun r => landB b au ps r) = some r) : landB b au ps (others au (peopleB b)) = true :=
  landB_mono (subsL_sub _ r (srtR_mem.mp (List.mem_of_find?_eq_some h))) (List.find?_some h)
theorem filter_shorter {w : W} : ∀ {r : List W}, w ∈ r → (r.filter fun v => !decide (v = w)).length < r.length
  | [], h => by cases h
  | v :: r, h => by
    by_cases e : v = w
    · have := List.length_filter_le (fun v => !decide (v = w)) r
      rw [List.filter_cons_of_neg (by simpa using e), List.length_cons]
      omega
    · have hr : w ∈ r := by
        rcases List.mem_cons.mp h with z | z
        · exact absurd z.symm e
        · exact z
      have := filter_shorter hr
      rw [List.filter_cons_of_pos (by simpa using e), List.length_cons, List.length_cons]
      omega
/-- the first that lands is one of the fewest -/
theorem find_first {f : List W → Bool} : ∀ {rs : List (List W)} {r q : List W}, rs.Pairwise (fun a b => leW a b = true) → rs.find? f = some r → q ∈ rs → f q = true → r.length ≤ q.length
  | [], r, q, _, _, h, _ => by cases h
  | a :: rs, r, q, hp, hf, hq, hfq => by
    rw [List.pairwise_cons] at hp
    by_cases ha : f a = true
    · rw [List.find?_cons_of_pos ha] at hf
      cases hf
      rcases List.mem_cons.mp hq with rfl | z
      · exact Nat.le_refl _
      · exact leW_len (hp.1 q z)
    · rw [List.find?_cons_of_neg ha] at hf
      rcases List.mem_cons.mp hq with rfl | z
      · exact absurd hfq ha
      · exact find_first hp.2 hf z hfq
theorem less_one {b : Bk} {au : W} {ps : List (List W)} {r : List W} (h : (rowsB b au).find? (fun r => landB b au ps r) = some r) {w : W} (hw : w ∈ r) : landB b au ps (r.filter fun v => !decide (v = w)) = false := by
  rw [Bool.eq_false_iff]
  intro z
  have := find_first (srtR_sorted _) h (srtR_mem.mpr (subsL_filter _ _ r (srtR_mem.mp (List.mem_of_find?_eq_some h)))) z
  have := filter_shorter hw
  omega
def I08 (P : Nat) (xs : List D) (env : Envr) (s : Store) : Prop := ∃ (o2 o3 o4 o5 o6 o7 o8 o9 o10 : Option D) (c : Cell), env = [none, some (.ref 0), o2, o3, o4, o5, o6, o7, o8, o9, o10, none] ∧ s = [c, .tab P] ∧ IsTape c
def Due08 (b : Bk) (au : W) (ps : List (List W)) (pre post : List (Option D)) (rs : List (List W)) (st : Store) (xs : List D) (env : Envr) (s : Store) : Prop := ∃ (rest : List (List W)) (o : Option (List W)) (o6 : Option D), xs = rest.map pathT ∧ s = st ∧ env = pre ++ [some (oR o), o6] ++ post ∧ rs.find? (fun r => landB b au ps r) = (match o with | none => rest.find? (fun r => landB b au ps r) | some r => some r) ∧ ∀ r ∈ rest, r.length ≤ 20
def Less08 (P : Nat) (pre post : List (Option D)) (c : Cell) (all : List W) (xs : List D) (env : Envr) (s : Store) : Prop := ∃ (rest : List W) (o8 : Option D), xs = rest.map .str ∧ s = [c, .tab P] ∧ env = pre ++ [o8] ++ post ∧ ∀ w ∈ rest, w ∈ all
def b8 : Bk := ⟨[([99,111,114,101], [[97,110,110], [98,111,98]]), ([100,111,99,115], [[98,111,98], [99,97,116]])], [([star2], [([99,111,114,101], 1), ([100,111,99,115], 1)])]⟩
theorem b8_g : Bg b8 := by
  refine ⟨by decide, by decide, by decide, by decide, fun l hl => ?_, by decide, by decide⟩
  have : l = ([star2], [([99,111,114,101], 1), ([100,111,99,115], 1)]) := by simpa [b8] using hl
  subst this
  exact ⟨[], star2, rfl, by decide, by simp⟩
section
variable {gls : Nat → D} {Gam : Nat → Option FDef} {Q : D → Store → Prop} {st : Store}
theorem isNon_oR (o : Option (List W)) : isNon (oR o) = o.isNone := by cases o <;> rfl
theorem like_strs0 {k : Nat} (h5 : Gam 5 = some d5_l_like) {ws : List W} {x y : D} {l : Bool} (hx : RowV st (ws.map .str) x l) (hy : RowV st (ws.map .str) y l) (hn : ws.length ≤ 1000000) (q : Q (.bl true) st) : wE (call gls Gam (k + 2) 5 [x, y] st) Q := by
  refine like_row h5 hx hy (by simpa using hn) (fun e he Q q => ?_) q
  obtain ⟨i, _, rfl⟩ := List.mem_map.mp he
  exact like_leaf h5 trivial q
theorem like_oR {k : Nat} (h5 : Gam 5 = some d5_l_like) {o : Option (List W)} (hn : ∀ r, o = some r → r.length ≤ 1000000) (q : Q (.bl true) st) : wE (call gls Gam (k + 2) 5 [oR o, oR o] st) Q := by
  cases o with
  | none => exact like_leaf (k := k + 1) h5 trivial q
  | some r => exact like_strs0 h5 (rowV_tup _ _) (rowV_tup _ _) (hn r rfl) q
theorem law08 {P : Nat} (h999 : gls 999 = .int P) (h28 : Gam 28 = some d28_people) (h1 : Gam 1 = some d1_part_fits) (h2 : Gam 2 = some d2_fits) (h3 : Gam 3 = some d3_line_of) (h40 : Gam 40 = some d40_asks_of) (h41 : Gam 41 = some d41_enough) (h42 : Gam 42 = some d42_can_land) (h52 : Gam 52 = some d52_subsets) (h69 : Gam 69 = some d69_others) (h70 : Gam 70 = some d70_fewest_approvers)
    (h4 : Gam 4 = some d4_l_draw) (h5 : Gam 5 = some d5_l_like) (h6 : Gam 6 = some d6_l_part) (h7 : Gam 7 = some d7_l_pattern) (h8 : Gam 8 = some d8_l_group) (h9 : Gam 9 = some d9_l_teams) (h10 : Gam 10 = some d10_l_asked) (h11 : Gam 11 = some d11_l_line) (h12 : Gam 12 = some d12_l_book) (h13 : Gam 13 = some d13_l_path) (h33 : Gam 33 = some d33_l_push) (h43 : Gam 43 = some d43_l_who) (h14 : Gam 14 = some d14_l_fits) (h15 : Gam 15 = some d15_l_counts)
    (h44 : Gam 44 = some d44_l_needs) (h45 : Gam 45 = some d45_l_met) (h46 : Gam 46 = some d46_l_good) (h34 : Gam 34 = some d34_l_people) (h59 : Gam 59 = some d59_l_length) (h60 : Gam 60 = some d60_l_sets)
    (ns : List Int) (hn : ns.length ≤ 63) : retTrue (execs gls (call gls Gam 100) R_k08 (env0 12) (st0 ns ++ [.tab P])) = true := by
  refine retTrue_of ?_
  unfold R_k08 env0 st0
  have ht : IsTape (.lst [.lst (ns.map .int), .int 0, .int 0]) := ⟨ns, 0, 0, rfl, by decide, by decide, by unfold SZ; omega⟩
  simp
  rw [rng_in (by decide) (by decide)]
  refine for_inv (I08 P) ⟨none, none, none, none, none, none, none, none, none, _, rfl, rfl, ht⟩ ?_ ?_
  · rintro x xs env s ⟨o2, o3, o4, o5, o6, o7, o8, o9, o10, c, rfl, rfl, ht1⟩
    simp [SZ]
    refine book_ok h4 h6 h7 h8 h9 h10 h11 h12 (by decide) (by decide) ht1 fun b c2 hb0 ht2 => ?_
    have hb := hb0.g (by decide)
    refine who_ok h4 h43 ht2 fun au c3 _ ht3 => ?_
    refine push_ok h4 h13 h33 ht3 fun ps c4 hps ht4 => ?_
    have lp : ps.length ≤ 3 := hps.2.1
    have hne : ∀ p ∈ ps, p ≠ [] := fun p h => (hps.2.2.1 p h).1
    have htab := hT h999 c4
    have hpl := people_len hb
    have hol := List.length_filter_le (fun w => !decide (w = au)) (peopleB b)
    have hol : (others au (peopleB b)).length ≤ 20 := Nat.le_trans hol hpl
    refine law_people_ok h34 hb ?_
    simp [srcOf]
    refine w_loopF D.str D.str (fun w => !decide (w = au)) (fun w _ acc Q q1 q2 => ?_) ?_ ?_
    · simp [eqW_dec]
      split
      · rename_i h
        exact q2 (by simpa using h)
      · rename_i h
        exact q1 (by simpa using h)
    · exact sz_le (k := 100) (by simp; omega) (by decide)
    rw [List.nil_append]
    refine ⟨sz_le (k := 100) (by simp; omega) (by decide), ?_⟩
    refine sets_ok h60 (ws := others au (peopleB b)) (.inr rfl) hol htab ?_
    simp [srcOf]
    refine for_inv (Due08 b au ps [none, some (.ref 0), some x, some (bookT b), some (.lst ((others au (peopleB b)).map .str))] [o7, o8, some (.str au), some (.tup (ps.map pathT)), none] (rowsB b au) [c4, .tab P]) ⟨rowsB b au, none, o6, rfl, rfl, rfl, rfl, fun r hr => Nat.le_trans (subsL_short _ r (srtR_mem.mp hr)) hol⟩ ?_ ?_
    · rintro y ys env s ⟨rest, o, o6, hx, rfl, rfl, hf, hr⟩
      cases rest with
      | nil => cases hx
      | cons r rest =>
        cases hx
        have hrl := hr r (List.mem_cons_self ..)
        simp [isNon_oR]
        cases o with
        | some q =>
          simp
          exact ⟨rest, some q, _, rfl, rfl, rfl, hf, fun z hz => hr z (List.mem_cons_of_mem _ hz)⟩
        | none =>
          simp
          refine law_good_ok h14 h15 h44 h45 h46 hb (ps := ps) (ws := r) (.inl rfl) hne (.inl rfl) (by omega) (by omega) ?_
          simp only [wT_bl]
          split
          · rename_i h
            exact ⟨rest, some r, _, rfl, rfl, rfl, by rw [hf]; exact List.find?_cons_of_pos h, fun z hz => hr z (List.mem_cons_of_mem _ hz)⟩
          · rename_i h
            exact ⟨rest, none, _, rfl, rfl, rfl, by rw [hf]; exact List.find?_cons_of_neg h, fun z hz => hr z (List.mem_cons_of_mem _ hz)⟩
    · rintro env s ⟨rest, o, o6, hx, rfl, rfl, hf, hr⟩
      have hr0 : rest = [] := by cases rest with | nil => rfl | cons _ _ => cases hx
      subst hr0
      have hf' : (rowsB b au).find? (fun r => landB b au ps r) = o := by rw [hf]; cases o <;> rfl
      have hlen : ∀ r, o = some r → r.length ≤ 20 := fun r hr => Nat.le_trans (subsL_short _ r (srtR_mem.mp (List.mem_of_find?_eq_some (hf'.trans hr)))) hol
      simp
      refine fewest_ok (k := 94) h28 h1 h2 h3 h40 h41 h42 h52 h69 h70 hb htab (ps := ps) (.inl rfl) (by omega) ?_
      rw [hf']
      refine like_oR (k := 98) h5 (fun r hr => by have := hlen r hr; omega) ?_
      simp
      refine can_land_ok h1 h2 h3 h40 h41 h42 hb (ps := ps) (ws := others au (peopleB b)) (.inl rfl) (.inl rfl) (by omega) (by omega) ?_
      cases o with
      | none =>
        rw [find_none_all hf']
        simp [oR, srcOf]
        exact ⟨rfl, _, _, _, _, _, _, _, _, _, _, rfl, rfl, ht4⟩
      | some r =>
        rw [find_some_all hf']
        have hr20 := hlen r rfl
        simp only [isNon_oR, oR]
        refine ⟨rfl, ?_⟩
        cases hre : r with
        | nil =>
          simp [pathT, srcOf]
          exact ⟨_, _, _, _, _, _, _, _, _, _, rfl, rfl, ht4⟩
        | cons w0 r0 =>
          rw [← hre]
          have hne0 : (r.map D.str).isEmpty = false := by rw [hre]; rfl
          simp [pathT, srcOf, hne0]
          refine for_inv (Less08 P [none, some (.ref 0), some x, some (bookT b), some (.lst ((others au (peopleB b)).map .str)), some (pathT r), o6, some (pathT r)] [some (.str au), some (.tup (ps.map pathT)), none] c4 r) ⟨r, o8, rfl, rfl, rfl, fun w h => h⟩ ?_ ?_
          · rintro y ys env s ⟨rest, o8, hx, rfl, rfl, hall⟩
            cases rest with
            | nil => cases hx
            | cons w rest =>
              cases hx
              simp [pathT, srcOf]
              refine w_loopF D.str D.str (fun v => !decide (v = w)) (fun v _ acc Q q1 q2 => ?_) ?_ ?_
              · simp [eqW_dec]
                split
                · rename_i h
                  exact q2 (by simpa using h)
                · rename_i h
                  exact q1 (by simpa using h)
              · have := List.length_filter_le (fun v => !decide (v = w)) r
                exact sz_le (k := 100) (by simp; omega) (by decide)
              · have := List.length_filter_le (fun v => !decide (v = w)) r
                rw [List.nil_append]
                refine ⟨sz_le (k := 100) (by simp; omega) (by decide), ?_⟩
                refine can_land_ok h1 h2 h3 h40 h41 h42 hb (ps := ps) (ws := r.filter fun v => !decide (v = w)) (.inl rfl) (.inl rfl) (by omega) (by omega) ?_
                rw [less_one hf' (hall w (List.mem_cons_self ..))]
                exact ⟨rfl, rest, _, rfl, rfl, rfl, fun z hz => hall z (List.mem_cons_of_mem _ hz)⟩
          · rintro env s ⟨rest, o8, hx, rfl, rfl, hall⟩
            exact ⟨_, _, _, _, _, _, _, _, _, _, rfl, rfl, ht4⟩
  · rintro env s ⟨o2, o3, o4, o5, o6, o7, o8, o9, o10, c, rfl, rfl, ht1⟩
    have e1 : (rowsB b8 [122,101,100]).find? (fun r => landB b8 [122,101,100] [[[97]]] r) = some [[98,111,98]] := by decide +kernel
    have e2 : (rowsB b8 [98,111,98]).find? (fun r => landB b8 [98,111,98] [[[97]]] r) = some [[97,110,110], [99,97,116]] := by decide +kernel
    simp [SZ]
    refine fewest_ok (k := 94) (b := b8) (au := [122,101,100]) (ps := [[[97]]]) h28 h1 h2 h3 h40 h41 h42 h52 h69 h70 b8_g (hT h999 c) (.inl rfl) (by decide) ?_
    rw [e1]
    have n1 : cmpD .ne (oR (some [[98,111,98]])) (.tup [.str [98,111,98]]) [c, .tab P] = some false := by
      exact (ne_pl (pl_path _) (pl_path [[98,111,98]])).trans (by decide)
    rw [n1]
    simp
    refine fewest_ok (k := 94) (b := b8) (au := [98,111,98]) (ps := [[[97]]]) h28 h1 h2 h3 h40 h41 h42 h52 h69 h70 b8_g (hT h999 c) (.inl rfl) (by decide) ?_
    rw [e2]
    have n2 : cmpD .eq (oR (some [[97,110,110], [99,97,116]])) (.tup [.str [97,110,110], .str [99,97,116]]) [c, .tab P] = some true := by
      exact (eq_pl (pl_path _) (pl_path [[97,110,110], [99,97,116]])).trans (by decide)
    rw [n2]
    rfl
end
end Ow
namespace K08
open PySem PySem.Spec PyProof.Rows L2 Ow
def topS (i : Nat) : Stmt := PySem.Challenge.pw_ownerlines_k08_whole_fewest_approvers.main.body.getD i (.Pass ⟨0, 0, 0, 0⟩)
def E_people : Ent := ⟨"people", ["book", "person", "name", "members"], ["book"], topS 1⟩
def E_part_fits : Ent := ⟨"part_fits", ["part", "word"], ["part", "word"], topS 2⟩
def E_fits : Ent := ⟨"fits", ["pattern", "path", "part", "word"], ["pattern", "path"], topS 3⟩
def E_line_of : Ent := ⟨"line_of", ["book", "path", "found", "at", "line"], ["book", "path"], topS 4⟩
def E_asks_of : Ent := ⟨"asks_of", ["book", "path", "at", "ask", "count", "name", "members"], ["book", "path"], topS 5⟩
def E_enough : Ent := ⟨"enough", ["asks", "some", "members", "count", "person"], ["asks", "some"], topS 6⟩
def E_can_land : Ent := ⟨"can_land", ["book", "author", "paths", "approvers", "some", "person", "path"], ["book", "author", "paths", "approvers"], topS 7⟩
def E_subsets : Ent := ⟨"subsets", ["some", "found", "person", "row"], ["some"], topS 9⟩
def E_others : Ent := ⟨"others", ["book", "author", "person"], ["book", "author"], topS 11⟩
def E_fewest_approvers : Ent := ⟨"fewest_approvers", ["book", "author", "paths", "row"], ["book", "author", "paths"], topS 12⟩
def E_l_draw : Ent := ⟨"_law_draw", ["_law_tape", "_law_many", "_law_prime", "_law_found", "_law_cell"], ["_law_tape", "_law_many"], topS 14⟩
def E_l_like : Ent := ⟨"_law_like", ["_law_one", "_law_two", "_law_k"], ["_law_one", "_law_two"], topS 15⟩
def E_l_part : Ent := ⟨"_law_part", ["_law_tape"], ["_law_tape"], topS 16⟩
def E_l_pattern : Ent := ⟨"_law_pattern", ["_law_tape", "_law_found", "_law_turn"], ["_law_tape"], topS 17⟩
def E_l_group : Ent := ⟨"_law_group", ["_law_tape", "_law_found", "_law_turn"], ["_law_tape"], topS 18⟩
def E_l_teams : Ent := ⟨"_law_teams", ["_law_tape", "_law_name"], ["_law_tape"], topS 19⟩
def E_l_asked : Ent := ⟨"_law_asked", ["_law_tape", "_law_teams_here", "_law_found", "_law_name", "_law_members"], ["_law_tape", "_law_teams_here"], topS 20⟩
def E_l_line : Ent := ⟨"_law_line", ["_law_tape", "_law_teams_here"], ["_law_tape", "_law_teams_here"], topS 21⟩
def E_l_book : Ent := ⟨"_law_book", ["_law_tape", "_law_most", "_law_turn", "_law_teams_here", "_law_lines"], ["_law_tape", "_law_most"], topS 22⟩
def E_l_path : Ent := ⟨"_law_path", ["_law_tape", "_law_found", "_law_turn"], ["_law_tape"], topS 23⟩
def E_l_push : Ent := ⟨"_law_push", ["_law_tape", "_law_found", "_law_turn"], ["_law_tape"], topS 24⟩
def E_l_who : Ent := ⟨"_law_who", ["_law_tape"], ["_law_tape"], topS 25⟩
def E_l_fits : Ent := ⟨"_law_fits", ["_law_pattern_here", "_law_path_here"], ["_law_pattern_here", "_law_path_here"], topS 26⟩
def E_l_counts : Ent := ⟨"_law_counts", ["_law_book_here", "_law_path_here", "_law_found", "_law_at", "_law_line_here"], ["_law_book_here", "_law_path_here"], topS 27⟩
def E_l_needs : Ent := ⟨"_law_needs", ["_law_book_here", "_law_path_here", "_law_at", "_law_teams_here", "_law_name", "_law_count"], ["_law_book_here", "_law_path_here"], topS 28⟩
def E_l_met : Ent := ⟨"_law_met", ["_law_needs_here", "_law_some", "_law_members", "_law_count", "_law_person"], ["_law_needs_here", "_law_some"], topS 29⟩
def E_l_good : Ent := ⟨"_law_good", ["_law_book_here", "_law_author", "_law_paths", "_law_some", "_law_person", "_law_path_here"], ["_law_book_here", "_law_author", "_law_paths", "_law_some"], topS 30⟩
def E_l_people : Ent := ⟨"_law_people", ["_law_book_here", "_law_found", "_law_name", "_law_members"], ["_law_book_here"], topS 31⟩
def E_l_length : Ent := ⟨"_law_length", ["_law_row"], ["_law_row"], topS 32⟩
def E_l_sets : Ent := ⟨"_law_sets", ["_law_some", "_law_found", "_law_person", "_law_row"], ["_law_some"], topS 33⟩
def E_law : Ent := ⟨"law", ["_law_script", "_law_tape", "_law_turn", "_law_book_here", "_law_some", "_law_due", "_law_row", "_law_told", "_law_person", "_law_author", "_law_paths", "_law_one"], ["_law_script"], topS 34⟩
def rows : List (Nat × Ent × FDef) := [(28, E_people, d28_people), (1, E_part_fits, d1_part_fits), (2, E_fits, d2_fits), (3, E_line_of, d3_line_of), (40, E_asks_of, d40_asks_of), (41, E_enough, d41_enough), (42, E_can_land, d42_can_land), (52, E_subsets, d52_subsets), (69, E_others, d69_others), (70, E_fewest_approvers, d70_fewest_approvers), (4, E_l_draw, d4_l_draw), (5, E_l_like, d5_l_like), (6, E_l_part, d6_l_part), (7, E_l_pattern, d7_l_pattern), (8, E_l_group, d8_l_group), (9, E_l_teams, d9_l_teams), (10, E_l_asked, d10_l_asked), (11, E_l_line, d11_l_line), (12, E_l_book, d12_l_book), (13, E_l_path, d13_l_path), (33, E_l_push, d33_l_push), (43, E_l_who, d43_l_who), (14, E_l_fits, d14_l_fits), (15, E_l_counts, d15_l_counts), (44, E_l_needs, d44_l_needs), (45, E_l_met, d45_l_met), (46, E_l_good, d46_l_good), (34, E_l_people, d34_l_people), (59, E_l_length, d59_l_length), (60, E_l_sets, d60_l_sets)]
def gnm : Nat → Option PySem.Str := fun _ => none
theorem law_holds : ∀ (P : Nat) (ns : List Int), ns.length ≤ 63 → retTrue (execs (glsT P) (Ow.call (glsT P) (gamL rows) 100) R_k08 (env0 E_law.N.length) (st0 ns ++ [.tab P])) = true := fun P ns hn => law08 (Gam := gamL rows) (gls := glsT P) (P := P) rfl rfl rfl rfl rfl rfl rfl rfl rfl rfl rfl rfl rfl rfl rfl rfl rfl rfl rfl rfl rfl rfl rfl rfl rfl rfl rfl rfl rfl rfl rfl ns hn
theorem B_people : BindF "people" (topS 1) ["book"] := fun _ _ _ _ _ _ us hl => match us, hl with | [_], _ => rfl
theorem B_part_fits : BindF "part_fits" (topS 2) ["part", "word"] := fun _ _ _ _ _ _ us hl => match us, hl with | [_, _], _ => rfl
theorem B_fits : BindF "fits" (topS 3) ["pattern", "path"] := fun _ _ _ _ _ _ us hl => match us, hl with | [_, _], _ => rfl
theorem B_line_of : BindF "line_of" (topS 4) ["book", "path"] := fun _ _ _ _ _ _ us hl => match us, hl with | [_, _], _ => rfl
theorem B_asks_of : BindF "asks_of" (topS 5) ["book", "path"] := fun _ _ _ _ _ _ us hl => match us, hl with | [_, _], _ => rfl
theorem B_enough : BindF "enough" (topS 6) ["asks", "some"] := fun _ _ _ _ _ _ us hl => match us, hl with | [_, _], _ => rfl
theorem B_can_land : BindF "can_land" (topS 7) ["book", "author", "paths", "approvers"] := fun _ _ _ _ _ _ us hl => match us, hl with | [_, _, _, _], _ => rfl
theorem B_subsets : BindF "subsets" (topS 9) ["some"] := fun _ _ _ _ _ _ us hl => match us, hl with | [_], _ => rfl
theorem B_others : BindF "others" (topS 11) ["book", "author"] := fun _ _ _ _ _ _ us hl => match us, hl with | [_, _], _ => rfl
theorem B_fewest_approvers : BindF "fewest_approvers" (topS 12) ["book", "author", "paths"] := fun _ _ _ _ _ _ us hl => match us, hl with | [_, _, _], _ => rfl
theorem B_l_draw : BindF "_law_draw" (topS 14) ["_law_tape", "_law_many"] := fun _ _ _ _ _ _ us hl => match us, hl with | [_, _], _ => rfl
theorem B_l_like : BindF "_law_like" (topS 15) ["_law_one", "_law_two"] := fun _ _ _ _ _ _ us hl => match us, hl with | [_, _], _ => rfl
theorem B_l_part : BindF "_law_part" (topS 16) ["_law_tape"] := fun _ _ _ _ _ _ us hl => match us, hl with | [_], _ => rfl
theorem B_l_pattern : BindF "_law_pattern" (topS 17) ["_law_tape"] := fun _ _ _ _ _ _ us hl => match us, hl with | [_], _ => rfl
theorem B_l_group : BindF "_law_group" (topS 18) ["_law_tape"] := fun _ _ _ _ _ _ us hl => match us, hl with | [_], _ => rfl
theorem B_l_teams : BindF "_law_teams" (topS 19) ["_law_tape"] := fun _ _ _ _ _ _ us hl => match us, hl with | [_], _ => rfl
theorem B_l_asked : BindF "_law_asked" (topS 20) ["_law_tape", "_law_teams_here"] := fun _ _ _ _ _ _ us hl => match us, hl with | [_, _], _ => rfl
theorem B_l_line : BindF "_law_line" (topS 21) ["_law_tape", "_law_teams_here"] := fun _ _ _ _ _ _ us hl => match us, hl with | [_, _], _ => rfl
theorem B_l_book : BindF "_law_book" (topS 22) ["_law_tape", "_law_most"] := fun _ _ _ _ _ _ us hl => match us, hl with | [_, _], _ => rfl
theorem B_l_path : BindF "_law_path" (topS 23) ["_law_tape"] := fun _ _ _ _ _ _ us hl => match us, hl with | [_], _ => rfl
theorem B_l_push : BindF "_law_push" (topS 24) ["_law_tape"] := fun _ _ _ _ _ _ us hl => match us, hl with | [_], _ => rfl
theorem B_l_who : BindF "_law_who" (topS 25) ["_law_tape"] := fun _ _ _ _ _ _ us hl => match us, hl with | [_], _ => rfl
theorem B_l_fits : BindF "_law_fits" (topS 26) ["_law_pattern_here", "_law_path_here"] := fun _ _ _ _ _ _ us hl => match us, hl with | [_, _], _ => rfl
theorem B_l_counts : BindF "_law_counts" (topS 27) ["_law_book_here", "_law_path_here"] := fun _ _ _ _ _ _ us hl => match us, hl with | [_, _], _ => rfl
theorem B_l_needs : BindF "_law_needs" (topS 28) ["_law_book_here", "_law_path_here"] := fun _ _ _ _ _ _ us hl => match us, hl with | [_, _], _ => rfl
theorem B_l_met : BindF "_law_met" (topS 29) ["_law_needs_here", "_law_some"] := fun _ _ _ _ _ _ us hl => match us, hl with | [_, _], _ => rfl
theorem B_l_good : BindF "_law_good" (topS 30) ["_law_book_here", "_law_author", "_law_paths", "_law_some"] := fun _ _ _ _ _ _ us hl => match us, hl with | [_, _, _, _], _ => rfl
theorem B_l_people : BindF "_law_people" (topS 31) ["_law_book_here"] := fun _ _ _ _ _ _ us hl => match us, hl with | [_], _ => rfl
theorem B_l_length : BindF "_law_length" (topS 32) ["_law_row"] := fun _ _ _ _ _ _ us hl => match us, hl with | [_], _ => rfl
theorem B_l_sets : BindF "_law_sets" (topS 33) ["_law_some"] := fun _ _ _ _ _ _ us hl => match us, hl with | [_], _ => rfl
theorem c_rows : rows.all (fun r => entB (tabL rows) gnm r.2.2 r.2.1) = true := by decide +kernel
theorem c_law : lawB (tabL rows) gnm E_law R_k08 = true := by decide +kernel
end K08
open PySem PySem.W PyProof.Rows
set_option maxHeartbeats 0 in
theorem PySem.Challenge.cw_ownerlines_k08_whole_fewest_approvers_holds : PySem.Challenge.rw_ownerlines_k08_whole_fewest_approvers.Holds := by
  w_on; o_law; k_head; (case hw => w_witness2)
  k_fill
  refine LamX.walk_ofTs (l := PySem.Challenge.rw_ownerlines_k08_whole_fewest_approvers) (n := 63) (k := 100 + 1) (x := "_law_script") (CX := fun _ => L2.CX0) rfl (by decide) rfl ⟨rfl, by decide, by decide⟩ (fun w h Y => PySem.W.km_in_of Y) ?F (fun _ _ _ _ _ h => h)
  case F =>
    intro w mg fa h Y KX G hmg
    obtain ⟨c, P, t, hP⟩ := (show ∃ c P, Ow.TabK _ "subsets" (K08.topS 9) c P ∧ h.get? P = some (PySem.W.tabObj #[]) from by
      refine' Ow.tabs_mk KX (PySem.W.km_tabs_of Y) ?a1 ?a2 ?a3 ?a4 ?a5 ?a6 ?a7 ?a8 ?a9 ?a10
      case a1 => k_is
      case a2 => k_is
      case a3 => k_is
      case a4 => exact rfl
      case a5 => exact Ow.km_none Y (by decide)
      case a6 => exact rfl
      case a7 => exact rfl
      case a8 => exact rfl
      case a9 => exact rfl
      case a10 => decide)
    refine' Ow.law_mkT (L := K08.rows) (gnm := K08.gnm) (e := K08.E_law) (rest := Ow.R_k08) (k := 100) KX G hmg t hP (Ow.top_mk KX G ?defs K08.c_rows ?blt ?gl) ?dl rfl (fun _ _ _ _ _ _ _ _ => .of_eq rfl) K08.c_law K08.law_holds
    case dl => exact (show Ow.DF _ "law" (K08.topS 34) from by (refine' Ow.df_mk ?a ?l ?c ?k; (case a => k_is); (case l => k_is); (case c => k_is); (case k => k_is)))
    case defs =>
      refine List.forall_mem_cons.mpr ⟨⟨(show Ow.DF _ "people" (K08.topS 1) from by (refine' Ow.df_mk ?a ?l ?c ?k; (case a => k_is); (case l => k_is); (case c => k_is); (case k => k_is))), K08.B_people⟩, ?_⟩
      refine List.forall_mem_cons.mpr ⟨⟨(show Ow.DF _ "part_fits" (K08.topS 2) from by (refine' Ow.df_mk ?a ?l ?c ?k; (case a => k_is); (case l => k_is); (case c => k_is); (case k => k_is))), K08.B_part_fits⟩, ?_⟩
      refine List.forall_mem_cons.mpr ⟨⟨(show Ow.DF _ "fits" (K08.topS 3) from by (refine' Ow.df_mk ?a ?l ?c ?k; (case a => k_is); (case l => k_is); (case c => k_is); (case k => k_is))), K08.B_fits⟩, ?_⟩
      refine List.forall_mem_cons.mpr ⟨⟨(show Ow.DF _ "line_of" (K08.topS 4) from by (refine' Ow.df_mk ?a ?l ?c ?k; (case a => k_is); (case l => k_is); (case c => k_is); (case k => k_is))), K08.B_line_of⟩, ?_⟩
      refine List.forall_mem_cons.mpr ⟨⟨(show Ow.DF _ "asks_of" (K08.topS 5) from by (refine' Ow.df_mk ?a ?l ?c ?k; (case a => k_is); (case l => k_is); (case c => k_is); (case k => k_is))), K08.B_asks_of⟩, ?_⟩
      refine List.forall_mem_cons.mpr ⟨⟨(show Ow.DF _ "enough" (K08.topS 6) from by (refine' Ow.df_mk ?a ?l ?c ?k; (case a => k_is); (case l => k_is); (case c => k_is); (case k => k_is))), K08.B_enough⟩, ?_⟩
      refine List.forall_mem_cons.mpr ⟨⟨(show Ow.DF _ "can_land" (K08.topS 7) from by (refine' Ow.df_mk ?a ?l ?c ?k; (case a => k_is); (case l => k_is); (case c => k_is); (case k => k_is))), K08.B_can_land⟩, ?_⟩
      refine List.forall_mem_cons.mpr ⟨⟨(show Ow.DF _ "subsets" (K08.topS 9) from by (refine' Ow.df_mk ?a ?l ?c ?k; (case a => k_is); (case l => k_is); (case c => k_is); (case k => k_is))), K08.B_subsets⟩, ?_⟩
      refine List.forall_mem_cons.mpr ⟨⟨(show Ow.DF _ "others" (K08.topS 11) from by (refine' Ow.df_mk ?a ?l ?c ?k; (case a => k_is); (case l => k_is); (case c => k_is); (case k => k_is))), K08.B_others⟩, ?_⟩
      refine List.forall_mem_cons.mpr ⟨⟨(show Ow.DF _ "fewest_approvers" (K08.topS 12) from by (refine' Ow.df_mk ?a ?l ?c ?k; (case a => k_is); (case l => k_is); (case c => k_is); (case k => k_is))), K08.B_fewest_approvers⟩, ?_⟩
      refine List.forall_mem_cons.mpr ⟨⟨(show Ow.DF _ "_law_draw" (K08.topS 14) from by (refine' Ow.df_mk ?a ?l ?c ?k; (case a => k_is); (case l => k_is); (case c => k_is); (case k => k_is))), K08.B_l_draw⟩, ?_⟩
      refine List.forall_mem_cons.mpr ⟨⟨(show Ow.DF _ "_law_like" (K08.topS 15) from by (refine' Ow.df_mk ?a ?l ?c ?k; (case a => k_is); (case l => k_is); (case c => k_is); (case k => k_is))), K08.B_l_like⟩, ?_⟩
      refine List.forall_mem_cons.mpr ⟨⟨(show Ow.DF _ "_law_part" (K08.topS 16) from by (refine' Ow.df_mk ?a ?l ?c ?k; (case a => k_is); (case l => k_is); (case c => k_is); (case k => k_is))), K08.B_l_part⟩, ?_⟩
      refine List.forall_mem_cons.mpr ⟨⟨(show Ow.DF _ "_law_pattern" (K08.topS 17) from by (refine' Ow.df_mk ?a ?l ?c ?k; (case a => k_is); (case l => k_is); (case c => k_is); (case k => k_is))), K08.B_l_pattern⟩, ?_⟩
      refine List.forall_mem_cons.mpr ⟨⟨(show Ow.DF _ "_law_group" (K08.topS 18) from by (refine' Ow.df_mk ?a ?l ?c ?k; (case a => k_is); (case l => k_is); (case c => k_is); (case k => k_is))), K08.B_l_group⟩, ?_⟩
      refine List.forall_mem_cons.mpr ⟨⟨(show Ow.DF _ "_law_teams" (K08.topS 19) from by (refine' Ow.df_mk ?a ?l ?c ?k; (case a => k_is); (case l => k_is); (case c => k_is); (case k => k_is))), K08.B_l_teams⟩, ?_⟩
      refine List.forall_mem_cons.mpr ⟨⟨(show Ow.DF _ "_law_asked" (K08.topS 20) from by (refine' Ow.df_mk ?a ?l ?c ?k; (case a => k_is); (case l => k_is); (case c => k_is); (case k => k_is))), K08.B_l_asked⟩, ?_⟩
      refine List.forall_mem_cons.mpr ⟨⟨(show Ow.DF _ "_law_line" (K08.topS 21) from by (refine' Ow.df_mk ?a ?l ?c ?k; (case a => k_is); (case l => k_is); (case c => k_is); (case k => k_is))), K08.B_l_line⟩, ?_⟩
      refine List.forall_mem_cons.mpr ⟨⟨(show Ow.DF _ "_law_book" (K08.topS 22) from by (refine' Ow.df_mk ?a ?l ?c ?k; (case a => k_is); (case l => k_is); (case c => k_is); (case k => k_is))), K08.B_l_book⟩, ?_⟩
      refine List.forall_mem_cons.mpr ⟨⟨(show Ow.DF _ "_law_path" (K08.topS 23) from by (refine' Ow.df_mk ?a ?l ?c ?k; (case a => k_is); (case l => k_is); (case c => k_is); (case k => k_is))), K08.B_l_path⟩, ?_⟩
      refine List.forall_mem_cons.mpr ⟨⟨(show Ow.DF _ "_law_push" (K08.topS 24) from by (refine' Ow.df_mk ?a ?l ?c ?k; (case a => k_is); (case l => k_is); (case c => k_is); (case k => k_is))), K08.B_l_push⟩, ?_⟩
      refine List.forall_mem_cons.mpr ⟨⟨(show Ow.DF _ "_law_who" (K08.topS 25) from by (refine' Ow.df_mk ?a ?l ?c ?k; (case a => k_is); (case l => k_is); (case c => k_is); (case k => k_is))), K08.B_l_who⟩, ?_⟩
      refine List.forall_mem_cons.mpr ⟨⟨(show Ow.DF _ "_law_fits" (K08.topS 26) from by (refine' Ow.df_mk ?a ?l ?c ?k; (case a => k_is); (case l => k_is); (case c => k_is); (case k => k_is))), K08.B_l_fits⟩, ?_⟩
      refine List.forall_mem_cons.mpr ⟨⟨(show Ow.DF _ "_law_counts" (K08.topS 27) from by (refine' Ow.df_mk ?a ?l ?c ?k; (case a => k_is); (case l => k_is); (case c => k_is); (case k => k_is))), K08.B_l_counts⟩, ?_⟩
      refine List.forall_mem_cons.mpr ⟨⟨(show Ow.DF _ "_law_needs" (K08.topS 28) from by (refine' Ow.df_mk ?a ?l ?c ?k; (case a => k_is); (case l => k_is); (case c => k_is); (case k => k_is))), K08.B_l_needs⟩, ?_⟩
      refine List.forall_mem_cons.mpr ⟨⟨(show Ow.DF _ "_law_met" (K08.topS 29) from by (refine' Ow.df_mk ?a ?l ?c ?k; (case a => k_is); (case l => k_is); (case c => k_is); (case k => k_is))), K08.B_l_met⟩, ?_⟩
      refine List.forall_mem_cons.mpr ⟨⟨(show Ow.DF _ "_law_good" (K08.topS 30) from by (refine' Ow.df_mk ?a ?l ?c ?k; (case a => k_is); (case l => k_is); (case c => k_is); (case k => k_is))), K08.B_l_good⟩, ?_⟩
      refine List.forall_mem_cons.mpr ⟨⟨(show Ow.DF _ "_law_people" (K08.topS 31) from by (refine' Ow.df_mk ?a ?l ?c ?k; (case a => k_is); (case l => k_is); (case c => k_is); (case k => k_is))), K08.B_l_people⟩, ?_⟩
      refine List.forall_mem_cons.mpr ⟨⟨(show Ow.DF _ "_law_length" (K08.topS 32) from by (refine' Ow.df_mk ?a ?l ?c ?k; (case a => k_is); (case l => k_is); (case c => k_is); (case k => k_is))), K08.B_l_length⟩, ?_⟩
      refine List.forall_mem_cons.mpr ⟨⟨(show Ow.DF _ "_law_sets" (K08.topS 33) from by (refine' Ow.df_mk ?a ?l ?c ?k; (case a => k_is); (case l => k_is); (case c => k_is); (case k => k_is))), K08.B_l_sets⟩, ?_⟩
      exact fun _ h => nomatch h
    case blt =>
      refine List.forall_mem_cons.mpr ⟨(by k_is), ?_⟩
      refine List.forall_mem_cons.mpr ⟨(by k_is), ?_⟩
      refine List.forall_mem_cons.mpr ⟨(by k_is), ?_⟩
      refine List.forall_mem_cons.mpr ⟨(by k_is), ?_⟩
      refine List.forall_mem_cons.mpr ⟨(by k_is), ?_⟩
      refine List.forall_mem_cons.mpr ⟨(by k_is), ?_⟩
      refine List.forall_mem_cons.mpr ⟨(by k_is), ?_⟩
      refine List.forall_mem_cons.mpr ⟨(by k_is), ?_⟩
      refine List.forall_mem_cons.mpr ⟨(by k_is), ?_⟩
      refine List.forall_mem_cons.mpr ⟨(by k_is), ?_⟩
      refine List.forall_mem_cons.mpr ⟨(by k_is), ?_⟩
      refine List.forall_mem_cons.mpr ⟨(by k_is), ?_⟩
      refine List.forall_mem_cons.mpr ⟨(by k_is), ?_⟩
      refine List.forall_mem_cons.mpr ⟨(by k_is), ?_⟩
      refine List.forall_mem_cons.mpr ⟨(by k_is), ?_⟩
      refine List.forall_mem_cons.mpr ⟨(by k_is), ?_⟩
      refine List.forall_mem_cons.mpr ⟨(by k_is), ?_⟩
      refine List.forall_mem_cons.mpr ⟨(by k_is), ?_⟩
      exact fun _ h => nomatch h
    case gl => exact fun _ _ h => nomatch h
